/- What the functions that CodeDamage reaches answer,and that they do (part 1 of 2). -/
import Derived.Test.YtoobnbnmmkkioaaLoomD
import Derived.Test.YtoobnbnmmkkioaaChecked
import Derived.KernelRfl
import Derived.WalkKit
import Derived.WalkSpells
import Derived.WalkLawsBesides
import Derived.Lib.Bytealg
import Derived.Defers
import Derived.Recover
set_option linter.unusedVariables false
set_option linter.unusedSimpArgs false
set_option linter.unusedSectionVars false
namespace Loom
open Go Go.RowKit
set_option maxRecDepth 100000
noncomputable section
abbrev P_:=Go.Proofs.Try.prog
abbrev I_ {E} (x:Int):TV E:=.sc (.int .i64 x)
abbrev B_ {E} (x:Bool):TV E:=.sc (.bool x)
structure Xa where
 Name_:ByteArray
 Kind_:Int
 Len_:Int
structure Xb where
 Kind_:Int
 Param_:Int
structure Xc where
 Type_:Xb
 Keep_:Bool
 Bits_:Int
 Int_:Int
structure Xd where
 Op_:Int
 D_:Int
 A_:Int
 B_:Int
 C_:Int
 N_:Int
 Bits_:Int
structure Xe where
 Sign_:(List Xa)
 Regs_:(List Xb)
 Slots_:(List Xc)
 List_:(List Xd)
structure Xf where
 Cut_:Bool
 At_:Int
 Bits_:Int
structure Xg where
 Op_:Int
 Param_:Int
 Set_:(List Bool)
def El_:Nat→Type
 | 0=>Int
 | 1=>Xa
 | 2=>Xb
 | 3=>Xc
 | 4=>Xd
 | 5=>Bool
 | 6=>Int
 | 7=>(List Int)
 | 8=>Addr
 | 9=>Xg
 | 10=>Xe
 | 11=>Xf
 | _+12=>Empty
def c0 (_:Bool) (x:Int):List AV:=[.sc (.int .u8 x)]
def d0 (_:Bool) (x:Int):List (TV El_):=[.sc (.int .u8 x)]
def c1 (_:Bool) (x:Xa):List AV:=[.sc (.string x.Name_),.sc (.int .i64 x.Kind_),.sc (.int .i64 x.Len_)]
def d1 (_:Bool) (x:Xa):List (TV El_):=[.sc (.string x.Name_),.sc (.int .i64 x.Kind_),.sc (.int .i64 x.Len_)]
def c2 (_:Bool) (x:Xb):List AV:=[.sc (.int .i64 x.Kind_),.sc (.int .i64 x.Param_)]
def d2 (_:Bool) (x:Xb):List (TV El_):=[.sc (.int .i64 x.Kind_),.sc (.int .i64 x.Param_)]
def c3 (_:Bool) (x:Xc):List AV:=[.sc (.int .i64 x.Type_.Kind_),.sc (.int .i64 x.Type_.Param_),.sc (.bool x.Keep_),.sc (.int .u32 x.Bits_),.sc (.int .i64 x.Int_)]
def d3 (_:Bool) (x:Xc):List (TV El_):=[.sc (.int .i64 x.Type_.Kind_),.sc (.int .i64 x.Type_.Param_),.sc (.bool x.Keep_),.sc (.int .u32 x.Bits_),.sc (.int .i64 x.Int_)]
def c4 (_:Bool) (x:Xd):List AV:=[.sc (.int .i64 x.Op_),.sc (.int .i64 x.D_),.sc (.int .i64 x.A_),.sc (.int .i64 x.B_),.sc (.int .i64 x.C_),.sc (.int .i64 x.N_),.sc (.int .u32 x.Bits_)]
def d4 (_:Bool) (x:Xd):List (TV El_):=[.sc (.int .i64 x.Op_),.sc (.int .i64 x.D_),.sc (.int .i64 x.A_),.sc (.int .i64 x.B_),.sc (.int .i64 x.C_),.sc (.int .i64 x.N_),.sc (.int .u32 x.Bits_)]
def c5 (_:Bool) (x:Bool):List AV:=[.sc (.bool x)]
def d5 (_:Bool) (x:Bool):List (TV El_):=[.sc (.bool x)]
def c6 (_:Bool) (x:Int):List AV:=[.sc (.int .i64 x)]
def d6 (_:Bool) (x:Int):List (TV El_):=[.sc (.int .i64 x)]
def c7:Bool→(List Int)→List AV
 | true,x=>[.ow 1 (x.map (c6 false))]
 | false,x=>[.im 1 (x.map (c6 false))]
def d7:Bool→(List Int)→List (TV El_)
 | true,x=>[.ow false 6 x]
 | false,x=>[.im 6 x]
def c8 (_:Bool) (x:Addr):List AV:=[.sc (.pointer (some x))]
def d8 (_:Bool) (x:Addr):List (TV El_):=[.sc (.pointer (some x))]
def c9:Bool→Xg→List AV
 | true,x=>[.sc (.int .i64 x.Op_),.sc (.int .i64 x.Param_),.ow 1 (x.Set_.map (c5 false))]
 | false,x=>[.sc (.int .i64 x.Op_),.sc (.int .i64 x.Param_),.im 1 (x.Set_.map (c5 false))]
def d9:Bool→Xg→List (TV El_)
 | true,x=>[.sc (.int .i64 x.Op_),.sc (.int .i64 x.Param_),.ow false 5 x.Set_]
 | false,x=>[.sc (.int .i64 x.Op_),.sc (.int .i64 x.Param_),.im 5 x.Set_]
def c10:Bool→Xe→List AV
 | true,x=>[.ow 3 (x.Sign_.map (c1 false)),.ow 2 (x.Regs_.map (c2 false)),.ow 5 (x.Slots_.map (c3 false)),.ow 7 (x.List_.map (c4 false))]
 | false,x=>[.im 3 (x.Sign_.map (c1 false)),.im 2 (x.Regs_.map (c2 false)),.im 5 (x.Slots_.map (c3 false)),.im 7 (x.List_.map (c4 false))]
def d10:Bool→Xe→List (TV El_)
 | true,x=>[.ow false 1 x.Sign_,.ow false 2 x.Regs_,.ow false 3 x.Slots_,.ow false 4 x.List_]
 | false,x=>[.im 1 x.Sign_,.im 2 x.Regs_,.im 3 x.Slots_,.im 4 x.List_]
def c11 (_:Bool) (x:Xf):List AV:=[.sc (.bool x.Cut_),.sc (.int .i64 x.At_),.sc (.int .u64 x.Bits_)]
def d11 (_:Bool) (x:Xf):List (TV El_):=[.sc (.bool x.Cut_),.sc (.int .i64 x.At_),.sc (.int .u64 x.Bits_)]
def ca_ (m:Bool):(t:Nat)→El_ t→List AV
 | 0=>c0 m
 | 1=>c1 m
 | 2=>c2 m
 | 3=>c3 m
 | 4=>c4 m
 | 5=>c5 m
 | 6=>c6 m
 | 7=>c7 m
 | 8=>c8 m
 | 9=>c9 m
 | 10=>c10 m
 | 11=>c11 m
 | _+12=>fun _=>[]
def ct_ (m:Bool):(t:Nat)→El_ t→List (TV El_)
 | 0=>d0 m
 | 1=>d1 m
 | 2=>d2 m
 | 3=>d3 m
 | 4=>d4 m
 | 5=>d5 m
 | 6=>d6 m
 | 7=>d7 m
 | 8=>d8 m
 | 9=>d9 m
 | 10=>d10 m
 | 11=>d11 m
 | _+12=>fun _=>[]
def sz_:Nat→Nat
 | 0=>1
 | 1=>3
 | 2=>2
 | 3=>5
 | 4=>7
 | 5=>1
 | 6=>1
 | 7=>1
 | 8=>1
 | 9=>3
 | 10=>4
 | 11=>3
 | _+12=>0
def ks_ (m:Bool):Nat→List Kd
 | 0=>[]
 | 1=>[]
 | 2=>[]
 | 3=>[]
 | 4=>[]
 | 5=>[]
 | 6=>[]
 | 7=>bif m then [.ow false 6] else [.im 6]
 | 8=>[]
 | 9=>bif m then [.no,.no,.ow false 5] else [.no,.no,.im 5]
 | 10=>bif m then [.ow false 1,.ow false 2,.ow false 3,.ow false 4] else [.im 1,.im 2,.im 3,.im 4]
 | 11=>[]
 | _+12=>[]
abbrev T0_:TT0:=⟨El_,sz_,ca_⟩
def u0 (m:Bool):List (TV El_)→Option Int
 | [v0]=>((gI .u8 v0).bind fun a0=>some a0)
 | _=>none
def u1 (m:Bool):List (TV El_)→Option Xa
 | [v0,v1,v2]=>((gS v0).bind fun a0=>(gI .i64 v1).bind fun a1=>(gI .i64 v2).bind fun a2=>some ⟨a0,a1,a2⟩)
 | _=>none
def u2 (m:Bool):List (TV El_)→Option Xb
 | [v0,v1]=>((gI .i64 v0).bind fun a0=>(gI .i64 v1).bind fun a1=>some ⟨a0,a1⟩)
 | _=>none
def u3 (m:Bool):List (TV El_)→Option Xc
 | [v0,v1,v2,v3,v4]=>((gI .i64 v0).bind fun a0=>(gI .i64 v1).bind fun a1=>(gB v2).bind fun a2=>(gI .u32 v3).bind fun a3=>(gI .i64 v4).bind fun a4=>some ⟨⟨a0,a1⟩,a2,a3,a4⟩)
 | _=>none
def u4 (m:Bool):List (TV El_)→Option Xd
 | [v0,v1,v2,v3,v4,v5,v6]=>((gI .i64 v0).bind fun a0=>(gI .i64 v1).bind fun a1=>(gI .i64 v2).bind fun a2=>(gI .i64 v3).bind fun a3=>(gI .i64 v4).bind fun a4=>(gI .i64 v5).bind fun a5=>(gI .u32 v6).bind fun a6=>some ⟨a0,a1,a2,a3,a4,a5,a6⟩)
 | _=>none
def u5 (m:Bool):List (TV El_)→Option Bool
 | [v0]=>((gB v0).bind fun a0=>some a0)
 | _=>none
def u6 (m:Bool):List (TV El_)→Option Int
 | [v0]=>((gI .i64 v0).bind fun a0=>some a0)
 | _=>none
def u7 (m:Bool):List (TV El_)→Option (List Int)
 | [v0]=>bif m then ((gO false 6 v0).bind fun a0=>some a0) else ((gM 6 v0).bind fun a0=>some a0)
 | _=>none
def u8 (m:Bool):List (TV El_)→Option Addr
 | [v0]=>((gP v0).bind fun a0=>some a0)
 | _=>none
def u9 (m:Bool):List (TV El_)→Option Xg
 | [v0,v1,v2]=>bif m then ((gI .i64 v0).bind fun a0=>(gI .i64 v1).bind fun a1=>(gO false 5 v2).bind fun a2=>some ⟨a0,a1,a2⟩) else ((gI .i64 v0).bind fun a0=>(gI .i64 v1).bind fun a1=>(gM 5 v2).bind fun a2=>some ⟨a0,a1,a2⟩)
 | _=>none
def u10 (m:Bool):List (TV El_)→Option Xe
 | [v0,v1,v2,v3]=>bif m then ((gO false 1 v0).bind fun a0=>(gO false 2 v1).bind fun a1=>(gO false 3 v2).bind fun a2=>(gO false 4 v3).bind fun a3=>some ⟨a0,a1,a2,a3⟩) else ((gM 1 v0).bind fun a0=>(gM 2 v1).bind fun a1=>(gM 3 v2).bind fun a2=>(gM 4 v3).bind fun a3=>some ⟨a0,a1,a2,a3⟩)
 | _=>none
def u11 (m:Bool):List (TV El_)→Option Xf
 | [v0,v1,v2]=>((gB v0).bind fun a0=>(gI .i64 v1).bind fun a1=>(gI .u64 v2).bind fun a2=>some ⟨a0,a1,a2⟩)
 | _=>none
def un_ (m:Bool):(t:Nat)→List (TV El_)→Option (El_ t)
 | 0=>u0 m
 | 1=>u1 m
 | 2=>u2 m
 | 3=>u3 m
 | 4=>u4 m
 | 5=>u5 m
 | 6=>u6 m
 | 7=>u7 m
 | 8=>u8 m
 | 9=>u9 m
 | 10=>u10 m
 | 11=>u11 m
 | _+12=>fun _=>none
theorem ycj (m:Bool) (l:List (TV El_)) (x:Int) (h:u0 m l=some x):denL T0_ [] l=c0 m x:=by
 unfold u0 at h
 split at h
 ·skip
  obtain ⟨a0,h0,h⟩:=zh h
  cases h
  simp only [denL,z2r (T:=T0_) h0]
  rfl
 ·cases h
theorem yck (m:Bool) (l:List (TV El_)) (x:Xa) (h:u1 m l=some x):denL T0_ [] l=c1 m x:=by
 unfold u1 at h
 split at h
 ·skip
  obtain ⟨a0,h0,h⟩:=zh h
  obtain ⟨a1,h1,h⟩:=zh h
  obtain ⟨a2,h2,h⟩:=zh h
  cases h
  simp only [denL,yc7 (T:=T0_) h0,z2r (T:=T0_) h1,z2r (T:=T0_) h2]
  rfl
 ·cases h
theorem ycl (m:Bool) (l:List (TV El_)) (x:Xb) (h:u2 m l=some x):denL T0_ [] l=c2 m x:=by
 unfold u2 at h
 split at h
 ·skip
  obtain ⟨a0,h0,h⟩:=zh h
  obtain ⟨a1,h1,h⟩:=zh h
  cases h
  simp only [denL,z2r (T:=T0_) h0,z2r (T:=T0_) h1]
  rfl
 ·cases h
theorem ycm (m:Bool) (l:List (TV El_)) (x:Xc) (h:u3 m l=some x):denL T0_ [] l=c3 m x:=by
 unfold u3 at h
 split at h
 ·skip
  obtain ⟨a0,h0,h⟩:=zh h
  obtain ⟨a1,h1,h⟩:=zh h
  obtain ⟨a2,h2,h⟩:=zh h
  obtain ⟨a3,h3,h⟩:=zh h
  obtain ⟨a4,h4,h⟩:=zh h
  cases h
  simp only [denL,z2r (T:=T0_) h0,z2r (T:=T0_) h1,zsi (T:=T0_) h2,z2r (T:=T0_) h3,z2r (T:=T0_) h4]
  rfl
 ·cases h
theorem ycn (m:Bool) (l:List (TV El_)) (x:Xd) (h:u4 m l=some x):denL T0_ [] l=c4 m x:=by
 unfold u4 at h
 split at h
 ·skip
  obtain ⟨a0,h0,h⟩:=zh h
  obtain ⟨a1,h1,h⟩:=zh h
  obtain ⟨a2,h2,h⟩:=zh h
  obtain ⟨a3,h3,h⟩:=zh h
  obtain ⟨a4,h4,h⟩:=zh h
  obtain ⟨a5,h5,h⟩:=zh h
  obtain ⟨a6,h6,h⟩:=zh h
  cases h
  simp only [denL,z2r (T:=T0_) h0,z2r (T:=T0_) h1,z2r (T:=T0_) h2,z2r (T:=T0_) h3,z2r (T:=T0_) h4,z2r (T:=T0_) h5,z2r (T:=T0_) h6]
  rfl
 ·cases h
theorem yco (m:Bool) (l:List (TV El_)) (x:Bool) (h:u5 m l=some x):denL T0_ [] l=c5 m x:=by
 unfold u5 at h
 split at h
 ·skip
  obtain ⟨a0,h0,h⟩:=zh h
  cases h
  simp only [denL,zsi (T:=T0_) h0]
  rfl
 ·cases h
theorem ycp (m:Bool) (l:List (TV El_)) (x:Int) (h:u6 m l=some x):denL T0_ [] l=c6 m x:=by
 unfold u6 at h
 split at h
 ·skip
  obtain ⟨a0,h0,h⟩:=zh h
  cases h
  simp only [denL,z2r (T:=T0_) h0]
  rfl
 ·cases h
theorem ycq (m:Bool) (l:List (TV El_)) (x:(List Int)) (h:u7 m l=some x):denL T0_ [] l=c7 m x:=by
 unfold u7 at h
 split at h
 ·cases m
  ·simp only [cond_false] at h
   obtain ⟨a0,h0,h⟩:=zh h
   cases h
   simp only [denL,zf0 (T:=T0_) h0]
   rfl
  ·simp only [cond_true] at h
   obtain ⟨a0,h0,h⟩:=zh h
   cases h
   simp only [denL,zf1 (T:=T0_) h0]
   rfl
 ·cases h
theorem ycr (m:Bool) (l:List (TV El_)) (x:Addr) (h:u8 m l=some x):denL T0_ [] l=c8 m x:=by
 unfold u8 at h
 split at h
 ·skip
  obtain ⟨a0,h0,h⟩:=zh h
  cases h
  simp only [denL,yc6 (T:=T0_) h0]
  rfl
 ·cases h
theorem ycs (m:Bool) (l:List (TV El_)) (x:Xg) (h:u9 m l=some x):denL T0_ [] l=c9 m x:=by
 unfold u9 at h
 split at h
 ·cases m
  ·simp only [cond_false] at h
   obtain ⟨a0,h0,h⟩:=zh h
   obtain ⟨a1,h1,h⟩:=zh h
   obtain ⟨a2,h2,h⟩:=zh h
   cases h
   simp only [denL,z2r (T:=T0_) h0,z2r (T:=T0_) h1,zf0 (T:=T0_) h2]
   rfl
  ·simp only [cond_true] at h
   obtain ⟨a0,h0,h⟩:=zh h
   obtain ⟨a1,h1,h⟩:=zh h
   obtain ⟨a2,h2,h⟩:=zh h
   cases h
   simp only [denL,z2r (T:=T0_) h0,z2r (T:=T0_) h1,zf1 (T:=T0_) h2]
   rfl
 ·cases h
theorem y9s (m:Bool) (l:List (TV El_)) (x:Xe) (h:u10 m l=some x):denL T0_ [] l=c10 m x:=by
 unfold u10 at h
 split at h
 ·cases m
  ·simp only [cond_false] at h
   obtain ⟨a0,h0,h⟩:=zh h
   obtain ⟨a1,h1,h⟩:=zh h
   obtain ⟨a2,h2,h⟩:=zh h
   obtain ⟨a3,h3,h⟩:=zh h
   cases h
   simp only [denL,zf0 (T:=T0_) h0,zf0 (T:=T0_) h1,zf0 (T:=T0_) h2,zf0 (T:=T0_) h3]
   rfl
  ·simp only [cond_true] at h
   obtain ⟨a0,h0,h⟩:=zh h
   obtain ⟨a1,h1,h⟩:=zh h
   obtain ⟨a2,h2,h⟩:=zh h
   obtain ⟨a3,h3,h⟩:=zh h
   cases h
   simp only [denL,zf1 (T:=T0_) h0,zf1 (T:=T0_) h1,zf1 (T:=T0_) h2,zf1 (T:=T0_) h3]
   rfl
 ·cases h
theorem y9t (m:Bool) (l:List (TV El_)) (x:Xf) (h:u11 m l=some x):denL T0_ [] l=c11 m x:=by
 unfold u11 at h
 split at h
 ·skip
  obtain ⟨a0,h0,h⟩:=zh h
  obtain ⟨a1,h1,h⟩:=zh h
  obtain ⟨a2,h2,h⟩:=zh h
  cases h
  simp only [denL,zsi (T:=T0_) h0,z2r (T:=T0_) h1,z2r (T:=T0_) h2]
  rfl
 ·cases h
theorem im7:∀ (m:Bool) (x:(List Int)),z3w (c7 m x)=c7 false x
 | true,x=>by simp only [c7,z3w,toIm,z4k (o:=c6 false) (c:=c6 false) (fun _=>rfl)]
 | false,_=>rfl
theorem ow7 (x:(List Int)):z2o (c7 true x)=true:=by simp [c7,z2o,noIm,z4i (o:=c6 false) (fun _=>rfl)]
theorem im9:∀ (m:Bool) (x:Xg),z3w (c9 m x)=c9 false x
 | true,x=>by simp only [c9,z3w,toIm,z4k (o:=c5 false) (c:=c5 false) (fun _=>rfl)]
 | false,_=>rfl
theorem ow9 (x:Xg):z2o (c9 true x)=true:=by simp [c9,z2o,noIm,z4i (o:=c5 false) (fun _=>rfl)]
theorem im10:∀ (m:Bool) (x:Xe),z3w (c10 m x)=c10 false x
 | true,x=>by simp only [c10,z3w,toIm,z4k (o:=c1 false) (c:=c1 false) (fun _=>rfl),z4k (o:=c2 false) (c:=c2 false) (fun _=>rfl),z4k (o:=c3 false) (c:=c3 false) (fun _=>rfl),z4k (o:=c4 false) (c:=c4 false) (fun _=>rfl)]
 | false,_=>rfl
theorem ow10 (x:Xe):z2o (c10 true x)=true:=by simp [c10,z2o,noIm,z4i (o:=c1 false) (fun _=>rfl),z4i (o:=c2 false) (fun _=>rfl),z4i (o:=c3 false) (fun _=>rfl),z4i (o:=c4 false) (fun _=>rfl)]
theorem y6c:∀ (m:Bool) (t:Nat) (x:El_ t),denL T0_ [] (ct_ m t x)=ca_ m t x
 | m,0,x=>rfl
 | m,1,x=>rfl
 | m,2,x=>rfl
 | m,3,x=>rfl
 | m,4,x=>rfl
 | m,5,x=>rfl
 | m,6,x=>rfl
 | m,7,x=>by cases m <;> rfl
 | m,8,x=>rfl
 | m,9,x=>by cases m <;> rfl
 | m,10,x=>by cases m <;> rfl
 | m,11,x=>rfl
 | _,_+12,x=>rfl
theorem y6b:∀ (m:Bool) (t:Nat) (x:El_ t),inRL (T:=T0_) (ct_ m t x)=true
 | m,0,x=>rfl
 | m,1,x=>rfl
 | m,2,x=>rfl
 | m,3,x=>rfl
 | m,4,x=>rfl
 | m,5,x=>rfl
 | m,6,x=>rfl
 | m,7,x=>by cases m <;> rfl
 | m,8,x=>rfl
 | m,9,x=>by cases m <;> rfl
 | m,10,x=>by cases m <;> rfl
 | m,11,x=>rfl
 | _,_+12,x=>rfl
theorem y9v:∀ (m:Bool) (t:Nat) (cs:List (TV El_)) (x:El_ t),un_ m t cs=some x→denL T0_ [] cs=ca_ m t x
 | m,0,cs,x=>ycj m cs x
 | m,1,cs,x=>yck m cs x
 | m,2,cs,x=>ycl m cs x
 | m,3,cs,x=>ycm m cs x
 | m,4,cs,x=>ycn m cs x
 | m,5,cs,x=>yco m cs x
 | m,6,cs,x=>ycp m cs x
 | m,7,cs,x=>ycq m cs x
 | m,8,cs,x=>ycr m cs x
 | m,9,cs,x=>ycs m cs x
 | m,10,cs,x=>y9s m cs x
 | m,11,cs,x=>y9t m cs x
 | _,_+12,_,x=>fun _=>nomatch x
theorem y9a:∀ (m:Bool) (t:Nat) (x:El_ t),z3w (ca_ m t x)=ca_ false t x
 | m,0,x=>rfl
 | m,1,x=>rfl
 | m,2,x=>rfl
 | m,3,x=>rfl
 | m,4,x=>rfl
 | m,5,x=>rfl
 | m,6,x=>rfl
 | m,7,x=>im7 m x
 | m,8,x=>rfl
 | m,9,x=>im9 m x
 | m,10,x=>im10 m x
 | m,11,x=>rfl
 | _,_+12,x=>rfl
def po_:Nat→Bool
 | 0=>true
 | 1=>true
 | 2=>true
 | 3=>true
 | 4=>true
 | 5=>true
 | 6=>true
 | 7=>true
 | 8=>true
 | 9=>true
 | 10=>true
 | 11=>true
 | _+12=>true
theorem y9j:∀ (t:Nat) (x:El_ t),po_ t=true→z2o (ca_ true t x)=true
 | 0,x=>fun _=>rfl
 | 1,x=>fun _=>rfl
 | 2,x=>fun _=>rfl
 | 3,x=>fun _=>rfl
 | 4,x=>fun _=>rfl
 | 5,x=>fun _=>rfl
 | 6,x=>fun _=>rfl
 | 7,x=>fun _=>ow7 x
 | 8,x=>fun _=>rfl
 | 9,x=>fun _=>ow9 x
 | 10,x=>fun _=>ow10 x
 | 11,x=>fun _=>rfl
 | _+12,x=>fun _=>rfl
def pl_:Nat→Bool
 | 0=>true
 | 1=>true
 | 2=>true
 | 3=>true
 | 4=>true
 | 5=>true
 | 6=>true
 | 7=>false
 | 8=>true
 | 9=>false
 | 10=>false
 | 11=>true
 | _+12=>true
theorem y9k:∀ (t:Nat) (x:El_ t),pl_ t=true→z2o (ca_ false t x)=true
 | 0,x=>fun _=>rfl
 | 1,x=>fun _=>rfl
 | 2,x=>fun _=>rfl
 | 3,x=>fun _=>rfl
 | 4,x=>fun _=>rfl
 | 5,x=>fun _=>rfl
 | 6,x=>fun _=>rfl
 | 7,x=>fun h=>nomatch h
 | 8,x=>fun _=>rfl
 | 9,x=>fun h=>nomatch h
 | 10,x=>fun h=>nomatch h
 | 11,x=>fun _=>rfl
 | _+12,x=>fun _=>rfl
theorem y8q:∀ (t:Nat) (x:El_ t),(ca_ false t x).all zdt=true
 | 0,x=>rfl
 | 1,x=>rfl
 | 2,x=>rfl
 | 3,x=>rfl
 | 4,x=>rfl
 | 5,x=>rfl
 | 6,x=>rfl
 | 7,x=>rfl
 | 8,x=>rfl
 | 9,x=>rfl
 | 10,x=>rfl
 | 11,x=>rfl
 | _+12,x=>rfl
theorem y9g:∀ (m:Bool) (t:Nat) (x:El_ t),∀ a ∈ ca_ m t x,isZ a=false
 | m,0,x=>z4b rfl
 | m,1,x=>z4b rfl
 | m,2,x=>z4b rfl
 | m,3,x=>z4b rfl
 | m,4,x=>z4b rfl
 | m,5,x=>z4b rfl
 | m,6,x=>z4b rfl
 | m,7,x=>by cases m <;> exact z4b rfl
 | m,8,x=>z4b rfl
 | m,9,x=>by cases m <;> exact z4b rfl
 | m,10,x=>by cases m <;> exact z4b rfl
 | m,11,x=>z4b rfl
 | _,_+12,x=>z4b rfl
abbrev Ty_:TT where
 El:=El_
 sz:=sz_
 ca:=ca_
 ks:=ks_
 ct:=ct_
 un:=un_
 ct_ok:=y6c
 ct_in:=y6b
 un_ok:=y9v
 im_ok:=y9a
 po:=po_
 ow_ok:=y9j
 nz_ok:=y9g
 fl_ok:=y8q
 pl:=pl_
 pl_ok:=y9k
 u8:=0
 bs:=fun l=>l
 bs_ok:=fun _=>rfl
 bs_sz:=rfl
 sb:=fun l=>l
 sb_ok:=fun _ _=>rfl
abbrev Yaa:=Int×Int
abbrev Yab:=Int×(List Int)
abbrev Yac:=ByteArray×Int
abbrev Yad:=ByteArray×Int×Int
abbrev Yae:=Int×(List Xa)×(List Xb)×(List Xc)×(List Xd)
abbrev Yaf:=(List Xa)×(List Xb)×(List Xc)×(List Xd)×(List Bool)×(List (List Int))×(List Int)×Xd
abbrev Yag:=Int×ByteArray×Int
abbrev Yah:=Xe×Xe
abbrev Yai:=Int×(List Bool)
abbrev Yaj:=Int×Bool
abbrev Yak:=Bool×(List Xa)×(List Xb)×(List Xc)×(List Xd)
abbrev Yal:=Int×Int×Int
abbrev Yam:=ByteArray×Int×Int×Int
abbrev Yan:=Xe×Xd
abbrev Yao:=ByteArray×Bool
abbrev Yap:=Bool×(List Xa)×(List Xb)×(List Xc)×(List Xd)×(List Bool)×(List (List Int))×(List Int)
abbrev Yaq:=Int×ByteArray×Int×(List Xd)
abbrev Yar:=Int×(List Xa)×(List Xb)×(List Xc)
abbrev Yas:=(List Xb)×(List Xa)×(List Xb)×(List Xc)×(List Xd)
abbrev Yat:=(List Xc)×(List Xa)×(List Xb)×(List Xc)×(List Xd)
abbrev Yau:=Int×(List Xa)×(List Xb)×(List Xc)×(List Xd)×(List Bool)×(List (List Int))×(List Int)×Int×Int×Int×Int
abbrev Yav:=Int×(List Xa)×(List Xb)×(List Xc)×(List Xd)×(List Bool)×(List (List Int))×(List Int)
abbrev Yaw:=Int×ByteArray×Int×(List Xb)
abbrev Yax:=Int×ByteArray×Int×(List Xc)
abbrev Yay:=Xe×Xf
abbrev Yaz:=Xe×Xd×(List Bool)×(List Xg)
abbrev Yba:=Int×(List Bool)×(List Xg)
abbrev Ybb:=Int×ByteArray×Int×(List Xa)
abbrev Ybc:=Int×ByteArray×Int×Int×Int×Int×Int×Int×Int
abbrev Ybd:=Int×Int×Int×Int×Int
abbrev Ybe:=(List Xd)×Int×(List Xa)×(List Xb)×(List Xc)
abbrev Ybf:=Int×(List Xa)
abbrev Ybg:=Int×(List Xa)×(List Xb)
abbrev Ybh:=(List Int)×Int
abbrev Ybi:=(List Int)×Int×Int
abbrev Ybj:=(List Nat)×Int×Int
abbrev Ybk:=(List Xa)×ByteArray
abbrev Ybl:=Bool×(List Int)
abbrev Ybm:=Bool×(List Xa)×(List Xb)×(List Xc)×(List Xd)×(List Bool)×(List (List Int))×(List Int)×Int×Int
abbrev Ybn:=(List Nat)×Int×Int×Int×Int×Int×Int×Int×Int
abbrev Ybo:=ByteArray×ByteArray×Int
abbrev Ybp:=(List Int)×Int×ByteArray×Int
abbrev Ybq:=Int×Int×(List Xa)×(List Xb)×(List Xc)×(List Xd)
abbrev Ybr:=Bool×Int×Int×Int×Int×Int
abbrev Ybs:=Bool×Int
abbrev Ybt:=Nat×Int×Int×Int×Int×Int×Int×Int
abbrev Ybu:=ByteArray×Bool×Int×Int
abbrev Ybv:=Bool×Bool
abbrev Ybw:=(List Xa)×(List Xb)×(List Xc)×(List Xd)×(List Bool)×(List (List Int))×(List Int)×Int
abbrev Ybx:=(List Xa)×(List Xb)×(List Xc)×(List Xd)
abbrev Yby:=Xb×(List Xa)×(List Xb)×(List Xc)×(List Xd)
abbrev Ybz:=Xc×(List Xa)×(List Xb)×(List Xc)×(List Xd)
abbrev Yca:=Xb×Int×Xb
abbrev Ycb:=(List Xa)×(List Xb)×(List Xc)×(List Xd)×(List Bool)×(List (List Int))×(List Int)
abbrev Ycc:=(List Int)×Xb
abbrev Ycd:=Int×Int×Int×Int×Int×Int×Int
abbrev Yce:=Int×Int×ByteArray×Int×(List Xb)
abbrev Ycf:=ByteArray×Int×(List Xa)×(List Xb)×(List Xc)×(List Xd)
abbrev Ycg:=(List Xa)×(List Xb)×(List Xc)×(List Xd)×Int×Int
abbrev Ych:=Xb×(List Xa)
abbrev Yci:=Bool×Int×Int×Bool×Bool
abbrev Ycj:=Xc×(List Xa)
abbrev Yck:=Bool×Int×Int
abbrev Ycl:=Xe×Int×Int×Xb
abbrev Ycm:=Xe×Int×Int
abbrev Ycn:=Bool×(List Xa)×(List Xb)×(List Xc)×(List Xd)×(List Bool)×(List (List Int))×(List Int)×Int×Int×Int×Int×Int×Int×Int
abbrev Yco:=(List (List Int))×(List Int)
abbrev Ycp:=Bool×(List (List Int))×(List Int)
abbrev Ycq:=Int×Int×Int×Bool×Int×Int
abbrev Ycr:=(List Nat)×Int×Int×Int×Int×Int×Int×Int
abbrev Ycs:=Int×Bool×ByteArray×Int
abbrev Yct:=ByteArray×Int×Int×Int×Bool×Int×Int
abbrev Ycu:=ByteArray×Int×Int×Int×Int×Int×Int×Int×Int
abbrev Ycv:=Int×Int×Bool×Bool
abbrev Ycw:=Bool×Int×Int×Int×Int×Int×Int×Int
def y8r (n:Nat):Cx P_ Ty_:=⟨[],[(9,false,1),(15,false,2),(21,false,3),(27,false,4)],[],[]⟩
abbrev y8s:List (List Nat):=[[1,2],[1,2,3],[1,2,3],[1,2,3],[1,2,3],[2,3],[2]]
def zud (n:Nat) (x:Xe):Pt P_ Ty_ [] (Ybx):=.need (x.Sign_.length * 32≤140737488355328) (.need (x.Regs_.length * 16≤140737488355328) (.need (x.Slots_.length * 32≤140737488355328) (.need (x.List_.length * 56≤140737488355328) (.leaf (x.Sign_,x.Regs_,x.Slots_,x.List_)))))
def k101 (n:Nat):Con P_ Ty_:=zq (X:=Xe) (R:=Ybx) (pro:=[]) (y8r n) 10 y8s (fun x=>.no) [.ag [.im 1,.im 2,.im 3,.im 4]] [] [100000] ⟨[(2,.ref 100000)],[(100000,.any)]⟩ [100000] true (fun x=>[.ag [.im 1 x.Sign_,.im 2 x.Regs_,.im 3 x.Slots_,.im 4 x.List_]]) (fun x=>[]) (fun y=>([(2,.pt 100000 [] 0 0)],[(100000,.lit 4 [[.ow false 1 y.1,.ow false 2 y.2.1,.ow false 3 y.2.2.1,.ow false 4 y.2.2.2]])])) (fun y=>.ag [.sw 100000 [(0,0)],.sw 100000 [(0,1)],.sw 100000 [(0,2)],.sw 100000 [(0,3)]]) (fun y=>[(100000,.lit 4 [[.ow false 1 y.1,.ow false 2 y.2.1,.ow false 3 y.2.2.1,.ow false 4 y.2.2.2]])]) (zud n)
set_option maxHeartbeats 1000000 in
theorem y9z (s:ByteArray) (c:Int) (w:World) :
  Calls Go.Proofs.Try.prog 94 #[.string s,.int .u8 c] w fun e w'=>e = .returned (.int .i64 (Lib.indexByte s.data.toList c.toNat.toUInt8))∧w'=w:=by
 go_enter Go.Proofs.Try.func94,Go.Proofs.Try.ntmps94
 go_wp2
 rw [run_callFunc_extern Go.Proofs.Try.func95 (by kernel_rfl) (by kernel_rfl) (by kernel_rfl) (e:=Extern.BytealgIndexByte.indexByte) (by kernel_rfl),Lib.run_indexByteString]
 simp only [Result.andThen]
 rw [Oper.upon_value]
 go_wp2
 go_ret
 exact ⟨rfl,rfl⟩
def g71 (_:Nat) (a0:ByteArray) (a1:Int):Option Int:=some (Lib.indexByte a0.data.toList a1.toNat.toUInt8)
theorem zxy (n:Nat) (a0:ByteArray) (a1:Int) (r:Int) (hg:g71 n a0 a1=some r):z28 Go.Proofs.Try.prog 94 [St a0,.sc (.int .u8 a1)] [] (I64 r) []:=by
 obtain rfl:=Option.some.inj hg
 exact z28.quiet (vs:=[.string a0,.int .u8 a1]) fun w=>y9z a0 a1 w
def k71 (n:Nat):Con Go.Proofs.Try.prog Ty_ where
 f:=94
 X:=ByteArray×Int
 Y:=Int
 A:=[.any,.any]
 H:=[]
 N:=[]
 encA:=fun x=>[.sc (.string x.1),.sc (.int .u8 x.2)]
 encH:=fun _=>[]
 G:=fun x=>g71 n x.1 x.2
 encR:=fun y=>.sc (.int .i64 y)
 encO:=fun _=>[]
 strong:=true
 ok:=fun x y h=>⟨fun _=>zxy n x.1 x.2 y h,z28.toG (zxy n x.1 x.2 y h)⟩
def yc0 (n:Nat):Cx P_ Ty_:=⟨[k71 n],[],[],[]⟩
abbrev yc1:List (List Nat):=[[0,1],[4]]
def y3m (n:Nat) (x:Yac):Pt P_ Ty_ [] Int:=.call (k71 n) (x.1,x.2) fun (y1:Int)=>.leaf y1
def k68 (n:Nat):Con P_ Ty_:=zq (X:=Yac) (R:=Int) (pro:=[]) (yc0 n) 93 yc1 (fun x=>.no) [.any,.any] [] [] ⟨[(4,.any)],[]⟩ [] true (fun x=>[.sc (.string x.1),.sc (.int .u8 x.2)]) (fun x=>[]) (fun y=>([(4,I_ y)],[])) (fun y=>I_ y) (fun y=>[]) (y3m n)
def y3b (n:Nat):Cx P_ Ty_:=⟨[k68 n],[],[],[]⟩
abbrev y3c:List (List Nat):=[[0],[0,11],[2],[13,14,15],[13,14,15,16],[4,13,14,15],[4,13,14,15,19],[4,13,14,15,19],[4,13,14,15,19],[13,14,15,19],[2],[13,14,15],[2]]
def zxm (x:ByteArray) (p:Bool):EH Ty_:=([(0,.sc (.string x)),(11,B_ p)],[])
def zxn (x:ByteArray) (v1:Unit) (q1:Int) (p:Yaj):EH Ty_:=([(4,.sc (.int .u8 p.1)),(13,.im 0 (bytesOf x)),(14,I_ ((bytesOf x).length:Int)),(15,I_ q1),(19,B_ p.2)],[])
def zxo (x:ByteArray) (v1:Unit) (q1:Int) (p:Yaj):EH Ty_:=([(4,.sc (.int .u8 p.1)),(13,.im 0 (bytesOf x)),(14,I_ ((bytesOf x).length:Int)),(15,I_ q1),(19,B_ p.2)],[])
def zxp (x:ByteArray) (v1:Unit) (q1:Int) (p:Yaj):EH Ty_:=([(4,.sc (.int .u8 p.1)),(13,.im 0 (bytesOf x)),(14,I_ ((bytesOf x).length:Int)),(15,I_ q1),(19,B_ p.2)],[])
def zxq (x:ByteArray) (v1:Unit) (q1:Int) (p:Bool):EH Ty_:=([(13,.im 0 (bytesOf x)),(14,I_ ((bytesOf x).length:Int)),(15,I_ q1),(19,B_ p)],[])
def zxr (n:Nat) (x:ByteArray) (v1:Unit) (q1:Int):Pt P_ Ty_ [] (Bo Int Int Unit):=.ite (decide (q1<((bytesOf x).length:Int))) (.bnd (idx (bytesOf x) q1) fun y1=>.join (S:=Bool) (zxq x v1 q1) (.join (S:=Yaj) (zxn x v1 q1) (.ite (decide (y1≥(65:Int))) (.leaf (.inl (y1,(decide (y1≤(90:Int)))))) (.leaf (.inl (y1,false)))) fun s2=>.ite s2.2 (.leaf (.inl true)) (.join (S:=Yaj) (zxo x v1 q1) (.ite (decide (s2.1≥(97:Int))) (.leaf (.inl (s2.1,(decide (s2.1≤(122:Int)))))) (.leaf (.inl (s2.1,false)))) fun s3=>.ite s3.2 (.leaf (.inl true)) (.join (S:=Yaj) (zxp x v1 q1) (.ite (decide (s3.1≥(48:Int))) (.leaf (.inl (s3.1,(decide (s3.1≤(57:Int)))))) (.leaf (.inl (s3.1,false)))) fun s4=>.ite s4.2 (.leaf (.inl true)) (.call (k68 n) ((⟨#[95,46,47,45]⟩:ByteArray),s4.1) fun (y2:Int)=>.leaf (.inl (decide (y2≥(0:Int)))))))) fun s5=>.ite s5 (.leaf (.go (IntKind.i64.wrap (q1+(1:Int))))) (.leaf (.ret ()))) (.leaf (.out q1))
def zxl (n:Nat) (x:ByteArray) (v1:Unit):LCon P_ Ty_ []:=lcon (X:=Int) (Y:=Int) (Z:=Unit) (y3b n) (subC [1,1,0,1,0,0] (fnC P_ 89 y3c)) (fun q1=>.two .no (.two .no (.two (.two (.two .no (.two (.join Bool (zxq x v1 q1) ⟨[(13,.im 0),(14,.any),(15,.any),(19,.any)],[]⟩ (.join (Yaj) (zxn x v1 q1) ⟨[(4,.any),(13,.im 0),(14,.any),(15,.any),(19,.any)],[]⟩ .no (.two .no (.join (Yaj) (zxo x v1 q1) ⟨[(4,.any),(13,.im 0),(14,.any),(15,.any),(19,.any)],[]⟩ .no (.two .no (.join (Yaj) (zxp x v1 q1) ⟨[(4,.any),(13,.im 0),(14,.any),(15,.any),(19,.any)],[]⟩ .no .no))))) .no) .no)) .no) .no))) 0 true ⟨[(13,.im 0),(14,.any),(15,.any)],[]⟩ ⟨[(13,.im 0),(14,.any),(15,.any),(16,.any)],[]⟩ ⟨[(2,.any)],[]⟩ (fun q1=>([(13,.im 0 (bytesOf x)),(14,I_ ((bytesOf x).length:Int)),(15,I_ q1)],[])) (fun p=>([(13,.im 0 (bytesOf x)),(14,I_ ((bytesOf x).length:Int)),(15,I_ p),(16,B_ false)],[])) (fun p=>([(2,B_ false)],[])) n (zxr n x v1)
def y3d (n:Nat) (x:ByteArray):Pt P_ Ty_ [] Bool:=.join (S:=Bool) (zxm x) (.ite (x==(⟨#[]⟩:ByteArray)) (.leaf (.inl true)) (.leaf (.inl (decide ((x.size:Int) > (64:Int)))))) fun s1=>.ite s1 (.leaf false) (.loopR (V:=Unit) (zxl n x) () (0:Int) (fun (v1:Unit) (y3:Int)=>.leaf true) fun (v1:Unit) (z1:Unit)=>.leaf false)
def k61 (n:Nat):Con P_ Ty_:=zq (X:=ByteArray) (R:=Bool) (pro:=[]) (y3b n) 89 y3c (fun x=>.two .no (.two (.join Bool (zxm x) ⟨[(0,.any),(11,.any)],[]⟩ .no .no) (.two (.two .no (.two (.loop Unit (zxl n x) true ⟨[(13,.im 0),(14,.any),(15,.any)],[]⟩) .no)) .no))) [.any] [] [] ⟨[(2,.any)],[]⟩ [] true (fun x=>[.sc (.string x)]) (fun x=>[]) (fun y=>([(2,B_ y)],[])) (fun y=>B_ y) (fun y=>[]) (y3d n)
def yba (n:Nat):Cx P_ Ty_:=⟨[k61 n],[],[],[]⟩
abbrev ybb:List (List Nat):=[[1],[2]]
def y2o (n:Nat) (x:Xa):Pt P_ Ty_ [] Bool:=.call (k61 n) x.Name_ fun (y1:Bool)=>.ite y1 (.ite (x.Kind_==1) (.ite (decide (x.Len_≥(1:Int))) (.leaf (decide (x.Len_≤(4096:Int)))) (.leaf false)) (.ite (x.Kind_==2) (.ite (decide (x.Len_≥(1:Int))) (.leaf (decide (x.Len_≤(4096:Int)))) (.leaf false)) (.leaf false))) (.leaf false)
def k48 (n:Nat):Con P_ Ty_:=zq (X:=Xa) (R:=Bool) (pro:=[]) (yba n) 71 ybb (fun x=>.no) [.ag [.any,.any,.any]] [] [] ⟨[(2,.any)],[]⟩ [] true (fun x=>[.ag [.sc (.string x.Name_),I_ x.Kind_,I_ x.Len_]]) (fun x=>[]) (fun y=>([(2,B_ y)],[])) (fun y=>B_ y) (fun y=>[]) (y2o n)
def ybq (n:Nat):Cx P_ Ty_:=⟨[k48 n],[],[],[]⟩
abbrev ybr:List (List Nat):=[[1],[1,3],[2],[1,7],[2],[2]]
def y3e (n:Nat) (x:Xa):Pt P_ Ty_ [] Int:=.call (k48 n) x fun (y1:Bool)=>.ite (!y1) (.leaf (0:Int)) (.ite (x.Kind_==2) (.leaf (IntKind.i64.wrap ((2:Int) * x.Len_))) (.leaf x.Len_))
def k62 (n:Nat):Con P_ Ty_:=zq (X:=Xa) (R:=Int) (pro:=[]) (ybq n) 90 ybr (fun x=>.no) [.ag [.any,.any,.any]] [] [] ⟨[(2,.any)],[]⟩ [] true (fun x=>[.ag [.sc (.string x.Name_),I_ x.Kind_,I_ x.Len_]]) (fun x=>[]) (fun y=>([(2,I_ y)],[])) (fun y=>I_ y) (fun y=>[]) (y3e n)
def y2p (n:Nat):Cx P_ Ty_:=⟨[k62 n],[],[],[]⟩
abbrev y2q:List (List Nat):=[[0],[0,3],[3,6,7,8],[3,6,7,8,9],[3,5,6,7,8],[3,6,7,8],[3,6,7,8],[2]]
def zx2 (n:Nat) (x:(List Xa)) (v1:Unit) (q1:Yaa):Pt P_ Ty_ [] (Bo (Yaa) (Yaa) Empty):=.ite (decide (q1.2<(x.length:Int))) (.bnd (idx x q1.2) fun y1=>.call (k62 n) y1 fun (y2:Int)=>.leaf (.go ((IntKind.i64.wrap (q1.1+y2)),(IntKind.i64.wrap (q1.2+(1:Int)))))) (.leaf (.out (q1.1,q1.2)))
def zx1 (n:Nat) (x:(List Xa)) (v1:Unit):LCon P_ Ty_ []:=lcon (X:=Yaa) (Y:=Yaa) (Z:=Empty) (y2p n) (subC [1,1,0,1,0,0] (fnC P_ 72 y2q)) (fun q1=>.no) 0 false ⟨[(3,.any),(6,.im 1),(7,.any),(8,.any)],[]⟩ ⟨[(3,.any),(6,.im 1),(7,.any),(8,.any),(9,.any)],[]⟩ ⟨[],[]⟩ (fun q1=>([(3,I_ q1.1),(6,.im 1 x),(7,I_ (x.length:Int)),(8,I_ q1.2)],[])) (fun p=>([(3,I_ p.1),(6,.im 1 x),(7,I_ (x.length:Int)),(8,I_ p.2),(9,B_ false)],[])) (fun p=>nomatch p) n (zx2 n x v1)
def y2r (n:Nat) (x:(List Xa)):Pt P_ Ty_ [] Int:=.loop (V:=Unit) (zx1 n x) () ((0:Int),(0:Int)) fun (v1:Unit) (y3:Yaa)=>.leaf y3.1
def k49 (n:Nat):Con P_ Ty_:=zq (X:=(List Xa)) (R:=Int) (pro:=[]) (y2p n) 72 y2q (fun x=>.two .no (.two .no (.two (.two .no (.two (.loop Unit (zx1 n x) false ⟨[(3,.any),(6,.im 1),(7,.any),(8,.any)],[]⟩) .no)) .no))) [.im 1] [] [] ⟨[(2,.any)],[]⟩ [] true (fun x=>[.im 1 x]) (fun x=>[]) (fun y=>([(2,I_ y)],[])) (fun y=>I_ y) (fun y=>[]) (y2r n)
def zw9 (n:Nat) (a0:List Xa):Option Int:=(k49 n).G a0
def zhz (n:Nat) (a0:Xa):Option Bool:=(k48 n).G a0
theorem y98 (n:Nat) (p:Xa) (v:Bool) (hv:(k48 n).G p=some v):z28 Go.Proofs.Try.prog 71 [.ag [St p.Name_,I64 p.Kind_,I64 p.Len_]] [] (Bl v) []:=((k48 n).ok p v hv).1 rfl
theorem y99 (n:Nat) (p:List Xa) (v:Int) (hv:(k49 n).G p=some v):z28 Go.Proofs.Try.prog 72 [.im 3 (p.map (c1 false))] [] (I64 v) []:=((k49 n).ok p v hv).1 rfl
/-- sign.Check over the parameters: none: one may not be; else the names,each once. -/
def zai (n:Nat):List Xa→List ByteArray→Option (Option (List ByteArray))
 | [],ks=>some (some ks)
 | p::l,ks=>(zhz n p).bind fun v=>bif v then zai n l (bif has p.Name_ ks then ks else ks++[p.Name_]) else some none
def z8x (n:Nat) (a0:List Xa):Option (List ByteArray)→Option Int
 | none=>some 100
 | some ks=>bif decide ((ks.length:Int)<((a0.map (c1 false)).length:Int)) then some 101 else (zw9 n a0).bind fun v=>bif decide (v > 65536) then some 102 else some 0
def g28 (n:Nat) (a0:List Xa):Option Int:=bif decide (((a0.map (c1 false)).length:Int) > 64) then some 2 else (zai n a0 []).bind (z8x n a0)

namespace F28
abbrev P:Program:=Go.Proofs.Try.prog
def b:Code:=(Go.Proofs.Try.f41.body).getD .skip
theorem body:Go.Proofs.Try.f41.body=some b:=by kernel_rfl
theorem e1:b = .seq (lf b) (.seq (lf (rt b)) (.seq (.region (rid (lf (rt (rt b)))) (rops (lf (rt (rt b)))) false) (.seq (lf (rt (rt (rt b)))) (rt (rt (rt (rt b))))))):=by kernel_rfl
abbrev R3:Array Oper:=rops (lf (rt (rt b)))
def z:Code:=lf (rt (rt (rt b)))
def q:Code:=rt (rt (rt (rt b)))
def l:Code:=lf (lf (rt z))
theorem e2:z = .seq (lf z) (.block 0 (.loop l)):=by kernel_rfl
theorem e3:l = .seq (lf l) (.seq (.cond (.tmp 13) .skip (.exit 0)) (.seq (.block 1 (.seq (lf (lf (lf (rt (rt l))))) (.seq (lf (rt (lf (lf (rt (rt l)))))) (.region (rid (rt (rt (lf (lf (rt (rt l))))))) (rops (rt (rt (lf (lf (rt (rt l))))))) false)))) (rt (rt (rt l))))):=by kernel_rfl
abbrev R9:Array Oper:=rops (rt (rt (lf (lf (rt (rt l))))))
theorem e4:q = .seq (.block 2 (.seq (.region (rid (lf (lf (lf q)))) (rops (lf (lf (lf q)))) false) (rt (lf (lf q))))) (rt q):=by kernel_rfl
abbrev R11:Array Oper:=rops (lf (lf (lf q)))
end F28
namespace F28
abbrev xs (a0:List Xa):Els:=a0.map (c1 false)
abbrev mp (b:Nat):AV:=.sc (.map (some b))
/-- The slots at the loop's head. -/
abbrev EL (a0:List Xa) (b:Nat) (i:Int):Env:=z1l [(0,.im 3 (xs a0)),(3,mp b),(10,.im 3 (xs a0)),(11,I64 ((xs a0).length:Int)),(12,I64 i)]
abbrev EL' (a0:List Xa) (b:Nat) (i:Int):Env:=z1l [(0,.im 3 (xs a0)),(3,mp b),(10,.im 3 (xs a0)),(11,I64 ((xs a0).length:Int)),(12,I64 i),(13,Bl (decide (i<((xs a0).length:Int))))]
theorem ut:P.underlying 138=some (.map 9 3):=by kernel_rfl
theorem uk:P.underlying 9=some .string:=by kernel_rfl
theorem uz (w:World):(zeroValue 3).run P w = .ok (.int .i64 0) w:=by kernel_rfl

theorem ya6 {w0 w:World} {a:Act} {a0:List Xa} {bm:Nat} {ks:List ByteArray} {i:Int} {p:Xa} {Q:Exit→Act→World→Prop}
  (n:Now 35 w0 (some (bm,ks)) (z1l [(0,.im 3 (xs a0)),(3,mp bm),(5,.pt 5 [] 0 0),(10,.im 3 (xs a0)),(11,I64 ((xs a0).length:Int)),(12,I64 i),(18,Bl false)]) [(5,⟨3,[[St p.Name_,I64 p.Kind_,I64 p.Len_]]⟩)] a w)
  (hK:∀ a' w',Now 35 w0 (some (bm,bif has p.Name_ ks then ks else ks++[p.Name_])) (EL a0 bm i) [] a' w'→Q .normal a' w') :
  (Code.region (rid (rt (rt (lf (lf (rt (rt l))))))) R9 false).wp P Q a w:=by
 refine wp_region ?_
 have hr:List.range R9.size=[0,1,2,3,4,5]:=by kernel_rfl
 rw [hr]
 refine n.rda (d:=19) (b:=.mov (.tmp 3)) (mp bm) (by kernel_rfl) (by kernel_rfl) fun a w n=>?_
 refine n.rda (d:=20) (b:=.fad 0 (.tmp 5)) (.pt 5 [] 0 0) (by kernel_rfl) (by kernel_rfl) fun a w n=>?_
 refine n.rda (d:=21) (b:=.load false 1 (.tmp 20)) (St p.Name_) (by kernel_rfl) (by kernel_rfl) fun a w n=>?_
 obtain ⟨o,ho,hg,hd,hop⟩:=zlp (ops:=R9) (i:=3) (g:=none) (d:=some 22) (op:=.lookup 138 (.tmp 19) (.tmp 21) false) (by kernel_rfl)
 obtain ⟨c,hc⟩:=(n.km bm ks rfl).1.lookup (P:=P) ut uk (uz w) p.Name_
 have hm:a.eval (.tmp 19) = .map (some bm):=n.eval rfl
 have hk:a.eval (.tmp 21) = .string p.Name_:=n.eval rfl
 refine n.val (v:=.int .i64 c) ho hg hd (by decide) (by simp only [execOp,hop,hm,hk,Sem.run_bind,hc,Result.andThen]; rfl) fun a n=>?_
 refine n.rda (d:=23) (b:=.bin .add (.tmp 22) (.const (.int .i64 1))) (I64 (IntKind.i64.wrap (c+1))) (by kernel_rfl) (by kernel_rfl) fun a w n=>?_
 obtain ⟨o,ho,hg,hd,hop⟩:=zlp (ops:=R9) (i:=5) (g:=none) (d:=none) (op:=.mapUpdate 138 (.tmp 19) (.tmp 21) (.tmp 23)) (by kernel_rfl)
 refine n.upd ho hg hd hop ut uk rfl rfl rfl fun a w n=>?_
 exact hK _ _ (n.gh (zc.norm (P:=P) (bm:=[]) (S:=[0,3,10,11,12]) (by kernel_rfl)))

theorem loop {n:Nat} {w0:World} {a0:List Xa} {bm:Nat} {r:Int} {Q:Exit→Act→World→Prop} (he:∀ ks a w,z8x n a0 (some ks)=some r→Now 35 w0 (some (bm,ks)) (EL' a0 bm a0.length) [] a w→Q (.exit 0) a w)
  (hr:∀ m e' h' a' w',z4s e' h' [.t 2]=some (I64 r)→Now 35 w0 m e' h' a' w'→Q .ret a' w'):∀ (rest pre:List Xa) (ks:List ByteArray) (a:Act) (w:World),a0=pre++rest→a0.length≤64→(zai n rest ks).bind (z8x n a0)=some r →
  Now 35 w0 (some (bm,ks)) (EL a0 bm pre.length) [] a w→z3c P F28.l Q a w:=by
 intro rest
 induction rest with
 | nil =>
  intro pre ks a w hp hlen hg nw
  refine z3c.step (Eq.mpr (congrArg (fun X:Code=>X.wp P (Exit.then (z3c P F28.l Q) Q) a w) e3) ?_)
  focus
   refine wp_seq (nw.ex (c:=.reg [0,3,10,11,12,13] [⟨13,none,.rd (.bin .lss (.tmp 12) (.tmp 11))⟩]) (R:=fun o e h=>o = .normal∧e=EL' a0 bm pre.length∧h=[]) ⟨[[0,3,10,11,12,13]],[],by kernel_rfl⟩ (W.regG (RG.fin 1 [] _ [] (by kernel_rfl) ⟨rfl,rfl,rfl⟩)) ?_)
   rintro o e h a w ⟨rfl,rfl,rfl⟩ nw
   refine wp_seq (wp_cond (t:=false) ?_ (wp_exit ?_))
   ·rw [nw.eval (v:=.bool (decide ((pre.length:Int)<((xs a0).length:Int)))) rfl]
    simp [xs,hp]
   ·refine he ks a w ?_ ?_
    ·simpa [zai] using hg
    ·have:pre.length=a0.length:=by simp [hp]
     rw [← this]; exact nw
 | cons p rest ih =>
  intro pre ks a w hp hlen hg nw
  have hi:idx a0 (pre.length:Int)=some p:=by
   simp [idx,hp]
  have hl:pre.length<a0.length:=by simp [hp]
  refine z3c.step (Eq.mpr (congrArg (fun X:Code=>X.wp P (Exit.then (z3c P F28.l Q) Q) a w) e3) ?_)
  focus
   refine wp_seq (nw.ex (c:=.reg [0,3,10,11,12,13] [⟨13,none,.rd (.bin .lss (.tmp 12) (.tmp 11))⟩]) (R:=fun o e h=>o = .normal∧e=EL' a0 bm pre.length∧h=[]) ⟨[[0,3,10,11,12,13]],[],by kernel_rfl⟩ (W.regG (RG.fin 1 [] _ [] (by kernel_rfl) ⟨rfl,rfl,rfl⟩)) ?_)
   rintro o e h a w ⟨rfl,rfl,rfl⟩ nw
   refine wp_seq (wp_cond (t:=true) ?_ (wp_skip ?_))
   ·rw [nw.eval (v:=.bool (decide ((pre.length:Int)<((xs a0).length:Int)))) rfl]
    simp [xs,hp]
    omega
   show (Code.seq _ _).wp _ _ _ _
   refine wp_seq (wp_block (wp_seq (nw.ex (c:=.reg [0,3,5,10,11,12] [⟨14,none,.rd (.iad 3 (.tmp 10) (.tmp 12))⟩,⟨15,none,.rd (.load true 3 (.tmp 14))⟩,⟨5,none,.mk (.box 3 (.const (.agg #[(.string ⟨#[]⟩),(.int .i64 (0)),(.int .i64 (0))])))⟩,⟨35,none,.st 3 (.tmp 5) (.tmp 15)⟩])
    (R:=fun o e h=>o = .normal∧e=z1l [(0,.im 3 (xs a0)),(3,mp bm),(5,.pt 5 [] 0 0),(10,.im 3 (xs a0)),(11,I64 ((xs a0).length:Int)),(12,I64 pre.length)]∧h=[(5,⟨3,[[St p.Name_,I64 p.Kind_,I64 p.Len_]]⟩)])
    ⟨[[0,3,5,10,11,12]],[],by kernel_rfl⟩ (W.regG ?_) ?_)))
   ·refine RG.iadIm (R:=Xa) (r:=p) (E:=some) (c:=(c1 false)) (xs:=a0) (i:=pre.length) (k:=.i64) (by kernel_rfl) (by kernel_rfl) (by kernel_rfl) (by rw [hi]; rfl) (fun y2 _ hg=>?_)
    cases hg
    exact RG.fin 3 [(5,5)] _ _ (by kernel_rfl) ⟨rfl,rfl,rfl⟩
   rintro o e h a w ⟨rfl,rfl,rfl⟩ nw
   obtain ⟨v,hv,hg⟩:=Option.bind_eq_some_iff.1 (show ((zhz n p).bind fun v=>(bif v then zai n rest (bif has p.Name_ ks then ks else ks++[p.Name_]) else some none).bind (z8x n a0))=some r by rw [← Option.bind_assoc]; exact hg)
   show (Code.seq _ _).wp _ _ _ _
   refine wp_seq (nw.ex (c:=.seq (.reg [0,3,5,10,11,12,18] [⟨16,none,.rd (.load true 3 (.tmp 5))⟩,⟨17,none,.call 71 [(.tmp 16)]⟩,⟨18,none,.rd (.un1 .not (.tmp 17))⟩]) (.cond (.tmp 18) (.seq (.reg [2] [⟨2,none,.rd (.mov (.const (.int .i64 100)))⟩]) .ret) .skip))
    (R:=fun o e h=>(o = .ret∧v=false∧e=z1l [(2,I64 100)])∨(o = .normal∧v=true∧e=z1l [(0,.im 3 (xs a0)),(3,mp bm),(5,.pt 5 [] 0 0),(10,.im 3 (xs a0)),(11,I64 ((xs a0).length:Int)),(12,I64 pre.length),(18,Bl false)]∧h=[(5,⟨3,[[St p.Name_,I64 p.Kind_,I64 p.Len_]]⟩)]))
    ⟨[[0,3,5,10,11,12,18],[2]],[],by kernel_rfl⟩ ?_ ?_)
   ·refine W.seq (W.regG ?_)
    refine RG.cut 1 [(5,5)] [0,3,5,10,11,12,16] (z1l [(0,.im 3 (xs a0)),(3,mp bm),(5,.pt 5 [] 0 0),(10,.im 3 (xs a0)),(11,I64 ((xs a0).length:Int)),(12,I64 pre.length),(16,.ag [St p.Name_,I64 p.Kind_,I64 p.Len_])]) [(5,⟨3,[[St p.Name_,I64 p.Kind_,I64 p.Len_]]⟩)] (by kernel_rfl) ?_
    refine RG.callP (R:=Bool) (r:=v) (E:=some) [] [(5,5)] [0,3,5,10,11,12,17] false [.ag [St p.Name_,I64 p.Kind_,I64 p.Len_]] (fun v2=>Bl v2) (fun v2=>[]) (fun v2=>z1l [(0,.im 3 (xs a0)),(3,mp bm),(5,.pt 5 [] 0 0),(10,.im 3 (xs a0)),(11,I64 ((xs a0).length:Int)),(12,I64 pre.length),(17,Bl v2)]) (fun v2=>[(5,⟨3,[[St p.Name_,I64 p.Kind_,I64 p.Len_]]⟩)]) (by kernel_rfl) (gv:=zhz n p) (by rw [hv]; rfl) (by kernel_rfl) (fun v2 hv=>z28.toG (y98 n p v2 hv)) (by kernel_rfl) (fun v2=>by kernel_rfl) (fun h=>by cases h) (fun v2 hv' hg'=>?_)
    cases hg'
    refine RG.fin 1 [(5,5)] (z1l [(0,.im 3 (xs a0)),(3,mp bm),(5,.pt 5 [] 0 0),(10,.im 3 (xs a0)),(11,I64 ((xs a0).length:Int)),(12,I64 pre.length),(18,Bl (!v))]) [(5,⟨3,[[St p.Name_,I64 p.Kind_,I64 p.Len_]]⟩)] (by kernel_rfl) ?_
    cases v with
    | true=>exact W.condF (by kernel_rfl) (W.skip (.inr ⟨rfl,rfl,rfl,rfl⟩))
    | false=>exact W.condT (by kernel_rfl) (W.seq (W.regG (RG.fin 1 [] (z1l [(2,I64 100)]) [] (by kernel_rfl) (W.ret (.inl ⟨rfl,rfl,rfl⟩)))))
   rintro o e h a w (⟨rfl,rfl,rfl⟩ | ⟨rfl,rfl,rfl,rfl⟩) nw
   ·simp only [z8x,cond_false,Option.bind_some,Option.some.injEq] at hg
    subst hg
    exact hr _ _ _ _ _ rfl nw
   ·refine ya6 nw fun a w nw=>?_
    refine nw.ex (c:=.reg [0,3,10,11,12] [⟨24,none,.rd (.bin .add (.tmp 12) (.const (.int .i64 1)))⟩,⟨12,none,.rd (.mov (.tmp 24))⟩]) (R:=fun o e h=>o = .normal∧e=EL a0 bm (IntKind.i64.wrap (pre.length+1))∧h=[]) ⟨[[0,3,10,11,12]],[],by kernel_rfl⟩ (W.regG (RG.fin 2 [] _ [] (by kernel_rfl) ⟨rfl,rfl,rfl⟩)) ?_
    rintro o e h a w ⟨rfl,rfl,rfl⟩ nw
    have hw:IntKind.i64.wrap ((pre.length:Int)+1)=((pre++[p]).length:Int):=by
     have:(pre.length:Int)<64:=by omega
     simp only [List.length_append,List.length_singleton]
     rw [z3x (by omega) (by omega)]
     simp
    rw [hw] at nw
    exact ih (pre++[p]) _ a w (by simp [hp]) hlen hg nw

theorem tail {n:Nat} {w0 w:World} {a:Act} {a0:List Xa} {bm:Nat} {ks:List ByteArray} {r:Int} {Q:Exit→Act→World→Prop} (hg:z8x n a0 (some ks)=some r) (nw:Now 35 w0 (some (bm,ks)) (EL' a0 bm a0.length) [] a w)
  (hr:∀ m e' h' a' w',z4s e' h' [.t 2]=some (I64 r)→Now 35 w0 m e' h' a' w'→Q .ret a' w'):q.wp P Q a w:=by
 rw [e4]
 refine wp_seq (wp_block (wp_seq (wp_region ?_)))
 have h11:List.range (rops (lf (lf (lf q)))).size=[0,1,2,3,4,5]:=by kernel_rfl
 rw [h11]
 refine nw.rda (d:=26) (b:=.mov (.tmp 3)) (mp bm) (by kernel_rfl) (by kernel_rfl) fun a w nw=>?_
 obtain ⟨o,ho,hgd,hd,hop⟩:=zlp (ops:=R11) (i:=1) (g:=none) (d:=some 27) (op:=.call { callee:=.builtin .len,args:=#[.tmp 26],argTypes:=#[138] }) (by kernel_rfl)
 have hm:a.eval (.tmp 26) = .map (some bm):=nw.eval rfl
 have hc:=(nw.km bm ks rfl).1.len (P:=P) ut o.type
 refine nw.val (v:=.int .i64 ks.length) ho hgd hd (by decide) (by simp [execOp,hop,resolve,invoke,builtin,hm,hc,Result.andThen]) fun a nw=>?_
 refine nw.rda (d:=28) (b:=.mov (.tmp 0)) (.im 3 (xs a0)) (by kernel_rfl) (by kernel_rfl) fun a w nw=>?_
 refine nw.rda (d:=29) (b:=.len (.tmp 28)) (I64 ((xs a0).length:Int)) (by kernel_rfl) (by kernel_rfl) fun a w nw=>?_
 refine nw.rda (d:=30) (b:=.bin .lss (.tmp 27) (.tmp 29)) (Bl (decide ((ks.length:Int)<((xs a0).length:Int)))) (by kernel_rfl) (by kernel_rfl) fun a w nw=>?_
 refine nw.rda (d:=25) (b:=.mov (.tmp 30)) (Bl (decide ((ks.length:Int)<((xs a0).length:Int)))) (by kernel_rfl) (by kernel_rfl) fun a w nw=>?_
 have nw:=nw.gh (zc.norm (P:=P) (bm:=[]) (S:=[0,25]) (e1:=z1l [(0,.im 3 (xs a0)),(25,Bl (decide ((ks.length:Int)<((xs a0).length:Int))))]) (h1:=[]) (by kernel_rfl))
 refine nw.ex (c:=.cond (.tmp 25) (.seq (.reg [2] [⟨2,none,.rd (.mov (.const (.int .i64 101)))⟩]) .ret)
   (.seq (.reg [31] [⟨32,none,.rd (.mov (.tmp 0))⟩,⟨33,none,.call 72 [(.tmp 32)]⟩,⟨34,none,.rd (.bin .gtr (.tmp 33) (.const (.int .i64 65536)))⟩,⟨31,none,.rd (.mov (.tmp 34))⟩]) (.cond (.tmp 31) (.seq (.reg [2] [⟨2,none,.rd (.mov (.const (.int .i64 102)))⟩]) .ret) .skip)))
  (R:=fun o e h=>(o = .ret∧e=z1l [(2,I64 r)])∨(o = .normal∧r=0∧h=[]))
  ⟨[[2],[31],[2]],[],by kernel_rfl⟩ ?_ ?_
 ·unfold z8x at hg
  refine W.condB (by kernel_rfl) hg (fun hg=>?_) (fun hg=>?_)
  ·obtain rfl:=Option.some.inj hg
   exact W.seq (W.regG (RG.fin 1 [] (z1l [(2,I64 101)]) [] (by kernel_rfl) (W.ret (.inl ⟨rfl,rfl⟩))))
  ·refine W.seq (W.regG ?_)
   refine RG.cut 1 [] [32] (z1l [(32,.im 3 (xs a0))]) [] (by kernel_rfl) ?_
   refine RG.callP [] [] [33] false [.im 3 (xs a0)] (fun v2=>I64 v2) (fun v2=>[]) (fun v2=>z1l [(33,I64 v2)]) (fun v2=>[]) (by kernel_rfl) hg (by kernel_rfl) (fun v2 hv=>z28.toG (y99 n a0 v2 hv)) (by kernel_rfl) (fun v2=>by kernel_rfl) (fun h=>by cases h) (fun v2 hv hg=>?_)
   refine RG.fin 2 [] (z1l [(31,Bl (decide (v2 > 65536)))]) [] (by kernel_rfl) ?_
   refine W.condB (by kernel_rfl) hg (fun hg=>?_) (fun hg=>?_)
   ·obtain rfl:=Option.some.inj hg
    exact W.seq (W.regG (RG.fin 1 [] (z1l [(2,I64 102)]) [] (by kernel_rfl) (W.ret (.inl ⟨rfl,rfl⟩))))
   ·obtain rfl:=Option.some.inj hg
    exact W.skip (.inr ⟨rfl,rfl,rfl⟩)
 rintro o e h a w (⟨rfl,rfl⟩ | ⟨rfl,rfl,rfl⟩) nw
 ·exact hr _ _ _ _ _ rfl nw
 ·refine nw.ex (c:=.seq (.reg [2] [⟨2,none,.rd (.mov (.const (.int .i64 0)))⟩]) .ret) (R:=fun o e h=>o = .ret∧e=z1l [(2,I64 0)]) ⟨[[2]],[],by kernel_rfl⟩ (W.seq (W.regG (RG.fin 1 [] (z1l [(2,I64 0)]) [] (by kernel_rfl) (W.ret ⟨rfl,rfl⟩)))) ?_
  rintro o e h a w ⟨rfl,rfl⟩ nw
  exact hr _ _ _ _ _ rfl nw
end F28
open F28 in
theorem zwa (n:Nat) (a0:List Xa) (r:Int) (hg:g28 n a0=some r):z28 Go.Proofs.Try.prog 41 [.im 3 (a0.map (c1 false))] [] (I64 r) []:=by
 refine Now.call (P:=P) (N:=35) (fn:=Go.Proofs.Try.f41) (ts:=[.t 2]) (by kernel_rfl) F28.body (by kernel_rfl) (by kernel_rfl) fun a w0 Q nw hr=>?_
 rw [e1]
 refine wp_seq (nw.ex (c:=.reg [0] [⟨2,none,.rd (.mov (.const (.int .i64 0)))⟩]) (R:=fun o e h=>o = .normal∧e=z1l [(0,.im 3 (xs a0))]∧h=[]) ⟨[[0]],[],by kernel_rfl⟩ (W.regG (RG.fin 1 [] _ [] (by kernel_rfl) ⟨rfl,rfl,rfl⟩)) ?_)
 rintro o e h a w ⟨rfl,rfl,rfl⟩ nw
 show (Code.seq _ _).wp _ _ _ _
 unfold g28 at hg
 refine wp_seq (nw.ex (c:=.seq (.reg [0,8] [⟨6,none,.rd (.mov (.tmp 0))⟩,⟨7,none,.rd (.len (.tmp 6))⟩,⟨8,none,.rd (.bin .gtr (.tmp 7) (.const (.int .i64 64)))⟩]) (.cond (.tmp 8) (.seq (.reg [2] [⟨2,none,.rd (.mov (.const (.int .i64 2)))⟩]) .ret) .skip))
  (R:=fun o e h=>(o = .ret∧e=z1l [(2,I64 r)])∨(o = .normal∧a0.length≤64∧(zai n a0 []).bind (z8x n a0)=some r∧e=z1l [(0,.im 3 (xs a0)),(8,Bl (decide (((xs a0).length:Int) > 64)))]∧h=[])) ⟨[[0,8],[2]],[],by kernel_rfl⟩ ?_ ?_)
 ·refine W.seq (W.regG (RG.fin 3 [] (z1l [(0,.im 3 (xs a0)),(8,Bl (decide (((xs a0).length:Int) > 64)))]) [] (by kernel_rfl) ?_))
  cases hd:decide (((xs a0).length:Int) > 64) with
  | true =>
   rw [hd] at hg
   obtain rfl:=Option.some.inj hg
   exact W.condT (by kernel_rfl) (W.seq (W.regG (RG.fin 1 [] (z1l [(2,I64 2)]) [] (by kernel_rfl) (W.ret (.inl ⟨rfl,rfl⟩)))))
  | false =>
   rw [hd] at hg
   refine W.condF (by kernel_rfl) (W.skip (.inr ⟨rfl,?_,hg,rfl,rfl⟩))
   simp [xs] at hd
   omega
 rintro o e h a w (⟨rfl,rfl⟩ | ⟨rfl,hlen,hg,rfl,rfl⟩) nw
 ·exact hr _ _ _ _ _ rfl nw
 show (Code.seq _ _).wp _ _ _ _
 refine wp_seq (wp_region ?_)
 have h3:List.range (rops (lf (rt (rt b)))).size=[0,1]:=by kernel_rfl
 rw [h3]
 obtain ⟨o,ho,hgd,hd,hop⟩:=zlp (ops:=R3) (i:=0) (g:=none) (d:=some 9) (op:=.makeMap 138 none) (by kernel_rfl)
 refine nw.make ho hgd hd (by decide) hop fun bm a w nw=>?_
 refine nw.rda (d:=3) (b:=.mov (.tmp 9)) (mp bm) (by kernel_rfl) (by kernel_rfl) fun a w nw=>?_
 have nw:=nw.gh (zc.norm (P:=P) (bm:=[]) (S:=[0,3]) (e1:=z1l [(0,.im 3 (xs a0)),(3,mp bm)]) (h1:=[]) (by kernel_rfl))
 show (Code.seq z q).wp _ _ _ _
 refine wp_seq ?_
 rw [e2]
 refine wp_seq (nw.ex (c:=.reg [0,3,10,11,12] [⟨10,none,.rd (.mov (.tmp 0))⟩,⟨11,none,.rd (.len (.tmp 10))⟩,⟨12,none,.rd (.mov (.const (.int .i64 0)))⟩]) (R:=fun o e h=>o = .normal∧e=EL a0 bm 0∧h=[]) ⟨[[0,3,10,11,12]],[],by kernel_rfl⟩ (W.regG (RG.fin 3 [] _ [] (by kernel_rfl) ⟨rfl,rfl,rfl⟩)) ?_)
 rintro o e h a w ⟨rfl,rfl,rfl⟩ nw
 refine wp_block (z3c.wp (loop (n:=n) (Q:=Exit.inBlock 0 (Exit.then (q.wp P Q) Q)) (w0:=w0) (a0:=a0) (bm:=bm) (r:=r) (fun ks a w hg nw=>?_) (fun m e h a w hv nw=>hr m e h a w hv nw) a0 [] [] a w rfl hlen hg nw))
 exact tail hg nw hr
def k28 (n:Nat):Con Go.Proofs.Try.prog Ty_ where
 f:=41
 X:=(List Xa)
 Y:=Int
 A:=[.im 1]
 H:=[]
 N:=[]
 encA:=fun x=>[.im 1 x]
 encH:=fun _=>[]
 G:=fun x=>g28 n x
 encR:=fun y=>.sc (.int .i64 y)
 encO:=fun _=>[]
 strong:=true
 ok:=fun x y h=>⟨fun _=>zwa n x y h,z28.toG (zwa n x y h)⟩
def yaw (n:Nat):Cx P_ Ty_:=⟨[],[],[],[]⟩
abbrev yax:List (List Nat):=[[2,3],[2,3,6],[2,3,6,7],[2,3,6,7],[4],[2,3,13],[4],[4]]
def zwb (x:Xe×Xb) (p:Bool):EH Ty_:=([(2,.pt 2 [] 0 0),(3,.pt 3 [] 0 0),(6,I_ x.2.Kind_),(7,B_ p)],[(2,.lit 4 [[.im 1 x.1.Sign_,.im 2 x.1.Regs_,.im 3 x.1.Slots_,.im 4 x.1.List_]]),(3,.lit 2 [[I_ x.2.Kind_,I_ x.2.Param_]])])
def y1u (n:Nat) (x:Xe×Xb):Pt P_ Ty_ [] Bool:=.join (S:=Bool) (zwb x) (.ite (x.2.Kind_==1) (.leaf (.inl true)) (.leaf (.inl (x.2.Kind_==2)))) fun s1=>.ite s1 (.leaf (x.2.Param_==0)) (.ite (x.2.Kind_==3) (.ite (decide (x.2.Param_≥(0:Int))) (.leaf (decide (x.2.Param_<(x.1.Sign_.length:Int)))) (.leaf false)) (.leaf false))
def k31 (n:Nat):Con P_ Ty_:=zq (X:=Xe×Xb) (R:=Bool) (pro:=[]) (yaw n) 44 yax (fun x=>.two .no (.two (.two .no (.two (.join Bool (zwb x) ⟨[(2,.ref 2),(3,.ref 3),(6,.any),(7,.any)],[(2,.any),(3,.any)]⟩ .no .no) .no)) .no)) [.ag [.im 1,.im 2,.im 3,.im 4],.ag [.any,.any]] [] [] ⟨[(4,.any)],[]⟩ [] true (fun x=>[.ag [.im 1 x.1.Sign_,.im 2 x.1.Regs_,.im 3 x.1.Slots_,.im 4 x.1.List_],.ag [I_ x.2.Kind_,I_ x.2.Param_]]) (fun x=>[]) (fun y=>([(4,B_ y)],[])) (fun y=>B_ y) (fun y=>[]) (y1u n)
def yau (n:Nat):Cx P_ Ty_:=⟨[k31 n],[],[],[]⟩
abbrev yav:List (List Nat):=[[1,2],[3]]
def y1t (n:Nat) (x:Yby):Pt P_ Ty_ [200000] (Yak):=.call (k31 n) ((⟨x.2.1,x.2.2.1,x.2.2.2.1,x.2.2.2.2⟩:Xe),x.1) fun (y1:Bool)=>.leaf ((!y1),x.2.1,x.2.2.1,x.2.2.2.1,x.2.2.2.2)
def k30 (n:Nat):Con P_ Ty_:=zq (X:=Yby) (R:=Yak) (pro:=[200000]) (yau n) 43 yav (fun x=>.no) [.ag [.any,.any],.pt 200000] [(200000,[.im 1,.im 2,.im 3,.im 4])] [] ⟨[(3,.any)],[(200000,.any)]⟩ [200000] false (fun x=>[.ag [I_ x.1.Kind_,I_ x.1.Param_],.pt 200000 [] 0 0]) (fun x=>[(200000,.lit 4 [[.im 1 x.2.1,.im 2 x.2.2.1,.im 3 x.2.2.2.1,.im 4 x.2.2.2.2]])]) (fun y=>([(3,B_ y.1)],[(200000,.lit 4 [[.im 1 y.2.1,.im 2 y.2.2.1,.im 3 y.2.2.2.1,.im 4 y.2.2.2.2]])])) (fun y=>B_ y.1) (fun y=>[(200000,.lit 4 [[.im 1 y.2.1,.im 2 y.2.2.1,.im 3 y.2.2.2.1,.im 4 y.2.2.2.2]])]) (y1t n)
def y2s (n:Nat):Cx P_ Ty_:=⟨[k30 n],[],[],[]⟩
abbrev y2t:List (List Nat):=[[0,1],[0,1,7,8],[0,1,7,8,9],[0,1,5,7,8],[0,1,5,7,8,16],[4],[0,1,7,8],[4]]
def zx4 (n:Nat) (x:Yas) (v1:Unit) (q1:Yae):Pt P_ Ty_ [200000] (Bo (Yae) (Yae) (Yae)):=.ite (decide (q1.1<(x.1.length:Int))) (.bnd (idx x.1 q1.1) fun y1=>.call (k30 n) (y1,q1.2.1,q1.2.2.1,q1.2.2.2.1,q1.2.2.2.2) fun (y2:Yak)=>.ite y2.1 (.leaf (.ret (q1.1,y2.2.1,y2.2.2.1,y2.2.2.2.1,y2.2.2.2.2))) (.leaf (.go ((IntKind.i64.wrap (q1.1+(1:Int))),y2.2.1,y2.2.2.1,y2.2.2.2.1,y2.2.2.2.2)))) (.leaf (.out (q1.1,q1.2.1,q1.2.2.1,q1.2.2.2.1,q1.2.2.2.2)))
def zx3 (n:Nat) (x:Yas) (v1:Unit):LCon P_ Ty_ [200000]:=lcon (X:=Yae) (Y:=Yae) (Z:=Yae) (y2s n) (subC [1,0,1,0,0] (fnC P_ 73 y2t)) (fun q1=>.no) 0 true ⟨[(0,.im 2),(1,.fn [.ref 200000]),(7,.any),(8,.any)],[(200000,.any)]⟩ ⟨[(0,.im 2),(1,.fn [.ref 200000]),(7,.any),(8,.any),(9,.any)],[(200000,.any)]⟩ ⟨[(4,.any)],[(200000,.any)]⟩ (fun q1=>([(0,.im 2 x.1),(1,.fn 43 [.pt 200000 [] 0 0]),(7,I_ (x.1.length:Int)),(8,I_ q1.1)],[(200000,.lit 4 [[.im 1 q1.2.1,.im 2 q1.2.2.1,.im 3 q1.2.2.2.1,.im 4 q1.2.2.2.2]])])) (fun p=>([(0,.im 2 x.1),(1,.fn 43 [.pt 200000 [] 0 0]),(7,I_ (x.1.length:Int)),(8,I_ p.1),(9,B_ false)],[(200000,.lit 4 [[.im 1 p.2.1,.im 2 p.2.2.1,.im 3 p.2.2.2.1,.im 4 p.2.2.2.2]])])) (fun p=>([(4,I_ p.1)],[(200000,.lit 4 [[.im 1 p.2.1,.im 2 p.2.2.1,.im 3 p.2.2.2.1,.im 4 p.2.2.2.2]])])) n (zx4 n x v1)
def y2u (n:Nat) (x:Yas):Pt P_ Ty_ [200000] (Yae):=.loopR (V:=Unit) (zx3 n x) () ((0:Int),x.2.1,x.2.2.1,x.2.2.2.1,x.2.2.2.2) (fun (v1:Unit) (y3:Yae)=>.leaf ((-1:Int),y3.2.1,y3.2.2.1,y3.2.2.2.1,y3.2.2.2.2)) fun (v1:Unit) (z1:Yae)=>.leaf (z1.1,z1.2.1,z1.2.2.1,z1.2.2.2.1,z1.2.2.2.2)
def k50 (n:Nat):Con P_ Ty_:=zq (X:=Yas) (R:=Yae) (pro:=[200000]) (y2s n) 73 y2t (fun x=>.two .no (.two (.two .no (.two (.loop Unit (zx3 n x) true ⟨[(0,.im 2),(1,.fn [.ref 200000]),(7,.any),(8,.any)],[(200000,.any)]⟩) .no)) .no)) [.im 2,.fn 43 [.pt 200000]] [(200000,[.im 1,.im 2,.im 3,.im 4])] [] ⟨[(4,.any)],[(200000,.any)]⟩ [200000] false (fun x=>[.im 2 x.1,.fn 43 [.pt 200000 [] 0 0]]) (fun x=>[(200000,.lit 4 [[.im 1 x.2.1,.im 2 x.2.2.1,.im 3 x.2.2.2.1,.im 4 x.2.2.2.2]])]) (fun y=>([(4,I_ y.1)],[(200000,.lit 4 [[.im 1 y.2.1,.im 2 y.2.2.1,.im 3 y.2.2.2.1,.im 4 y.2.2.2.2]])])) (fun y=>I_ y.1) (fun y=>[(200000,.lit 4 [[.im 1 y.2.1,.im 2 y.2.2.1,.im 3 y.2.2.2.1,.im 4 y.2.2.2.2]])]) (y2u n)
def yas (n:Nat):Cx P_ Ty_:=⟨[k50 n],[],[],[]⟩
abbrev yat:List (List Nat):=[[0,1],[4]]
def y1s (n:Nat) (x:Yas):Pt P_ Ty_ [200000] (Yak):=.call (k50 n) (x.1,x.2.1,x.2.2.1,x.2.2.2.1,x.2.2.2.2) fun (y1:Yae)=>.leaf ((decide (y1.1≥(0:Int))),y1.2.1,y1.2.2.1,y1.2.2.2.1,y1.2.2.2.2)
def k29 (n:Nat):Con P_ Ty_:=zq (X:=Yas) (R:=Yak) (pro:=[200000]) (yas n) 42 yat (fun x=>.no) [.im 2,.fn 43 [.pt 200000]] [(200000,[.im 1,.im 2,.im 3,.im 4])] [] ⟨[(4,.any)],[(200000,.any)]⟩ [200000] false (fun x=>[.im 2 x.1,.fn 43 [.pt 200000 [] 0 0]]) (fun x=>[(200000,.lit 4 [[.im 1 x.2.1,.im 2 x.2.2.1,.im 3 x.2.2.2.1,.im 4 x.2.2.2.2]])]) (fun y=>([(4,B_ y.1)],[(200000,.lit 4 [[.im 1 y.2.1,.im 2 y.2.2.1,.im 3 y.2.2.2.1,.im 4 y.2.2.2.2]])])) (fun y=>B_ y.1) (fun y=>[(200000,.lit 4 [[.im 1 y.2.1,.im 2 y.2.2.1,.im 3 y.2.2.2.1,.im 4 y.2.2.2.2]])]) (y1s n)
def ybc (n:Nat):Cx P_ Ty_:=⟨[],[],[],[]⟩
abbrev ybd:List (List Nat):=[[0],[2]]
def y2y (n:Nat) (x:Int):Pt P_ Ty_ [] Bool:=.ite (decide ((IntKind.u32.wrap (BitVec.ofInt IntKind.u32.bits x &&& ~~~BitVec.ofInt IntKind.u32.bits (2147483648:Int)).toNat)≤(2139095040:Int))) (.leaf true) (.leaf (x==2143289344))
def k52 (n:Nat):Con P_ Ty_:=zq (X:=Int) (R:=Bool) (pro:=[]) (ybc n) 75 ybd (fun x=>.no) [.any] [] [] ⟨[(2,.any)],[]⟩ [] true (fun x=>[.sc (.int .u32 x)]) (fun x=>[]) (fun y=>([(2,B_ y)],[])) (fun y=>B_ y) (fun y=>[]) (y2y n)
def yb2 (n:Nat):Cx P_ Ty_:=⟨[k31 n,k52 n],[],[],[]⟩
abbrev yb3:List (List Nat):=[[2,3],[3,9],[4],[3,13],[4],[4]]
def y1x (n:Nat) (x:Xe×Xc):Pt P_ Ty_ [] Bool:=.call (k31 n) (x.1,x.2.Type_) fun (y1:Bool)=>.ite (!y1) (.leaf false) (.ite (x.2.Type_.Kind_==2) (.ite (x.2.Bits_==0) (.ite (decide (x.2.Int_≥(0:Int))) (.leaf (decide (x.2.Int_≤(2147483647:Int)))) (.leaf false)) (.leaf false)) (.ite (x.2.Int_==0) (.call (k52 n) x.2.Bits_ fun (y2:Bool)=>.leaf y2) (.leaf false)))
def k34 (n:Nat):Con P_ Ty_:=zq (X:=Xe×Xc) (R:=Bool) (pro:=[]) (yb2 n) 47 yb3 (fun x=>.no) [.ag [.im 1,.im 2,.im 3,.im 4],.ag [.any,.any,.any,.any,.any]] [] [] ⟨[(4,.any)],[]⟩ [] true (fun x=>[.ag [.im 1 x.1.Sign_,.im 2 x.1.Regs_,.im 3 x.1.Slots_,.im 4 x.1.List_],.ag [I_ x.2.Type_.Kind_,I_ x.2.Type_.Param_,B_ x.2.Keep_,.sc (.int .u32 x.2.Bits_),I_ x.2.Int_]]) (fun x=>[]) (fun y=>([(4,B_ y)],[])) (fun y=>B_ y) (fun y=>[]) (y1x n)
def yb0 (n:Nat):Cx P_ Ty_:=⟨[k34 n],[],[],[]⟩
abbrev yb1:List (List Nat):=[[1,2],[3]]
def y1w (n:Nat) (x:Ybz):Pt P_ Ty_ [200000] (Yak):=.call (k34 n) ((⟨x.2.1,x.2.2.1,x.2.2.2.1,x.2.2.2.2⟩:Xe),x.1) fun (y1:Bool)=>.leaf ((!y1),x.2.1,x.2.2.1,x.2.2.2.1,x.2.2.2.2)
def k33 (n:Nat):Con P_ Ty_:=zq (X:=Ybz) (R:=Yak) (pro:=[200000]) (yb0 n) 46 yb1 (fun x=>.no) [.ag [.any,.any,.any,.any,.any],.pt 200000] [(200000,[.im 1,.im 2,.im 3,.im 4])] [] ⟨[(3,.any)],[(200000,.any)]⟩ [200000] false (fun x=>[.ag [I_ x.1.Type_.Kind_,I_ x.1.Type_.Param_,B_ x.1.Keep_,.sc (.int .u32 x.1.Bits_),I_ x.1.Int_],.pt 200000 [] 0 0]) (fun x=>[(200000,.lit 4 [[.im 1 x.2.1,.im 2 x.2.2.1,.im 3 x.2.2.2.1,.im 4 x.2.2.2.2]])]) (fun y=>([(3,B_ y.1)],[(200000,.lit 4 [[.im 1 y.2.1,.im 2 y.2.2.1,.im 3 y.2.2.2.1,.im 4 y.2.2.2.2]])])) (fun y=>B_ y.1) (fun y=>[(200000,.lit 4 [[.im 1 y.2.1,.im 2 y.2.2.1,.im 3 y.2.2.2.1,.im 4 y.2.2.2.2]])]) (y1w n)
def y2v (n:Nat):Cx P_ Ty_:=⟨[k33 n],[],[],[]⟩
abbrev y2w:List (List Nat):=[[0,1],[0,1,7,8],[0,1,7,8,9],[0,1,5,7,8],[0,1,5,7,8,16],[4],[0,1,7,8],[4]]
def zx6 (n:Nat) (x:Yat) (v1:Unit) (q1:Yae):Pt P_ Ty_ [200000] (Bo (Yae) (Yae) (Yae)):=.ite (decide (q1.1<(x.1.length:Int))) (.bnd (idx x.1 q1.1) fun y1=>.call (k33 n) (y1,q1.2.1,q1.2.2.1,q1.2.2.2.1,q1.2.2.2.2) fun (y2:Yak)=>.ite y2.1 (.leaf (.ret (q1.1,y2.2.1,y2.2.2.1,y2.2.2.2.1,y2.2.2.2.2))) (.leaf (.go ((IntKind.i64.wrap (q1.1+(1:Int))),y2.2.1,y2.2.2.1,y2.2.2.2.1,y2.2.2.2.2)))) (.leaf (.out (q1.1,q1.2.1,q1.2.2.1,q1.2.2.2.1,q1.2.2.2.2)))
def zx5 (n:Nat) (x:Yat) (v1:Unit):LCon P_ Ty_ [200000]:=lcon (X:=Yae) (Y:=Yae) (Z:=Yae) (y2v n) (subC [1,0,1,0,0] (fnC P_ 74 y2w)) (fun q1=>.no) 0 true ⟨[(0,.im 3),(1,.fn [.ref 200000]),(7,.any),(8,.any)],[(200000,.any)]⟩ ⟨[(0,.im 3),(1,.fn [.ref 200000]),(7,.any),(8,.any),(9,.any)],[(200000,.any)]⟩ ⟨[(4,.any)],[(200000,.any)]⟩ (fun q1=>([(0,.im 3 x.1),(1,.fn 46 [.pt 200000 [] 0 0]),(7,I_ (x.1.length:Int)),(8,I_ q1.1)],[(200000,.lit 4 [[.im 1 q1.2.1,.im 2 q1.2.2.1,.im 3 q1.2.2.2.1,.im 4 q1.2.2.2.2]])])) (fun p=>([(0,.im 3 x.1),(1,.fn 46 [.pt 200000 [] 0 0]),(7,I_ (x.1.length:Int)),(8,I_ p.1),(9,B_ false)],[(200000,.lit 4 [[.im 1 p.2.1,.im 2 p.2.2.1,.im 3 p.2.2.2.1,.im 4 p.2.2.2.2]])])) (fun p=>([(4,I_ p.1)],[(200000,.lit 4 [[.im 1 p.2.1,.im 2 p.2.2.1,.im 3 p.2.2.2.1,.im 4 p.2.2.2.2]])])) n (zx6 n x v1)
def y2x (n:Nat) (x:Yat):Pt P_ Ty_ [200000] (Yae):=.loopR (V:=Unit) (zx5 n x) () ((0:Int),x.2.1,x.2.2.1,x.2.2.2.1,x.2.2.2.2) (fun (v1:Unit) (y3:Yae)=>.leaf ((-1:Int),y3.2.1,y3.2.2.1,y3.2.2.2.1,y3.2.2.2.2)) fun (v1:Unit) (z1:Yae)=>.leaf (z1.1,z1.2.1,z1.2.2.1,z1.2.2.2.1,z1.2.2.2.2)
def k51 (n:Nat):Con P_ Ty_:=zq (X:=Yat) (R:=Yae) (pro:=[200000]) (y2v n) 74 y2w (fun x=>.two .no (.two (.two .no (.two (.loop Unit (zx5 n x) true ⟨[(0,.im 3),(1,.fn [.ref 200000]),(7,.any),(8,.any)],[(200000,.any)]⟩) .no)) .no)) [.im 3,.fn 46 [.pt 200000]] [(200000,[.im 1,.im 2,.im 3,.im 4])] [] ⟨[(4,.any)],[(200000,.any)]⟩ [200000] false (fun x=>[.im 3 x.1,.fn 46 [.pt 200000 [] 0 0]]) (fun x=>[(200000,.lit 4 [[.im 1 x.2.1,.im 2 x.2.2.1,.im 3 x.2.2.2.1,.im 4 x.2.2.2.2]])]) (fun y=>([(4,I_ y.1)],[(200000,.lit 4 [[.im 1 y.2.1,.im 2 y.2.2.1,.im 3 y.2.2.2.1,.im 4 y.2.2.2.2]])])) (fun y=>I_ y.1) (fun y=>[(200000,.lit 4 [[.im 1 y.2.1,.im 2 y.2.2.1,.im 3 y.2.2.2.1,.im 4 y.2.2.2.2]])]) (y2x n)
def yay (n:Nat):Cx P_ Ty_:=⟨[k51 n],[],[],[]⟩
abbrev yaz:List (List Nat):=[[0,1],[4]]
def y1v (n:Nat) (x:Yat):Pt P_ Ty_ [200000] (Yak):=.call (k51 n) (x.1,x.2.1,x.2.2.1,x.2.2.2.1,x.2.2.2.2) fun (y1:Yae)=>.leaf ((decide (y1.1≥(0:Int))),y1.2.1,y1.2.2.1,y1.2.2.2.1,y1.2.2.2.2)
def k32 (n:Nat):Con P_ Ty_:=zq (X:=Yat) (R:=Yak) (pro:=[200000]) (yay n) 45 yaz (fun x=>.no) [.im 3,.fn 46 [.pt 200000]] [(200000,[.im 1,.im 2,.im 3,.im 4])] [] ⟨[(4,.any)],[(200000,.any)]⟩ [200000] false (fun x=>[.im 3 x.1,.fn 46 [.pt 200000 [] 0 0]]) (fun x=>[(200000,.lit 4 [[.im 1 x.2.1,.im 2 x.2.2.1,.im 3 x.2.2.2.1,.im 4 x.2.2.2.2]])]) (fun y=>([(4,B_ y.1)],[(200000,.lit 4 [[.im 1 y.2.1,.im 2 y.2.2.1,.im 3 y.2.2.2.1,.im 4 y.2.2.2.2]])])) (fun y=>B_ y.1) (fun y=>[(200000,.lit 4 [[.im 1 y.2.1,.im 2 y.2.2.1,.im 3 y.2.2.2.1,.im 4 y.2.2.2.2]])]) (y1v n)
def yao (n:Nat):Cx P_ Ty_:=⟨[],[],[],[]⟩
abbrev yap:List (List Nat):=[[0,2],[2,4],[2,4,5],[2,3],[2,4,8],[2,3],[2,4,11],[2,3],[2,4,14],[2,4,14],[2,4,14],[2,4,14],[2,4,14],[2,4,14],[2,4,14],[2,3],[2,4,23],[2,4,23],[2,4,23],[2,4,23],[2,3],[2,4,29],[2,3],[2,4,32],[2,3],[2,4,35],[2,3],[2,4,38],[2,3],[2,4,41],[2,4,41],[2,3],[2,4,45],[2,4,45],[2,3],[2,4,49],[2,4,49],[2,4,49],[2,4,49],[2,4,49],[2,3],[2,4,56],[2,3],[2,4,59],[2,4,59],[2,3],[2,4,63],[2,3],[2,4,66],[2,3],[2,4,69],[2,3],[2,4,72],[2,3],[2,4,75],[2,3],[2,4,78],[2,78],[2,3],[2,3]]
def zvv (x:Int) (p:Bool):EH Ty_:=([(2,.pt 2 [] 0 0),(4,I_ x),(14,B_ p)],[(2,.lit 5 [[I_ (0:Int),I_ (0:Int),I_ (0:Int),I_ (0:Int),I_ (0:Int)]])])
def zvw (x:Int) (p:Bool):EH Ty_:=([(2,.pt 2 [] 0 0),(4,I_ x),(23,B_ p)],[(2,.lit 5 [[I_ (0:Int),I_ (0:Int),I_ (0:Int),I_ (0:Int),I_ (0:Int)]])])
def zvx (x:Int) (p:Bool):EH Ty_:=([(2,.pt 2 [] 0 0),(4,I_ x),(41,B_ p)],[(2,.lit 5 [[I_ (0:Int),I_ (0:Int),I_ (0:Int),I_ (0:Int),I_ (0:Int)]])])
def zvy (x:Int) (p:Bool):EH Ty_:=([(2,.pt 2 [] 0 0),(4,I_ x),(45,B_ p)],[(2,.lit 5 [[I_ (0:Int),I_ (0:Int),I_ (0:Int),I_ (0:Int),I_ (0:Int)]])])
def zvz (x:Int) (p:Bool):EH Ty_:=([(2,.pt 2 [] 0 0),(4,I_ x),(49,B_ p)],[(2,.lit 5 [[I_ (0:Int),I_ (0:Int),I_ (0:Int),I_ (0:Int),I_ (0:Int)]])])
def zw0 (x:Int) (p:Bool):EH Ty_:=([(2,.pt 2 [] 0 0),(4,I_ x),(59,B_ p)],[(2,.lit 5 [[I_ (0:Int),I_ (0:Int),I_ (0:Int),I_ (0:Int),I_ (0:Int)]])])
def zw1 (x:Int) (p:Bool):EH Ty_:=([(2,.pt 2 [] 0 0),(78,B_ p)],[(2,.lit 5 [[I_ (0:Int),I_ (0:Int),I_ (0:Int),I_ (0:Int),I_ (0:Int)]])])
def y1q (n:Nat) (x:Int):Pt P_ Ty_ [] (Ybr):=.ite (x==1) (.leaf (true,(1:Int),(0:Int),(0:Int),(0:Int),(0:Int))) (.ite (x==2) (.leaf (true,(2:Int),(0:Int),(0:Int),(0:Int),(1:Int))) (.ite (x==3) (.leaf (true,(8:Int),(7:Int),(0:Int),(0:Int),(0:Int))) (.join (S:=Bool) (zvv x) (.ite (x==4) (.leaf (.inl true)) (.ite (x==5) (.leaf (.inl true)) (.ite (x==6) (.leaf (.inl true)) (.ite (x==7) (.leaf (.inl true)) (.ite (x==8) (.leaf (.inl true)) (.ite (x==9) (.leaf (.inl true)) (.leaf (.inl (x==10))))))))) fun s1=>.ite s1 (.leaf (true,(4:Int),(5:Int),(5:Int),(0:Int),(0:Int))) (.join (S:=Bool) (zvw x) (.ite (x==11) (.leaf (.inl true)) (.ite (x==12) (.leaf (.inl true)) (.ite (x==13) (.leaf (.inl true)) (.leaf (.inl (x==14)))))) fun s2=>.ite s2 (.leaf (true,(4:Int),(5:Int),(0:Int),(0:Int),(0:Int))) (.ite (x==15) (.leaf (true,(4:Int),(5:Int),(5:Int),(5:Int),(0:Int))) (.ite (x==16) (.leaf (true,(1:Int),(1:Int),(2:Int),(0:Int),(0:Int))) (.ite (x==17) (.leaf (true,(1:Int),(2:Int),(0:Int),(0:Int),(0:Int))) (.ite (x==18) (.leaf (true,(2:Int),(1:Int),(0:Int),(0:Int),(0:Int))) (.join (S:=Bool) (zvx x) (.ite (x==19) (.leaf (.inl true)) (.leaf (.inl (x==20)))) fun s3=>.ite s3 (.leaf (true,(1:Int),(3:Int),(0:Int),(0:Int),(0:Int))) (.join (S:=Bool) (zvy x) (.ite (x==21) (.leaf (.inl true)) (.leaf (.inl (x==25)))) fun s4=>.ite s4 (.leaf (true,(2:Int),(2:Int),(0:Int),(0:Int),(0:Int))) (.join (S:=Bool) (zvz x) (.ite (x==22) (.leaf (.inl true)) (.ite (x==23) (.leaf (.inl true)) (.ite (x==24) (.leaf (.inl true)) (.ite (x==27) (.leaf (.inl true)) (.leaf (.inl (x==28))))))) fun s5=>.ite s5 (.leaf (true,(2:Int),(2:Int),(2:Int),(0:Int),(0:Int))) (.ite (x==26) (.leaf (true,(2:Int),(2:Int),(2:Int),(2:Int),(0:Int))) (.join (S:=Bool) (zw0 x) (.ite (x==29) (.leaf (.inl true)) (.leaf (.inl (x==30)))) fun s6=>.ite s6 (.leaf (true,(3:Int),(0:Int),(0:Int),(0:Int),(2:Int))) (.ite (x==31) (.leaf (true,(0:Int),(3:Int),(0:Int),(0:Int),(2:Int))) (.ite (x==32) (.leaf (true,(8:Int),(0:Int),(0:Int),(0:Int),(3:Int))) (.ite (x==33) (.leaf (true,(0:Int),(8:Int),(0:Int),(0:Int),(3:Int))) (.ite (x==34) (.leaf (true,(0:Int),(2:Int),(0:Int),(0:Int),(0:Int))) (.ite (x==36) (.leaf (true,(0:Int),(0:Int),(0:Int),(0:Int),(4:Int))) (.join (S:=Bool) (zw1 x) (.ite (x==35) (.leaf (.inl true)) (.leaf (.inl (x==37)))) fun s7=>.ite s7 (.leaf (true,(0:Int),(0:Int),(0:Int),(0:Int),(0:Int))) (.leaf (false,(0:Int),(0:Int),(0:Int),(0:Int),(0:Int))))))))))))))))))))))
def k26 (n:Nat):Con P_ Ty_:=zq (X:=Int) (R:=Ybr) (pro:=[]) (yao n) 76 yap (fun x=>.two .no (.two (.two .no (.two (.two .no (.two .no (.two .no (.two .no (.two .no (.two .no (.join Bool (zvv x) ⟨[(2,.ref 2),(4,.any),(14,.any)],[(2,.any)]⟩ .no (.two .no (.join Bool (zvw x) ⟨[(2,.ref 2),(4,.any),(23,.any)],[(2,.any)]⟩ .no (.two .no (.two .no (.two .no (.two .no (.two .no (.two .no (.two .no (.two .no (.two .no (.join Bool (zvx x) ⟨[(2,.ref 2),(4,.any),(41,.any)],[(2,.any)]⟩ .no (.two .no (.join Bool (zvy x) ⟨[(2,.ref 2),(4,.any),(45,.any)],[(2,.any)]⟩ .no (.two .no (.join Bool (zvz x) ⟨[(2,.ref 2),(4,.any),(49,.any)],[(2,.any)]⟩ .no (.two .no (.two .no (.two .no (.join Bool (zw0 x) ⟨[(2,.ref 2),(4,.any),(59,.any)],[(2,.any)]⟩ .no (.two .no (.two .no (.two .no (.two .no (.two .no (.two .no (.two .no (.two .no (.two .no (.two .no (.two .no (.join Bool (zw1 x) ⟨[(2,.ref 2),(78,.any)],[(2,.any)]⟩ .no .no))))))))))))))))))))))))))))))))))))))) .no)) .no)) [.any] [] [] ⟨[(2,.ref 100000),(3,.any)],[(100000,.any)]⟩ [] true (fun x=>[I_ x]) (fun x=>[]) (fun y=>([(2,.pt 100000 [] 0 0),(3,B_ y.1)],[(100000,.lit 5 [[I_ y.2.1,I_ y.2.2.1,I_ y.2.2.2.1,I_ y.2.2.2.2.1,I_ y.2.2.2.2.2]])])) (fun y=>.tu [.ag [I_ y.2.1,I_ y.2.2.1,I_ y.2.2.2.1,I_ y.2.2.2.2.1,I_ y.2.2.2.2.2],B_ y.1]) (fun y=>[]) (y1q n)
def ybe (n:Nat):Cx P_ Ty_:=⟨[],[],[],[]⟩
abbrev ybf:List (List Nat):=[[0,1,4],[0,1,4,17],[4,5],[4,5]]
def zx7 (x:Ybw) (p:Bool):EH Ty_:=([(0,.pt 200000 [] 0 0),(1,I_ x.2.2.2.2.2.2.2),(4,.pt 4 [] 0 0),(17,B_ p)],[(200000,.lit 7 [[.im 1 x.1,.im 2 x.2.1,.im 3 x.2.2.1,.im 4 x.2.2.2.1,.ow false 5 x.2.2.2.2.1,.ow true 7 x.2.2.2.2.2.1,.ow false 6 x.2.2.2.2.2.2.1]]),(4,.lit 2 [[I_ (0:Int),I_ (0:Int)]])])
def y2z (n:Nat) (x:Ybw):Pt P_ Ty_ [200000] (Ybm):=.join (S:=Bool) (zx7 x) (.ite (decide (x.2.2.2.2.2.2.2<(0:Int))) (.leaf (.inl true)) (.leaf (.inl (decide (x.2.2.2.2.2.2.2≥(x.2.1.length:Int)))))) fun s1=>.ite s1 (.leaf (false,x.1,x.2.1,x.2.2.1,x.2.2.2.1,x.2.2.2.2.1,x.2.2.2.2.2.1,x.2.2.2.2.2.2.1,(0:Int),(0:Int))) (.bnd (idx x.2.1 x.2.2.2.2.2.2.2) fun y1=>.leaf (true,x.1,x.2.1,x.2.2.1,x.2.2.2.1,x.2.2.2.2.1,x.2.2.2.2.2.1,x.2.2.2.2.2.2.1,y1.Kind_,y1.Param_))
def k53 (n:Nat):Con P_ Ty_:=zq (X:=Ybw) (R:=Ybm) (pro:=[200000]) (ybe n) 77 ybf (fun x=>.two .no (.two (.join Bool (zx7 x) ⟨[(0,.ref 200000),(1,.any),(4,.ref 4),(17,.any)],[(200000,.any),(4,.any)]⟩ .no .no) .no)) [.pt 200000,.any] [(200000,[.im 1,.im 2,.im 3,.im 4,.ow false 5,.ow true 7,.ow false 6])] [] ⟨[(4,.ref 100000),(5,.any)],[(200000,.any),(100000,.any)]⟩ [200000] false (fun x=>[.pt 200000 [] 0 0,I_ x.2.2.2.2.2.2.2]) (fun x=>[(200000,.lit 7 [[.im 1 x.1,.im 2 x.2.1,.im 3 x.2.2.1,.im 4 x.2.2.2.1,.ow false 5 x.2.2.2.2.1,.ow true 7 x.2.2.2.2.2.1,.ow false 6 x.2.2.2.2.2.2.1]])]) (fun y=>([(4,.pt 100000 [] 0 0),(5,B_ y.1)],[(200000,.lit 7 [[.im 1 y.2.1,.im 2 y.2.2.1,.im 3 y.2.2.2.1,.im 4 y.2.2.2.2.1,.ow false 5 y.2.2.2.2.2.1,.ow true 7 y.2.2.2.2.2.2.1,.ow false 6 y.2.2.2.2.2.2.2.1]]),(100000,.lit 2 [[I_ y.2.2.2.2.2.2.2.2.1,I_ y.2.2.2.2.2.2.2.2.2]])])) (fun y=>.tu [.ag [I_ y.2.2.2.2.2.2.2.2.1,I_ y.2.2.2.2.2.2.2.2.2],B_ y.1]) (fun y=>[(200000,.lit 7 [[.im 1 y.2.1,.im 2 y.2.2.1,.im 3 y.2.2.2.1,.im 4 y.2.2.2.2.1,.ow false 5 y.2.2.2.2.2.1,.ow true 7 y.2.2.2.2.2.2.1,.ow false 6 y.2.2.2.2.2.2.2.1]])]) (y2z n)
def ybg (n:Nat):Cx P_ Ty_:=⟨[],[],[],[]⟩
abbrev ybh:List (List Nat):=[[1,3,5],[1,3,5,7],[3,5,7,11],[3,5,7,11,12],[6],[3,5,7,11,15],[6],[3,5,7,11,20],[6],[3,5,7,11,25],[6],[3,5,7,11,30],[6],[3,5,7,11,38],[6],[3,5,7,43],[6],[6]]
def y30 (n:Nat) (x:Yca):Pt P_ Ty_ [] Bool:=.ite (x.2.1==1) (.leaf (x.1.Kind_==1)) (.ite (x.2.1==2) (.leaf (x.1.Kind_==2)) (.ite (x.2.1==3) (.leaf (x.1.Kind_==3)) (.ite (x.2.1==4) (.leaf (x.1.Kind_ != (2:Int))) (.ite (x.2.1==5) (.ite (x.1.Kind_==1) (.leaf true) (.leaf (x.1.Kind_==x.2.2.Kind_ && (x.1.Param_==x.2.2.Param_ && true)))) (.ite (x.2.1==6) (.leaf (x.1.Kind_==x.2.2.Kind_ && (x.1.Param_==x.2.2.Param_ && true))) (.ite (x.2.1==7) (.ite (x.1.Kind_==x.2.2.Kind_ && (x.1.Param_==x.2.2.Param_ && true)) (.leaf true) (.ite (x.1.Kind_==1) (.leaf (x.2.2.Kind_==3)) (.leaf false))) (.leaf true)))))))
def k54 (n:Nat):Con P_ Ty_:=zq (X:=Yca) (R:=Bool) (pro:=[]) (ybg n) 78 ybh (fun x=>.no) [.ag [.any,.any],.any,.ag [.any,.any]] [] [] ⟨[(6,.any)],[]⟩ [] true (fun x=>[.ag [I_ x.1.Kind_,I_ x.1.Param_],I_ x.2.1,.ag [I_ x.2.2.Kind_,I_ x.2.2.Param_]]) (fun x=>[]) (fun y=>([(6,B_ y)],[])) (fun y=>B_ y) (fun y=>[]) (y30 n)
def y1y (n:Nat):Cx P_ Ty_:=⟨[k26 n,k53 n,k54 n,k52 n],[],[],[]⟩
abbrev y1z:List (List Nat):=[[0,3],[0,3,5,6],[0,3,5,21],[4],[0,3,5,7,8],[0,3,5,7,8,30,31],[0,3,5,7,8,30,31,32],[0,3,5,7,8,9,10,30,31],[0,3,5,7,8,9,10,11,30,31],[0,3,5,7,8,9,10,11,30,31,47],[0,3,5,7,8,30,31,49],[4],[0,3,5,7,8,9,10,12,13,30,31],[0,3,5,7,8,9,12,30,31,64],[4],[0,3,5,7,8,12,30,31,65],[0,3,5,7,8,12,30,31,65,66],[0,3,5,7,8,30,31],[0,3,5,7,8,12,30,31,70],[0,3,5,7,8,12,30,31,74],[0,3,5,7,8,30,31],[0,3,5,7,8,30,31],[0,3,5,8,95],[4],[0,3,8,97],[0,3,8,97,98],[4],[0,3,8,97,108],[4],[0,3,8,97,131],[4],[0,3,161],[4],[4]]
def zwd (x:Yaf) (v1:Ybd) (q1:Yau) (p:Ybm):EH Ty_:=([(0,.pt 200000 [] 0 0),(3,.pt 3 [] 0 0),(5,.pt 5 [] 0 0),(7,.pt 7 [] 0 0),(8,.pt 8 [] 0 0),(9,I_ q1.1),(12,.pt 12 [] 0 0),(30,.ag [I_ v1.1,I_ v1.2.1,I_ v1.2.2.1,I_ v1.2.2.2.1]),(31,I_ q1.1),(64,B_ p.1)],[(200000,.lit 7 [[.im 1 p.2.1,.im 2 p.2.2.1,.im 3 p.2.2.2.1,.im 4 p.2.2.2.2.1,.ow false 5 p.2.2.2.2.2.1,.ow true 7 p.2.2.2.2.2.2.1,.ow false 6 p.2.2.2.2.2.2.2.1]]),(3,.lit 7 [[I_ x.2.2.2.2.2.2.2.Op_,I_ x.2.2.2.2.2.2.2.D_,I_ x.2.2.2.2.2.2.2.A_,I_ x.2.2.2.2.2.2.2.B_,I_ x.2.2.2.2.2.2.2.C_,I_ x.2.2.2.2.2.2.2.N_,.sc (.int .u32 x.2.2.2.2.2.2.2.Bits_)]]),(5,.lit 5 [[I_ v1.1,I_ v1.2.1,I_ v1.2.2.1,I_ v1.2.2.2.1,I_ v1.2.2.2.2]]),(7,.lit 2 [[I_ q1.2.2.2.2.2.2.2.2.1,I_ q1.2.2.2.2.2.2.2.2.2.1]]),(8,.lit 2 [[I_ q1.2.2.2.2.2.2.2.2.2.2.1,I_ q1.2.2.2.2.2.2.2.2.2.2.2]]),(12,.lit 2 [[I_ p.2.2.2.2.2.2.2.2.1,I_ p.2.2.2.2.2.2.2.2.2]])])
def zwe (x:Yaf) (p:Ycn):EH Ty_:=([(0,.pt 200000 [] 0 0),(3,.pt 3 [] 0 0),(5,.pt 5 [] 0 0),(8,.pt 8 [] 0 0),(95,B_ p.1)],[(200000,.lit 7 [[.im 1 p.2.1,.im 2 p.2.2.1,.im 3 p.2.2.2.1,.im 4 p.2.2.2.2.1,.ow false 5 p.2.2.2.2.2.1,.ow true 7 p.2.2.2.2.2.2.1,.ow false 6 p.2.2.2.2.2.2.2.1]]),(3,.lit 7 [[I_ x.2.2.2.2.2.2.2.Op_,I_ x.2.2.2.2.2.2.2.D_,I_ x.2.2.2.2.2.2.2.A_,I_ x.2.2.2.2.2.2.2.B_,I_ x.2.2.2.2.2.2.2.C_,I_ x.2.2.2.2.2.2.2.N_,.sc (.int .u32 x.2.2.2.2.2.2.2.Bits_)]]),(5,.lit 5 [[I_ p.2.2.2.2.2.2.2.2.1,I_ p.2.2.2.2.2.2.2.2.2.1,I_ p.2.2.2.2.2.2.2.2.2.2.1,I_ p.2.2.2.2.2.2.2.2.2.2.2.1,I_ p.2.2.2.2.2.2.2.2.2.2.2.2.1]]),(8,.lit 2 [[I_ p.2.2.2.2.2.2.2.2.2.2.2.2.2.1,I_ p.2.2.2.2.2.2.2.2.2.2.2.2.2.2]])])
def zwf (n:Nat) (x:Yaf) (v1:Ybd) (q1:Yau):Pt P_ Ty_ [200000] (Bo (Yau) (Yau) (Ycb)):=.ite (decide (q1.1<(4:Int))) (.bnd (idx [v1.1,v1.2.1,v1.2.2.1,v1.2.2.2.1] q1.1) fun y2=>.bnd (idx [x.2.2.2.2.2.2.2.D_,x.2.2.2.2.2.2.2.A_,x.2.2.2.2.2.2.2.B_,x.2.2.2.2.2.2.2.C_] q1.1) fun y3=>.ite (y2==0) (.ite (y3 != (0:Int)) (.leaf (.ret (q1.2.1,q1.2.2.1,q1.2.2.2.1,q1.2.2.2.2.1,q1.2.2.2.2.2.1,q1.2.2.2.2.2.2.1,q1.2.2.2.2.2.2.2.1))) (.leaf (.go ((IntKind.i64.wrap (q1.1+(1:Int))),q1.2.1,q1.2.2.1,q1.2.2.2.1,q1.2.2.2.2.1,q1.2.2.2.2.2.1,q1.2.2.2.2.2.2.1,q1.2.2.2.2.2.2.2.1,q1.2.2.2.2.2.2.2.2.1,q1.2.2.2.2.2.2.2.2.2.1,q1.2.2.2.2.2.2.2.2.2.2.1,q1.2.2.2.2.2.2.2.2.2.2.2)))) (.call (k53 n) (q1.2.1,q1.2.2.1,q1.2.2.2.1,q1.2.2.2.2.1,q1.2.2.2.2.2.1,q1.2.2.2.2.2.2.1,q1.2.2.2.2.2.2.2.1,y3) fun (y4:Ybm)=>.join (S:=Ybm) (zwd x v1 q1) (.ite (!y4.1) (.leaf (.inl (true,y4.2.1,y4.2.2.1,y4.2.2.2.1,y4.2.2.2.2.1,y4.2.2.2.2.2.1,y4.2.2.2.2.2.2.1,y4.2.2.2.2.2.2.2.1,y4.2.2.2.2.2.2.2.2.1,y4.2.2.2.2.2.2.2.2.2))) (.call (k54 n) ((⟨y4.2.2.2.2.2.2.2.2.1,y4.2.2.2.2.2.2.2.2.2⟩:Xb),y2,(⟨q1.2.2.2.2.2.2.2.2.1,q1.2.2.2.2.2.2.2.2.2.1⟩:Xb)) fun (y5:Bool)=>.leaf (.inl ((!y5),y4.2.1,y4.2.2.1,y4.2.2.2.1,y4.2.2.2.2.1,y4.2.2.2.2.2.1,y4.2.2.2.2.2.2.1,y4.2.2.2.2.2.2.2.1,y4.2.2.2.2.2.2.2.2.1,y4.2.2.2.2.2.2.2.2.2)))) fun s1=>.ite s1.1 (.leaf (.ret (s1.2.1,s1.2.2.1,s1.2.2.2.1,s1.2.2.2.2.1,s1.2.2.2.2.2.1,s1.2.2.2.2.2.2.1,s1.2.2.2.2.2.2.2.1))) (.ite (q1.1==0) (.leaf (.go ((IntKind.i64.wrap (q1.1+(1:Int))),s1.2.1,s1.2.2.1,s1.2.2.2.1,s1.2.2.2.2.1,s1.2.2.2.2.2.1,s1.2.2.2.2.2.2.1,s1.2.2.2.2.2.2.2.1,s1.2.2.2.2.2.2.2.2.1,s1.2.2.2.2.2.2.2.2.2,s1.2.2.2.2.2.2.2.2.1,s1.2.2.2.2.2.2.2.2.2))) (.ite (q1.1==1) (.ite (v1.1==0) (.leaf (.go ((IntKind.i64.wrap (q1.1+(1:Int))),s1.2.1,s1.2.2.1,s1.2.2.2.1,s1.2.2.2.2.1,s1.2.2.2.2.2.1,s1.2.2.2.2.2.2.1,s1.2.2.2.2.2.2.2.1,q1.2.2.2.2.2.2.2.2.1,q1.2.2.2.2.2.2.2.2.2.1,s1.2.2.2.2.2.2.2.2.1,s1.2.2.2.2.2.2.2.2.2))) (.leaf (.go ((IntKind.i64.wrap (q1.1+(1:Int))),s1.2.1,s1.2.2.1,s1.2.2.2.1,s1.2.2.2.2.1,s1.2.2.2.2.2.1,s1.2.2.2.2.2.2.1,s1.2.2.2.2.2.2.2.1,q1.2.2.2.2.2.2.2.2.1,q1.2.2.2.2.2.2.2.2.2.1,q1.2.2.2.2.2.2.2.2.2.2.1,q1.2.2.2.2.2.2.2.2.2.2.2)))) (.leaf (.go ((IntKind.i64.wrap (q1.1+(1:Int))),s1.2.1,s1.2.2.1,s1.2.2.2.1,s1.2.2.2.2.1,s1.2.2.2.2.2.1,s1.2.2.2.2.2.2.1,s1.2.2.2.2.2.2.2.1,q1.2.2.2.2.2.2.2.2.1,q1.2.2.2.2.2.2.2.2.2.1,q1.2.2.2.2.2.2.2.2.2.2.1,q1.2.2.2.2.2.2.2.2.2.2.2))))))) (.leaf (.out (q1.1,q1.2.1,q1.2.2.1,q1.2.2.2.1,q1.2.2.2.2.1,q1.2.2.2.2.2.1,q1.2.2.2.2.2.2.1,q1.2.2.2.2.2.2.2.1,q1.2.2.2.2.2.2.2.2.1,q1.2.2.2.2.2.2.2.2.2.1,q1.2.2.2.2.2.2.2.2.2.2.1,q1.2.2.2.2.2.2.2.2.2.2.2)))
def zwc (n:Nat) (x:Yaf) (v1:Ybd):LCon P_ Ty_ [200000]:=lcon (X:=Yau) (Y:=Yau) (Z:=Ycb) (y1y n) (subC [1,1,1,1,0,1,0,0] (fnC P_ 48 y1z)) (fun q1=>.two .no (.two .no (.two (.two (.two .no (.two .no (.two .no (.two .no (.two (.join (Ybm) (zwd x v1 q1) ⟨[(0,.ref 200000),(3,.ref 3),(5,.ref 5),(7,.ref 7),(8,.ref 8),(9,.any),(12,.ref 12),(30,.any),(31,.any),(64,.any)],[(200000,.any),(3,.any),(5,.any),(7,.any),(8,.any),(12,.any)]⟩ .no .no) .no))))) .no) .no))) 0 true ⟨[(0,.ref 200000),(3,.ref 3),(5,.ref 5),(7,.ref 7),(8,.ref 8),(30,.any),(31,.any)],[(200000,.any),(3,.any),(5,.any),(7,.any),(8,.any)]⟩ ⟨[(0,.ref 200000),(3,.ref 3),(5,.ref 5),(7,.ref 7),(8,.ref 8),(30,.any),(31,.any),(32,.any)],[(200000,.any),(3,.any),(5,.any),(7,.any),(8,.any)]⟩ ⟨[(4,.any)],[(200000,.any)]⟩ (fun q1=>([(0,.pt 200000 [] 0 0),(3,.pt 3 [] 0 0),(5,.pt 5 [] 0 0),(7,.pt 7 [] 0 0),(8,.pt 8 [] 0 0),(30,.ag [I_ v1.1,I_ v1.2.1,I_ v1.2.2.1,I_ v1.2.2.2.1]),(31,I_ q1.1)],[(200000,.lit 7 [[.im 1 q1.2.1,.im 2 q1.2.2.1,.im 3 q1.2.2.2.1,.im 4 q1.2.2.2.2.1,.ow false 5 q1.2.2.2.2.2.1,.ow true 7 q1.2.2.2.2.2.2.1,.ow false 6 q1.2.2.2.2.2.2.2.1]]),(3,.lit 7 [[I_ x.2.2.2.2.2.2.2.Op_,I_ x.2.2.2.2.2.2.2.D_,I_ x.2.2.2.2.2.2.2.A_,I_ x.2.2.2.2.2.2.2.B_,I_ x.2.2.2.2.2.2.2.C_,I_ x.2.2.2.2.2.2.2.N_,.sc (.int .u32 x.2.2.2.2.2.2.2.Bits_)]]),(5,.lit 5 [[I_ v1.1,I_ v1.2.1,I_ v1.2.2.1,I_ v1.2.2.2.1,I_ v1.2.2.2.2]]),(7,.lit 2 [[I_ q1.2.2.2.2.2.2.2.2.1,I_ q1.2.2.2.2.2.2.2.2.2.1]]),(8,.lit 2 [[I_ q1.2.2.2.2.2.2.2.2.2.2.1,I_ q1.2.2.2.2.2.2.2.2.2.2.2]])])) (fun p=>([(0,.pt 200000 [] 0 0),(3,.pt 3 [] 0 0),(5,.pt 5 [] 0 0),(7,.pt 7 [] 0 0),(8,.pt 8 [] 0 0),(30,.ag [I_ v1.1,I_ v1.2.1,I_ v1.2.2.1,I_ v1.2.2.2.1]),(31,I_ p.1),(32,B_ false)],[(200000,.lit 7 [[.im 1 p.2.1,.im 2 p.2.2.1,.im 3 p.2.2.2.1,.im 4 p.2.2.2.2.1,.ow false 5 p.2.2.2.2.2.1,.ow true 7 p.2.2.2.2.2.2.1,.ow false 6 p.2.2.2.2.2.2.2.1]]),(3,.lit 7 [[I_ x.2.2.2.2.2.2.2.Op_,I_ x.2.2.2.2.2.2.2.D_,I_ x.2.2.2.2.2.2.2.A_,I_ x.2.2.2.2.2.2.2.B_,I_ x.2.2.2.2.2.2.2.C_,I_ x.2.2.2.2.2.2.2.N_,.sc (.int .u32 x.2.2.2.2.2.2.2.Bits_)]]),(5,.lit 5 [[I_ v1.1,I_ v1.2.1,I_ v1.2.2.1,I_ v1.2.2.2.1,I_ v1.2.2.2.2]]),(7,.lit 2 [[I_ p.2.2.2.2.2.2.2.2.1,I_ p.2.2.2.2.2.2.2.2.2.1]]),(8,.lit 2 [[I_ p.2.2.2.2.2.2.2.2.2.2.1,I_ p.2.2.2.2.2.2.2.2.2.2.2]])])) (fun p=>([(4,B_ false)],[(200000,.lit 7 [[.im 1 p.1,.im 2 p.2.1,.im 3 p.2.2.1,.im 4 p.2.2.2.1,.ow false 5 p.2.2.2.2.1,.ow true 7 p.2.2.2.2.2.1,.ow false 6 p.2.2.2.2.2.2]])])) n (zwf n x v1)
def y2a (n:Nat) (x:Yaf):Pt P_ Ty_ [200000] (Yap):=.call (k26 n) x.2.2.2.2.2.2.2.Op_ fun (y1:Ybr)=>.ite (!y1.1) (.leaf (false,x.1,x.2.1,x.2.2.1,x.2.2.2.1,x.2.2.2.2.1,x.2.2.2.2.2.1,x.2.2.2.2.2.2.1)) (.loopR (V:=Ybd) (zwc n x) (y1.2.1,y1.2.2.1,y1.2.2.2.1,y1.2.2.2.2.1,y1.2.2.2.2.2) ((0:Int),x.1,x.2.1,x.2.2.1,x.2.2.2.1,x.2.2.2.2.1,x.2.2.2.2.2.1,x.2.2.2.2.2.2.1,(0:Int),(0:Int),(0:Int),(0:Int)) (fun (v1:Ybd) (y6:Yau)=>.join (S:=Ycn) (zwe x) (.ite (x.2.2.2.2.2.2.2.Op_==1) (.call (k52 n) x.2.2.2.2.2.2.2.Bits_ fun (y7:Bool)=>.ite (!y7) (.leaf (.inl (true,y6.2.1,y6.2.2.1,y6.2.2.2.1,y6.2.2.2.2.1,y6.2.2.2.2.2.1,y6.2.2.2.2.2.2.1,y6.2.2.2.2.2.2.2.1,v1.1,v1.2.1,v1.2.2.1,v1.2.2.2.1,v1.2.2.2.2,y6.2.2.2.2.2.2.2.2.2.2.1,y6.2.2.2.2.2.2.2.2.2.2.2))) (.ite (x.2.2.2.2.2.2.2.Op_ != (1:Int)) (.leaf (.inl ((x.2.2.2.2.2.2.2.Bits_ != (0:Int)),y6.2.1,y6.2.2.1,y6.2.2.2.1,y6.2.2.2.2.1,y6.2.2.2.2.2.1,y6.2.2.2.2.2.2.1,y6.2.2.2.2.2.2.2.1,v1.1,v1.2.1,v1.2.2.1,v1.2.2.2.1,v1.2.2.2.2,y6.2.2.2.2.2.2.2.2.2.2.1,y6.2.2.2.2.2.2.2.2.2.2.2))) (.leaf (.inl (false,y6.2.1,y6.2.2.1,y6.2.2.2.1,y6.2.2.2.2.1,y6.2.2.2.2.2.1,y6.2.2.2.2.2.2.1,y6.2.2.2.2.2.2.2.1,v1.1,v1.2.1,v1.2.2.1,v1.2.2.2.1,v1.2.2.2.2,y6.2.2.2.2.2.2.2.2.2.2.1,y6.2.2.2.2.2.2.2.2.2.2.2))))) (.ite (x.2.2.2.2.2.2.2.Op_ != (1:Int)) (.leaf (.inl ((x.2.2.2.2.2.2.2.Bits_ != (0:Int)),y6.2.1,y6.2.2.1,y6.2.2.2.1,y6.2.2.2.2.1,y6.2.2.2.2.2.1,y6.2.2.2.2.2.2.1,y6.2.2.2.2.2.2.2.1,v1.1,v1.2.1,v1.2.2.1,v1.2.2.2.1,v1.2.2.2.2,y6.2.2.2.2.2.2.2.2.2.2.1,y6.2.2.2.2.2.2.2.2.2.2.2))) (.leaf (.inl (false,y6.2.1,y6.2.2.1,y6.2.2.2.1,y6.2.2.2.2.1,y6.2.2.2.2.2.1,y6.2.2.2.2.2.2.1,y6.2.2.2.2.2.2.2.1,v1.1,v1.2.1,v1.2.2.1,v1.2.2.2.1,v1.2.2.2.2,y6.2.2.2.2.2.2.2.2.2.2.1,y6.2.2.2.2.2.2.2.2.2.2.2))))) fun s2=>.ite s2.1 (.leaf (false,s2.2.1,s2.2.2.1,s2.2.2.2.1,s2.2.2.2.2.1,s2.2.2.2.2.2.1,s2.2.2.2.2.2.2.1,s2.2.2.2.2.2.2.2.1)) (.ite (s2.2.2.2.2.2.2.2.2.2.2.2.2.1==1) (.ite (decide (x.2.2.2.2.2.2.2.N_≥(0:Int))) (.leaf ((decide (x.2.2.2.2.2.2.2.N_≤(2147483647:Int))),s2.2.1,s2.2.2.1,s2.2.2.2.1,s2.2.2.2.2.1,s2.2.2.2.2.2.1,s2.2.2.2.2.2.2.1,s2.2.2.2.2.2.2.2.1)) (.leaf (false,s2.2.1,s2.2.2.1,s2.2.2.2.1,s2.2.2.2.2.1,s2.2.2.2.2.2.1,s2.2.2.2.2.2.2.1,s2.2.2.2.2.2.2.2.1))) (.ite (s2.2.2.2.2.2.2.2.2.2.2.2.2.1==2) (.ite (x.2.2.2.2.2.2.2.N_==0) (.leaf (true,s2.2.1,s2.2.2.1,s2.2.2.2.1,s2.2.2.2.2.1,s2.2.2.2.2.2.1,s2.2.2.2.2.2.2.1,s2.2.2.2.2.2.2.2.1)) (.ite (x.2.2.2.2.2.2.2.N_==1) (.bnd (idx s2.2.1 s2.2.2.2.2.2.2.2.2.2.2.2.2.2.2) fun y8=>.leaf ((y8.Kind_==2),s2.2.1,s2.2.2.1,s2.2.2.2.1,s2.2.2.2.2.1,s2.2.2.2.2.2.1,s2.2.2.2.2.2.2.1,s2.2.2.2.2.2.2.2.1)) (.leaf (false,s2.2.1,s2.2.2.1,s2.2.2.2.1,s2.2.2.2.2.1,s2.2.2.2.2.2.1,s2.2.2.2.2.2.2.1,s2.2.2.2.2.2.2.2.1)))) (.ite (s2.2.2.2.2.2.2.2.2.2.2.2.2.1==3) (.ite (decide (x.2.2.2.2.2.2.2.N_≥(0:Int))) (.ite (decide (x.2.2.2.2.2.2.2.N_<(s2.2.2.2.1.length:Int))) (.bnd (idx s2.2.2.2.1 x.2.2.2.2.2.2.2.N_) fun y9=>.leaf ((y9.Type_.Kind_==s2.2.2.2.2.2.2.2.2.2.2.2.2.2.1 && (y9.Type_.Param_==s2.2.2.2.2.2.2.2.2.2.2.2.2.2.2 && true)),s2.2.1,s2.2.2.1,s2.2.2.2.1,s2.2.2.2.2.1,s2.2.2.2.2.2.1,s2.2.2.2.2.2.2.1,s2.2.2.2.2.2.2.2.1)) (.leaf (false,s2.2.1,s2.2.2.1,s2.2.2.2.1,s2.2.2.2.2.1,s2.2.2.2.2.2.1,s2.2.2.2.2.2.2.1,s2.2.2.2.2.2.2.2.1))) (.leaf (false,s2.2.1,s2.2.2.1,s2.2.2.2.1,s2.2.2.2.2.1,s2.2.2.2.2.2.1,s2.2.2.2.2.2.2.1,s2.2.2.2.2.2.2.2.1))) (.ite (s2.2.2.2.2.2.2.2.2.2.2.2.2.1==4) (.ite (decide (x.2.2.2.2.2.2.2.N_≥(0:Int))) (.leaf ((decide (x.2.2.2.2.2.2.2.N_<(s2.2.1.length:Int))),s2.2.1,s2.2.2.1,s2.2.2.2.1,s2.2.2.2.2.1,s2.2.2.2.2.2.1,s2.2.2.2.2.2.2.1,s2.2.2.2.2.2.2.2.1)) (.leaf (false,s2.2.1,s2.2.2.1,s2.2.2.2.1,s2.2.2.2.2.1,s2.2.2.2.2.2.1,s2.2.2.2.2.2.2.1,s2.2.2.2.2.2.2.2.1))) (.leaf ((x.2.2.2.2.2.2.2.N_==0),s2.2.1,s2.2.2.1,s2.2.2.2.1,s2.2.2.2.2.1,s2.2.2.2.2.2.1,s2.2.2.2.2.2.2.1,s2.2.2.2.2.2.2.2.1))))))) fun (v1:Ybd) (z1:Ycb)=>.leaf (false,z1.1,z1.2.1,z1.2.2.1,z1.2.2.2.1,z1.2.2.2.2.1,z1.2.2.2.2.2.1,z1.2.2.2.2.2.2))
def k35 (n:Nat):Con P_ Ty_:=zq (X:=Yaf) (R:=Yap) (pro:=[200000]) (y1y n) 48 y1z (fun x=>.two .no (.two .no (.two .no (.two .no (.two (.two .no (.two (.loop (Ybd) (zwc n x) true ⟨[(0,.ref 200000),(3,.ref 3),(5,.ref 5),(7,.ref 7),(8,.ref 8),(30,.any),(31,.any)],[(200000,.any),(3,.any),(5,.any),(7,.any),(8,.any)]⟩) .no)) (.two (.join (Ycn) (zwe x) ⟨[(0,.ref 200000),(3,.ref 3),(5,.ref 5),(8,.ref 8),(95,.any)],[(200000,.any),(3,.any),(5,.any),(8,.any)]⟩ .no .no) .no)))))) [.pt 200000,.ag [.any,.any,.any,.any,.any,.any,.any]] [(200000,[.im 1,.im 2,.im 3,.im 4,.ow false 5,.ow true 7,.ow false 6])] [] ⟨[(4,.any)],[(200000,.any)]⟩ [200000] false (fun x=>[.pt 200000 [] 0 0,.ag [I_ x.2.2.2.2.2.2.2.Op_,I_ x.2.2.2.2.2.2.2.D_,I_ x.2.2.2.2.2.2.2.A_,I_ x.2.2.2.2.2.2.2.B_,I_ x.2.2.2.2.2.2.2.C_,I_ x.2.2.2.2.2.2.2.N_,.sc (.int .u32 x.2.2.2.2.2.2.2.Bits_)]]) (fun x=>[(200000,.lit 7 [[.im 1 x.1,.im 2 x.2.1,.im 3 x.2.2.1,.im 4 x.2.2.2.1,.ow false 5 x.2.2.2.2.1,.ow true 7 x.2.2.2.2.2.1,.ow false 6 x.2.2.2.2.2.2.1]])]) (fun y=>([(4,B_ y.1)],[(200000,.lit 7 [[.im 1 y.2.1,.im 2 y.2.2.1,.im 3 y.2.2.2.1,.im 4 y.2.2.2.2.1,.ow false 5 y.2.2.2.2.2.1,.ow true 7 y.2.2.2.2.2.2.1,.ow false 6 y.2.2.2.2.2.2.2]])])) (fun y=>B_ y.1) (fun y=>[(200000,.lit 7 [[.im 1 y.2.1,.im 2 y.2.2.1,.im 3 y.2.2.2.1,.im 4 y.2.2.2.2.1,.ow false 5 y.2.2.2.2.2.1,.ow true 7 y.2.2.2.2.2.2.1,.ow false 6 y.2.2.2.2.2.2.2]])]) (y2a n)
def yak (n:Nat):Cx P_ Ty_:=⟨[],[],[],[]⟩
abbrev yal:List (List Nat):=[[0],[2]]
def y1j (n:Nat) (x:Int):Pt P_ Ty_ [] Bool:=.ite (decide (x≥(3:Int))) (.leaf (decide (x≤(15:Int)))) (.leaf false)
def k13 (n:Nat):Con P_ Ty_:=zq (X:=Int) (R:=Bool) (pro:=[]) (yak n) 79 yal (fun x=>.no) [.any] [] [] ⟨[(2,.any)],[]⟩ [] true (fun x=>[I_ x]) (fun x=>[]) (fun y=>([(2,B_ y)],[])) (fun y=>B_ y) (fun y=>[]) (y1j n)
def y2b (n:Nat):Cx P_ Ty_:=⟨[k13 n],[(53,false,6)],[],[]⟩
abbrev y2c:List (List Nat):=[[0,3],[0,3,5],[0,3,5,15],[0,3,5],[0,3,5,29],[0,3,5,29,30],[0,3,5,29,30],[0,3,42],[4],[0,3,45],[],[4],[0,3,5,29,57],[0,68],[4],[0,6],[0,6,81,82,83],[0,6,81,82,83,84],[0,6,8,81,82,83],[0,6,81,82,83],[0,6,81,82,83],[0],[],[4],[0,3,5,117],[0,120],[4],[],[4],[0,3,5,136],[4],[0,3,9],[0,3,9,139],[0,3,9,139],[0,3,9,139],[0,3,9,139],[4],[0,3,9,163],[0,3,9,163],[4],[4]]
def zwh (x:Yaf) (p:Int):EH Ty_:=([(0,.pt 200000 [] 0 0),(3,.pt 3 [] 0 0),(5,I_ p)],[(200000,.lit 7 [[.im 1 x.1,.im 2 x.2.1,.im 3 x.2.2.1,.im 4 x.2.2.2.1,.ow false 5 x.2.2.2.2.1,.ow true 7 x.2.2.2.2.2.1,.ow false 6 x.2.2.2.2.2.2.1]]),(3,.lit 7 [[I_ x.2.2.2.2.2.2.2.Op_,I_ x.2.2.2.2.2.2.2.D_,I_ x.2.2.2.2.2.2.2.A_,I_ x.2.2.2.2.2.2.2.B_,I_ x.2.2.2.2.2.2.2.C_,I_ x.2.2.2.2.2.2.2.N_,.sc (.int .u32 x.2.2.2.2.2.2.2.Bits_)]])])
def zwi (x:Yaf) (p:Yaj):EH Ty_:=([(0,.pt 200000 [] 0 0),(3,.pt 3 [] 0 0),(5,I_ p.1),(29,I_ x.2.2.2.2.2.2.2.Op_),(30,B_ p.2)],[(200000,.lit 7 [[.im 1 x.1,.im 2 x.2.1,.im 3 x.2.2.1,.im 4 x.2.2.2.1,.ow false 5 x.2.2.2.2.1,.ow true 7 x.2.2.2.2.2.1,.ow false 6 x.2.2.2.2.2.2.1]]),(3,.lit 7 [[I_ x.2.2.2.2.2.2.2.Op_,I_ x.2.2.2.2.2.2.2.D_,I_ x.2.2.2.2.2.2.2.A_,I_ x.2.2.2.2.2.2.2.B_,I_ x.2.2.2.2.2.2.2.C_,I_ x.2.2.2.2.2.2.2.N_,.sc (.int .u32 x.2.2.2.2.2.2.2.Bits_)]])])
def zwj (x:Yaf) (p:Bool):EH Ty_:=([(0,.pt 200000 [] 0 0),(3,.pt 3 [] 0 0),(42,B_ p)],[(200000,.lit 7 [[.im 1 x.1,.im 2 x.2.1,.im 3 x.2.2.1,.im 4 x.2.2.2.1,.ow false 5 x.2.2.2.2.1,.ow true 7 x.2.2.2.2.2.1,.ow false 6 x.2.2.2.2.2.2.1]]),(3,.lit 7 [[I_ x.2.2.2.2.2.2.2.Op_,I_ x.2.2.2.2.2.2.2.D_,I_ x.2.2.2.2.2.2.2.A_,I_ x.2.2.2.2.2.2.2.B_,I_ x.2.2.2.2.2.2.2.C_,I_ x.2.2.2.2.2.2.2.N_,.sc (.int .u32 x.2.2.2.2.2.2.2.Bits_)]])])
def zwk (x:Yaf) (p:Bool):EH Ty_:=([(0,.pt 200000 [] 0 0),(68,B_ p)],[(200000,.lit 7 [[.im 1 x.1,.im 2 x.2.1,.im 3 x.2.2.1,.im 4 x.2.2.2.1,.ow false 5 x.2.2.2.2.1,.ow true 7 x.2.2.2.2.2.1,.ow false 6 x.2.2.2.2.2.2.1]])])
def zwl (x:Yaf) (p:Ybs):EH Ty_:=([(0,.pt 200000 [] 0 0),(3,.pt 3 [] 0 0),(9,.pt 9 [] 0 0),(139,B_ p.1)],[(200000,.lit 7 [[.im 1 x.1,.im 2 x.2.1,.im 3 x.2.2.1,.im 4 x.2.2.2.1,.ow false 5 x.2.2.2.2.1,.ow true 7 x.2.2.2.2.2.1,.ow false 6 x.2.2.2.2.2.2.1]]),(3,.lit 7 [[I_ x.2.2.2.2.2.2.2.Op_,I_ x.2.2.2.2.2.2.2.D_,I_ x.2.2.2.2.2.2.2.A_,I_ x.2.2.2.2.2.2.2.B_,I_ x.2.2.2.2.2.2.2.C_,I_ x.2.2.2.2.2.2.2.N_,.sc (.int .u32 x.2.2.2.2.2.2.2.Bits_)]]),(9,.lit 2 [[I_ (3:Int),I_ p.2]])])
def zwm (x:Yaf) (p:Ybs):EH Ty_:=([(0,.pt 200000 [] 0 0),(3,.pt 3 [] 0 0),(9,.pt 9 [] 0 0),(163,B_ p.1)],[(200000,.lit 7 [[.im 1 x.1,.im 2 x.2.1,.im 3 x.2.2.1,.im 4 x.2.2.2.1,.ow false 5 x.2.2.2.2.1,.ow true 7 x.2.2.2.2.2.1,.ow false 6 x.2.2.2.2.2.2.1]]),(3,.lit 7 [[I_ x.2.2.2.2.2.2.2.Op_,I_ x.2.2.2.2.2.2.2.D_,I_ x.2.2.2.2.2.2.2.A_,I_ x.2.2.2.2.2.2.2.B_,I_ x.2.2.2.2.2.2.2.C_,I_ x.2.2.2.2.2.2.2.N_,.sc (.int .u32 x.2.2.2.2.2.2.2.Bits_)]]),(9,.lit 2 [[I_ (3:Int),I_ p.2]])])
def zwn (n:Nat) (x:Yaf) (v1:Int) (q1:Yai):Pt P_ Ty_ [200000] (Bo (Yai) (Yai) Empty):=.ite (decide (q1.1<v1)) (.bnd (x.2.2.2.2.2.1[(IntKind.i64.wrap ((x.2.2.2.2.2.1.length:Int) - (1:Int))).toNat]?) fun y4=>.need (0≤q1.1∧q1.1<(y4.length:Int)) (.bnd (x.2.2.2.2.2.1[(IntKind.i64.wrap ((x.2.2.2.2.2.1.length:Int) - (1:Int))).toNat]?) fun y5=>.bnd (y5[q1.1.toNat]?) fun y6=>.need (0≤y6∧y6<(q1.2.length:Int)) (.bnd (q1.2[y6.toNat]?) fun y7=>.leaf (.go ((IntKind.i64.wrap (q1.1+(1:Int))),(q1.2.set y6.toNat false)))))) (.leaf (.out (q1.1,q1.2)))
def zwg (n:Nat) (x:Yaf) (v1:Int):LCon P_ Ty_ [200000]:=lcon (X:=Yai) (Y:=Yai) (Z:=Empty) (y2b n) (subC [1,1,1,0,1,0,1,1,1,0,1,1,0,1,0,0] (fnC P_ 49 y2c)) (fun q1=>.no) 1 false ⟨[(0,.ref 200000),(6,.any),(81,.ref 200000),(82,.any),(83,.any)],[(200000,.any)]⟩ ⟨[(0,.ref 200000),(6,.any),(81,.ref 200000),(82,.any),(83,.any),(84,.any)],[(200000,.any)]⟩ ⟨[],[]⟩ (fun q1=>([(0,.pt 200000 [] 0 0),(6,I_ (IntKind.i64.wrap ((x.2.2.2.2.2.1.length:Int) - (1:Int)))),(81,.sw 200000 [(0,5),((IntKind.i64.wrap ((x.2.2.2.2.2.1.length:Int) - (1:Int))).toNat,0)]),(82,I_ v1),(83,I_ q1.1)],[(200000,.lit 7 [[.im 1 x.1,.im 2 x.2.1,.im 3 x.2.2.1,.im 4 x.2.2.2.1,.ow false 5 q1.2,.ow true 7 x.2.2.2.2.2.1,.ow false 6 x.2.2.2.2.2.2.1]])])) (fun p=>([(0,.pt 200000 [] 0 0),(6,I_ (IntKind.i64.wrap ((x.2.2.2.2.2.1.length:Int) - (1:Int)))),(81,.sw 200000 [(0,5),((IntKind.i64.wrap ((x.2.2.2.2.2.1.length:Int) - (1:Int))).toNat,0)]),(82,I_ v1),(83,I_ p.1),(84,B_ false)],[(200000,.lit 7 [[.im 1 x.1,.im 2 x.2.1,.im 3 x.2.2.1,.im 4 x.2.2.2.1,.ow false 5 p.2,.ow true 7 x.2.2.2.2.2.1,.ow false 6 x.2.2.2.2.2.2.1]])])) (fun p=>nomatch p) n (zwn n x v1)
def y2d (n:Nat) (x:Yaf):Pt P_ Ty_ [200000] (Yap):=.join (S:=Int) (zwh x) (.ite (decide ((x.2.2.2.2.2.2.1.length:Int) > (0:Int))) (.need (0≤(IntKind.i64.wrap ((x.2.2.2.2.2.2.1.length:Int) - (1:Int)))∧(IntKind.i64.wrap ((x.2.2.2.2.2.2.1.length:Int) - (1:Int)))<(x.2.2.2.2.2.2.1.length:Int)) (.bnd (x.2.2.2.2.2.2.1[(IntKind.i64.wrap ((x.2.2.2.2.2.2.1.length:Int) - (1:Int))).toNat]?) fun y1=>.leaf (.inl y1))) (.leaf (.inl (-1:Int)))) fun s1=>.join (S:=Yaj) (zwi x) (.ite (x.2.2.2.2.2.2.2.Op_==34) (.leaf (.inl (s1,true))) (.leaf (.inl (s1,(x.2.2.2.2.2.2.2.Op_==36))))) fun s2=>.ite s2.2 (.join (S:=Bool) (zwj x) (.ite (decide (s2.1≥(0:Int))) (.leaf (.inl true)) (.leaf (.inl ((x.2.2.2.2.2.2.1.length:Int)==64)))) fun s3=>.ite s3 (.leaf (false,x.1,x.2.1,x.2.2.1,x.2.2.2.1,x.2.2.2.2.1,x.2.2.2.2.2.1,x.2.2.2.2.2.2.1)) (.ite (x.2.2.2.2.2.2.2.Op_==36) (.need ((x.2.2.2.2.2.2.1.length+([x.2.2.2.2.2.2.2.N_]:List Int).length) * 8≤140737488355328) (.leaf (true,x.1,x.2.1,x.2.2.1,x.2.2.2.1,x.2.2.2.2.1,x.2.2.2.2.2.1,(x.2.2.2.2.2.2.1++([x.2.2.2.2.2.2.2.N_]:List Int))))) (.leaf (true,x.1,x.2.1,x.2.2.1,x.2.2.2.1,x.2.2.2.2.1,x.2.2.2.2.2.1,x.2.2.2.2.2.2.1)))) (.ite (x.2.2.2.2.2.2.2.Op_==35) (.join (S:=Bool) (zwk x) (.ite ((x.2.2.2.2.2.2.1.length:Int)==0) (.leaf (.inl true)) (.leaf (.inl (decide (s2.1≥(0:Int)))))) fun s4=>.ite s4 (.leaf (false,x.1,x.2.1,x.2.2.1,x.2.2.2.1,x.2.2.2.2.1,x.2.2.2.2.2.1,x.2.2.2.2.2.2.1)) (.need (0≤(IntKind.i64.wrap ((x.2.2.2.2.2.1.length:Int) - (1:Int)))∧(IntKind.i64.wrap ((x.2.2.2.2.2.1.length:Int) - (1:Int)))<(x.2.2.2.2.2.1.length:Int)) (.bnd (x.2.2.2.2.2.1[(IntKind.i64.wrap ((x.2.2.2.2.2.1.length:Int) - (1:Int))).toNat]?) fun y2=>.bnd (x.2.2.2.2.2.1[(IntKind.i64.wrap ((x.2.2.2.2.2.1.length:Int) - (1:Int))).toNat]?) fun y3=>.loop (V:=Int) (zwg n x) (y3.length:Int) ((0:Int),x.2.2.2.2.1) fun (v1:Int) (y8:Yai)=>.need (0≤(IntKind.i64.wrap ((x.2.2.2.2.2.1.length:Int) - (1:Int)))∧(IntKind.i64.wrap ((x.2.2.2.2.2.1.length:Int) - (1:Int)))≤(x.2.2.2.2.2.1.length:Int)) (.need ((IntKind.i64.wrap ((x.2.2.2.2.2.1.length:Int) - (1:Int))).toNat≤x.2.2.2.2.2.1.length) (.need (0≤(IntKind.i64.wrap ((x.2.2.2.2.2.2.1.length:Int) - (1:Int)))∧(IntKind.i64.wrap ((x.2.2.2.2.2.2.1.length:Int) - (1:Int)))≤(x.2.2.2.2.2.2.1.length:Int)) (.need ((IntKind.i64.wrap ((x.2.2.2.2.2.2.1.length:Int) - (1:Int))).toNat≤x.2.2.2.2.2.2.1.length) (.leaf (true,x.1,x.2.1,x.2.2.1,x.2.2.2.1,y8.2,(x.2.2.2.2.2.1.take ((IntKind.i64.wrap ((x.2.2.2.2.2.1.length:Int) - (1:Int))).toNat)),(x.2.2.2.2.2.2.1.take ((IntKind.i64.wrap ((x.2.2.2.2.2.2.1.length:Int) - (1:Int))).toNat)))))))))) (.ite (x.2.2.2.2.2.2.2.Op_==37) (.ite (decide (s2.1<(0:Int))) (.leaf (false,x.1,x.2.1,x.2.2.1,x.2.2.2.1,x.2.2.2.2.1,x.2.2.2.2.2.1,x.2.2.2.2.2.2.1)) (.need (0≤(IntKind.i64.wrap ((x.2.2.2.2.2.2.1.length:Int) - (1:Int)))∧(IntKind.i64.wrap ((x.2.2.2.2.2.2.1.length:Int) - (1:Int)))≤(x.2.2.2.2.2.2.1.length:Int)) (.need ((IntKind.i64.wrap ((x.2.2.2.2.2.2.1.length:Int) - (1:Int))).toNat≤x.2.2.2.2.2.2.1.length) (.leaf (true,x.1,x.2.1,x.2.2.1,x.2.2.2.1,x.2.2.2.2.1,x.2.2.2.2.2.1,(x.2.2.2.2.2.2.1.take ((IntKind.i64.wrap ((x.2.2.2.2.2.2.1.length:Int) - (1:Int))).toNat))))))) (.ite (decide (s2.1<(0:Int))) (.leaf (true,x.1,x.2.1,x.2.2.1,x.2.2.2.1,x.2.2.2.2.1,x.2.2.2.2.2.1,x.2.2.2.2.2.2.1)) (.join (S:=Ybs) (zwl x) (.call (k13 n) x.2.2.2.2.2.2.2.Op_ fun (y9:Bool)=>.ite y9 (.leaf (.inl (true,s2.1))) (.ite (x.2.2.2.2.2.2.2.Op_==29) (.leaf (.inl (true,s2.1))) (.ite (x.2.2.2.2.2.2.2.Op_==30) (.leaf (.inl (true,s2.1))) (.leaf (.inl ((x.2.2.2.2.2.2.2.Op_==32),s2.1)))))) fun s5=>.ite s5.1 (.bnd (idx x.2.1 x.2.2.2.2.2.2.2.D_) fun y10=>.leaf ((y10.Kind_==(3:Int) && (y10.Param_==s5.2 && true)),x.1,x.2.1,x.2.2.1,x.2.2.2.1,x.2.2.2.2.1,x.2.2.2.2.2.1,x.2.2.2.2.2.2.1)) (.join (S:=Ybs) (zwm x) (.ite (x.2.2.2.2.2.2.2.Op_==31) (.leaf (.inl (true,s5.2))) (.leaf (.inl ((x.2.2.2.2.2.2.2.Op_==33),s5.2)))) fun s6=>.ite s6.1 (.bnd (idx x.2.1 x.2.2.2.2.2.2.2.A_) fun y11=>.leaf ((y11.Kind_==(3:Int) && (y11.Param_==s6.2 && true)),x.1,x.2.1,x.2.2.1,x.2.2.2.1,x.2.2.2.2.1,x.2.2.2.2.2.1,x.2.2.2.2.2.2.1)) (.leaf (false,x.1,x.2.1,x.2.2.1,x.2.2.2.1,x.2.2.2.2.1,x.2.2.2.2.2.1,x.2.2.2.2.2.2.1)))))))
def k36 (n:Nat):Con P_ Ty_:=zq (X:=Yaf) (R:=Yap) (pro:=[200000]) (y2b n) 49 y2c (fun x=>.two .no (.two .no (.join Int (zwh x) ⟨[(0,.ref 200000),(3,.ref 3),(5,.any)],[(200000,.any),(3,.any)]⟩ .no (.two (.two .no (.two (.join (Yaj) (zwi x) ⟨[(0,.ref 200000),(3,.ref 3),(5,.any),(29,.any),(30,.any)],[(200000,.any),(3,.any)]⟩ .no (.two (.two (.join Bool (zwj x) ⟨[(0,.ref 200000),(3,.ref 3),(42,.any)],[(200000,.any),(3,.any)]⟩ .no .no) .no) (.two .no (.two (.two (.join Bool (zwk x) ⟨[(0,.ref 200000),(68,.any)],[(200000,.any)]⟩ .no .no) (.two .no (.two (.two .no (.two (.loop Int (zwg n x) false ⟨[(0,.ref 200000),(6,.any),(81,.ref 200000),(82,.any),(83,.any)],[(200000,.any)]⟩) .no)) .no))) .no)))) .no)) (.two .no (.two .no (.two (.two (.join (Ybs) (zwl x) ⟨[(0,.ref 200000),(3,.ref 3),(9,.ref 9),(139,.any)],[(200000,.any),(3,.any),(9,.any)]⟩ .no (.two .no (.join (Ybs) (zwm x) ⟨[(0,.ref 200000),(3,.ref 3),(9,.ref 9),(163,.any)],[(200000,.any),(3,.any),(9,.any)]⟩ .no .no))) .no) .no))))))) [.pt 200000,.ag [.any,.any,.any,.any,.any,.any,.any]] [(200000,[.im 1,.im 2,.im 3,.im 4,.ow false 5,.ow true 7,.ow false 6])] [] ⟨[(4,.any)],[(200000,.any)]⟩ [200000] false (fun x=>[.pt 200000 [] 0 0,.ag [I_ x.2.2.2.2.2.2.2.Op_,I_ x.2.2.2.2.2.2.2.D_,I_ x.2.2.2.2.2.2.2.A_,I_ x.2.2.2.2.2.2.2.B_,I_ x.2.2.2.2.2.2.2.C_,I_ x.2.2.2.2.2.2.2.N_,.sc (.int .u32 x.2.2.2.2.2.2.2.Bits_)]]) (fun x=>[(200000,.lit 7 [[.im 1 x.1,.im 2 x.2.1,.im 3 x.2.2.1,.im 4 x.2.2.2.1,.ow false 5 x.2.2.2.2.1,.ow true 7 x.2.2.2.2.2.1,.ow false 6 x.2.2.2.2.2.2.1]])]) (fun y=>([(4,B_ y.1)],[(200000,.lit 7 [[.im 1 y.2.1,.im 2 y.2.2.1,.im 3 y.2.2.2.1,.im 4 y.2.2.2.2.1,.ow false 5 y.2.2.2.2.2.1,.ow true 7 y.2.2.2.2.2.2.1,.ow false 6 y.2.2.2.2.2.2.2]])])) (fun y=>B_ y.1) (fun y=>[(200000,.lit 7 [[.im 1 y.2.1,.im 2 y.2.2.1,.im 3 y.2.2.2.1,.im 4 y.2.2.2.2.1,.ow false 5 y.2.2.2.2.2.1,.ow true 7 y.2.2.2.2.2.2.1,.ow false 6 y.2.2.2.2.2.2.2]])]) (y2d n)
def g9_c (n:Nat):Cx P_ Ty_:=⟨[k26 n],[(37,false,6),(38,false,6)],[],[]⟩
abbrev g9_k:List (List Nat):=[[1],[1,3],[1,3,5],[1,5,20,21],[1,5,20,21,22],[1,5,6,7,20,21],[1,5,6,20,21,26],[1,5,20,21],[1,5,20,21],[2]]
def y3q (n:Nat) (x:Xd) (v1:Yal) (q1:Yab):Pt P_ Ty_ [] (Bo (Yab) (Yab) Empty):=.ite (decide (q1.1<(3:Int))) (.bnd (idx [v1.1,v1.2.1,v1.2.2] q1.1) fun y2=>.ite (y2 != (0:Int)) (.bnd (idx [x.A_,x.B_,x.C_] q1.1) fun y3=>.need ((q1.2.length+([y3]:List Int).length) * 8≤140737488355328) (.leaf (.go ((IntKind.i64.wrap (q1.1+(1:Int))),(q1.2++([y3]:List Int)))))) (.leaf (.go ((IntKind.i64.wrap (q1.1+(1:Int))),q1.2)))) (.leaf (.out (q1.1,q1.2)))
def y3p (n:Nat) (x:Xd) (v1:Yal):LCon P_ Ty_ []:=lcon (X:=Yab) (Y:=Yab) (Z:=Empty) (g9_c n) (subC [1,1,1,0,1,0,0] (fnC P_ 52 g9_k)) (fun q1=>.no) 0 false ⟨[(1,.ref 1),(5,.own 600001 false 6),(20,.any),(21,.any)],[(1,.any),(600001,.any)]⟩ ⟨[(1,.ref 1),(5,.ref 600001),(20,.any),(21,.any),(22,.any)],[(1,.any),(600001,.any)]⟩ ⟨[],[]⟩ (fun q1=>([(1,.pt 1 [] 0 0),(5,.sw 600001 []),(20,.ag [I_ v1.1,I_ v1.2.1,I_ v1.2.2]),(21,I_ q1.1)],[(1,.lit 7 [[I_ x.Op_,I_ x.D_,I_ x.A_,I_ x.B_,I_ x.C_,I_ x.N_,.sc (.int .u32 x.Bits_)]]),(600001,.typ false 6 q1.2)])) (fun p=>([(1,.pt 1 [] 0 0),(5,.sw 600001 []),(20,.ag [I_ v1.1,I_ v1.2.1,I_ v1.2.2]),(21,I_ p.1),(22,B_ false)],[(1,.lit 7 [[I_ x.Op_,I_ x.D_,I_ x.A_,I_ x.B_,I_ x.C_,I_ x.N_,.sc (.int .u32 x.Bits_)]]),(600001,.typ false 6 p.2)])) (fun p=>nomatch p) n (y3q n x v1)
def g9_t (n:Nat) (x:Xd):Pt P_ Ty_ [] (List Int):=.call (k26 n) x.Op_ fun (y1:Ybr)=>.loop (V:=Yal) (y3p n x) (y1.2.2.1,y1.2.2.2.1,y1.2.2.2.2.1) ((0:Int),([]:List Int)) fun (v1:Yal) (y4:Yab)=>.leaf y4.2
def k9 (n:Nat):Con P_ Ty_:=zq (X:=Xd) (R:=(List Int)) (pro:=[]) (g9_c n) 52 g9_k (fun x=>.two .no (.two .no (.two .no (.two (.two .no (.two (.loop (Yal) (y3p n x) false ⟨[(1,.ref 1),(5,.own 600001 false 6),(20,.any),(21,.any)],[(1,.any),(600001,.any)]⟩) .no)) .no)))) [.ag [.any,.any,.any,.any,.any,.any,.any]] [] [100000] ⟨[(2,.ref 100000)],[(100000,.any)]⟩ [100000] true (fun x=>[.ag [I_ x.Op_,I_ x.D_,I_ x.A_,I_ x.B_,I_ x.C_,I_ x.N_,.sc (.int .u32 x.Bits_)]]) (fun x=>[]) (fun y=>([(2,.sw 100000 [])],[(100000,.typ false 6 y)])) (fun y=>.sw 100000 []) (fun y=>[(100000,.typ false 6 y)]) (g9_t n)
def yag (n:Nat):Cx P_ Ty_:=⟨[k26 n],[],[],[]⟩
abbrev yah:List (List Nat):=[[1],[3],[2]]
def y1h (n:Nat) (x:Xd):Pt P_ Ty_ [] Bool:=.call (k26 n) x.Op_ fun (y1:Ybr)=>.leaf (y1.2.1 != (0:Int))
def k11 (n:Nat):Con P_ Ty_:=zq (X:=Xd) (R:=Bool) (pro:=[]) (yag n) 51 yah (fun x=>.no) [.ag [.any,.any,.any,.any,.any,.any,.any]] [] [] ⟨[(2,.any)],[]⟩ [] true (fun x=>[.ag [I_ x.Op_,I_ x.D_,I_ x.A_,I_ x.B_,I_ x.C_,I_ x.N_,.sc (.int .u32 x.Bits_)]]) (fun x=>[]) (fun y=>([(2,B_ y)],[])) (fun y=>B_ y) (fun y=>[]) (y1h n)
def y2e (n:Nat):Cx P_ Ty_:=⟨[k9 n,k11 n],[(32,false,6),(41,true,7),(87,false,6)],[],[]⟩
abbrev y2f:List (List Nat):=[[0,3],[0,3,9,10,11],[0,3,9,10,11,12],[0,3,6,9,10,11],[0,3,9,10,11,22],[4],[0,3,9,10,11],[0,3,26],[0,3],[0,3],[0,3,57],[0,3],[0,3,7],[0,3,7,72],[],[4]]
def zwp (x:Yaf) (p:Yco):EH Ty_:=([(0,.pt 200000 [] 0 0),(3,.pt 3 [] 0 0)],[(200000,.lit 7 [[.im 1 x.1,.im 2 x.2.1,.im 3 x.2.2.1,.im 4 x.2.2.2.1,.ow false 5 x.2.2.2.2.1,.ow true 7 p.1,.ow false 6 p.2]]),(3,.lit 7 [[I_ x.2.2.2.2.2.2.2.Op_,I_ x.2.2.2.2.2.2.2.D_,I_ x.2.2.2.2.2.2.2.A_,I_ x.2.2.2.2.2.2.2.B_,I_ x.2.2.2.2.2.2.2.C_,I_ x.2.2.2.2.2.2.2.N_,.sc (.int .u32 x.2.2.2.2.2.2.2.Bits_)]])])
def zwq (x:Yaf) (p:Ycp):EH Ty_:=([(0,.pt 200000 [] 0 0),(3,.pt 3 [] 0 0),(57,B_ p.1)],[(200000,.lit 7 [[.im 1 x.1,.im 2 x.2.1,.im 3 x.2.2.1,.im 4 x.2.2.2.1,.ow false 5 x.2.2.2.2.1,.ow true 7 p.2.1,.ow false 6 p.2.2]]),(3,.lit 7 [[I_ x.2.2.2.2.2.2.2.Op_,I_ x.2.2.2.2.2.2.2.D_,I_ x.2.2.2.2.2.2.2.A_,I_ x.2.2.2.2.2.2.2.B_,I_ x.2.2.2.2.2.2.2.C_,I_ x.2.2.2.2.2.2.2.N_,.sc (.int .u32 x.2.2.2.2.2.2.2.Bits_)]])])
def zwr (n:Nat) (x:Yaf) (v1:Yab) (q1:Int):Pt P_ Ty_ [200000] (Bo Int Int Unit):=.ite (decide (q1<v1.1)) (.need (0≤q1∧q1<(v1.2.length:Int)) (.bnd (v1.2[q1.toNat]?) fun y2=>.need (0≤y2∧y2<(x.2.2.2.2.1.length:Int)) (.bnd (x.2.2.2.2.1[y2.toNat]?) fun y3=>.ite (!y3) (.leaf (.ret ())) (.leaf (.go (IntKind.i64.wrap (q1+(1:Int)))))))) (.leaf (.out q1))
def zwo (n:Nat) (x:Yaf) (v1:Yab):LCon P_ Ty_ [200000]:=lcon (X:=Int) (Y:=Int) (Z:=Unit) (y2e n) (subC [1,0,1,0,0] (fnC P_ 50 y2f)) (fun q1=>.no) 0 true ⟨[(0,.ref 200000),(3,.ref 3),(9,.ref 9),(10,.any),(11,.any)],[(200000,.any),(3,.any),(9,.any)]⟩ ⟨[(0,.ref 200000),(3,.ref 3),(9,.ref 9),(10,.any),(11,.any),(12,.any)],[(200000,.any),(3,.any),(9,.any)]⟩ ⟨[(4,.any)],[(200000,.any)]⟩ (fun q1=>([(0,.pt 200000 [] 0 0),(3,.pt 3 [] 0 0),(9,.sw 9 []),(10,I_ v1.1),(11,I_ q1)],[(200000,.lit 7 [[.im 1 x.1,.im 2 x.2.1,.im 3 x.2.2.1,.im 4 x.2.2.2.1,.ow false 5 x.2.2.2.2.1,.ow true 7 x.2.2.2.2.2.1,.ow false 6 x.2.2.2.2.2.2.1]]),(3,.lit 7 [[I_ x.2.2.2.2.2.2.2.Op_,I_ x.2.2.2.2.2.2.2.D_,I_ x.2.2.2.2.2.2.2.A_,I_ x.2.2.2.2.2.2.2.B_,I_ x.2.2.2.2.2.2.2.C_,I_ x.2.2.2.2.2.2.2.N_,.sc (.int .u32 x.2.2.2.2.2.2.2.Bits_)]]),(9,.typ false 6 v1.2)])) (fun p=>([(0,.pt 200000 [] 0 0),(3,.pt 3 [] 0 0),(9,.sw 9 []),(10,I_ v1.1),(11,I_ p),(12,B_ false)],[(200000,.lit 7 [[.im 1 x.1,.im 2 x.2.1,.im 3 x.2.2.1,.im 4 x.2.2.2.1,.ow false 5 x.2.2.2.2.1,.ow true 7 x.2.2.2.2.2.1,.ow false 6 x.2.2.2.2.2.2.1]]),(3,.lit 7 [[I_ x.2.2.2.2.2.2.2.Op_,I_ x.2.2.2.2.2.2.2.D_,I_ x.2.2.2.2.2.2.2.A_,I_ x.2.2.2.2.2.2.2.B_,I_ x.2.2.2.2.2.2.2.C_,I_ x.2.2.2.2.2.2.2.N_,.sc (.int .u32 x.2.2.2.2.2.2.2.Bits_)]]),(9,.typ false 6 v1.2)])) (fun p=>([(4,B_ false)],[(200000,.lit 7 [[.im 1 x.1,.im 2 x.2.1,.im 3 x.2.2.1,.im 4 x.2.2.2.1,.ow false 5 x.2.2.2.2.1,.ow true 7 x.2.2.2.2.2.1,.ow false 6 x.2.2.2.2.2.2.1]])])) n (zwr n x v1)
def y2g (n:Nat) (x:Yaf):Pt P_ Ty_ [200000] (Yap):=.call (k9 n) x.2.2.2.2.2.2.2 fun (y1:(List Int))=>.loopR (V:=Yab) (zwo n x) ((y1.length:Int),y1) (0:Int) (fun (v1:Yab) (y4:Int)=>.join (S:=Yco) (zwp x) (.ite (x.2.2.2.2.2.2.2.Op_==34) (.need ((x.2.2.2.2.2.2.1.length+([(-1:Int)]:List Int).length) * 8≤140737488355328) (.need ((x.2.2.2.2.2.1.length+([[]]:List (List Int)).length) * 24≤140737488355328) (.leaf (.inl ((x.2.2.2.2.2.1++([[]]:List (List Int))),(x.2.2.2.2.2.2.1++([(-1:Int)]:List Int))))))) (.leaf (.inl (x.2.2.2.2.2.1,x.2.2.2.2.2.2.1)))) fun s1=>.join (S:=Ycp) (zwq x) (.call (k11 n) x.2.2.2.2.2.2.2 fun (y5:Bool)=>.ite y5 (.need (0≤x.2.2.2.2.2.2.2.D_∧x.2.2.2.2.2.2.2.D_<(x.2.2.2.2.1.length:Int)) (.bnd (x.2.2.2.2.1[x.2.2.2.2.2.2.2.D_.toNat]?) fun y6=>.leaf (.inl ((!y6),s1.1,s1.2)))) (.leaf (.inl (false,s1.1,s1.2)))) fun s2=>.ite s2.1 (.need (0≤x.2.2.2.2.2.2.2.D_∧x.2.2.2.2.2.2.2.D_<(x.2.2.2.2.1.length:Int)) (.bnd (x.2.2.2.2.1[x.2.2.2.2.2.2.2.D_.toNat]?) fun y7=>.ite (decide ((IntKind.i64.wrap ((s2.2.1.length:Int) - (1:Int)))≥(0:Int))) (.need (0≤(IntKind.i64.wrap ((s2.2.1.length:Int) - (1:Int)))∧(IntKind.i64.wrap ((s2.2.1.length:Int) - (1:Int)))<(s2.2.1.length:Int)) (.bnd (s2.2.1[(IntKind.i64.wrap ((s2.2.1.length:Int) - (1:Int))).toNat]?) fun y8=>.bnd (s2.2.1[(IntKind.i64.wrap ((s2.2.1.length:Int) - (1:Int))).toNat]?) fun y9=>.bnd (s2.2.1[(IntKind.i64.wrap ((s2.2.1.length:Int) - (1:Int))).toNat]?) fun y10=>.need ((y9.length+([x.2.2.2.2.2.2.2.D_]:List Int).length) * 8≤140737488355328) (.need (0≤(IntKind.i64.wrap ((s2.2.1.length:Int) - (1:Int)))∧(IntKind.i64.wrap ((s2.2.1.length:Int) - (1:Int)))<(s2.2.1.length:Int)) (.need ((IntKind.i64.wrap ((s2.2.1.length:Int) - (1:Int))).toNat=(IntKind.i64.wrap ((s2.2.1.length:Int) - (1:Int))).toNat∧(IntKind.i64.wrap ((s2.2.1.length:Int) - (1:Int))).toNat<s2.2.1.length) (.leaf (true,x.1,x.2.1,x.2.2.1,x.2.2.2.1,(x.2.2.2.2.1.set x.2.2.2.2.2.2.2.D_.toNat true),(s2.2.1.set ((IntKind.i64.wrap ((s2.2.1.length:Int) - (1:Int))).toNat) (y9++([x.2.2.2.2.2.2.2.D_]:List Int))),s2.2.2)))))) (.leaf (true,x.1,x.2.1,x.2.2.1,x.2.2.2.1,(x.2.2.2.2.1.set x.2.2.2.2.2.2.2.D_.toNat true),s2.2.1,s2.2.2)))) (.leaf (true,x.1,x.2.1,x.2.2.1,x.2.2.2.1,x.2.2.2.2.1,s2.2.1,s2.2.2))) fun (v1:Yab) (z1:Unit)=>.leaf (false,x.1,x.2.1,x.2.2.1,x.2.2.2.1,x.2.2.2.2.1,x.2.2.2.2.2.1,x.2.2.2.2.2.2.1)
def k37 (n:Nat):Con P_ Ty_:=zq (X:=Yaf) (R:=Yap) (pro:=[200000]) (y2e n) 50 y2f (fun x=>.two .no (.two (.two .no (.two (.loop (Yab) (zwo n x) true ⟨[(0,.ref 200000),(3,.ref 3),(9,.ref 9),(10,.any),(11,.any)],[(200000,.any),(3,.any),(9,.any)]⟩) .no)) (.join (Yco) (zwp x) ⟨[(0,.ref 200000),(3,.ref 3)],[(200000,.any),(3,.any)]⟩ .no (.two (.join (Ycp) (zwq x) ⟨[(0,.ref 200000),(3,.ref 3),(57,.any)],[(200000,.any),(3,.any)]⟩ .no .no) .no)))) [.pt 200000,.ag [.any,.any,.any,.any,.any,.any,.any]] [(200000,[.im 1,.im 2,.im 3,.im 4,.ow false 5,.ow true 7,.ow false 6])] [] ⟨[(4,.any)],[(200000,.any)]⟩ [200000] false (fun x=>[.pt 200000 [] 0 0,.ag [I_ x.2.2.2.2.2.2.2.Op_,I_ x.2.2.2.2.2.2.2.D_,I_ x.2.2.2.2.2.2.2.A_,I_ x.2.2.2.2.2.2.2.B_,I_ x.2.2.2.2.2.2.2.C_,I_ x.2.2.2.2.2.2.2.N_,.sc (.int .u32 x.2.2.2.2.2.2.2.Bits_)]]) (fun x=>[(200000,.lit 7 [[.im 1 x.1,.im 2 x.2.1,.im 3 x.2.2.1,.im 4 x.2.2.2.1,.ow false 5 x.2.2.2.2.1,.ow true 7 x.2.2.2.2.2.1,.ow false 6 x.2.2.2.2.2.2.1]])]) (fun y=>([(4,B_ y.1)],[(200000,.lit 7 [[.im 1 y.2.1,.im 2 y.2.2.1,.im 3 y.2.2.2.1,.im 4 y.2.2.2.2.1,.ow false 5 y.2.2.2.2.2.1,.ow true 7 y.2.2.2.2.2.2.1,.ow false 6 y.2.2.2.2.2.2.2]])])) (fun y=>B_ y.1) (fun y=>[(200000,.lit 7 [[.im 1 y.2.1,.im 2 y.2.2.1,.im 3 y.2.2.2.1,.im 4 y.2.2.2.2.1,.ow false 5 y.2.2.2.2.2.1,.ow true 7 y.2.2.2.2.2.2.1,.ow false 6 y.2.2.2.2.2.2.2]])]) (y2g n)
def y1l (n:Nat):Cx P_ Ty_:=⟨[k28 n,k29 n,k32 n,k35 n,k36 n,k37 n],[(45,false,5)],[],[]⟩
abbrev y1m:List (List Nat):=[[1],[1,4],[1,4,11],[2,3],[1,15],[2,3],[1,26],[2,3],[1,40],[2,3],[1,5],[1,5,49,50,51],[1,5,49,50,51,52],[1,5,6,7,49,50,51],[1,5,6,49,50,51,71],[2,3],[1,5,49,50,51],[1,79],[2,3],[2,3]]
def zui (x:Xe) (p:Bool):EH Ty_:=([(1,.pt 1 [] 0 0),(15,B_ p)],[(1,.lit 4 [[.im 1 x.Sign_,.im 2 x.Regs_,.im 3 x.Slots_,.im 4 x.List_]])])
def zuj (x:Xe) (p:Yak):EH Ty_:=([(1,.pt 1 [] 0 0),(40,B_ p.1)],[(1,.lit 4 [[.im 1 p.2.1,.im 2 p.2.2.1,.im 3 p.2.2.2.1,.im 4 p.2.2.2.2]])])
def zuk (x:Xe) (v1:Ybe) (q1:Yav) (p:Yap):EH Ty_:=([(1,.pt 1 [] 0 0),(5,.pt 47 [] 0 0),(6,I_ q1.1),(49,.im 4 v1.1),(50,I_ v1.2.1),(51,I_ q1.1),(71,B_ p.1)],[(1,.lit 4 [[.im 1 v1.2.2.1,.im 2 v1.2.2.2.1,.im 3 v1.2.2.2.2,.im 4 v1.1]]),(47,.lit 7 [[.im 1 p.2.1,.im 2 p.2.2.1,.im 3 p.2.2.2.1,.im 4 p.2.2.2.2.1,.ow false 5 p.2.2.2.2.2.1,.ow true 7 p.2.2.2.2.2.2.1,.ow false 6 p.2.2.2.2.2.2.2]])])
def zul (n:Nat) (x:Xe) (v1:Ybe) (q1:Yav):Pt P_ Ty_ [] (Bo (Yav) (Yav) Int):=.ite (decide (q1.1<v1.2.1)) (.bnd (idx v1.1 q1.1) fun y4=>.join (S:=Yap) (zuk x v1 q1) (.call (k35 n) (q1.2.1,q1.2.2.1,q1.2.2.2.1,q1.2.2.2.2.1,q1.2.2.2.2.2.1,q1.2.2.2.2.2.2.1,q1.2.2.2.2.2.2.2,y4) fun (y5:Yap)=>.ite (!y5.1) (.leaf (.inl (true,y5.2.1,y5.2.2.1,y5.2.2.2.1,y5.2.2.2.2.1,y5.2.2.2.2.2.1,y5.2.2.2.2.2.2.1,y5.2.2.2.2.2.2.2))) (.call (k36 n) (y5.2.1,y5.2.2.1,y5.2.2.2.1,y5.2.2.2.2.1,y5.2.2.2.2.2.1,y5.2.2.2.2.2.2.1,y5.2.2.2.2.2.2.2,y4) fun (y6:Yap)=>.ite (!y6.1) (.leaf (.inl (true,y6.2.1,y6.2.2.1,y6.2.2.2.1,y6.2.2.2.2.1,y6.2.2.2.2.2.1,y6.2.2.2.2.2.2.1,y6.2.2.2.2.2.2.2))) (.call (k37 n) (y6.2.1,y6.2.2.1,y6.2.2.2.1,y6.2.2.2.2.1,y6.2.2.2.2.2.1,y6.2.2.2.2.2.2.1,y6.2.2.2.2.2.2.2,y4) fun (y7:Yap)=>.leaf (.inl ((!y7.1),y7.2.1,y7.2.2.1,y7.2.2.2.1,y7.2.2.2.2.1,y7.2.2.2.2.2.1,y7.2.2.2.2.2.2.1,y7.2.2.2.2.2.2.2))))) fun s3=>.ite s3.1 (.leaf (.ret q1.1)) (.leaf (.go ((IntKind.i64.wrap (q1.1+(1:Int))),s3.2.1,s3.2.2.1,s3.2.2.2.1,s3.2.2.2.2.1,s3.2.2.2.2.2.1,s3.2.2.2.2.2.2.1,s3.2.2.2.2.2.2.2)))) (.leaf (.out (q1.1,q1.2.1,q1.2.2.1,q1.2.2.2.1,q1.2.2.2.2.1,q1.2.2.2.2.2.1,q1.2.2.2.2.2.2.1,q1.2.2.2.2.2.2.2)))
def zuh (n:Nat) (x:Xe) (v1:Ybe):LCon P_ Ty_ []:=lcon (X:=Yav) (Y:=Yav) (Z:=Int) (y1l n) (subC [1,1,1,1,0,1,0,0] (fnC P_ 21 y1m)) (fun q1=>.two .no (.two .no (.two (.two (.two .no (.join (Yap) (zuk x v1 q1) ⟨[(1,.ref 1),(5,.ref 47),(6,.any),(49,.im 4),(50,.any),(51,.any),(71,.any)],[(1,.any),(47,.any)]⟩ .no .no)) .no) .no))) 1 true ⟨[(1,.ref 1),(5,.ref 47),(49,.im 4),(50,.any),(51,.any)],[(1,.any),(47,.fix [.no,.no,.no,.no,.no,.ow true 7,.ow false 6])]⟩ ⟨[(1,.ref 1),(5,.ref 47),(49,.im 4),(50,.any),(51,.any),(52,.any)],[(1,.any),(47,.any)]⟩ ⟨[(2,.any),(3,.any)],[]⟩ (fun q1=>([(1,.pt 1 [] 0 0),(5,.pt 47 [] 0 0),(49,.im 4 v1.1),(50,I_ v1.2.1),(51,I_ q1.1)],[(1,.lit 4 [[.im 1 v1.2.2.1,.im 2 v1.2.2.2.1,.im 3 v1.2.2.2.2,.im 4 v1.1]]),(47,.lit 7 [[.im 1 q1.2.1,.im 2 q1.2.2.1,.im 3 q1.2.2.2.1,.im 4 q1.2.2.2.2.1,.ow false 5 q1.2.2.2.2.2.1,.ow true 7 q1.2.2.2.2.2.2.1,.ow false 6 q1.2.2.2.2.2.2.2]])])) (fun p=>([(1,.pt 1 [] 0 0),(5,.pt 47 [] 0 0),(49,.im 4 v1.1),(50,I_ v1.2.1),(51,I_ p.1),(52,B_ false)],[(1,.lit 4 [[.im 1 v1.2.2.1,.im 2 v1.2.2.2.1,.im 3 v1.2.2.2.2,.im 4 v1.1]]),(47,.lit 7 [[.im 1 p.2.1,.im 2 p.2.2.1,.im 3 p.2.2.2.1,.im 4 p.2.2.2.2.1,.ow false 5 p.2.2.2.2.2.1,.ow true 7 p.2.2.2.2.2.2.1,.ow false 6 p.2.2.2.2.2.2.2]])])) (fun p=>([(2,I_ (160:Int)),(3,I_ p)],[])) n (zul n x v1)
def y1n (n:Nat) (x:Xe):Pt P_ Ty_ [] (Yaa):=.call (k28 n) x.Sign_ fun (y1:Int)=>.ite (y1 != (0:Int)) (.leaf (y1,(-1:Int))) (.join (S:=Bool) (zui x) (.ite (decide ((x.Regs_.length:Int) > (16384:Int))) (.leaf (.inl true)) (.leaf (.inl (decide ((x.List_.length:Int) > (32768:Int)))))) fun s1=>.ite s1 (.leaf ((181:Int),(-1:Int))) (.ite (decide ((x.Slots_.length:Int) > (4096:Int))) (.leaf ((180:Int),(-1:Int))) (.join (S:=Yak) (zuj x) (.call (k29 n) (x.Regs_,x.Sign_,x.Regs_,x.Slots_,x.List_) fun (y2:Yak)=>.ite y2.1 (.leaf (.inl (true,y2.2.1,y2.2.2.1,y2.2.2.2.1,y2.2.2.2.2))) (.call (k32 n) (y2.2.2.2.1,y2.2.1,y2.2.2.1,y2.2.2.2.1,y2.2.2.2.2) fun (y3:Yak)=>.leaf (.inl (y3.1,y3.2.1,y3.2.2.1,y3.2.2.2.1,y3.2.2.2.2)))) fun s2=>.ite s2.1 (.leaf ((160:Int),(-1:Int))) (.need (0≤(s2.2.2.1.length:Int)∧(s2.2.2.1.length:Int) * (1:Int)≤140737488355328) (.loopR (V:=Ybe) (zuh n x) (s2.2.2.2.2,(s2.2.2.2.2.length:Int),s2.2.1,s2.2.2.1,s2.2.2.2.1) ((0:Int),s2.2.1,s2.2.2.1,s2.2.2.2.1,s2.2.2.2.2,(List.replicate (s2.2.2.1.length:Int).toNat false),([]:List (List Int)),([]:List Int)) (fun (v1:Ybe) (y8:Yav)=>.ite (decide ((y8.2.2.2.2.2.2.2.length:Int) > (0:Int))) (.leaf ((160:Int),(v1.1.length:Int))) (.leaf ((0:Int),(0:Int)))) fun (v1:Ybe) (z1:Int)=>.leaf ((160:Int),z1))))))
def k16 (n:Nat):Con P_ Ty_:=zq (X:=Xe) (R:=Yaa) (pro:=[]) (y1l n) 21 y1m (fun x=>.two .no (.two (.two .no (.two (.two .no (.two .no (.join Bool (zui x) ⟨[(1,.ref 1),(15,.any)],[(1,.any)]⟩ .no .no))) .no)) (.two (.join (Yak) (zuj x) ⟨[(1,.ref 1),(40,.any)],[(1,.any)]⟩ .no .no) (.two .no (.two (.two .no (.two (.loop (Ybe) (zuh n x) true ⟨[(1,.ref 1),(5,.ref 47),(49,.im 4),(50,.any),(51,.any)],[(1,.any),(47,.fix [.no,.no,.no,.no,.no,.ow true 7,.ow false 6])]⟩) .no)) .no))))) [.ag [.im 1,.im 2,.im 3,.im 4]] [] [] ⟨[(2,.any),(3,.any)],[]⟩ [] true (fun x=>[.ag [.im 1 x.Sign_,.im 2 x.Regs_,.im 3 x.Slots_,.im 4 x.List_]]) (fun x=>[]) (fun y=>([(2,I_ y.1),(3,I_ y.2)],[])) (fun y=>.tu [I_ y.1,I_ y.2]) (fun y=>[]) (y1n n)
def zup (n:Nat):Cx P_ Ty_:=⟨[],[(16,false,0),(27,false,0)],[],[]⟩
abbrev zuq:List (List Nat):=[[0,1,5],[0,1],[0,1],[]]
def zq7 (n:Nat) (x:Ybh) (v1:Unit) (q1:Yab):Pt P_ Ty_ [200000] (Bo (Yab) (Yab) Empty):=.ite (decide (q1.1≥(128:Int))) (.need ((q1.2.length+([(IntKind.u8.wrap (BitVec.ofInt IntKind.u8.bits (IntKind.u8.wrap q1.1) ||| BitVec.ofInt IntKind.u8.bits (128:Int)).toNat)]:List Int).length) * 1≤140737488355328) (.leaf (.go ((q1.1.fdiv (2 ^ min (7:Int).toNat IntKind.i64.bits)),(q1.2++([(IntKind.u8.wrap (BitVec.ofInt IntKind.u8.bits (IntKind.u8.wrap q1.1) ||| BitVec.ofInt IntKind.u8.bits (128:Int)).toNat)]:List Int)))))) (.leaf (.out (q1.1,q1.2)))
def zq6 (n:Nat) (x:Ybh) (v1:Unit):LCon P_ Ty_ [200000]:=lcon (X:=Yab) (Y:=Yab) (Z:=Empty) (zup n) (subC [0,0,0] (fnC P_ 22 zuq)) (fun q1=>.no) 0 false ⟨[(0,.ref 200000),(1,.any)],[(200000,.any)]⟩ ⟨[(0,.ref 200000),(1,.any),(5,.any)],[(200000,.any)]⟩ ⟨[],[]⟩ (fun q1=>([(0,.pt 200000 [] 0 0),(1,I_ q1.1)],[(200000,.lit 1 [[.ow false 0 q1.2]])])) (fun p=>([(0,.pt 200000 [] 0 0),(1,I_ p.1),(5,B_ false)],[(200000,.lit 1 [[.ow false 0 p.2]])])) (fun p=>nomatch p) n (zq7 n x v1)
def zur (n:Nat) (x:Ybh):Pt P_ Ty_ [200000] (List Int):=.loop (V:=Unit) (zq6 n x) () (x.2,x.1) fun (v1:Unit) (y1:Yab)=>.need ((y1.2.length+([(IntKind.u8.wrap y1.1)]:List Int).length) * 1≤140737488355328) (.leaf (y1.2++([(IntKind.u8.wrap y1.1)]:List Int)))
def k217 (n:Nat):Con P_ Ty_:=zq (X:=Ybh) (R:=(List Int)) (pro:=[200000]) (zup n) 22 zuq (fun x=>.two (.two (.loop Unit (zq6 n x) false ⟨[(0,.ref 200000),(1,.any)],[(200000,.any)]⟩) .no) .no) [.pt 200000,.any] [(200000,[.ow false 0])] [] ⟨[],[(200000,.any)]⟩ [200000] true (fun x=>[.pt 200000 [] 0 0,I_ x.2]) (fun x=>[(200000,.lit 1 [[.ow false 0 x.1]])]) (fun y=>([],[(200000,.lit 1 [[.ow false 0 y]])])) (fun y=>.tu []) (fun y=>[(200000,.lit 1 [[.ow false 0 y]])]) (zur n)
def y8v (n:Nat):Cx P_ Ty_:=⟨[k217 n],[(12,false,0)],[],[]⟩
abbrev y8w:List (List Nat):=[[0,3],[0,3],[0,3,18],[]]
def zus (n:Nat) (x:Ycc):Pt P_ Ty_ [200000] (List Int):=.need ((x.1.length+([(IntKind.u8.wrap x.2.Kind_)]:List Int).length) * 1≤140737488355328) (.ite (x.2.Kind_==3) (.call (k217 n) ((x.1++([(IntKind.u8.wrap x.2.Kind_)]:List Int)),x.2.Param_) fun (y1:(List Int))=>.leaf y1) (.leaf (x.1++([(IntKind.u8.wrap x.2.Kind_)]:List Int))))
def k218 (n:Nat):Con P_ Ty_:=zq (X:=Ycc) (R:=(List Int)) (pro:=[200000]) (y8v n) 23 y8w (fun x=>.no) [.pt 200000,.ag [.any,.any]] [(200000,[.ow false 0])] [] ⟨[],[(200000,.any)]⟩ [200000] true (fun x=>[.pt 200000 [] 0 0,.ag [I_ x.2.Kind_,I_ x.2.Param_]]) (fun x=>[(200000,.lit 1 [[.ow false 0 x.1]])]) (fun y=>([],[(200000,.lit 1 [[.ow false 0 y]])])) (fun y=>.tu []) (fun y=>[(200000,.lit 1 [[.ow false 0 y]])]) (zus n)
def zut (n:Nat):Cx P_ Ty_:=⟨[],[(21,false,0)],[],[]⟩
abbrev zuu:List (List Nat):=[[0,1,7,8],[0,1,7,8,9],[0,1,6,7,8],[0,1,7,8],[0,1,7,8]]
def zq9 (n:Nat) (x:Ybi) (v1:Unit) (q1:Yab):Pt P_ Ty_ [200000] (Bo (Yab) (Yab) Empty):=.ite (decide (q1.1<x.2.2)) (.need (0≤(IntKind.i64.wrap ((8:Int) * q1.1))) (.need ((q1.2.length+([(IntKind.u8.wrap (x.2.1.fdiv (2 ^ min (IntKind.i64.wrap ((8:Int) * q1.1)).toNat IntKind.u64.bits)))]:List Int).length) * 1≤140737488355328) (.leaf (.go ((IntKind.i64.wrap (q1.1+(1:Int))),(q1.2++([(IntKind.u8.wrap (x.2.1.fdiv (2 ^ min (IntKind.i64.wrap ((8:Int) * q1.1)).toNat IntKind.u64.bits)))]:List Int))))))) (.leaf (.out (q1.1,q1.2)))
def zq8 (n:Nat) (x:Ybi) (v1:Unit):LCon P_ Ty_ [200000]:=lcon (X:=Yab) (Y:=Yab) (Z:=Empty) (zut n) (subC [1,0,0] (fnC P_ 24 zuu)) (fun q1=>.no) 0 false ⟨[(0,.ref 200000),(1,.any),(7,.any),(8,.any)],[(200000,.any)]⟩ ⟨[(0,.ref 200000),(1,.any),(7,.any),(8,.any),(9,.any)],[(200000,.any)]⟩ ⟨[],[]⟩ (fun q1=>([(0,.pt 200000 [] 0 0),(1,.sc (.int .u64 x.2.1)),(7,I_ x.2.2),(8,I_ q1.1)],[(200000,.lit 1 [[.ow false 0 q1.2]])])) (fun p=>([(0,.pt 200000 [] 0 0),(1,.sc (.int .u64 x.2.1)),(7,I_ x.2.2),(8,I_ p.1),(9,B_ false)],[(200000,.lit 1 [[.ow false 0 p.2]])])) (fun p=>nomatch p) n (zq9 n x v1)
def zuv (n:Nat) (x:Ybi):Pt P_ Ty_ [200000] (List Int):=.loop (V:=Unit) (zq8 n x) () ((0:Int),x.1) fun (v1:Unit) (y1:Yab)=>.leaf y1.2
def k219 (n:Nat):Con P_ Ty_:=zq (X:=Ybi) (R:=(List Int)) (pro:=[200000]) (zut n) 24 zuu (fun x=>.two .no (.two (.loop Unit (zq8 n x) false ⟨[(0,.ref 200000),(1,.any),(7,.any),(8,.any)],[(200000,.any)]⟩) .no)) [.pt 200000,.any,.any] [(200000,[.ow false 0])] [] ⟨[],[(200000,.any)]⟩ [200000] true (fun x=>[.pt 200000 [] 0 0,.sc (.int .u64 x.2.1),I_ x.2.2]) (fun x=>[(200000,.lit 1 [[.ow false 0 x.1]])]) (fun y=>([],[(200000,.lit 1 [[.ow false 0 y]])])) (fun y=>.tu []) (fun y=>[(200000,.lit 1 [[.ow false 0 y]])]) (zuv n)
def y8t (n:Nat):Cx P_ Ty_:=⟨[],[],[],[]⟩
abbrev y8u:List (List Nat):=[[0],[3],[3,4],[3,4],[3,4],[3,4],[3,4],[3,4],[4],[2],[2]]
def zpu (x:Int) (p:Bool):EH Ty_:=([(4,B_ p)],[])
def zun (n:Nat) (x:Int):Pt P_ Ty_ [] Bool:=.join (S:=Bool) (zpu x) (.ite (x==2) (.leaf (.inl true)) (.ite (x==29) (.leaf (.inl true)) (.ite (x==30) (.leaf (.inl true)) (.ite (x==31) (.leaf (.inl true)) (.ite (x==32) (.leaf (.inl true)) (.ite (x==33) (.leaf (.inl true)) (.leaf (.inl (x==36))))))))) fun s1=>.ite s1 (.leaf true) (.leaf false)
def k215 (n:Nat):Con P_ Ty_:=zq (X:=Int) (R:=Bool) (pro:=[]) (y8t n) 53 y8u (fun x=>.two .no (.two (.two .no (.two (.join Bool (zpu x) ⟨[(4,.any)],[]⟩ .no .no) .no)) .no)) [.any] [] [] ⟨[(2,.any)],[]⟩ [] true (fun x=>[I_ x]) (fun x=>[]) (fun y=>([(2,B_ y)],[])) (fun y=>B_ y) (fun y=>[]) (zun n)
def y02 (n:Nat):Cx P_ Ty_:=⟨[k11 n,k9 n,k215 n],[(12,false,8),(13,false,8),(24,false,8),(41,false,8)],[],[]⟩
abbrev y03:List (List Nat):=[[0],[0,3],[0,3,7],[0,3],[0,3],[0,3,36],[3],[2]]
def zkm (x:Ybt) (p:(List Addr)):EH Ty_:=([(0,.pp (.xp x.1 [(.int .i64 x.2.1),(.int .i64 x.2.2.1),(.int .i64 x.2.2.2.1),(.int .i64 x.2.2.2.2.1),(.int .i64 x.2.2.2.2.2.1),(.int .i64 x.2.2.2.2.2.2.1),(.int .u32 x.2.2.2.2.2.2.2)] 0)),(3,.sw 600001 [])],[(600001,.typ false 8 p)])
def zne (n:Nat) (x:Ybt):Pt P_ Ty_ [] (List Addr):=.join (S:=(List Addr)) (zkm x) (.call (k11 n) (⟨x.2.1,x.2.2.1,x.2.2.2.1,x.2.2.2.2.1,x.2.2.2.2.2.1,x.2.2.2.2.2.2.1,x.2.2.2.2.2.2.2⟩:Xd) fun (y1:Bool)=>.ite y1 (.need (([(⟨x.1,1,none⟩:Addr)]:List Addr).length * 8≤140737488355328) (.leaf (.inl ([(⟨x.1,1,none⟩:Addr)]:List Addr)))) (.leaf (.inl ([]:List Addr)))) fun s1=>.call (k9 n) (⟨x.2.1,x.2.2.1,x.2.2.2.1,x.2.2.2.2.1,x.2.2.2.2.2.1,x.2.2.2.2.2.2.1,x.2.2.2.2.2.2.2⟩:Xd) fun (y2:(List Int))=>.need (0≤(y2.length:Int)∧(y2.length:Int)≤(([(⟨x.1,2,none⟩:Addr),(⟨x.1,3,none⟩:Addr),(⟨x.1,4,none⟩:Addr)]:List Addr).length:Int)) (.need (0+(y2.length:Int).toNat≤([(⟨x.1,2,none⟩:Addr),(⟨x.1,3,none⟩:Addr),(⟨x.1,4,none⟩:Addr)]:List Addr).length) (.need ((s1.length+((([(⟨x.1,2,none⟩:Addr),(⟨x.1,3,none⟩:Addr),(⟨x.1,4,none⟩:Addr)]:List Addr).drop 0).take ((y2.length:Int).toNat)).length) * 8≤140737488355328) (.call (k215 n) x.2.1 fun (y3:Bool)=>.ite y3 (.need (((s1++((([(⟨x.1,2,none⟩:Addr),(⟨x.1,3,none⟩:Addr),(⟨x.1,4,none⟩:Addr)]:List Addr).drop 0).take ((y2.length:Int).toNat))).length+([(⟨x.1,5,none⟩:Addr)]:List Addr).length) * 8≤140737488355328) (.leaf ((s1++((([(⟨x.1,2,none⟩:Addr),(⟨x.1,3,none⟩:Addr),(⟨x.1,4,none⟩:Addr)]:List Addr).drop 0).take ((y2.length:Int).toNat)))++([(⟨x.1,5,none⟩:Addr)]:List Addr)))) (.leaf (s1++((([(⟨x.1,2,none⟩:Addr),(⟨x.1,3,none⟩:Addr),(⟨x.1,4,none⟩:Addr)]:List Addr).drop 0).take ((y2.length:Int).toNat)))))))
def zdv (n:Nat):Con P_ Ty_:=zq (X:=Ybt) (R:=(List Addr)) (pro:=[]) (y02 n) 25 y03 (fun x=>.two .no (.two .no (.join (List Addr) (zkm x) ⟨[(0,.any),(3,.own 600001 false 8)],[(600001,.any)]⟩ .no .no))) [.any] [] [100000] ⟨[(2,.ref 100000)],[(100000,.any)]⟩ [100000] true (fun x=>[.pp (.xp x.1 [(.int .i64 x.2.1),(.int .i64 x.2.2.1),(.int .i64 x.2.2.2.1),(.int .i64 x.2.2.2.2.1),(.int .i64 x.2.2.2.2.2.1),(.int .i64 x.2.2.2.2.2.2.1),(.int .u32 x.2.2.2.2.2.2.2)] 0)]) (fun x=>[]) (fun y=>([(2,.sw 100000 [])],[(100000,.typ false 8 y)])) (fun y=>.sw 100000 []) (fun y=>[(100000,.typ false 8 y)]) (zne n)
def z5e (o0:Option Bool) (o1:Option (List Int)) (o2:Option Bool) (b:Nat):Option (List Addr):=(o0.bind fun y1=>bif y1 then (need (([(⟨b,1,none⟩:Addr)]:List Addr).length * 8≤140737488355328) (some (.inl ([(⟨b,1,none⟩:Addr)]:List Addr)))) else (some (.inl ([]:List Addr))):Option ((List Addr)⊕_)).bind (zk fun s1=>o1.bind fun y2=>need (0≤(y2.length:Int)∧(y2.length:Int)≤(([(⟨b,2,none⟩:Addr),(⟨b,3,none⟩:Addr),(⟨b,4,none⟩:Addr)]:List Addr).length:Int)) (need (0+(y2.length:Int).toNat≤([(⟨b,2,none⟩:Addr),(⟨b,3,none⟩:Addr),(⟨b,4,none⟩:Addr)]:List Addr).length) (need ((s1.length+((([(⟨b,2,none⟩:Addr),(⟨b,3,none⟩:Addr),(⟨b,4,none⟩:Addr)]:List Addr).drop 0).take ((y2.length:Int).toNat)).length) * 8≤140737488355328) (o2.bind fun y3=>bif y3 then (need (((s1++((([(⟨b,2,none⟩:Addr),(⟨b,3,none⟩:Addr),(⟨b,4,none⟩:Addr)]:List Addr).drop 0).take ((y2.length:Int).toNat))).length+([(⟨b,5,none⟩:Addr)]:List Addr).length) * 8≤140737488355328) (some ((s1++((([(⟨b,2,none⟩:Addr),(⟨b,3,none⟩:Addr),(⟨b,4,none⟩:Addr)]:List Addr).drop 0).take ((y2.length:Int).toNat)))++([(⟨b,5,none⟩:Addr)]:List Addr)))) else (some (s1++((([(⟨b,2,none⟩:Addr),(⟨b,3,none⟩:Addr),(⟨b,4,none⟩:Addr)]:List Addr).drop 0).take ((y2.length:Int).toNat))))))))
theorem zsb (n:Nat) (x:Ybt):(zdv n).G x=z5e ((k11 n).G (⟨x.2.1,x.2.2.1,x.2.2.2.1,x.2.2.2.2.1,x.2.2.2.2.2.1,x.2.2.2.2.2.2.1,x.2.2.2.2.2.2.2⟩:Xd)) ((k9 n).G (⟨x.2.1,x.2.2.1,x.2.2.2.1,x.2.2.2.2.1,x.2.2.2.2.2.1,x.2.2.2.2.2.2.1,x.2.2.2.2.2.2.2⟩:Xd)) ((k215 n).G x.2.1) x.1:=by kernel_rfl
theorem zlb (o0:Option Bool) (o1:Option (List Int)) (o2:Option Bool) (l:List Addr) (h:z5e o0 o1 o2 0=some l) (b:Nat):z5e o0 o1 o2 b=some ((l.map (·.off)).map fun c=>(⟨b,c,none⟩:Addr)):=by
 cases o0 with
 | none=>(revert h; simp [zk,need,z5e])
 | some z0 =>
 cases o1 with
 | none=>(revert h; (try cases z0) <;> simp [zk,need,z5e])
 | some z1 =>
 cases o2 with
 | none=>(revert h; (try cases z0) <;> simp [zk,need,z5e])
 | some z2 =>
 revert h
 cases z0 <;> cases z2 <;> simp [z5e,zk,need] <;> intros <;> subst_vars <;> simp_all [List.map_take]
theorem zsa (n:Nat) (x:Ycd) (l:List Addr) (h:(zdv n).G (0,x)=some l) (b:Nat):(zdv n).G (b,x)=some ((l.map (·.off)).map fun c=>(⟨b,c,none⟩:Addr)):=by
 rw [zsb] at h ⊢
 exact zlb _ _ _ l h b
def k220 (n:Nat):Con Go.Proofs.Try.prog Ty_ where
 f:=25
 X:=Int×Int×Int×Int×Int×Int×Int
 Y:=(List Nat)×Int×Int×Int×Int×Int×Int×Int
 A:=[.pt 200000]
 H:=[]
 N:=[]
 encA:=fun _=>[.pt 200000 [] 0 0]
 encH:=fun x=>[(200000,.lit 7 [[.sc (.int .i64 x.1),.sc (.int .i64 x.2.1),.sc (.int .i64 x.2.2.1),.sc (.int .i64 x.2.2.2.1),.sc (.int .i64 x.2.2.2.2.1),.sc (.int .i64 x.2.2.2.2.2.1),.sc (.int .u32 x.2.2.2.2.2.2)]])]
 G:=fun x=>((zdv n).G (0,x)).map fun l=>(l.map (·.off),x)
 encR:=fun y=>.pp (.fs 200000 y.1)
 encO:=fun y=>[(200000,.lit 7 [[.sc (.int .i64 y.2.1),.sc (.int .i64 y.2.2.1),.sc (.int .i64 y.2.2.2.1),.sc (.int .i64 y.2.2.2.2.1),.sc (.int .i64 y.2.2.2.2.2.1),.sc (.int .i64 y.2.2.2.2.2.2.1),.sc (.int .u32 y.2.2.2.2.2.2.2)]])]
 strong:=false
 ok:=fun x y h=>⟨fun h=>(nomatch h),by
  obtain ⟨l,hl,rfl⟩:=Option.map_eq_some_iff.1 h
  refine CallG.fields' (x:=[(.int .i64 x.1),(.int .i64 x.2.1),(.int .i64 x.2.2.1),(.int .i64 x.2.2.2.1),(.int .i64 x.2.2.2.2.1),(.int .i64 x.2.2.2.2.2.1),(.int .u32 x.2.2.2.2.2.2)]) (cs:=l.map (·.off)) fun b=>?_
  exact ((zdv n).ok (b,x) _ (zsa n x l hl b)).2⟩
def znc (n:Nat):Cx P_ Ty_:=⟨[],[],[],[]⟩
abbrev znd:List (List Nat):=[[0],[0,3],[3,8,9,10],[3,8,9,10,11],[3,5,8,9,10],[3,8,9,10],[3,8,9,10,18],[3,8,9,10,18,19],[3,6,8,9,10,18],[3,6,8,9,10,18],[3,8,9,10,18,25],[3,8,9,10,18],[3,8,9,10,18],[3,8,9,10],[2]]
def zpt (n:Nat) (x:ByteArray) (v1:Unit) (q1:Yaa) (v2:Unit) (q2:Yaa):Pt P_ Ty_ [] (Bo (Yaa) (Yaa) Empty):=.ite (decide (q2.2<(8:Int))) (.ite ((IntKind.u64.wrap (BitVec.ofInt IntKind.u64.bits q2.1 &&& BitVec.ofInt IntKind.u64.bits (1:Int)).toNat)==1) (.leaf (.go ((IntKind.u64.wrap (BitVec.ofInt IntKind.u64.bits (q2.1.fdiv (2 ^ min (1:Int).toNat IntKind.u64.bits)) ^^^ BitVec.ofInt IntKind.u64.bits (14514072000185962306:Int)).toNat),(IntKind.i64.wrap (q2.2+(1:Int)))))) (.leaf (.go ((q2.1.fdiv (2 ^ min (1:Int).toNat IntKind.u64.bits)),(IntKind.i64.wrap (q2.2+(1:Int))))))) (.leaf (.out (q2.1,q2.2)))
def zpr (n:Nat) (x:ByteArray) (v1:Unit) (q1:Yaa) (v2:Unit):LCon P_ Ty_ []:=lcon (X:=Yaa) (Y:=Yaa) (Z:=Empty) (znc n) (subC [1,1,0,1,0,0,1,1,0,0,1,1,1,0,0] (fnC P_ 15 znd)) (fun q2=>.no) 2 false ⟨[(3,.any),(8,.im 0),(9,.any),(10,.any),(18,.any)],[]⟩ ⟨[(3,.any),(8,.im 0),(9,.any),(10,.any),(18,.any),(19,.any)],[]⟩ ⟨[],[]⟩ (fun q2=>([(3,.sc (.int .u64 q2.1)),(8,.im 0 (bytesOf x)),(9,I_ ((bytesOf x).length:Int)),(10,I_ q1.2),(18,I_ q2.2)],[])) (fun p=>([(3,.sc (.int .u64 p.1)),(8,.im 0 (bytesOf x)),(9,I_ ((bytesOf x).length:Int)),(10,I_ q1.2),(18,I_ p.2),(19,B_ false)],[])) (fun p=>nomatch p) n (zpt n x v1 q1 v2)
def zps (n:Nat) (x:ByteArray) (v1:Unit) (q1:Yaa):Pt P_ Ty_ [] (Bo (Yaa) (Yaa) Empty):=.ite (decide (q1.2<((bytesOf x).length:Int))) (.bnd (idx (bytesOf x) q1.2) fun y1=>.loop (V:=Unit) (zpr n x v1 q1) () ((IntKind.u64.wrap (BitVec.ofInt IntKind.u64.bits q1.1 ^^^ BitVec.ofInt IntKind.u64.bits (IntKind.u64.wrap y1)).toNat),(0:Int)) fun (v2:Unit) (y2:Yaa)=>.leaf (.go (y2.1,(IntKind.i64.wrap (q1.2+(1:Int)))))) (.leaf (.out (q1.1,q1.2)))
def zpq (n:Nat) (x:ByteArray) (v1:Unit):LCon P_ Ty_ []:=lcon (X:=Yaa) (Y:=Yaa) (Z:=Empty) (znc n) (subC [1,1,0,1,0,0] (fnC P_ 15 znd)) (fun q1=>.two .no (.two .no (.two (.two (.two .no (.two .no (.two .no (.two (.loop Unit (zpr n x v1 q1) false ⟨[(3,.any),(8,.im 0),(9,.any),(10,.any),(18,.any)],[]⟩) .no)))) .no) .no))) 0 false ⟨[(3,.any),(8,.im 0),(9,.any),(10,.any)],[]⟩ ⟨[(3,.any),(8,.im 0),(9,.any),(10,.any),(11,.any)],[]⟩ ⟨[],[]⟩ (fun q1=>([(3,.sc (.int .u64 q1.1)),(8,.im 0 (bytesOf x)),(9,I_ ((bytesOf x).length:Int)),(10,I_ q1.2)],[])) (fun p=>([(3,.sc (.int .u64 p.1)),(8,.im 0 (bytesOf x)),(9,I_ ((bytesOf x).length:Int)),(10,I_ p.2),(11,B_ false)],[])) (fun p=>nomatch p) n (zps n x v1)
def zum (n:Nat) (x:ByteArray):Pt P_ Ty_ [] Int:=.loop (V:=Unit) (zpq n x) () ((18446744073709551615:Int),(0:Int)) fun (v1:Unit) (y3:Yaa)=>.leaf (cmpl .u64 y3.1)
def k199 (n:Nat):Con P_ Ty_:=zq (X:=ByteArray) (R:=Int) (pro:=[]) (znc n) 15 znd (fun x=>.two .no (.two .no (.two (.two .no (.two (.loop Unit (zpq n x) false ⟨[(3,.any),(8,.im 0),(9,.any),(10,.any)],[]⟩) .no)) .no))) [.any] [] [] ⟨[(2,.any)],[]⟩ [] true (fun x=>[.sc (.string x)]) (fun x=>[]) (fun y=>([(2,.sc (.int .u64 y))],[])) (fun y=>.sc (.int .u64 y)) (fun y=>[]) (zum n)
def zbb (n:Nat):Cx P_ Ty_:=⟨[k16 n,k217 n,k218 n,k219 n,k220 n,k199 n],[(26,false,0),(50,false,0),(110,false,0),(152,false,0)],[],[]⟩
abbrev zbc:List (List Nat):=[[1],[1,4],[1,4,24],[2,3],[1,6],[1,6],[1,6,36,37,38],[1,6,36,37,38,39],[1,6,8,36,37,38],[1,6,8,36,37,38],[1,6,8,36,37,38],[1,6,8,36,37,38],[1,6,36,37,38],[1,6,36,37,38],[1,6],[1,6,80,81,82],[1,6,80,81,82,83],[1,6,10,80,81,82],[1,6,80,81,82],[1,6,80,81,82],[1,6],[1,6,96,97,98],[1,6,96,97,98,99],[1,6,12,96,97,98],[1,6,12,13,96,97,98],[1,6,12,13,96,97,98,103],[1,6,12,13,96,97,98],[1,6,12,96,97,98],[1,6,12,96,97,98],[1,6,12,96,97,98,121],[1,6,96,97,98],[1,6,96,97,98],[1,6,96,97,98],[1,6],[6,138,139,140],[6,138,139,140,141],[6,15,138,139,140],[6,15,138,139,140],[6,15,138,139,140,156,157,158],[6,15,138,139,140,156,157,158,159],[6,15,17,138,139,140,156,157,158],[6,15,138,139,140,156,157,158],[6,15,138,139,140,156,157,158],[6,15,138,139,140,170],[6,138,139,140],[6,138,139,140],[6],[2,3]]
def zq0 (x:Xe) (v3:Unit) (q3:Yab) (p:Ycq):EH Ty_:=([(1,.pt 1 [] 0 0),(6,.pt 29 [] 0 0),(12,.pt 12 [] 0 0),(13,.sc (.int .u8 p.1)),(96,.im 3 x.Slots_),(97,I_ (x.Slots_.length:Int)),(98,I_ q3.1)],[(1,.lit 4 [[.im 1 x.Sign_,.im 2 x.Regs_,.im 3 x.Slots_,.im 4 x.List_]]),(29,.lit 1 [[.ow false 0 q3.2]]),(12,.lit 5 [[I_ p.2.1,I_ p.2.2.1,B_ p.2.2.2.1,.sc (.int .u32 p.2.2.2.2.1),I_ p.2.2.2.2.2]])])
def zq1 (n:Nat) (x:Xe) (v1:Unit) (q1:Yab):Pt P_ Ty_ [] (Bo (Yab) (Yab) Empty):=.ite (decide (q1.1<(x.Sign_.length:Int))) (.bnd (idx x.Sign_ q1.1) fun y3=>.need ((q1.2.length+([(IntKind.u8.wrap y3.Kind_)]:List Int).length) * 1≤140737488355328) (.call (k217 n) ((q1.2++([(IntKind.u8.wrap y3.Kind_)]:List Int)),(y3.Name_.size:Int)) fun (y4:(List Int))=>.need ((y4.length+(bytesOf y3.Name_).length) * 1≤140737488355328) (.call (k217 n) ((y4++(bytesOf y3.Name_)),y3.Len_) fun (y5:(List Int))=>.leaf (.go ((IntKind.i64.wrap (q1.1+(1:Int))),y5))))) (.leaf (.out (q1.1,q1.2)))
def zpv (n:Nat) (x:Xe) (v1:Unit):LCon P_ Ty_ []:=lcon (X:=Yab) (Y:=Yab) (Z:=Empty) (zbb n) (subC [1,1,1,1,0,1,0,0] (fnC P_ 11 zbc)) (fun q1=>.no) 0 false ⟨[(1,.ref 1),(6,.ref 29),(36,.im 1),(37,.any),(38,.any)],[(1,.any),(29,.any)]⟩ ⟨[(1,.ref 1),(6,.ref 29),(36,.im 1),(37,.any),(38,.any),(39,.any)],[(1,.any),(29,.any)]⟩ ⟨[],[]⟩ (fun q1=>([(1,.pt 1 [] 0 0),(6,.pt 29 [] 0 0),(36,.im 1 x.Sign_),(37,I_ (x.Sign_.length:Int)),(38,I_ q1.1)],[(1,.lit 4 [[.im 1 x.Sign_,.im 2 x.Regs_,.im 3 x.Slots_,.im 4 x.List_]]),(29,.lit 1 [[.ow false 0 q1.2]])])) (fun p=>([(1,.pt 1 [] 0 0),(6,.pt 29 [] 0 0),(36,.im 1 x.Sign_),(37,I_ (x.Sign_.length:Int)),(38,I_ p.1),(39,B_ false)],[(1,.lit 4 [[.im 1 x.Sign_,.im 2 x.Regs_,.im 3 x.Slots_,.im 4 x.List_]]),(29,.lit 1 [[.ow false 0 p.2]])])) (fun p=>nomatch p) n (zq1 n x v1)
def zq2 (n:Nat) (x:Xe) (v2:Unit) (q2:Yab):Pt P_ Ty_ [] (Bo (Yab) (Yab) Empty):=.ite (decide (q2.1<(x.Regs_.length:Int))) (.bnd (idx x.Regs_ q2.1) fun y8=>.call (k218 n) (q2.2,y8) fun (y9:(List Int))=>.leaf (.go ((IntKind.i64.wrap (q2.1+(1:Int))),y9))) (.leaf (.out (q2.1,q2.2)))
def zpw (n:Nat) (x:Xe) (v2:Unit):LCon P_ Ty_ []:=lcon (X:=Yab) (Y:=Yab) (Z:=Empty) (zbb n) (subC [1,1,1,1,1,1,0,1,0,0] (fnC P_ 11 zbc)) (fun q2=>.no) 2 false ⟨[(1,.ref 1),(6,.ref 29),(80,.im 2),(81,.any),(82,.any)],[(1,.any),(29,.any)]⟩ ⟨[(1,.ref 1),(6,.ref 29),(80,.im 2),(81,.any),(82,.any),(83,.any)],[(1,.any),(29,.any)]⟩ ⟨[],[]⟩ (fun q2=>([(1,.pt 1 [] 0 0),(6,.pt 29 [] 0 0),(80,.im 2 x.Regs_),(81,I_ (x.Regs_.length:Int)),(82,I_ q2.1)],[(1,.lit 4 [[.im 1 x.Sign_,.im 2 x.Regs_,.im 3 x.Slots_,.im 4 x.List_]]),(29,.lit 1 [[.ow false 0 q2.2]])])) (fun p=>([(1,.pt 1 [] 0 0),(6,.pt 29 [] 0 0),(80,.im 2 x.Regs_),(81,I_ (x.Regs_.length:Int)),(82,I_ p.1),(83,B_ false)],[(1,.lit 4 [[.im 1 x.Sign_,.im 2 x.Regs_,.im 3 x.Slots_,.im 4 x.List_]]),(29,.lit 1 [[.ow false 0 p.2]])])) (fun p=>nomatch p) n (zq2 n x v2)
def zq3 (n:Nat) (x:Xe) (v3:Unit) (q3:Yab):Pt P_ Ty_ [] (Bo (Yab) (Yab) Empty):=.ite (decide (q3.1<(x.Slots_.length:Int))) (.bnd (idx x.Slots_ q3.1) fun y12=>.join (S:=Ycq) (zq0 x v3 q3) (.ite y12.Keep_ (.leaf (.inl ((1:Int),y12.Type_.Kind_,y12.Type_.Param_,y12.Keep_,y12.Bits_,y12.Int_))) (.leaf (.inl ((0:Int),y12.Type_.Kind_,y12.Type_.Param_,y12.Keep_,y12.Bits_,y12.Int_)))) fun s1=>.need ((q3.2.length+([s1.1]:List Int).length) * 1≤140737488355328) (.call (k218 n) ((q3.2++([s1.1]:List Int)),(⟨s1.2.1,s1.2.2.1⟩:Xb)) fun (y13:(List Int))=>.ite (s1.2.1==2) (.call (k217 n) (y13,s1.2.2.2.2.2) fun (y14:(List Int))=>.leaf (.go ((IntKind.i64.wrap (q3.1+(1:Int))),y14))) (.call (k219 n) (y13,(IntKind.u64.wrap s1.2.2.2.2.1),(4:Int)) fun (y15:(List Int))=>.leaf (.go ((IntKind.i64.wrap (q3.1+(1:Int))),y15))))) (.leaf (.out (q3.1,q3.2)))
def zpx (n:Nat) (x:Xe) (v3:Unit):LCon P_ Ty_ []:=lcon (X:=Yab) (Y:=Yab) (Z:=Empty) (zbb n) (subC [1,1,1,1,1,1,1,1,0,1,0,0] (fnC P_ 11 zbc)) (fun q3=>.two .no (.two .no (.two (.two (.two .no (.two .no (.join (Ycq) (zq0 x v3 q3) ⟨[(1,.ref 1),(6,.ref 29),(12,.ref 12),(13,.any),(96,.im 3),(97,.any),(98,.any)],[(1,.any),(29,.any),(12,.any)]⟩ .no .no))) .no) .no))) 4 false ⟨[(1,.ref 1),(6,.ref 29),(96,.im 3),(97,.any),(98,.any)],[(1,.any),(29,.any)]⟩ ⟨[(1,.ref 1),(6,.ref 29),(96,.im 3),(97,.any),(98,.any),(99,.any)],[(1,.any),(29,.any)]⟩ ⟨[],[]⟩ (fun q3=>([(1,.pt 1 [] 0 0),(6,.pt 29 [] 0 0),(96,.im 3 x.Slots_),(97,I_ (x.Slots_.length:Int)),(98,I_ q3.1)],[(1,.lit 4 [[.im 1 x.Sign_,.im 2 x.Regs_,.im 3 x.Slots_,.im 4 x.List_]]),(29,.lit 1 [[.ow false 0 q3.2]])])) (fun p=>([(1,.pt 1 [] 0 0),(6,.pt 29 [] 0 0),(96,.im 3 x.Slots_),(97,I_ (x.Slots_.length:Int)),(98,I_ p.1),(99,B_ false)],[(1,.lit 4 [[.im 1 x.Sign_,.im 2 x.Regs_,.im 3 x.Slots_,.im 4 x.List_]]),(29,.lit 1 [[.ow false 0 p.2]])])) (fun p=>nomatch p) n (zq3 n x v3)
def zq5 (n:Nat) (x:Xe) (v4:Unit) (q4:Yab) (v5:Ybn) (q5:Yab):Pt P_ Ty_ [] (Bo (Yab) (Yab) Empty):=.ite (decide (q5.1<v5.2.1)) (.need (0≤q5.1∧q5.1<(v5.1.length:Int)) (.bnd (v5.1[q5.1.toNat]?) fun y20=>.bnd (z39 [some v5.2.2.1,some v5.2.2.2.1,some v5.2.2.2.2.1,some v5.2.2.2.2.2.1,some v5.2.2.2.2.2.2.1,some v5.2.2.2.2.2.2.2.1,none] y20) fun y21=>.call (k217 n) (q5.2,y21) fun (y22:(List Int))=>.leaf (.go ((IntKind.i64.wrap (q5.1+(1:Int))),y22)))) (.leaf (.out (q5.1,q5.2)))
def zpz (n:Nat) (x:Xe) (v4:Unit) (q4:Yab) (v5:Ybn):LCon P_ Ty_ []:=lcon (X:=Yab) (Y:=Yab) (Z:=Empty) (zbb n) (subC [1,1,1,1,1,1,1,1,1,1,0,1,0,0,1,1,0,0,1,1,0,1,0,0] (fnC P_ 11 zbc)) (fun q5=>.no) 8 false ⟨[(6,.ref 29),(15,.ref 15),(138,.im 4),(139,.any),(140,.any),(156,.ref 15),(157,.any),(158,.any)],[(29,.any),(15,.any)]⟩ ⟨[(6,.ref 29),(15,.ref 15),(138,.im 4),(139,.any),(140,.any),(156,.ref 15),(157,.any),(158,.any),(159,.any)],[(29,.any),(15,.any)]⟩ ⟨[],[]⟩ (fun q5=>([(6,.pt 29 [] 0 0),(15,.pt 15 [] 0 0),(138,.im 4 x.List_),(139,I_ (x.List_.length:Int)),(140,I_ q4.1),(156,.pp (.fs 15 v5.1)),(157,I_ v5.2.1),(158,I_ q5.1)],[(29,.lit 1 [[.ow false 0 q5.2]]),(15,.lit 7 [[I_ v5.2.2.1,I_ v5.2.2.2.1,I_ v5.2.2.2.2.1,I_ v5.2.2.2.2.2.1,I_ v5.2.2.2.2.2.2.1,I_ v5.2.2.2.2.2.2.2.1,.sc (.int .u32 v5.2.2.2.2.2.2.2.2)]])])) (fun p=>([(6,.pt 29 [] 0 0),(15,.pt 15 [] 0 0),(138,.im 4 x.List_),(139,I_ (x.List_.length:Int)),(140,I_ q4.1),(156,.pp (.fs 15 v5.1)),(157,I_ v5.2.1),(158,I_ p.1),(159,B_ false)],[(29,.lit 1 [[.ow false 0 p.2]]),(15,.lit 7 [[I_ v5.2.2.1,I_ v5.2.2.2.1,I_ v5.2.2.2.2.1,I_ v5.2.2.2.2.2.1,I_ v5.2.2.2.2.2.2.1,I_ v5.2.2.2.2.2.2.2.1,.sc (.int .u32 v5.2.2.2.2.2.2.2.2)]])])) (fun p=>nomatch p) n (zq5 n x v4 q4 v5)
def zq4 (n:Nat) (x:Xe) (v4:Unit) (q4:Yab):Pt P_ Ty_ [] (Bo (Yab) (Yab) Empty):=.ite (decide (q4.1<(x.List_.length:Int))) (.bnd (idx x.List_ q4.1) fun y18=>.need ((q4.2.length+([(IntKind.u8.wrap y18.Op_)]:List Int).length) * 1≤140737488355328) (.call (k220 n) (y18.Op_,y18.D_,y18.A_,y18.B_,y18.C_,y18.N_,y18.Bits_) fun (y19:Ycr)=>.loop (V:=Ybn) (zpz n x v4 q4) (y19.1,(y19.1.length:Int),y19.2.1,y19.2.2.1,y19.2.2.2.1,y19.2.2.2.2.1,y19.2.2.2.2.2.1,y19.2.2.2.2.2.2.1,y19.2.2.2.2.2.2.2) ((0:Int),(q4.2++([(IntKind.u8.wrap y18.Op_)]:List Int))) fun (v5:Ybn) (y23:Yab)=>.ite (v5.2.2.1==1) (.call (k219 n) (y23.2,(IntKind.u64.wrap v5.2.2.2.2.2.2.2.2),(4:Int)) fun (y24:(List Int))=>.leaf (.go ((IntKind.i64.wrap (q4.1+(1:Int))),y24))) (.leaf (.go ((IntKind.i64.wrap (q4.1+(1:Int))),y23.2))))) (.leaf (.out (q4.1,q4.2)))
def zpy (n:Nat) (x:Xe) (v4:Unit):LCon P_ Ty_ []:=lcon (X:=Yab) (Y:=Yab) (Z:=Empty) (zbb n) (subC [1,1,1,1,1,1,1,1,1,1,0,1,0,0] (fnC P_ 11 zbc)) (fun q4=>.two .no (.two .no (.two (.two (.two .no (.two .no (.two (.two .no (.two (.loop (Ybn) (zpz n x v4 q4) false ⟨[(6,.ref 29),(15,.ref 15),(138,.im 4),(139,.any),(140,.any),(156,.ref 15),(157,.any),(158,.any)],[(29,.any),(15,.any)]⟩) .no)) .no))) .no) .no))) 6 false ⟨[(6,.ref 29),(138,.im 4),(139,.any),(140,.any)],[(29,.any)]⟩ ⟨[(6,.ref 29),(138,.im 4),(139,.any),(140,.any),(141,.any)],[(29,.any)]⟩ ⟨[],[]⟩ (fun q4=>([(6,.pt 29 [] 0 0),(138,.im 4 x.List_),(139,I_ (x.List_.length:Int)),(140,I_ q4.1)],[(29,.lit 1 [[.ow false 0 q4.2]])])) (fun p=>([(6,.pt 29 [] 0 0),(138,.im 4 x.List_),(139,I_ (x.List_.length:Int)),(140,I_ p.1),(141,B_ false)],[(29,.lit 1 [[.ow false 0 p.2]])])) (fun p=>nomatch p) n (zq4 n x v4)
def zuo (n:Nat) (x:Xe):Pt P_ Ty_ [] (Yac):=.call (k16 n) x fun (y1:Yaa)=>.ite (y1.1 != (0:Int)) (.leaf ((⟨#[]⟩:ByteArray),y1.1)) (.call (k217 n) (([(108:Int),(116:Int),(104:Int),(49:Int)]:List Int),(x.Sign_.length:Int)) fun (y2:(List Int))=>.loop (V:=Unit) (zpv n x) () ((0:Int),y2) fun (v1:Unit) (y6:Yab)=>.call (k217 n) (y6.2,(x.Regs_.length:Int)) fun (y7:(List Int))=>.loop (V:=Unit) (zpw n x) () ((0:Int),y7) fun (v2:Unit) (y10:Yab)=>.call (k217 n) (y10.2,(x.Slots_.length:Int)) fun (y11:(List Int))=>.loop (V:=Unit) (zpx n x) () ((0:Int),y11) fun (v3:Unit) (y16:Yab)=>.call (k217 n) (y16.2,(x.List_.length:Int)) fun (y17:(List Int))=>.loop (V:=Unit) (zpy n x) () ((0:Int),y17) fun (v4:Unit) (y25:Yab)=>.call (k199 n) (zv y25.2) fun (y26:Int)=>.call (k219 n) (y25.2,y26,(8:Int)) fun (y27:(List Int))=>.leaf ((zv y27),(0:Int)))
def k216 (n:Nat):Con P_ Ty_:=zq (X:=Xe) (R:=Yac) (pro:=[]) (zbb n) 11 zbc (fun x=>.two .no (.two .no (.two .no (.two .no (.two (.two .no (.two (.loop Unit (zpv n x) false ⟨[(1,.ref 1),(6,.ref 29),(36,.im 1),(37,.any),(38,.any)],[(1,.any),(29,.any)]⟩) .no)) (.two .no (.two (.two .no (.two (.loop Unit (zpw n x) false ⟨[(1,.ref 1),(6,.ref 29),(80,.im 2),(81,.any),(82,.any)],[(1,.any),(29,.any)]⟩) .no)) (.two .no (.two (.two .no (.two (.loop Unit (zpx n x) false ⟨[(1,.ref 1),(6,.ref 29),(96,.im 3),(97,.any),(98,.any)],[(1,.any),(29,.any)]⟩) .no)) (.two .no (.two (.two .no (.two (.loop Unit (zpy n x) false ⟨[(6,.ref 29),(138,.im 4),(139,.any),(140,.any)],[(29,.any)]⟩) .no)) .no))))))))))) [.ag [.im 1,.im 2,.im 3,.im 4]] [] [] ⟨[(2,.any),(3,.any)],[]⟩ [] true (fun x=>[.ag [.im 1 x.Sign_,.im 2 x.Regs_,.im 3 x.Slots_,.im 4 x.List_]]) (fun x=>[]) (fun y=>([(2,.sc (.string y.1)),(3,I_ y.2)],[])) (fun y=>.tu [.sc (.string y.1),I_ y.2]) (fun y=>[]) (zuo n)
def y8x (n:Nat):Cx P_ Ty_:=⟨[],[],[],[]⟩
abbrev y8y:List (List Nat):=[[0,1],[0,1,17],[0,1],[0,1,5],[5],[4]]
def zv6 (n:Nat) (x:Yad):Pt P_ Ty_ [200000] ((Ybo)⊕(Yaa)):=.ite (decide ((IntKind.i64.wrap ((x.1.size:Int) - x.2.1))<x.2.2)) (.leaf (.inr ((242:Int),x.2.1))) (.need (0≤x.2.1∧x.2.1≤(IntKind.i64.wrap (x.2.1+x.2.2))∧(IntKind.i64.wrap (x.2.1+x.2.2))≤(x.1.size:Int)) (.leaf (.inl ((x.1.extract x.2.1.toNat ((IntKind.i64.wrap (x.2.1+x.2.2)).toNat)),x.1,(IntKind.i64.wrap (x.2.1+x.2.2))))))
def k222 (n:Nat):Con P_ Ty_:=conX (X:=Yad) (R:=Ybo) (Z:=Yaa) (pro:=[200000]) (y8x n) 56 y8y (fun x=>.no) [.pt 200000,.any] [] [] ⟨[(4,.any)],[(200000,.any)]⟩ [200000] (fun x=>[.pt 200000 [] 0 0,I_ x.2.2]) (fun x=>[(200000,.lit 2 [[.sc (.string x.1),I_ x.2.1]])]) (fun y=>([(4,.sc (.string y.1))],[(200000,.lit 2 [[.sc (.string y.2.1),I_ y.2.2]])])) (fun y=>.sc (.string y.1)) (fun y=>[(200000,.lit 2 [[.sc (.string y.2.1),I_ y.2.2]])]) (fun z=>.iface 81 (.agg (List.toArray [.int .i64 z.1,.int .i64 z.2]))) (zv6 n)
def zv7 (n:Nat):Cx P_ Ty_:=⟨[],[],[],[]⟩
abbrev zv8:List (List Nat):=[[0,1],[0,1,5],[0,1,5,6],[0,1,5,6,7],[0,1,5,6,7,24],[0,1,5,6,7],[0,1,5,6,7,8],[0,1,5,6,7,8],[0,1,5,6,7,8,53],[0,1,5,6,7,8],[0,1,5,6,7,8],[0,1,5,6,7,65],[0,1,5,6,7],[5,6,69],[6],[4]]
def zqb (x:Yad) (v1:Unit) (q1:Yal) (p:Bool):EH Ty_:=([(0,.pt 200000 [] 0 0),(1,I_ x.2.2),(5,I_ x.2.1),(6,.sc (.int .u64 q1.1)),(7,I_ q1.2.1),(8,.sc (.int .u8 (zb x.1 q1.2.2))),(53,B_ p)],[(200000,.lit 2 [[.sc (.string x.1),I_ (IntKind.i64.wrap (q1.2.2+(1:Int)))]])])
def zqc (n:Nat) (x:Yad) (v1:Unit) (q1:Yal):Pt P_ Ty_ [200000] (Bo (Yal) (Yal) (Yaa)):=.ite (q1.2.2==(x.1.size:Int)) (.leaf (.ret ((242:Int),x.2.1))) (.need (0≤q1.2.2∧q1.2.2<(x.1.size:Int)) (.join (S:=Bool) (zqb x v1 q1) (.ite (decide (q1.2.1 > (56:Int))) (.leaf (.inl true)) (.ite (decide (q1.2.1 > (0:Int))) (.leaf (.inl ((zb x.1 q1.2.2)==0))) (.leaf (.inl false)))) fun s1=>.ite s1 (.leaf (.ret ((243:Int),x.2.1))) (.need (0≤q1.2.1) (.ite (decide ((zb x.1 q1.2.2)<(128:Int))) (.leaf (.out ((IntKind.u64.wrap (BitVec.ofInt IntKind.u64.bits q1.1 ||| BitVec.ofInt IntKind.u64.bits (IntKind.u64.wrap ((IntKind.u64.wrap (IntKind.u8.wrap (BitVec.ofInt IntKind.u8.bits (zb x.1 q1.2.2) &&& BitVec.ofInt IntKind.u8.bits (127:Int)).toNat)) * 2 ^ min q1.2.1.toNat IntKind.u64.bits))).toNat),q1.2.1,(IntKind.i64.wrap (q1.2.2+(1:Int)))))) (.leaf (.go ((IntKind.u64.wrap (BitVec.ofInt IntKind.u64.bits q1.1 ||| BitVec.ofInt IntKind.u64.bits (IntKind.u64.wrap ((IntKind.u64.wrap (IntKind.u8.wrap (BitVec.ofInt IntKind.u8.bits (zb x.1 q1.2.2) &&& BitVec.ofInt IntKind.u8.bits (127:Int)).toNat)) * 2 ^ min q1.2.1.toNat IntKind.u64.bits))).toNat),(IntKind.i64.wrap (q1.2.1+(7:Int))),(IntKind.i64.wrap (q1.2.2+(1:Int))))))))))
def zqa (n:Nat) (x:Yad) (v1:Unit):LCon P_ Ty_ [200000]:=lcon (X:=Yal) (Y:=Yal) (Z:=Yaa) (zv7 n) (subC [1,1,1,0,1,0,0] (fnC P_ 80 zv8)) (fun q1=>.two (.two (.two .no (.two .no (.two .no (.two (.join Bool (zqb x v1 q1) ⟨[(0,.ref 200000),(1,.any),(5,.any),(6,.any),(7,.any),(8,.any),(53,.any)],[(200000,.any)]⟩ .no .no) .no)))) .no) .no) 0 true ⟨[(0,.ref 200000),(1,.any),(5,.any),(6,.any),(7,.any)],[(200000,.any)]⟩ ⟨[(0,.ref 200000),(1,.any),(5,.any),(6,.any),(7,.any),(65,.any)],[(200000,.any)]⟩ ⟨[],[]⟩ (fun q1=>([(0,.pt 200000 [] 0 0),(1,I_ x.2.2),(5,I_ x.2.1),(6,.sc (.int .u64 q1.1)),(7,I_ q1.2.1)],[(200000,.lit 2 [[.sc (.string x.1),I_ q1.2.2]])])) (fun p=>([(0,.pt 200000 [] 0 0),(1,I_ x.2.2),(5,I_ x.2.1),(6,.sc (.int .u64 p.1)),(7,I_ p.2.1),(65,B_ true)],[(200000,.lit 2 [[.sc (.string x.1),I_ p.2.2]])])) (fun p=>ofX (.iface 81 (.agg (List.toArray [.int .i64 p.1,.int .i64 p.2])))) n (zqc n x v1)
def zv9 (n:Nat) (x:Yad):Pt P_ Ty_ [200000] ((Yag)⊕(Yaa)):=.loopR (V:=Unit) (zqa n x) () ((0:Int),(0:Int),x.2.1) (fun (v1:Unit) (y1:Yal)=>.ite (decide (y1.1 > (IntKind.u64.wrap x.2.2))) (.leaf (.inr ((2:Int),x.2.1))) (.leaf (.inl ((IntKind.i64.wrap y1.1),x.1,y1.2.2)))) fun (v1:Unit) (z1:Yaa)=>.leaf (.inr (z1.1,z1.2))
def k223 (n:Nat):Con P_ Ty_:=conX (X:=Yad) (R:=Yag) (Z:=Yaa) (pro:=[200000]) (zv7 n) 80 zv8 (fun x=>.two .no (.two .no (.two .no (.two (.two .no (.two (.loop Unit (zqa n x) true ⟨[(0,.ref 200000),(1,.any),(5,.any),(6,.any),(7,.any)],[(200000,.any)]⟩) .no)) .no)))) [.pt 200000,.any] [] [] ⟨[(4,.any)],[(200000,.any)]⟩ [200000] (fun x=>[.pt 200000 [] 0 0,I_ x.2.2]) (fun x=>[(200000,.lit 2 [[.sc (.string x.1),I_ x.2.1]])]) (fun y=>([(4,I_ y.1)],[(200000,.lit 2 [[.sc (.string y.2.1),I_ y.2.2]])])) (fun y=>I_ y.1) (fun y=>[(200000,.lit 2 [[.sc (.string y.2.1),I_ y.2.2]])]) (fun z=>.iface 81 (.agg (List.toArray [.int .i64 z.1,.int .i64 z.2]))) (zv9 n)
def y8z (n:Nat):Cx P_ Ty_:=⟨[k222 n],[],[],[]⟩
abbrev y90:List (List Nat):=[[0,1,2],[0,1,2,7],[1,2,7,8],[7,8,23],[8],[6]]
def zqd (x:Yam) (p:Ycs):EH Ty_:=([(7,I_ x.2.1),(8,.sc (.int .u8 p.1)),(23,B_ p.2.1)],[(200000,.lit 2 [[.sc (.string p.2.2.1),I_ p.2.2.2]])])
def zva (n:Nat) (x:Yam):Pt P_ Ty_ [200000] ((Yag)⊕(Yaa)):=.callX (k222 n) (x.1,x.2.1,(1:Int)) (fun (y1:Ybo)=>.need (0≤(0:Int)∧(0:Int)<(y1.1.size:Int)) (.join (S:=Ycs) (zqd x) (.ite (decide ((zb y1.1 (0:Int))<x.2.2.1)) (.leaf (.inl ((zb y1.1 (0:Int)),true,y1.2.1,y1.2.2))) (.leaf (.inl ((zb y1.1 (0:Int)),(decide ((zb y1.1 (0:Int)) > x.2.2.2)),y1.2.1,y1.2.2)))) fun s1=>.ite s1.2.1 (.leaf (.inr ((243:Int),x.2.1))) (.leaf (.inl ((IntKind.i64.wrap s1.1),s1.2.2.1,s1.2.2.2))))) (fun (z1:Yaa)=>.leaf (.inr (z1.1,z1.2)))
def k224 (n:Nat):Con P_ Ty_:=conX (X:=Yam) (R:=Yag) (Z:=Yaa) (pro:=[200000]) (y8z n) 81 y90 (fun x=>.two .no (.two .no (.two .no (.two (.join (Ycs) (zqd x) ⟨[(7,.any),(8,.any),(23,.any)],[(200000,.any)]⟩ .no .no) .no)))) [.pt 200000,.any,.any] [] [] ⟨[(6,.any)],[(200000,.any)]⟩ [200000] (fun x=>[.pt 200000 [] 0 0,.sc (.int .u8 x.2.2.1),.sc (.int .u8 x.2.2.2)]) (fun x=>[(200000,.lit 2 [[.sc (.string x.1),I_ x.2.1]])]) (fun y=>([(6,I_ y.1)],[(200000,.lit 2 [[.sc (.string y.2.1),I_ y.2.2]])])) (fun y=>I_ y.1) (fun y=>[(200000,.lit 2 [[.sc (.string y.2.1),I_ y.2.2]])]) (fun z=>.iface 81 (.agg (List.toArray [.int .i64 z.1,.int .i64 z.2]))) (zva n)
def y91 (n:Nat):Cx P_ Ty_:=⟨[k224 n,k223 n],[],[],[]⟩
abbrev y92:List (List Nat):=[[0,2],[0,2,3],[0,2,3,9],[2,3],[2]]
def zqg (x:Yac) (p:Yam):EH Ty_:=([(2,.pt 2 [] 0 0),(3,.pt 3 [] 0 0)],[(200000,.lit 2 [[.sc (.string p.1),I_ p.2.1]]),(2,.lit 2 [[I_ (0:Int),I_ (0:Int)]]),(3,.lit 2 [[I_ p.2.2.1,I_ p.2.2.2]])])
def zve (n:Nat) (x:Yac):Pt P_ Ty_ [200000] ((Yam)⊕(Yaa)):=.callX (k224 n) (x.1,x.2,(1:Int),(3:Int)) (fun (y1:Yag)=>.join (S:=Yam) (zqg x) (.ite (y1.1==3) (.callX (k223 n) (y1.2.1,y1.2.2,(9223372036854775807:Int)) (fun (y2:Yag)=>.leaf (.inl (y2.2.1,y2.2.2,y1.1,y2.1))) (fun (z2:Yaa)=>.leaf (.inr (.inr (z2.1,z2.2))))) (.leaf (.inl (y1.2.1,y1.2.2,y1.1,(0:Int))))) fun s1=>.leaf (.inl (s1.1,s1.2.1,s1.2.2.1,s1.2.2.2))) (fun (z1:Yaa)=>.leaf (.inr (z1.1,z1.2)))
def k226 (n:Nat):Con P_ Ty_:=conX (X:=Yac) (R:=Yam) (Z:=Yaa) (pro:=[200000]) (y91 n) 82 y92 (fun x=>.two .no (.two .no (.join (Yam) (zqg x) ⟨[(2,.ref 2),(3,.ref 3)],[(200000,.any),(2,.any),(3,.any)]⟩ .no .no))) [.pt 200000] [] [] ⟨[(2,.ref 100000)],[(200000,.any),(100000,.any)]⟩ [200000] (fun x=>[.pt 200000 [] 0 0]) (fun x=>[(200000,.lit 2 [[.sc (.string x.1),I_ x.2]])]) (fun y=>([(2,.pt 100000 [] 0 0)],[(200000,.lit 2 [[.sc (.string y.1),I_ y.2.1]]),(100000,.lit 2 [[I_ y.2.2.1,I_ y.2.2.2]])])) (fun y=>.ag [I_ y.2.2.1,I_ y.2.2.2]) (fun y=>[(200000,.lit 2 [[.sc (.string y.1),I_ y.2.1]])]) (fun z=>.iface 81 (.agg (List.toArray [.int .i64 z.1,.int .i64 z.2]))) (zve n)
def zvb (n:Nat):Cx P_ Ty_:=⟨[k222 n],[],[],[]⟩
abbrev zvc:List (List Nat):=[[0,1],[0,1,5],[5,11,12,13],[5,11,12,13,14],[5,6,7,11,12,13],[5,11,12,13],[5,11,12,13],[4]]
def zqf (n:Nat) (x:Yad) (v1:Ybp) (q1:Yaa):Pt P_ Ty_ [200000] (Bo (Yaa) (Yaa) Empty):=.ite (decide (q1.2<v1.2.1)) (.bnd (idx v1.1 q1.2) fun y2=>.need (0≤(IntKind.i64.wrap ((8:Int) * q1.2))) (.leaf (.go ((IntKind.u64.wrap (BitVec.ofInt IntKind.u64.bits q1.1 ||| BitVec.ofInt IntKind.u64.bits (IntKind.u64.wrap ((IntKind.u64.wrap y2) * 2 ^ min (IntKind.i64.wrap ((8:Int) * q1.2)).toNat IntKind.u64.bits))).toNat),(IntKind.i64.wrap (q1.2+(1:Int))))))) (.leaf (.out (q1.1,q1.2)))
def zqe (n:Nat) (x:Yad) (v1:Ybp):LCon P_ Ty_ [200000]:=lcon (X:=Yaa) (Y:=Yaa) (Z:=Empty) (zvb n) (subC [1,1,0,1,0,0] (fnC P_ 58 zvc)) (fun q1=>.no) 0 false ⟨[(5,.any),(11,.im 0),(12,.any),(13,.any)],[(200000,.any)]⟩ ⟨[(5,.any),(11,.im 0),(12,.any),(13,.any),(14,.any)],[(200000,.any)]⟩ ⟨[],[]⟩ (fun q1=>([(5,.sc (.int .u64 q1.1)),(11,.im 0 v1.1),(12,I_ v1.2.1),(13,I_ q1.2)],[(200000,.lit 2 [[.sc (.string v1.2.2.1),I_ v1.2.2.2]])])) (fun p=>([(5,.sc (.int .u64 p.1)),(11,.im 0 v1.1),(12,I_ v1.2.1),(13,I_ p.2),(14,B_ false)],[(200000,.lit 2 [[.sc (.string v1.2.2.1),I_ v1.2.2.2]])])) (fun p=>nomatch p) n (zqf n x v1)
def zvd (n:Nat) (x:Yad):Pt P_ Ty_ [200000] ((Yag)⊕(Yaa)):=.callX (k222 n) (x.1,x.2.1,x.2.2) (fun (y1:Ybo)=>.loop (V:=Ybp) (zqe n x) ((bytesOf y1.1),((bytesOf y1.1).length:Int),y1.2.1,y1.2.2) ((0:Int),(0:Int)) fun (v1:Ybp) (y3:Yaa)=>.leaf (.inl (y3.1,v1.2.2.1,v1.2.2.2))) (fun (z1:Yaa)=>.leaf (.inr (z1.1,z1.2)))
def k225 (n:Nat):Con P_ Ty_:=conX (X:=Yad) (R:=Yag) (Z:=Yaa) (pro:=[200000]) (zvb n) 58 zvc (fun x=>.two .no (.two .no (.two (.two .no (.two (.loop (Ybp) (zqe n x) false ⟨[(5,.any),(11,.im 0),(12,.any),(13,.any)],[(200000,.any)]⟩) .no)) .no))) [.pt 200000,.any] [] [] ⟨[(4,.any)],[(200000,.any)]⟩ [200000] (fun x=>[.pt 200000 [] 0 0,I_ x.2.2]) (fun x=>[(200000,.lit 2 [[.sc (.string x.1),I_ x.2.1]])]) (fun y=>([(4,.sc (.int .u64 y.1))],[(200000,.lit 2 [[.sc (.string y.2.1),I_ y.2.2]])])) (fun y=>.sc (.int .u64 y.1)) (fun y=>[(200000,.lit 2 [[.sc (.string y.2.1),I_ y.2.2]])]) (fun z=>.iface 81 (.agg (List.toArray [.int .i64 z.1,.int .i64 z.2]))) (zvd n)
def zbd (n:Nat):Cx P_ Ty_:=⟨[k223 n,k224 n,k222 n,k226 n,k225 n,k220 n],[(27,false,1),(28,false,1),(39,false,2),(40,false,2),(67,false,3),(68,false,3),(99,false,4),(100,false,4)],[],[]⟩
abbrev zbe:List (List Nat):=[[0,2],[0,2,3],[0,2,3,10,11],[0,2,3,10,11,12],[0,2,3,4,10,11],[0,2,3,4,10,11],[0,2,3,4,10,11],[0,2,3,10,11],[0,2,3,10,11],[0,2,3,32,33],[0,2,3,32,33,34],[0,2,3,32,33],[0,2,3,32,33],[0,2,3,44,45],[0,2,3,44,45,46],[0,2,3,5,44,45],[0,2,3,5,44,45,56],[0,2,3,5,44,45],[0,2,3,5,44,45],[0,2,3,44,45],[0,2,3,44,45],[0,2,3,72,73],[0,2,3,72,73,74],[0,2,3,6,72,73],[0,2,3,6,72,73,78,79,80],[0,2,3,6,72,73,78,79,80,81],[0,2,3,6,8,72,73,78,79,80],[0,2,3,6,72,73,78,79,80],[0,2,3,6,72,73,78,79,80],[0,2,3,6,72,73,91],[0,2,3,6,72,73],[0,2,3,72,73],[0,2,3,72,73],[2]]
def zqm (x:Yac) (v2:Ybf) (q2:Yaw) (p:Yce):EH Ty_:=([(0,.pt 200000 [] 0 0),(2,.pt 2 [] 0 0),(3,.pt 3 [] 0 0),(32,I_ v2.1),(33,I_ q2.1),(34,B_ true),(35,.pt 3 [] 0 1),(36,.sw 3 [(0,1)]),(37,.pt 200000 [] 0 0),(38,.ag [I_ p.1,I_ p.2.1]),(39,.sw 39 [])],[(200000,.lit 2 [[.sc (.string p.2.2.1),I_ p.2.2.2.1]]),(2,.lit 4 [[.zs,.zs,.zs,.zs]]),(3,.lit 4 [[.ow false 1 v2.2,.ow false 2 q2.2.2.2,.zs,.zs]]),(39,.typ false 2 p.2.2.2.2)])
def zqn (x:Yac) (v3:Ybg) (q3:Yax) (p:Yct):EH Ty_:=([(0,.pt 200000 [] 0 0),(2,.pt 2 [] 0 0),(3,.pt 3 [] 0 0),(5,.pt 5 [] 0 0),(44,I_ v3.1),(45,I_ q3.1)],[(200000,.lit 2 [[.sc (.string p.1),I_ p.2.1]]),(2,.lit 4 [[.zs,.zs,.zs,.zs]]),(3,.lit 4 [[.ow false 1 v3.2.1,.ow false 2 v3.2.2,.ow false 3 q3.2.2.2,.zs]]),(5,.lit 5 [[I_ p.2.2.1,I_ p.2.2.2.1,B_ p.2.2.2.2.1,.sc (.int .u32 p.2.2.2.2.2.1),I_ p.2.2.2.2.2.2]])])
def zqo (x:Yac) (v4:Yar) (q4:Yaq) (p:Ycu):EH Ty_:=([(0,.pt 200000 [] 0 0),(2,.pt 2 [] 0 0),(3,.pt 3 [] 0 0),(6,.pt 6 [] 0 0),(72,I_ v4.1),(73,I_ q4.1)],[(200000,.lit 2 [[.sc (.string p.1),I_ p.2.1]]),(2,.lit 4 [[.zs,.zs,.zs,.zs]]),(3,.lit 4 [[.ow false 1 v4.2.1,.ow false 2 v4.2.2.1,.ow false 3 v4.2.2.2,.ow false 4 q4.2.2.2]]),(6,.lit 7 [[I_ p.2.2.1,I_ p.2.2.2.1,I_ p.2.2.2.2.1,I_ p.2.2.2.2.2.1,I_ p.2.2.2.2.2.2.1,I_ p.2.2.2.2.2.2.2.1,.sc (.int .u32 p.2.2.2.2.2.2.2.2)]])])
def zqp (n:Nat) (x:Yac) (v1:Int) (q1:Ybb):Pt P_ Ty_ [200000] (Bo (Ybb) (Ybb) (Yaa)):=.ite (decide (q1.1<v1)) (.callX (k224 n) (q1.2.1,q1.2.2.1,(1:Int),(2:Int)) (fun (y2:Yag)=>.callX (k223 n) (y2.2.1,y2.2.2,(64:Int)) (fun (y3:Yag)=>.callX (k222 n) (y3.2.1,y3.2.2,y3.1) (fun (y4:Ybo)=>.callX (k223 n) (y4.2.1,y4.2.2,(9223372036854775807:Int)) (fun (y5:Yag)=>.need ((q1.2.2.2.length+([(⟨y4.1,y2.1,y5.1⟩:Xa)]:List Xa).length) * 32≤140737488355328) (.leaf (.go ((IntKind.i64.wrap (q1.1+(1:Int))),y5.2.1,y5.2.2,(q1.2.2.2++([(⟨y4.1,y2.1,y5.1⟩:Xa)]:List Xa)))))) (fun (z5:Yaa)=>.leaf (.ret (z5.1,z5.2)))) (fun (z4:Yaa)=>.leaf (.ret (z4.1,z4.2)))) (fun (z3:Yaa)=>.leaf (.ret (z3.1,z3.2)))) (fun (z2:Yaa)=>.leaf (.ret (z2.1,z2.2)))) (.leaf (.out (q1.1,q1.2.1,q1.2.2.1,q1.2.2.2)))
def zqh (n:Nat) (x:Yac) (v1:Int):LCon P_ Ty_ [200000]:=lcon (X:=Ybb) (Y:=Ybb) (Z:=Yaa) (zbd n) (subC [1,1,0,1,0,0] (fnC P_ 57 zbe)) (fun q1=>.no) 0 true ⟨[(0,.ref 200000),(2,.ref 2),(3,.ref 3),(10,.any),(11,.any)],[(200000,.any),(2,.any),(3,.fix [.ow false 1,.no,.no,.no])]⟩ ⟨[(0,.ref 200000),(2,.ref 2),(3,.ref 3),(10,.any),(11,.any),(12,.any)],[(200000,.any),(2,.any),(3,.any)]⟩ ⟨[],[]⟩ (fun q1=>([(0,.pt 200000 [] 0 0),(2,.pt 2 [] 0 0),(3,.pt 3 [] 0 0),(10,I_ v1),(11,I_ q1.1)],[(200000,.lit 2 [[.sc (.string q1.2.1),I_ q1.2.2.1]]),(2,.lit 4 [[.zs,.zs,.zs,.zs]]),(3,.lit 4 [[.ow false 1 q1.2.2.2,.zs,.zs,.zs]])])) (fun p=>([(0,.pt 200000 [] 0 0),(2,.pt 2 [] 0 0),(3,.pt 3 [] 0 0),(10,I_ v1),(11,I_ p.1),(12,B_ false)],[(200000,.lit 2 [[.sc (.string p.2.1),I_ p.2.2.1]]),(2,.lit 4 [[.zs,.zs,.zs,.zs]]),(3,.lit 4 [[.ow false 1 p.2.2.2,.zs,.zs,.zs]])])) (fun p=>ofX (.iface 81 (.agg (List.toArray [.int .i64 p.1,.int .i64 p.2])))) n (zqp n x v1)
def zqq (n:Nat) (x:Yac) (v2:Ybf) (q2:Yaw):Pt P_ Ty_ [200000] (Bo (Yaw) (Yaw) (Yaa)):=.ite (decide (q2.1<v2.1)) (.alls (S:=Yce) (Z:=Yaa) (zqm x v2 q2) (fun z=>.iface 81 (.agg (List.toArray [.int .i64 z.1,.int .i64 z.2]))) (.both (.both (.callX (k226 n) (q2.2.1,q2.2.2.1) (fun (y8:Yam)=>.leaf (.inl (y8.2.2.1,y8.2.2.2,y8.1,y8.2.1,([(⟨y8.2.2.1,y8.2.2.2⟩:Xb)]:List Xb)))) (fun (z8:Yaa)=>.leaf (.inr (z8.1,z8.2)))) (.both (.callX (k226 n) (q2.2.1,q2.2.2.1) (fun (y9:Yam)=>.leaf (.inl (y9.2.2.1,y9.2.2.2,y9.1,y9.2.1,([(⟨y9.2.2.1,y9.2.2.2⟩:Xb)]:List Xb)))) (fun (z9:Yaa)=>.leaf (.inr (z9.1,z9.2)))) (.callX (k226 n) (q2.2.1,q2.2.2.1) (fun (y10:Yam)=>.both (.leaf (.inl (y10.2.2.1,y10.2.2.2,y10.1,y10.2.1,([(⟨y10.2.2.1,y10.2.2.2⟩:Xb)]:List Xb)))) (.leaf (.inl (y10.2.2.1,y10.2.2.2,y10.1,y10.2.1,([(⟨y10.2.2.1,y10.2.2.2⟩:Xb)]:List Xb))))) (fun (z10:Yaa)=>.leaf (.inr (z10.1,z10.2)))))) (.both (.both (.callX (k226 n) (q2.2.1,q2.2.2.1) (fun (y11:Yam)=>.leaf (.inl (y11.2.2.1,y11.2.2.2,y11.1,y11.2.1,([(⟨y11.2.2.1,y11.2.2.2⟩:Xb)]:List Xb)))) (fun (z11:Yaa)=>.leaf (.inr (z11.1,z11.2)))) (.callX (k226 n) (q2.2.1,q2.2.2.1) (fun (y12:Yam)=>.both (.leaf (.inl (y12.2.2.1,y12.2.2.2,y12.1,y12.2.1,([(⟨y12.2.2.1,y12.2.2.2⟩:Xb)]:List Xb)))) (.leaf (.inl (y12.2.2.1,y12.2.2.2,y12.1,y12.2.1,([(⟨y12.2.2.1,y12.2.2.2⟩:Xb)]:List Xb))))) (fun (z12:Yaa)=>.leaf (.inr (z12.1,z12.2))))) (.callX (k226 n) (q2.2.1,q2.2.2.1) (fun (y13:Yam)=>.both (.both (.leaf (.inl (y13.2.2.1,y13.2.2.2,y13.1,y13.2.1,([(⟨y13.2.2.1,y13.2.2.2⟩:Xb)]:List Xb)))) (.leaf (.inl (y13.2.2.1,y13.2.2.2,y13.1,y13.2.1,([(⟨y13.2.2.1,y13.2.2.2⟩:Xb)]:List Xb))))) (.leaf (.inl (y13.2.2.1,y13.2.2.2,y13.1,y13.2.1,([(⟨y13.2.2.1,y13.2.2.2⟩:Xb)]:List Xb))))) (fun (z13:Yaa)=>.leaf (.inr (z13.1,z13.2)))))) (fun s1=>.need ((q2.2.2.2.length+s1.2.2.2.2.length) * 16≤140737488355328) (.leaf (.go ((IntKind.i64.wrap (q2.1+(1:Int))),s1.2.2.1,s1.2.2.2.1,(q2.2.2.2++s1.2.2.2.2))))) (fun z14=>.leaf (.ret (z14.1,z14.2)))) (.leaf (.out (q2.1,q2.2.1,q2.2.2.1,q2.2.2.2)))
def zqi (n:Nat) (x:Yac) (v2:Ybf):LCon P_ Ty_ [200000]:=lcon (X:=Yaw) (Y:=Yaw) (Z:=Yaa) (zbd n) (subC [1,1,1,0,1,0,0] (fnC P_ 57 zbe)) (fun q2=>.two .no (.two .no (.two (.two (.alls (Yce) (Yaa) (zqm x v2 q2) (fun z=>.iface 81 (.agg (List.toArray [.int .i64 z.1,.int .i64 z.2]))) ⟨[(0,.ref 200000),(2,.ref 2),(3,.ref 3),(32,.any),(33,.any),(34,.any),(35,.ref 3),(36,.ref 3),(37,.ref 200000),(38,.any),(39,.ref 39)],[(200000,.any),(2,.any),(3,.any),(39,.any)]⟩) .no) .no))) 2 true ⟨[(0,.ref 200000),(2,.ref 2),(3,.ref 3),(32,.any),(33,.any)],[(200000,.any),(2,.any),(3,.fix [.no,.ow false 2,.no,.no])]⟩ ⟨[(0,.ref 200000),(2,.ref 2),(3,.ref 3),(32,.any),(33,.any),(34,.any)],[(200000,.any),(2,.any),(3,.any)]⟩ ⟨[],[]⟩ (fun q2=>([(0,.pt 200000 [] 0 0),(2,.pt 2 [] 0 0),(3,.pt 3 [] 0 0),(32,I_ v2.1),(33,I_ q2.1)],[(200000,.lit 2 [[.sc (.string q2.2.1),I_ q2.2.2.1]]),(2,.lit 4 [[.zs,.zs,.zs,.zs]]),(3,.lit 4 [[.ow false 1 v2.2,.ow false 2 q2.2.2.2,.zs,.zs]])])) (fun p=>([(0,.pt 200000 [] 0 0),(2,.pt 2 [] 0 0),(3,.pt 3 [] 0 0),(32,I_ v2.1),(33,I_ p.1),(34,B_ false)],[(200000,.lit 2 [[.sc (.string p.2.1),I_ p.2.2.1]]),(2,.lit 4 [[.zs,.zs,.zs,.zs]]),(3,.lit 4 [[.ow false 1 v2.2,.ow false 2 p.2.2.2,.zs,.zs]])])) (fun p=>ofX (.iface 81 (.agg (List.toArray [.int .i64 p.1,.int .i64 p.2])))) n (zqq n x v2)
def zqr (n:Nat) (x:Yac) (v3:Ybg) (q3:Yax):Pt P_ Ty_ [200000] (Bo (Yax) (Yax) (Yaa)):=.ite (decide (q3.1<v3.1)) (.callX (k224 n) (q3.2.1,q3.2.2.1,(0:Int),(1:Int)) (fun (y16:Yag)=>.callX (k226 n) (y16.2.1,y16.2.2) (fun (y17:Yam)=>.join (S:=Yct) (zqn x v3 q3) (.ite (y17.2.2.1==2) (.callX (k223 n) (y17.1,y17.2.1,(9223372036854775807:Int)) (fun (y18:Yag)=>.leaf (.inl (y18.2.1,y18.2.2,y17.2.2.1,y17.2.2.2,(y16.1==1),(0:Int),y18.1))) (fun (z19:Yaa)=>.leaf (.inr (.ret (z19.1,z19.2))))) (.callX (k225 n) (y17.1,y17.2.1,(4:Int)) (fun (y19:Yag)=>.leaf (.inl (y19.2.1,y19.2.2,y17.2.2.1,y17.2.2.2,(y16.1==1),(IntKind.u32.wrap y19.1),(0:Int)))) (fun (z20:Yaa)=>.leaf (.inr (.ret (z20.1,z20.2)))))) fun s2=>.need ((q3.2.2.2.length+([(⟨(⟨s2.2.2.1,s2.2.2.2.1⟩:Xb),s2.2.2.2.2.1,s2.2.2.2.2.2.1,s2.2.2.2.2.2.2⟩:Xc)]:List Xc).length) * 32≤140737488355328) (.leaf (.go ((IntKind.i64.wrap (q3.1+(1:Int))),s2.1,s2.2.1,(q3.2.2.2++([(⟨(⟨s2.2.2.1,s2.2.2.2.1⟩:Xb),s2.2.2.2.2.1,s2.2.2.2.2.2.1,s2.2.2.2.2.2.2⟩:Xc)]:List Xc)))))) (fun (z18:Yaa)=>.leaf (.ret (z18.1,z18.2)))) (fun (z17:Yaa)=>.leaf (.ret (z17.1,z17.2)))) (.leaf (.out (q3.1,q3.2.1,q3.2.2.1,q3.2.2.2)))
def zqj (n:Nat) (x:Yac) (v3:Ybg):LCon P_ Ty_ [200000]:=lcon (X:=Yax) (Y:=Yax) (Z:=Yaa) (zbd n) (subC [1,1,1,1,0,1,0,0] (fnC P_ 57 zbe)) (fun q3=>.two .no (.two .no (.two (.two (.two .no (.join (Yct) (zqn x v3 q3) ⟨[(0,.ref 200000),(2,.ref 2),(3,.ref 3),(5,.ref 5),(44,.any),(45,.any)],[(200000,.any),(2,.any),(3,.any),(5,.any)]⟩ .no .no)) .no) .no))) 4 true ⟨[(0,.ref 200000),(2,.ref 2),(3,.ref 3),(44,.any),(45,.any)],[(200000,.any),(2,.any),(3,.fix [.no,.no,.ow false 3,.no])]⟩ ⟨[(0,.ref 200000),(2,.ref 2),(3,.ref 3),(44,.any),(45,.any),(46,.any)],[(200000,.any),(2,.any),(3,.any)]⟩ ⟨[],[]⟩ (fun q3=>([(0,.pt 200000 [] 0 0),(2,.pt 2 [] 0 0),(3,.pt 3 [] 0 0),(44,I_ v3.1),(45,I_ q3.1)],[(200000,.lit 2 [[.sc (.string q3.2.1),I_ q3.2.2.1]]),(2,.lit 4 [[.zs,.zs,.zs,.zs]]),(3,.lit 4 [[.ow false 1 v3.2.1,.ow false 2 v3.2.2,.ow false 3 q3.2.2.2,.zs]])])) (fun p=>([(0,.pt 200000 [] 0 0),(2,.pt 2 [] 0 0),(3,.pt 3 [] 0 0),(44,I_ v3.1),(45,I_ p.1),(46,B_ false)],[(200000,.lit 2 [[.sc (.string p.2.1),I_ p.2.2.1]]),(2,.lit 4 [[.zs,.zs,.zs,.zs]]),(3,.lit 4 [[.ow false 1 v3.2.1,.ow false 2 v3.2.2,.ow false 3 p.2.2.2,.zs]])])) (fun p=>ofX (.iface 81 (.agg (List.toArray [.int .i64 p.1,.int .i64 p.2])))) n (zqr n x v3)
def zqt (n:Nat) (x:Yac) (v4:Yar) (q4:Yaq) (v5:Ybj) (q5:Ybc):Pt P_ Ty_ [200000] (Bo (Ybc) (Ybc) (Yaa)):=.ite (decide (q5.1<v5.2.1)) (.need (0≤q5.1∧q5.1<(v5.1.length:Int)) (.bnd (v5.1[q5.1.toNat]?) fun y24=>.callX (k223 n) (q5.2.1,q5.2.2.1,(9223372036854775807:Int)) (fun (y25:Yag)=>.bnd (z39 [some q5.2.2.2.1,some q5.2.2.2.2.1,some q5.2.2.2.2.2.1,some q5.2.2.2.2.2.2.1,some q5.2.2.2.2.2.2.2.1,some q5.2.2.2.2.2.2.2.2,none] y24) fun y26=>.leaf (.go ((IntKind.i64.wrap (q5.1+(1:Int))),y25.2.1,y25.2.2,(bif Nat.beq y24 0 then y25.1 else q5.2.2.2.1),(bif Nat.beq y24 1 then y25.1 else q5.2.2.2.2.1),(bif Nat.beq y24 2 then y25.1 else q5.2.2.2.2.2.1),(bif Nat.beq y24 3 then y25.1 else q5.2.2.2.2.2.2.1),(bif Nat.beq y24 4 then y25.1 else q5.2.2.2.2.2.2.2.1),(bif Nat.beq y24 5 then y25.1 else q5.2.2.2.2.2.2.2.2)))) (fun (z24:Yaa)=>.leaf (.ret (z24.1,z24.2))))) (.leaf (.out (q5.1,q5.2.1,q5.2.2.1,q5.2.2.2.1,q5.2.2.2.2.1,q5.2.2.2.2.2.1,q5.2.2.2.2.2.2.1,q5.2.2.2.2.2.2.2.1,q5.2.2.2.2.2.2.2.2)))
def zql (n:Nat) (x:Yac) (v4:Yar) (q4:Yaq) (v5:Ybj):LCon P_ Ty_ [200000]:=lcon (X:=Ybc) (Y:=Ybc) (Z:=Yaa) (zbd n) (subC [1,1,1,1,1,0,1,0,0,1,1,0,0,1,0,1,0,0] (fnC P_ 57 zbe)) (fun q5=>.no) 8 true ⟨[(0,.ref 200000),(2,.ref 2),(3,.ref 3),(6,.ref 6),(72,.any),(73,.any),(78,.ref 6),(79,.any),(80,.any)],[(200000,.any),(2,.any),(3,.any),(6,.any)]⟩ ⟨[(0,.ref 200000),(2,.ref 2),(3,.ref 3),(6,.ref 6),(72,.any),(73,.any),(78,.ref 6),(79,.any),(80,.any),(81,.any)],[(200000,.any),(2,.any),(3,.any),(6,.any)]⟩ ⟨[],[]⟩ (fun q5=>([(0,.pt 200000 [] 0 0),(2,.pt 2 [] 0 0),(3,.pt 3 [] 0 0),(6,.pt 6 [] 0 0),(72,I_ v4.1),(73,I_ q4.1),(78,.pp (.fs 6 v5.1)),(79,I_ v5.2.1),(80,I_ q5.1)],[(200000,.lit 2 [[.sc (.string q5.2.1),I_ q5.2.2.1]]),(2,.lit 4 [[.zs,.zs,.zs,.zs]]),(3,.lit 4 [[.ow false 1 v4.2.1,.ow false 2 v4.2.2.1,.ow false 3 v4.2.2.2,.ow false 4 q4.2.2.2]]),(6,.lit 7 [[I_ q5.2.2.2.1,I_ q5.2.2.2.2.1,I_ q5.2.2.2.2.2.1,I_ q5.2.2.2.2.2.2.1,I_ q5.2.2.2.2.2.2.2.1,I_ q5.2.2.2.2.2.2.2.2,.sc (.int .u32 v5.2.2)]])])) (fun p=>([(0,.pt 200000 [] 0 0),(2,.pt 2 [] 0 0),(3,.pt 3 [] 0 0),(6,.pt 6 [] 0 0),(72,I_ v4.1),(73,I_ q4.1),(78,.pp (.fs 6 v5.1)),(79,I_ v5.2.1),(80,I_ p.1),(81,B_ false)],[(200000,.lit 2 [[.sc (.string p.2.1),I_ p.2.2.1]]),(2,.lit 4 [[.zs,.zs,.zs,.zs]]),(3,.lit 4 [[.ow false 1 v4.2.1,.ow false 2 v4.2.2.1,.ow false 3 v4.2.2.2,.ow false 4 q4.2.2.2]]),(6,.lit 7 [[I_ p.2.2.2.1,I_ p.2.2.2.2.1,I_ p.2.2.2.2.2.1,I_ p.2.2.2.2.2.2.1,I_ p.2.2.2.2.2.2.2.1,I_ p.2.2.2.2.2.2.2.2,.sc (.int .u32 v5.2.2)]])])) (fun p=>ofX (.iface 81 (.agg (List.toArray [.int .i64 p.1,.int .i64 p.2])))) n (zqt n x v4 q4 v5)
def zqs (n:Nat) (x:Yac) (v4:Yar) (q4:Yaq):Pt P_ Ty_ [200000] (Bo (Yaq) (Yaq) (Yaa)):=.ite (decide (q4.1<v4.1)) (.callX (k224 n) (q4.2.1,q4.2.2.1,(1:Int),(37:Int)) (fun (y22:Yag)=>.call (k220 n) (y22.1,(0:Int),(0:Int),(0:Int),(0:Int),(0:Int),(0:Int)) fun (y23:Ycr)=>.loopR (V:=Ybj) (zql n x v4 q4) (y23.1,(y23.1.length:Int),y23.2.2.2.2.2.2.2) ((0:Int),y22.2.1,y22.2.2,y23.2.1,y23.2.2.1,y23.2.2.2.1,y23.2.2.2.2.1,y23.2.2.2.2.2.1,y23.2.2.2.2.2.2.1) (fun (v5:Ybj) (y27:Ybc)=>.join (S:=Ycu) (zqo x v4 q4) (.ite (y27.2.2.2.1==1) (.callX (k225 n) (y27.2.1,y27.2.2.1,(4:Int)) (fun (y28:Yag)=>.leaf (.inl (y28.2.1,y28.2.2,y27.2.2.2.1,y27.2.2.2.2.1,y27.2.2.2.2.2.1,y27.2.2.2.2.2.2.1,y27.2.2.2.2.2.2.2.1,y27.2.2.2.2.2.2.2.2,(IntKind.u32.wrap y28.1)))) (fun (z26:Yaa)=>.leaf (.inr (.ret (z26.1,z26.2))))) (.leaf (.inl (y27.2.1,y27.2.2.1,y27.2.2.2.1,y27.2.2.2.2.1,y27.2.2.2.2.2.1,y27.2.2.2.2.2.2.1,y27.2.2.2.2.2.2.2.1,y27.2.2.2.2.2.2.2.2,v5.2.2)))) fun s3=>.need ((q4.2.2.2.length+([(⟨s3.2.2.1,s3.2.2.2.1,s3.2.2.2.2.1,s3.2.2.2.2.2.1,s3.2.2.2.2.2.2.1,s3.2.2.2.2.2.2.2.1,s3.2.2.2.2.2.2.2.2⟩:Xd)]:List Xd).length) * 56≤140737488355328) (.leaf (.go ((IntKind.i64.wrap (q4.1+(1:Int))),s3.1,s3.2.1,(q4.2.2.2++([(⟨s3.2.2.1,s3.2.2.2.1,s3.2.2.2.2.1,s3.2.2.2.2.2.1,s3.2.2.2.2.2.2.1,s3.2.2.2.2.2.2.2.1,s3.2.2.2.2.2.2.2.2⟩:Xd)]:List Xd)))))) fun (v5:Ybj) (z25:Yaa)=>.leaf (.ret (z25.1,z25.2))) (fun (z23:Yaa)=>.leaf (.ret (z23.1,z23.2)))) (.leaf (.out (q4.1,q4.2.1,q4.2.2.1,q4.2.2.2)))
def zqk (n:Nat) (x:Yac) (v4:Yar):LCon P_ Ty_ [200000]:=lcon (X:=Yaq) (Y:=Yaq) (Z:=Yaa) (zbd n) (subC [1,1,1,1,1,0,1,0,0] (fnC P_ 57 zbe)) (fun q4=>.two .no (.two .no (.two (.two (.two .no (.two (.two .no (.two (.loop (Ybj) (zql n x v4 q4) true ⟨[(0,.ref 200000),(2,.ref 2),(3,.ref 3),(6,.ref 6),(72,.any),(73,.any),(78,.ref 6),(79,.any),(80,.any)],[(200000,.any),(2,.any),(3,.any),(6,.any)]⟩) .no)) (.join (Ycu) (zqo x v4 q4) ⟨[(0,.ref 200000),(2,.ref 2),(3,.ref 3),(6,.ref 6),(72,.any),(73,.any)],[(200000,.any),(2,.any),(3,.any),(6,.any)]⟩ .no .no))) .no) .no))) 6 true ⟨[(0,.ref 200000),(2,.ref 2),(3,.ref 3),(72,.any),(73,.any)],[(200000,.any),(2,.any),(3,.fix [.no,.no,.no,.ow false 4])]⟩ ⟨[(0,.ref 200000),(2,.ref 2),(3,.ref 3),(72,.any),(73,.any),(74,.any)],[(200000,.any),(2,.any),(3,.any)]⟩ ⟨[],[]⟩ (fun q4=>([(0,.pt 200000 [] 0 0),(2,.pt 2 [] 0 0),(3,.pt 3 [] 0 0),(72,I_ v4.1),(73,I_ q4.1)],[(200000,.lit 2 [[.sc (.string q4.2.1),I_ q4.2.2.1]]),(2,.lit 4 [[.zs,.zs,.zs,.zs]]),(3,.lit 4 [[.ow false 1 v4.2.1,.ow false 2 v4.2.2.1,.ow false 3 v4.2.2.2,.ow false 4 q4.2.2.2]])])) (fun p=>([(0,.pt 200000 [] 0 0),(2,.pt 2 [] 0 0),(3,.pt 3 [] 0 0),(72,I_ v4.1),(73,I_ p.1),(74,B_ false)],[(200000,.lit 2 [[.sc (.string p.2.1),I_ p.2.2.1]]),(2,.lit 4 [[.zs,.zs,.zs,.zs]]),(3,.lit 4 [[.ow false 1 v4.2.1,.ow false 2 v4.2.2.1,.ow false 3 v4.2.2.2,.ow false 4 p.2.2.2]])])) (fun p=>ofX (.iface 81 (.agg (List.toArray [.int .i64 p.1,.int .i64 p.2])))) n (zqs n x v4)
def zvf (n:Nat) (x:Yac):Pt P_ Ty_ [200000] ((Ycf)⊕(Yaa)):=.callX (k223 n) (x.1,x.2,(64:Int)) (fun (y1:Yag)=>.loopR (V:=Int) (zqh n x) y1.1 ((0:Int),y1.2.1,y1.2.2,([]:List Xa)) (fun (v1:Int) (y6:Ybb)=>.callX (k223 n) (y6.2.1,y6.2.2.1,(16384:Int)) (fun (y7:Yag)=>.loopR (V:=Ybf) (zqi n x) (y7.1,y6.2.2.2) ((0:Int),y7.2.1,y7.2.2,([]:List Xb)) (fun (v2:Ybf) (y14:Yaw)=>.callX (k223 n) (y14.2.1,y14.2.2.1,(4096:Int)) (fun (y15:Yag)=>.loopR (V:=Ybg) (zqj n x) (y15.1,v2.2,y14.2.2.2) ((0:Int),y15.2.1,y15.2.2,([]:List Xc)) (fun (v3:Ybg) (y20:Yax)=>.callX (k223 n) (y20.2.1,y20.2.2.1,(32768:Int)) (fun (y21:Yag)=>.loopR (V:=Yar) (zqk n x) (y21.1,v3.2.1,v3.2.2,y20.2.2.2) ((0:Int),y21.2.1,y21.2.2,([]:List Xd)) (fun (v4:Yar) (y29:Yaq)=>.leaf (.inl (y29.2.1,y29.2.2.1,v4.2.1,v4.2.2.1,v4.2.2.2,y29.2.2.2))) fun (v4:Yar) (z27:Yaa)=>.leaf (.inr (z27.1,z27.2))) (fun (z22:Yaa)=>.leaf (.inr (z22.1,z22.2)))) fun (v3:Ybg) (z21:Yaa)=>.leaf (.inr (z21.1,z21.2))) (fun (z16:Yaa)=>.leaf (.inr (z16.1,z16.2)))) fun (v2:Ybf) (z15:Yaa)=>.leaf (.inr (z15.1,z15.2))) (fun (z7:Yaa)=>.leaf (.inr (z7.1,z7.2)))) fun (v1:Int) (z6:Yaa)=>.leaf (.inr (z6.1,z6.2))) (fun (z1:Yaa)=>.leaf (.inr (z1.1,z1.2)))
def k227 (n:Nat):Con P_ Ty_:=conX (X:=Yac) (R:=Ycf) (Z:=Yaa) (pro:=[200000]) (zbd n) 57 zbe (fun x=>.two .no (.two .no (.two (.two .no (.two (.loop Int (zqh n x) true ⟨[(0,.ref 200000),(2,.ref 2),(3,.ref 3),(10,.any),(11,.any)],[(200000,.any),(2,.any),(3,.fix [.ow false 1,.no,.no,.no])]⟩) .no)) (.two (.two .no (.two (.loop (Ybf) (zqi n x) true ⟨[(0,.ref 200000),(2,.ref 2),(3,.ref 3),(32,.any),(33,.any)],[(200000,.any),(2,.any),(3,.fix [.no,.ow false 2,.no,.no])]⟩) .no)) (.two (.two .no (.two (.loop (Ybg) (zqj n x) true ⟨[(0,.ref 200000),(2,.ref 2),(3,.ref 3),(44,.any),(45,.any)],[(200000,.any),(2,.any),(3,.fix [.no,.no,.ow false 3,.no])]⟩) .no)) (.two (.two .no (.two (.loop (Yar) (zqk n x) true ⟨[(0,.ref 200000),(2,.ref 2),(3,.ref 3),(72,.any),(73,.any)],[(200000,.any),(2,.any),(3,.fix [.no,.no,.no,.ow false 4])]⟩) .no)) .no)))))) [.pt 200000] [] [100000] ⟨[(2,.ref 100000)],[(200000,.any),(100000,.any)]⟩ [200000,100000] (fun x=>[.pt 200000 [] 0 0]) (fun x=>[(200000,.lit 2 [[.sc (.string x.1),I_ x.2]])]) (fun y=>([(2,.pt 100000 [] 0 0)],[(200000,.lit 2 [[.sc (.string y.1),I_ y.2.1]]),(100000,.lit 4 [[.ow false 1 y.2.2.1,.ow false 2 y.2.2.2.1,.ow false 3 y.2.2.2.2.1,.ow false 4 y.2.2.2.2.2]])])) (fun y=>.ag [.sw 100000 [(0,0)],.sw 100000 [(0,1)],.sw 100000 [(0,2)],.sw 100000 [(0,3)]]) (fun y=>[(200000,.lit 2 [[.sc (.string y.1),I_ y.2.1]]),(100000,.lit 4 [[.ow false 1 y.2.2.1,.ow false 2 y.2.2.2.1,.ow false 3 y.2.2.2.2.1,.ow false 4 y.2.2.2.2.2]])]) (fun z=>.iface 81 (.agg (List.toArray [.int .i64 z.1,.int .i64 z.2]))) (zvf n)
theorem y9l (p q:Addr) (w:World) :
  CallsD Go.Proofs.Try.prog 55 #[.pointer (some p),.pointer (some q)] .returning w fun e u' w'=>e = .returned (.tuple #[])∧u' = .returning∧w'=w:=by
 refine callsD_of_wpS Go.Proofs.Try.func55 rfl fun c₀ cs hu=>?_
 apply wpS_seq
 apply wpS_region
 simp [wpOpsS,go_sem,recoverD,hu,Go.Proofs.Try.ntmps55,Exit.thenS]
 apply wpS_seq
 apply wpS_region
 simp [wpOpsS,go_sem,Exit.thenS]
 refine wpS_cond (t:=false) (by simp [Act.eval,Array.replicate]) ?_
 simp only [Bool.false_eq_true,if_false]
 refine wpS_of_wp (wp_skip ?_)
 cases c₀
 simp_all [bodyPostS,results,Go.Proofs.Try.results55]

theorem Ex.wpS {P:Program} {N:Nat} [Dfs N] {pro:List Nat} {code:Code} {c:IC} {e e':Env} {h h':H} {o:Out} (hx:Ex P pro c e h o e' h') (hc:IsC P N code c) {I:Nat→Prop} {σ:Pl} {a:Act} {w:World} (R:Rel I N σ e h a w) {cs:List Frame} {Q:Exit→Act→List Frame→World→Prop}
  (hQ:∀ a' w',Step P I N pro σ h w e' h' a' w'→Q o.ex a' cs w'):code.wpS P Q a cs w:=wpS_of_wp (hx.owes code hc I σ a w R _ hQ).1
def z2l (P:Program) (f:Nat):Code:=match P.funcs[f]? with | some fn=>(match fn.body with | some c=>c | none=>.skip) | none=>.skip
def rdE (u:TypeId) (v:Value):Env:=fun t=>if t=0 then .pt 900002 [] 0 0 else if t=1 then .pt 900003 [] 0 0 else if t=2 then .sc (.iface u v) else .un
attribute [local instance] Dfs.none
theorem y5n {I:Nat→Prop} {σ:Pl} {h h':H} {w:World} {L2 L3:Loc} (h2:σ 900002 []=some L2) (h3:σ 900003 []=some L3) (hh:HRel I σ h w) {u:TypeId} {v:Value} {c1:IC} {E:Env} (hc:IsC Go.Proofs.Try.prog 18 (rt (z2l Go.Proofs.Try.prog 55)) c1)
  (hx:Ex Go.Proofs.Try.prog [900002,900003] c1 (rdE u v) h .normal E h') :
  CallsD Go.Proofs.Try.prog 55 #[.pointer (some ⟨L2.b,0,none⟩),.pointer (some ⟨L3.b,0,none⟩)] (.panicking [{ v:=.iface u v,recovered:=false }]) w fun e u' w'=>e = .returned (.tuple #[])∧u' = .panicking [{ v:=.iface u v,recovered:=true }]∧∃ a',Step Go.Proofs.Try.prog I 18 [900002,900003] σ h w E h' a' w':=by
 refine callsD_of_wpS Go.Proofs.Try.func55 rfl fun c₀ cs hu=>?_
 apply wpS_seq
 apply wpS_region
 simp [wpOpsS,go_sem,recoverD,hu,Go.Proofs.Try.ntmps55,Exit.thenS]
 refine hx.wpS hc ⟨hh,?_,fun t=>?_,?_⟩ fun a' w' S=>?_
 ·simp [Act.put]
 ·unfold rdE
  split
  ·rename_i ht; subst ht; exact ⟨L2,h2,by simp [Array.replicate]⟩
  ·split
   ·rename_i ht; subst ht; exact ⟨L3,h3,by simp [Array.replicate]⟩
   ·split
    ·rename_i ht; subst ht
     show _=_
     simp [Array.replicate]
    ·trivial
 ·rfl
 ·obtain ⟨σ',I',i1,i2,R',p1,p2,p3,p4⟩:=S.out
  have hd:a'.defers=[]:=R'.defers
  simp only [Out.ex,bodyPostS,results,Go.Proofs.Try.results55]
  refine ⟨hd,.panicking [{ v:=.iface u v,recovered:=true }],by cases c₀; simp_all,.tuple #[],by simp,rfl,rfl,a',S⟩
def y3y (r:AV) (hout:H) (ts:List RS) (E:Env) (h':H):Out→Prop
 | .normal=>z4s E h' ts=some r∧hout=h'
 | .ret=>z4s E h' ts=some r∧hout=h'
 | .panic (.iface u v)=>E 2 = .pt 900002 [] 0 0∧E 3 = .pt 900003 [] 0 0∧∃ c1 E2,IsC Go.Proofs.Try.prog 18 (rt (z2l Go.Proofs.Try.prog 55)) c1∧Ex Go.Proofs.Try.prog [900002,900003] c1 (rdE u v) h' .normal E2 hout∧z4s (fun t=>if t=2 then .pt 900002 [] 0 0 else if t=3 then .pt 900003 [] 0 0 else .un) hout ts=some r
 | _=>False
theorem y9m {s:ByteArray} {c0 cR:IC} {e1 E:Env} {h1 h' hout:H} {o:Out} {r:AV} {ts:List RS} {fn:Func} (hfn:Go.Proofs.Try.prog.funcs[30]? = some fn) (hN:fn.ntmps=57) (hts:z33 Go.Proofs.Try.prog fn.results.toList=some ts) (hb:fn.body=some (z2l Go.Proofs.Try.prog 30))
  (hc0:IsC Go.Proofs.Try.prog 57 (lf (z2l Go.Proofs.Try.prog 30)) c0) (hx0:Ex Go.Proofs.Try.prog [] c0 (argE 0 [.sc (.string s)]) [] .normal e1 h1)
  (he2:e1 2 = .pt 900002 [] 0 0) (he3:e1 3 = .pt 900003 [] 0 0)
  (hcR:IsC Go.Proofs.Try.prog 57 (rt (rt (z2l Go.Proofs.Try.prog 30))) cR) (hxR:Ex Go.Proofs.Try.prog [900002,900003] cR (upd e1 8 .un) h1 o E h')
  (fin:y3y r hout ts E h' o):CallG Go.Proofs.Try.prog 30 [.sc (.string s)] [] r hout:=by
 intro I σ w vs hh hv
 refine calls_of_wp_defers hfn hb ?_
 have hsh:∃ ops,z2l Go.Proofs.Try.prog 30 = .seq (lf (z2l Go.Proofs.Try.prog 30)) (.seq (.region 1 ops false) (rt (rt (z2l Go.Proofs.Try.prog 30))))∧∃ o0 o1,ops = #[o0,o1]∧o0.dst=some 8∧o0.guard=none∧o0.op = .makeFunc (.func 55) #[] #[.tmp 2,.tmp 3]∧o1.dst=none∧o1.guard=none∧(∃ d,o1.op = .defer d∧d.callee = .value (.tmp 8)∧d.args = #[]):=by
  refine ⟨_,rfl,_,_,rfl,rfl,rfl,rfl,rfl,rfl,_,rfl,rfl,rfl⟩
 obtain ⟨ops,hsh,o0,o1,rfl,d0,g0,q0,d1,g1,dd,q1,dc,da⟩:=hsh
 rw [hsh]
 have R:Rel I 57 σ (argE 0 [.sc (.string s)]) [] { tmps:=vs.toArray++Array.replicate (fn.ntmps - vs.toArray.size) undef,defers:=[] } w:=by
  refine ⟨hh,?_,fun t=>?_,rfl⟩
  ·simp only [Array.size_append,Array.size_replicate,List.size_toArray]
   omega
  ·have:=zb2 (I:=I) (σ:=σ) (B:=bl w) [.sc (.string s)] 0 [] vs (List.replicate (fn.ntmps - vs.toArray.size) undef) rfl hv t
   have e2:(vs.toArray++Array.replicate (fn.ntmps - vs.toArray.size) undef)=(vs++List.replicate (fn.ntmps - vs.toArray.size) undef).toArray:=by
    apply Array.ext'
    simp
   simp only [e2]
   simpa [Array.getD_eq_getD_getElem?,List.getD_eq_getElem?_getD] using this
 refine wp_seq (hx0.owes _ hc0 I σ _ w R _ fun a1 w1 S=>?_).1
 obtain ⟨σ1,I1,i1,i2,R1,p1,p2,p3,p4⟩:=S.out
 have hd1:a1.defers=[]:=R1.defers
 have sz1:57≤a1.tmps.size:=R1.size
 have hp1:=R1.heap
 have vl1:=R1.vals
 obtain ⟨L2,hL2,hv2⟩:∃ L,σ1 900002 []=some L∧a1.eval (.tmp 2) = .pointer (some ⟨L.b,0,none⟩):=by
  have:=R1.vals 2
  rw [he2] at this
  obtain ⟨L,h1,h2⟩:=this
  refine ⟨L,h1,?_⟩
  rw [show 0 * L.s+0=0 by omega] at h2
  exact h2
 obtain ⟨L3,hL3,hv3⟩:∃ L,σ1 900003 []=some L∧a1.eval (.tmp 3) = .pointer (some ⟨L.b,0,none⟩):=by
  have:=R1.vals 3
  rw [he3] at this
  obtain ⟨L,h1,h2⟩:=this
  refine ⟨L,h1,?_⟩
  rw [show 0 * L.s+0=0 by omega] at h2
  exact h2
 let d:Deferred:={ target:=.fn (.func 55) #[.pointer (some ⟨L2.b,0,none⟩),.pointer (some ⟨L3.b,0,none⟩)],args:=#[] }
 let a3:Act:={ a1.put (some 8) (.func (.func 55) #[] #[.pointer (some ⟨L2.b,0,none⟩),.pointer (some ⟨L3.b,0,none⟩)]) with defers:=[d] }
 apply wp_seq
 apply wp_region
 have key:(rt (rt (z2l Go.Proofs.Try.prog 30))).wp Go.Proofs.Try.prog (bodyPostD Go.Proofs.Try.prog fn fun en w'=>∃ v σ' I',en = .returned v∧(∀ b,I b→I' b)∧(∀ b,I' b→I b∨b ∈ fpH σ []∨w.heap.size≤b)∧HRel I' σ' hout w'∧Va I' σ' (bl w') r v∧(∀ k ∈ ([]:H).map Prod.fst,σ' k []=σ k [])∧Le w w' ∧
   (∀ b,b<w.heap.size→b ∉ fpH σ []→bl w' b=bl w b)∧(∀ b ∈ fpH σ' hout,b ∈ fpH σ []∨w.heap.size≤b)) a3 w1:=by
  letI inst:Dfs 57:=⟨[d]⟩
  have R3 : @Rel I1 57 inst σ1 (upd e1 8 .un) h1 a3 w1:=by
   refine ⟨hp1,?_,fun t=>?_,rfl⟩
   ·show 57≤(a1.put (some 8) _).tmps.size
    rw [Act.size_put]; exact sz1
   ·unfold upd
    split
    ·trivial
    ·rename_i hne
     have hg:a3.tmps.getD t undef=a1.tmps.getD t undef:=by
      show (a1.put (some 8) _).tmps.getD t undef=_
      rw [Act.getD_put (Nat.lt_of_lt_of_le (by decide:8<57) sz1),if_neg hne]
     rw [hg]
     exact vl1 t
  refine (hxR.owes (N:=57) _ hcR I1 σ1 a3 w1 R3 _ fun a' w' S'=>?_).1
  obtain ⟨σ2,I2,j1,j2,R2,r1,r2,r3,r4⟩:=S'.out
  have hd':a'.defers=[d]:=R2.defers
  have ls:=p2.size
  have ls2:=r2.size
  have A0:∀ b ∈ fpH σ1 h1,w.heap.size≤b:=fun b hb=>(p4 b hb).resolve_left (fun h=>by cases h)
  have A1:∀ b,I b→I2 b:=fun b hb=>j1 b (i1 b hb)
  have A2:∀ b,I2 b→I b∨b ∈ fpH σ []∨w.heap.size≤b:=fun b hb=>by
   rcases j2 b hb with h | h | h
   ·exact i2 b h
   ·exact .inr (.inr (A0 b h))
   ·exact .inr (.inr (by omega))
  have A3:Le w w':=p2.trans r2
  have A4:∀ b,b<w.heap.size→b ∉ fpH σ []→bl w' b=bl w b:=fun b hb hn=>by
   rw [r3 b (by omega) (fun hm=>by have:=A0 b hm; omega),p3 b hb hn]
  have A5:∀ b ∈ fpH σ2 h',w.heap.size≤b:=fun b hb=>by
   rcases r4 b hb with h | h
   ·exact A0 b h
   ·omega
  have hinv:∀ w,(invoke (.fn (.func 55) #[.pointer (some ⟨L2.b,0,none⟩),.pointer (some ⟨L3.b,0,none⟩)]) #[]).run Go.Proofs.Try.prog w = .ok (.enter 55 #[.pointer (some ⟨L2.b,0,none⟩),.pointer (some ⟨L3.b,0,none⟩)]) w:=fun w=>by
   simp only [invoke,Array.empty_append]
   exact z45 rfl _ w
  have done:z4s E h' ts=some r∧hout=h'→Leaves Go.Proofs.Try.prog fn a'.tmps (fun en w'=>∃ v σ' I',en = .returned v∧(∀ b,I b→I' b)∧(∀ b,I' b→I b∨b ∈ fpH σ []∨w.heap.size≤b)∧HRel I' σ' hout w'∧Va I' σ' (bl w') r v∧(∀ k ∈ ([]:H).map Prod.fst,σ' k []=σ k [])∧Le w w' ∧
   (∀ b,b<w.heap.size→b ∉ fpH σ []→bl w' b=bl w b)∧(∀ b ∈ fpH σ' hout,b ∈ fpH σ []∨w.heap.size≤b)) a'.defers .returning w':=fun ⟨hr,ho⟩=>by
   subst ho
   rw [hd']
   refine leaves_cons (by simp) (hinv w') ((y9l _ _ w').mono ?_)
   rintro en u' w'' ⟨rfl,rfl,rfl⟩
   obtain ⟨v,q1,q2⟩:=z69 R2 fn hts hr
   exact ⟨v,q1,v,σ2,I2,rfl,A1,A2,R2.heap,q2,fun k hk=>(nomatch hk),A3,A4,fun b hb=>.inr (A5 b hb)⟩
  cases o with
  | normal=>exact done fin
  | ret=>exact done fin
  | exit id=>exact fin.elim
  | panic u =>
   cases u with
   | iface t v =>
    obtain ⟨f2,f3,c1,E2,hc1,hx1,hr⟩:=fin
    show Leaves _ _ _ _ a'.defers _ _
    rw [hd']
    have g2:σ2 900002 []=some L2:=(r1 900002 (by simp)).trans hL2
    have g3:σ2 900003 []=some L3:=(r1 900003 (by simp)).trans hL3
    refine leaves_cons (by simp) (hinv w') ((y5n g2 g3 R2.heap hc1 hx1).mono ?_)
    rintro en u' w'' ⟨rfl,rfl,aC,SC⟩
    obtain ⟨σ3,I3,k1,k2,R4,s1,s2,s3,s4⟩:=SC.out
    have ls3:=s2.size
    have R5 : @Rel I3 57 inst σ3 (fun t=>if t=2 then .pt 900002 [] 0 0 else if t=3 then .pt 900003 [] 0 0 else .un) hout a' w'':=by
     refine ⟨R4.heap,R2.size,fun t=>?_,R2.defers⟩
     have v2:=R2.vals 2
     have v3:=R2.vals 3
     rw [f2] at v2
     rw [f3] at v3
     obtain ⟨M2,m1,m2⟩:=v2
     obtain ⟨M3,m3,m4⟩:=v3
     split
     ·rename_i ht; subst ht; exact ⟨M2,(s1 900002 (by simp)).trans m1,m2⟩
     ·split
      ·rename_i ht; subst ht; exact ⟨M3,(s1 900003 (by simp)).trans m3,m4⟩
      ·trivial
    obtain ⟨v',q1,q2⟩:=z69 R5 fn hts hr
    refine ⟨v',q1,v',σ3,I3,rfl,fun b hb=>k1 b (A1 b hb),fun b hb=>?_,R4.heap,q2,fun k hk=>(nomatch hk),A3.trans s2,fun b hb hn=>?_,fun b hb=>.inr ?_⟩
    ·rcases k2 b hb with h | h | h
     ·exact A2 b h
     ·exact .inr (.inr (A5 b h))
     ·exact .inr (.inr (by omega))
    ·rw [s3 b (by omega) (fun hm=>by have:=A5 b hm; omega),A4 b hb hn]
    ·rcases s4 b hb with h | h
     ·exact A5 b h
     ·omega
   | _=>exact fin.elim
 have x0:(execOp a1.eval o0).run Go.Proofs.Try.prog w1 = .ok (.value (.func (.func 55) #[] #[.pointer (some ⟨L2.b,0,none⟩),.pointer (some ⟨L3.b,0,none⟩)])) w1:=by
  simp only [execOp,q0,List.map_toArray,List.map_cons,List.map_nil,hv2,hv3]
  rfl
 show wpOps _ _ _ [0,1] a1 w1
 rw [wpOps_cons]
 unfold wpOp
 have e0:(#[o0,o1]:Array Oper)[0]? = some o0:=rfl
 have e1':(#[o0,o1]:Array Oper)[1]? = some o1:=rfl
 have hw0:∀ a,Region.wanted o0 (yielded #[o0,o1] a)=true:=fun a=>by simp [Region.wanted,g0]
 have hw1:∀ a,Region.wanted o1 (yielded #[o0,o1] a)=true:=fun a=>by simp [Region.wanted,g1]
 simp only [e0,hw0,if_true]
 refine .inl ?_
 unfold Oper.wp
 rw [x0,Oper.upon_value,d0,wpOps_cons]
 unfold wpOp
 simp only [e1',hw1,if_true]
 refine .inl ?_
 unfold Oper.wp
 have h8:(a1.put (some 8) (.func (.func 55) #[] #[.pointer (some ⟨L2.b,0,none⟩),.pointer (some ⟨L3.b,0,none⟩)])).eval (.tmp 8) = .func (.func 55) #[] #[.pointer (some ⟨L2.b,0,none⟩),.pointer (some ⟨L3.b,0,none⟩)]:=by
  show (a1.put (some 8) _).tmps.getD 8 undef=_
  rw [Act.getD_put (Nat.lt_of_lt_of_le (by decide) R1.size),if_pos rfl]
 have x1:(execOp (a1.put (some 8) (.func (.func 55) #[] #[.pointer (some ⟨L2.b,0,none⟩),.pointer (some ⟨L3.b,0,none⟩)])).eval o1).run Go.Proofs.Try.prog w1 = .ok (.defer d) w1:=by
  obtain ⟨cl,as',ty⟩:=dd
  simp only at dc da
  subst dc da
  simp only [execOp,q1,resolve,h8,Deferred.ofValue,Sem.run_bind,Sem.run_pure,Result.andThen_ok,List.map_toArray,List.map_nil]
  rfl
 rw [x1,Oper.upon_defer,d1]
 have ha3:({ a1.put (some 8) (.func (.func 55) #[] #[.pointer (some ⟨L2.b,0,none⟩),.pointer (some ⟨L3.b,0,none⟩)]) with defers:=d::(a1.put (some 8) (.func (.func 55) #[] #[.pointer (some ⟨L2.b,0,none⟩),.pointer (some ⟨L3.b,0,none⟩)])).defers }:Act).put none undef=a3:=by
  rw [Act.defers_put,hd1]
  rfl
 rw [ha3]
 exact key

def icOf (P:Program) (N:Nat) (c:Code) (ks:List (List Nat)):IC:=match z42 P N c ks with | some (c,_)=>c | none=>.skip
theorem znj {P:Program} {N:Nat} {c:Code} {ks:List (List Nat)} (h:(z42 P N c ks).isSome=true):IsC P N c (icOf P N c ks):=by
 obtain ⟨⟨c',ks'⟩,h⟩:=Option.isSome_iff_exists.1 h
 exact ⟨ks,ks',by simp [icOf,h]⟩
theorem zdk {a b:Nat} (h:¬b=a):Nat.beq a b=false:=by
 cases hb:Nat.beq a b with
 | false=>rfl
 | true=>exact absurd (Nat.eq_of_beq_eq_true hb).symm h
section
variable {T:TT}
def zsw (ts:List RS) (eh:EH T):Option (VT T×TH T.toTT0) :=
 match rsTs eh.1 eh.2 ts,z7c eh.2 [(100000,900002)] with
 | some l,some (ho,_)=>match z3d [(100000,900002)] (.tu l) with
  | some r=>some (r,ho)
  | none=>none
 | _,_=>none
theorem y0i {ts:List RS} (ht:ts.length=2) {eh:EH T} {r:VT T} {ho:TH T.toTT0} (h:zsw ts eh=some (r,ho)) :
  ∃ l left,z4s (denE T.toTT0 (denH T.toTT0 eh.2) eh.1) (denH T.toTT0 eh.2) ts=some l∧z2a (denH T.toTT0 eh.2) [(100000,900002)]=some (denH T.toTT0 ho,left)∧back [(100000,900002)] l=some (den T.toTT0 (denH T.toTT0 ho) r):=by
 unfold zsw at h
 split at h
 ·rename_i l ho' left h1 h2
  split at h
  ·rename_i r' hb
   cases h
   obtain ⟨s1,s2,s3⟩:=z4j _ _ _ _ h2
   refine ⟨.tu (denL T.toTT0 (denH T.toTT0 eh.2) l),_,?_,s1,z7f (Ho:=denH T.toTT0 eh.2) (H1:=denH T.toTT0 ho) (fun k n q hk=>?_) _ _ hb⟩
   ·have h3:=zjh _ _ h1
    unfold z4s
    rw [h3]
    have hl:∀ (ts:List RS) (l:List AV) (e:Env) (h:H),z7a e h ts=some l→l.length=ts.length:=by
     intro ts
     induction ts with
     | nil=>intro l e h hl; cases hl; rfl
     | cons a ts ih =>
      intro l e h hl
      simp only [z7a] at hl
      split at hl
      ·rename_i h1 h2
       cases hl
       simp [ih _ _ _ h2]
      ·cases hl
    have h4:=hl _ _ _ _ h3
    rw [ht] at h4
    match denL T.toTT0 (denH T.toTT0 eh.2) l,h4 with
    | [a,b],_=>rfl
   ·have hm:=z5h _ hk
    have:=s3 n k (by rfl) (by rfl) hm
    unfold ze res
    rw [this]
  ·cases h
 ·cases h
def rdK (cx:Cx Go.Proofs.Try.prog T) (c1:IC) (D:Dr):Out→TE T.toTT0→TH T.toTT0→Raw Go.Proofs.Try.prog T [900002,900003] (EH T)
 | .normal,e,h=>Raw.ofRs .leaf (cnv [900002,900003] D e h)
 | .ret,e,h=>Raw.ofRs .leaf (cnv [900002,900003] D e h)
 | .panic (.iface u v),e,h =>
  match getE e 2,getE e 3 with
  | .pt 900002 [] 0 0,.pt 900003 [] 0 0=>evC cx c1 .no [(0,.pt 900002 [] 0 0),(1,.pt 900003 [] 0 0),(2,.sc (.iface u v))] h fun o e' h' =>
   match o with
   | .normal=>Raw.ofRs (fun eh=>.leaf ([(2,.pt 900002 [] 0 0),(3,.pt 900003 [] 0 0)],eh.2)) (cnv [900002,900003] ⟨[],D.R⟩ e' h')
   | _=>.no
  | _,_=>.no
 | _,_,_=>.no
def ycg {R:Type} (cx:Cx Go.Proofs.Try.prog T) (ks0 ksR ks1:List (List Nat)) (an:ByteArray→An Go.Proofs.Try.prog T [900002,900003]) (D0 D:Dr) (e1:ByteArray→TE T.toTT0) (h1:TH T.toTT0) (strong:Bool) (encE:R→EH T) (encR:R→VT T) (encO:R→TH T.toTT0) (t:ByteArray→Pt Go.Proofs.Try.prog T [900002,900003] R)
  (k0:(z42 Go.Proofs.Try.prog 57 (lf (z2l Go.Proofs.Try.prog 30)) ks0).isSome=true:=by kernel_rfl)
  (kR:(z42 Go.Proofs.Try.prog 57 (rt (rt (z2l Go.Proofs.Try.prog 30))) ksR).isSome=true:=by kernel_rfl)
  (k1:(z42 Go.Proofs.Try.prog 18 (rt (z2l Go.Proofs.Try.prog 55)) ks1).isSome=true:=by kernel_rfl)
  (hts:(∃ fn,Go.Proofs.Try.prog.funcs[30]? = some fn∧fn.ntmps=57∧z33 Go.Proofs.Try.prog fn.results.toList=some (fnTs Go.Proofs.Try.prog 30)∧fn.body=some (z2l Go.Proofs.Try.prog 30)):=by exact ⟨_,rfl,rfl,rfl,rfl⟩)
  (hl:(fnTs Go.Proofs.Try.prog 30).length=2:=by kernel_rfl)
  (h0:∀ x,(evC cx (icOf Go.Proofs.Try.prog 57 (lf (z2l Go.Proofs.Try.prog 30)) ks0) .no (argT 0 [.sc (.string x)]) [] (fun o e h=>match o with | .normal=>Raw.ofRs .leaf (cnv [] D0 e h) | _=>.no):Raw Go.Proofs.Try.prog T [] (EH T)) = .leaf (e1 x,h1):=by intro x; kernel_rfl)
  (g2:∀ x,getE (e1 x) 2 = .pt 900002 [] 0 0:=by intro x; kernel_rfl) (g3:∀ x,getE (e1 x) 3 = .pt 900003 [] 0 0:=by intro x; kernel_rfl)
  (hR:∀ x,evC cx (icOf Go.Proofs.Try.prog 57 (rt (rt (z2l Go.Proofs.Try.prog 30))) ksR) (an x) (putE (e1 x) 8 .un) h1 (rdK cx (icOf Go.Proofs.Try.prog 18 (rt (z2l Go.Proofs.Try.prog 55)) ks1) D)=(t x).raw encE:=by intro x; kernel_rfl)
  (hE:∀ y,(encE y).1=[(2,.pt 900002 [] 0 0),(3,.pt 900003 [] 0 0)]:=by intro y; kernel_rfl)
  (hr:∀ y,zsw (fnTs Go.Proofs.Try.prog 30) (encE y)=some (encR y,encO y):=by intro y; kernel_rfl)
  (hs:strong=true→∀ y,(z93 (encR y) && z87 (encO y))=true:=by first | (intro h; cases h; done) | (intro _ y; kernel_rfl)):Con Go.Proofs.Try.prog T where
 f:=30
 X:=ByteArray
 Y:=R
 A:=[.any]
 H:=[]
 N:=[100000]
 encA:=fun x=>[.sc (.string x)]
 encH:=fun _=>[]
 G:=fun x=>(t x).run
 encR:=encR
 encO:=encO
 strong:=strong
 ok:=fun x y hx=>by
  have hG:CallG Go.Proofs.Try.prog 30 [.sc (.string x)] [] (den T.toTT0 (denH T.toTT0 (encO y)) (encR y)) (denH T.toTT0 (encO y)):=by
   obtain ⟨fn,f1,f2,f3,f4⟩:=hts
   have a1:=z1x encE (t x) y hx
   rw [← hR x] at a1
   have a2:=z3j _ (an x) _ _ _ _ a1
   have b1:Sat (evC cx (icOf Go.Proofs.Try.prog 57 (lf (z2l Go.Proofs.Try.prog 30)) ks0) .no (argT 0 [.sc (.string x)]) [] (fun o e h=>match o with | .normal=>Raw.ofRs .leaf (cnv [] D0 e h) | _=>.no):Raw Go.Proofs.Try.prog T [] (EH T)) (fun l=>l=(e1 x,h1)):=by
    rw [h0 x]; exact rfl
   have b2:=z3j _ _ _ _ _ _ b1
   rw [zbz] at b2
   obtain ⟨o0,E0,H0,hx0,e0,h0',rfl,rfl,hK0⟩:=b2
   have hx0:Ex Go.Proofs.Try.prog [] (icOf Go.Proofs.Try.prog 57 (lf (z2l Go.Proofs.Try.prog 30)) ks0) (argE 0 (denL T.toTT0 (denH T.toTT0 []) [.sc (.string x)])) (denH T.toTT0 []) .normal (denE T.toTT0 (denH T.toTT0 h1) (e1 x)) (denH T.toTT0 h1):=by
    cases o0 with
    | normal =>
     obtain ⟨eh,c1,c2⟩:=Sat.ofRs _ hK0
     have c2:eh=(e1 x,h1):=c2
     subst c2
     exact .after hx0 (z3r c1)
    | _=>exact hK0.elim
   obtain ⟨o,E,H0,hex,e,h,rfl,rfl,hK⟩:=a2
   rw [zy] at hex
   obtain ⟨l,left,q1,q2,q3⟩:=y0i hl (hr y)
   have hEE:denE T.toTT0 (denH T.toTT0 (encE y).2) (encE y).1=(fun t=>if t=2 then .pt 900002 [] 0 0 else if t=3 then .pt 900003 [] 0 0 else .un):=by
    rw [hE y]
    funext t
    simp only [denE,getE]
    by_cases h2:t=2
    ·subst h2; rfl
    ·by_cases h3:t=3
     ·subst h3; rfl
     ·have e2:Nat.beq t 2=false:=zdk fun h=>h2 h.symm
      have e3:Nat.beq t 3=false:=zdk fun h=>h3 h.symm
      simp [h2,h3,e2,e3,den]
   have key:∃ o E' h',Ex Go.Proofs.Try.prog [900002,900003] (icOf Go.Proofs.Try.prog 57 (rt (rt (z2l Go.Proofs.Try.prog 30))) ksR) (upd (denE T.toTT0 (denH T.toTT0 h1) (e1 x)) 8 .un) (denH T.toTT0 h1) o E' h'∧y3y l (denH T.toTT0 (encE y).2) (fnTs Go.Proofs.Try.prog 30) E' h' o:=by
    cases o with
    | exit id=>exact hK.elim
    | normal =>
     obtain ⟨eh,c1,c2⟩:=Sat.ofRs _ hK
     cases c2
     exact ⟨_,_,_,.after hex (z3r c1),q1,rfl⟩
    | ret =>
     obtain ⟨eh,c1,c2⟩:=Sat.ofRs _ hK
     cases c2
     exact ⟨_,_,_,.after hex (z3r c1),q1,rfl⟩
    | panic u =>
     cases u with
     | iface u v =>
      simp only [rdK] at hK
      split at hK
      ·rename_i p2 p3
       have d:=z3j _ _ _ _ _ _ hK
       obtain ⟨o2,E2,H2,hx2,e2,h2,rfl,rfl,hK2⟩:=d
       refine ⟨_,_,_,hex,by simp only [denE,p2,den],by simp only [denE,p3,den],icOf Go.Proofs.Try.prog 18 (rt (z2l Go.Proofs.Try.prog 55)) ks1,?_⟩
       cases o2 with
       | normal =>
        obtain ⟨eh,c1,c2⟩:=Sat.ofRs _ hK2
        have c2:(([(2,.pt 900002 [] 0 0),(3,.pt 900003 [] 0 0)],eh.2):EH T)=encE y:=c2
        have c3:(encE y).2=eh.2:=by rw [← c2]
        have hx3:=Ex.after hx2 (z3r c1)
        rw [← c3] at hx3
        refine ⟨denE T.toTT0 (denH T.toTT0 (encE y).2) eh.1,znj k1,?_,by rw [← hEE]; exact q1⟩
        have hE0:denE T.toTT0 (denH T.toTT0 h) [(0,.pt 900002 [] 0 0),(1,.pt 900003 [] 0 0),(2,.sc (.iface u v))]=rdE u v:=by
         funext t
         simp only [denE,getE,rdE]
         by_cases t0:t=0
         ·subst t0; rfl
         ·by_cases t1:t=1
          ·subst t1; rfl
          ·by_cases t2:t=2
           ·subst t2; rfl
           ·have e0:Nat.beq t 0=false:=zdk fun h=>t0 h.symm
            have e1:Nat.beq t 1=false:=zdk fun h=>t1 h.symm
            have e2:Nat.beq t 2=false:=zdk fun h=>t2 h.symm
            simp [t0,t1,t2,e0,e1,e2,den]
        rw [hE0] at hx3
        exact hx3
       | _=>exact hK2.elim
      ·exact hK.elim
     | _=>exact hK.elim
   obtain ⟨o,E',h',hx',fin⟩:=key
   have he2:denE T.toTT0 (denH T.toTT0 h1) (e1 x) 2 = .pt 900002 [] 0 0:=by simp only [denE,g2 x,den]
   have he3:denE T.toTT0 (denH T.toTT0 h1) (e1 x) 3 = .pt 900003 [] 0 0:=by simp only [denE,g3 x,den]
   exact (y9m f1 f2 f3 f4 (znj k0) hx0 he2 he3 (znj kR) hx' fin).norm [(100000,900002)] q2 rfl q3 rfl
  refine ⟨fun hst=>?_,hG⟩
  have:=hs hst y
  simp only [Bool.and_eq_true] at this
  exact CallG.narrow hG (z9s _ this.1) (z88 _ this.2)
end
attribute [-instance] Dfs.none
def y95 (n:Nat):Cx Go.Proofs.Try.prog Ty_:=⟨[k222 n,k227 n,k225 n,k199 n],[],[],[]⟩
def zvh (n:Nat) (x:ByteArray):Pt Go.Proofs.Try.prog Ty_ [900002,900003] (Ycg):=.need (0≤(if (4:Int)<(x.size:Int) then (4:Int) else (x.size:Int))∧(if (4:Int)<(x.size:Int) then (4:Int) else (x.size:Int))≤(x.size:Int)) (.need (0≤(if (4:Int)<(x.size:Int) then (4:Int) else (x.size:Int))∧(if (4:Int)<(x.size:Int) then (4:Int) else (x.size:Int))≤((⟨#[108,116,104,49]⟩:ByteArray).size:Int)) (.ite (!((x.extract 0 ((if (4:Int)<(x.size:Int) then (4:Int) else (x.size:Int)).toNat))==((⟨#[108,116,104,49]⟩:ByteArray).extract 0 ((if (4:Int)<(x.size:Int) then (4:Int) else (x.size:Int)).toNat)))) (.leaf (([]:List Xa),([]:List Xb),([]:List Xc),([]:List Xd),(240:Int),(0:Int))) (.callX (k222 n) (x,(0:Int),(4:Int)) (fun (y1:Ybo)=>.callX (k227 n) (y1.2.1,y1.2.2) (fun (y2:Ycf)=>.callX (k225 n) (y2.1,y2.2.1,(8:Int)) (fun (y3:Yag)=>.need (0≤y2.2.1∧y2.2.1≤(x.size:Int)) (.call (k199 n) (x.extract 0 y2.2.1.toNat) fun (y4:Int)=>.ite (y3.1 != y4) (.leaf (([]:List Xa),([]:List Xb),([]:List Xc),([]:List Xd),(241:Int),y2.2.1)) (.ite (decide (y3.2.2<(x.size:Int))) (.leaf (([]:List Xa),([]:List Xb),([]:List Xc),([]:List Xd),(244:Int),y3.2.2)) (.leaf (y2.2.2.1,y2.2.2.2.1,y2.2.2.2.2.1,y2.2.2.2.2.2,(0:Int),(0:Int)))))) (fun (z3:Yaa)=>.leaf (([]:List Xa),([]:List Xb),([]:List Xc),([]:List Xd),z3.1,z3.2))) (fun (z2:Yaa)=>.leaf (([]:List Xa),([]:List Xb),([]:List Xc),([]:List Xd),z2.1,z2.2))) (fun (z1:Yaa)=>.leaf (([]:List Xa),([]:List Xb),([]:List Xc),([]:List Xd),z1.1,z1.2)))))
def k229 (n:Nat):Con Go.Proofs.Try.prog Ty_:=ycg (R:=Ycg) (y95 n) [[0,2,3]] [[0,2,3,4],[0,2,3,4,5],[0,2,3,4,20],[0,2,3,4],[0,2,3,4],[0,2,3,4],[0,2,3,4,6],[0,2,3,4,6,7],[0,2,3,4,6,38],[0,2,3,4],[2,3,4,48],[2,3],[2,3]] [[0,1,2,7],[0,1,2,3,4],[0,1,2,3,14],[0,1,3],[]] (fun x=>.no) ⟨[(0,.any),(2,.ref 900002),(3,.ref 900003)],[(900002,.any),(900003,.any)]⟩ ⟨[(2,.ref 900002),(3,.ref 900003)],[(900002,.fix [.ow false 1,.ow false 2,.ow false 3,.ow false 4]),(900003,.any)]⟩ (fun x=>[(0,.sc (.string x)),(2,.pt 900002 [] 0 0),(3,.pt 900003 [] 0 0)]) [(900002,.lit 4 [[.zs,.zs,.zs,.zs]]),(900003,.lit 2 [[.sc (.int .i64 (0:Int)),.sc (.int .i64 (0:Int))]])] true (fun y=>([(2,.pt 900002 [] 0 0),(3,.pt 900003 [] 0 0)],[(900002,.lit 4 [[.ow false 1 y.1,.ow false 2 y.2.1,.ow false 3 y.2.2.1,.ow false 4 y.2.2.2.1]]),(900003,.lit 2 [[.sc (.int .i64 y.2.2.2.2.1),.sc (.int .i64 y.2.2.2.2.2)]])])) (fun y=>.tu [.ag [.sw 100000 [(0,0)],.sw 100000 [(0,1)],.sw 100000 [(0,2)],.sw 100000 [(0,3)]],.ag [.sc (.int .i64 y.2.2.2.2.1),.sc (.int .i64 y.2.2.2.2.2)]]) (fun y=>[(100000,.lit 4 [[.ow false 1 y.1,.ow false 2 y.2.1,.ow false 3 y.2.2.1,.ow false 4 y.2.2.2.1]])]) (zvh n)
def y93 (n:Nat):Cx P_ Ty_:=⟨[k229 n,k16 n],[],[],[]⟩
abbrev y94:List (List Nat):=[[0,2],[2,5,6],[2,5,6,16],[2,3,4],[2,5,7],[2,5,7,28],[2,3,4],[2,3,4]]
def zvg (n:Nat) (x:ByteArray):Pt P_ Ty_ [] (Ybq):=.call (k229 n) x fun (y1:Ycg)=>.ite (y1.2.2.2.2.1 != (0:Int)) (.leaf (y1.2.2.2.2.1,y1.2.2.2.2.2,([]:List Xa),([]:List Xb),([]:List Xc),([]:List Xd))) (.call (k16 n) (⟨y1.1,y1.2.1,y1.2.2.1,y1.2.2.2.1⟩:Xe) fun (y2:Yaa)=>.ite (y2.1 != (0:Int)) (.leaf (y2.1,(0:Int),([]:List Xa),([]:List Xb),([]:List Xc),([]:List Xd))) (.leaf ((0:Int),(0:Int),y1.1,y1.2.1,y1.2.2.1,y1.2.2.2.1)))
def k228 (n:Nat):Con P_ Ty_:=zq (X:=ByteArray) (R:=Ybq) (pro:=[]) (y93 n) 17 y94 (fun x=>.no) [.any] [] [100000] ⟨[(2,.ref 100000),(3,.any),(4,.any)],[(100000,.fix [.ow false 1,.ow false 2,.ow false 3,.ow false 4])]⟩ [100000] true (fun x=>[.sc (.string x)]) (fun x=>[]) (fun y=>([(2,.pt 100000 [] 0 0),(3,I_ y.1),(4,I_ y.2.1)],[(100000,.lit 4 [[.ow false 1 y.2.2.1,.ow false 2 y.2.2.2.1,.ow false 3 y.2.2.2.2.1,.ow false 4 y.2.2.2.2.2]])])) (fun y=>.tu [.ag [.sw 100000 [(0,0)],.sw 100000 [(0,1)],.sw 100000 [(0,2)],.sw 100000 [(0,3)]],I_ y.1,I_ y.2.1]) (fun y=>[(100000,.lit 4 [[.ow false 1 y.2.2.1,.ow false 2 y.2.2.2.1,.ow false 3 y.2.2.2.2.1,.ow false 4 y.2.2.2.2.2]])]) (zvg n)
def zhx (n:Nat):Cx P_ Ty_:=⟨[],[],[],[]⟩
abbrev zhy:List (List Nat):=[[2,3],[2,3,42],[4],[2,3,5],[2,3,5,47],[2,3,5,60],[4],[2,3,5],[2,3,6],[2,3,6,65],[2,3,6,78],[4],[2,3,6],[2,3,7],[2,3,7,83],[2,3,7,96],[4],[2,3,7],[2,3,8],[2,3,8,101],[2,3,8,114],[4],[2,3,8],[4]]
def zvq (x:Yah) (p:Bool):EH Ty_:=([(2,.pt 2 [] 0 0),(3,.pt 3 [] 0 0),(42,B_ p)],[(2,.lit 4 [[.im 1 x.1.Sign_,.im 2 x.1.Regs_,.im 3 x.1.Slots_,.im 4 x.1.List_]]),(3,.lit 4 [[.im 1 x.2.Sign_,.im 2 x.2.Regs_,.im 3 x.2.Slots_,.im 4 x.2.List_]])])
def zvr (n:Nat) (x:Yah) (v1:Unit) (q1:Int):Pt P_ Ty_ [] (Bo Int Int Unit):=.ite (decide (q1<(x.1.Sign_.length:Int))) (.bnd (idx x.1.Sign_ q1) fun y1=>.bnd (idx x.2.Sign_ q1) fun y2=>.ite (!(y1.Name_==y2.Name_ && (y1.Kind_==y2.Kind_ && (y1.Len_==y2.Len_ && true)))) (.leaf (.ret ())) (.leaf (.go (IntKind.i64.wrap (q1+(1:Int)))))) (.leaf (.out q1))
def zvm (n:Nat) (x:Yah) (v1:Unit):LCon P_ Ty_ []:=lcon (X:=Int) (Y:=Int) (Z:=Unit) (zhx n) (subC [1,1,0,1,0,0] (fnC P_ 13 zhy)) (fun q1=>.no) 0 true ⟨[(2,.ref 2),(3,.ref 3),(5,.any)],[(2,.any),(3,.any)]⟩ ⟨[(2,.ref 2),(3,.ref 3),(5,.any),(47,.any)],[(2,.any),(3,.any)]⟩ ⟨[(4,.any)],[]⟩ (fun q1=>([(2,.pt 2 [] 0 0),(3,.pt 3 [] 0 0),(5,I_ q1)],[(2,.lit 4 [[.im 1 x.1.Sign_,.im 2 x.1.Regs_,.im 3 x.1.Slots_,.im 4 x.1.List_]]),(3,.lit 4 [[.im 1 x.2.Sign_,.im 2 x.2.Regs_,.im 3 x.2.Slots_,.im 4 x.2.List_]])])) (fun p=>([(2,.pt 2 [] 0 0),(3,.pt 3 [] 0 0),(5,I_ p),(47,B_ false)],[(2,.lit 4 [[.im 1 x.1.Sign_,.im 2 x.1.Regs_,.im 3 x.1.Slots_,.im 4 x.1.List_]]),(3,.lit 4 [[.im 1 x.2.Sign_,.im 2 x.2.Regs_,.im 3 x.2.Slots_,.im 4 x.2.List_]])])) (fun p=>([(4,B_ false)],[])) n (zvr n x v1)
def zvs (n:Nat) (x:Yah) (v2:Unit) (q2:Int):Pt P_ Ty_ [] (Bo Int Int Unit):=.ite (decide (q2<(x.1.Regs_.length:Int))) (.bnd (idx x.1.Regs_ q2) fun y4=>.bnd (idx x.2.Regs_ q2) fun y5=>.ite (!(y4.Kind_==y5.Kind_ && (y4.Param_==y5.Param_ && true))) (.leaf (.ret ())) (.leaf (.go (IntKind.i64.wrap (q2+(1:Int)))))) (.leaf (.out q2))
def zvn (n:Nat) (x:Yah) (v2:Unit):LCon P_ Ty_ []:=lcon (X:=Int) (Y:=Int) (Z:=Unit) (zhx n) (subC [1,1,1,0,1,0,0] (fnC P_ 13 zhy)) (fun q2=>.no) 2 true ⟨[(2,.ref 2),(3,.ref 3),(6,.any)],[(2,.any),(3,.any)]⟩ ⟨[(2,.ref 2),(3,.ref 3),(6,.any),(65,.any)],[(2,.any),(3,.any)]⟩ ⟨[(4,.any)],[]⟩ (fun q2=>([(2,.pt 2 [] 0 0),(3,.pt 3 [] 0 0),(6,I_ q2)],[(2,.lit 4 [[.im 1 x.1.Sign_,.im 2 x.1.Regs_,.im 3 x.1.Slots_,.im 4 x.1.List_]]),(3,.lit 4 [[.im 1 x.2.Sign_,.im 2 x.2.Regs_,.im 3 x.2.Slots_,.im 4 x.2.List_]])])) (fun p=>([(2,.pt 2 [] 0 0),(3,.pt 3 [] 0 0),(6,I_ p),(65,B_ false)],[(2,.lit 4 [[.im 1 x.1.Sign_,.im 2 x.1.Regs_,.im 3 x.1.Slots_,.im 4 x.1.List_]]),(3,.lit 4 [[.im 1 x.2.Sign_,.im 2 x.2.Regs_,.im 3 x.2.Slots_,.im 4 x.2.List_]])])) (fun p=>([(4,B_ false)],[])) n (zvs n x v2)
def zvt (n:Nat) (x:Yah) (v3:Unit) (q3:Int):Pt P_ Ty_ [] (Bo Int Int Unit):=.ite (decide (q3<(x.1.Slots_.length:Int))) (.bnd (idx x.1.Slots_ q3) fun y7=>.bnd (idx x.2.Slots_ q3) fun y8=>.ite (!(y7.Type_.Kind_==y8.Type_.Kind_ && (y7.Type_.Param_==y8.Type_.Param_ && (y7.Keep_==y8.Keep_ && (y7.Bits_==y8.Bits_ && (y7.Int_==y8.Int_ && true)))))) (.leaf (.ret ())) (.leaf (.go (IntKind.i64.wrap (q3+(1:Int)))))) (.leaf (.out q3))
def zvo (n:Nat) (x:Yah) (v3:Unit):LCon P_ Ty_ []:=lcon (X:=Int) (Y:=Int) (Z:=Unit) (zhx n) (subC [1,1,1,1,0,1,0,0] (fnC P_ 13 zhy)) (fun q3=>.no) 4 true ⟨[(2,.ref 2),(3,.ref 3),(7,.any)],[(2,.any),(3,.any)]⟩ ⟨[(2,.ref 2),(3,.ref 3),(7,.any),(83,.any)],[(2,.any),(3,.any)]⟩ ⟨[(4,.any)],[]⟩ (fun q3=>([(2,.pt 2 [] 0 0),(3,.pt 3 [] 0 0),(7,I_ q3)],[(2,.lit 4 [[.im 1 x.1.Sign_,.im 2 x.1.Regs_,.im 3 x.1.Slots_,.im 4 x.1.List_]]),(3,.lit 4 [[.im 1 x.2.Sign_,.im 2 x.2.Regs_,.im 3 x.2.Slots_,.im 4 x.2.List_]])])) (fun p=>([(2,.pt 2 [] 0 0),(3,.pt 3 [] 0 0),(7,I_ p),(83,B_ false)],[(2,.lit 4 [[.im 1 x.1.Sign_,.im 2 x.1.Regs_,.im 3 x.1.Slots_,.im 4 x.1.List_]]),(3,.lit 4 [[.im 1 x.2.Sign_,.im 2 x.2.Regs_,.im 3 x.2.Slots_,.im 4 x.2.List_]])])) (fun p=>([(4,B_ false)],[])) n (zvt n x v3)
def zvu (n:Nat) (x:Yah) (v4:Unit) (q4:Int):Pt P_ Ty_ [] (Bo Int Int Unit):=.ite (decide (q4<(x.1.List_.length:Int))) (.bnd (idx x.1.List_ q4) fun y10=>.bnd (idx x.2.List_ q4) fun y11=>.ite (!(y10.Op_==y11.Op_ && (y10.D_==y11.D_ && (y10.A_==y11.A_ && (y10.B_==y11.B_ && (y10.C_==y11.C_ && (y10.N_==y11.N_ && (y10.Bits_==y11.Bits_ && true)))))))) (.leaf (.ret ())) (.leaf (.go (IntKind.i64.wrap (q4+(1:Int)))))) (.leaf (.out q4))
def zvp (n:Nat) (x:Yah) (v4:Unit):LCon P_ Ty_ []:=lcon (X:=Int) (Y:=Int) (Z:=Unit) (zhx n) (subC [1,1,1,1,1,0,1,0,0] (fnC P_ 13 zhy)) (fun q4=>.no) 6 true ⟨[(2,.ref 2),(3,.ref 3),(8,.any)],[(2,.any),(3,.any)]⟩ ⟨[(2,.ref 2),(3,.ref 3),(8,.any),(101,.any)],[(2,.any),(3,.any)]⟩ ⟨[(4,.any)],[]⟩ (fun q4=>([(2,.pt 2 [] 0 0),(3,.pt 3 [] 0 0),(8,I_ q4)],[(2,.lit 4 [[.im 1 x.1.Sign_,.im 2 x.1.Regs_,.im 3 x.1.Slots_,.im 4 x.1.List_]]),(3,.lit 4 [[.im 1 x.2.Sign_,.im 2 x.2.Regs_,.im 3 x.2.Slots_,.im 4 x.2.List_]])])) (fun p=>([(2,.pt 2 [] 0 0),(3,.pt 3 [] 0 0),(8,I_ p),(101,B_ false)],[(2,.lit 4 [[.im 1 x.1.Sign_,.im 2 x.1.Regs_,.im 3 x.1.Slots_,.im 4 x.1.List_]]),(3,.lit 4 [[.im 1 x.2.Sign_,.im 2 x.2.Regs_,.im 3 x.2.Slots_,.im 4 x.2.List_]])])) (fun p=>([(4,B_ false)],[])) n (zvu n x v4)
def y1p (n:Nat) (x:Yah):Pt P_ Ty_ [] Bool:=.join (S:=Bool) (zvq x) (.ite ((x.1.Sign_.length:Int) != (x.2.Sign_.length:Int)) (.leaf (.inl true)) (.ite ((x.1.Regs_.length:Int) != (x.2.Regs_.length:Int)) (.leaf (.inl true)) (.ite ((x.1.Slots_.length:Int) != (x.2.Slots_.length:Int)) (.leaf (.inl true)) (.leaf (.inl ((x.1.List_.length:Int) != (x.2.List_.length:Int))))))) fun s1=>.ite s1 (.leaf false) (.loopR (V:=Unit) (zvm n x) () (0:Int) (fun (v1:Unit) (y3:Int)=>.loopR (V:=Unit) (zvn n x) () (0:Int) (fun (v2:Unit) (y6:Int)=>.loopR (V:=Unit) (zvo n x) () (0:Int) (fun (v3:Unit) (y9:Int)=>.loopR (V:=Unit) (zvp n x) () (0:Int) (fun (v4:Unit) (y12:Int)=>.leaf true) fun (v4:Unit) (z4:Unit)=>.leaf false) fun (v3:Unit) (z3:Unit)=>.leaf false) fun (v2:Unit) (z2:Unit)=>.leaf false) fun (v1:Unit) (z1:Unit)=>.leaf false)
def k23 (n:Nat):Con P_ Ty_:=zq (X:=Yah) (R:=Bool) (pro:=[]) (zhx n) 13 zhy (fun x=>.two .no (.two (.join Bool (zvq x) ⟨[(2,.ref 2),(3,.ref 3),(42,.any)],[(2,.any),(3,.any)]⟩ .no .no) (.two (.two .no (.two (.loop Unit (zvm n x) true ⟨[(2,.ref 2),(3,.ref 3),(5,.any)],[(2,.any),(3,.any)]⟩) .no)) (.two (.two .no (.two (.loop Unit (zvn n x) true ⟨[(2,.ref 2),(3,.ref 3),(6,.any)],[(2,.any),(3,.any)]⟩) .no)) (.two (.two .no (.two (.loop Unit (zvo n x) true ⟨[(2,.ref 2),(3,.ref 3),(7,.any)],[(2,.any),(3,.any)]⟩) .no)) (.two (.two .no (.two (.loop Unit (zvp n x) true ⟨[(2,.ref 2),(3,.ref 3),(8,.any)],[(2,.any),(3,.any)]⟩) .no)) .no)))))) [.ag [.im 1,.im 2,.im 3,.im 4],.ag [.im 1,.im 2,.im 3,.im 4]] [] [] ⟨[(4,.any)],[]⟩ [] true (fun x=>[.ag [.im 1 x.1.Sign_,.im 2 x.1.Regs_,.im 3 x.1.Slots_,.im 4 x.1.List_],.ag [.im 1 x.2.Sign_,.im 2 x.2.Regs_,.im 3 x.2.Slots_,.im 4 x.2.List_]]) (fun x=>[]) (fun y=>([(4,B_ y)],[])) (fun y=>B_ y) (fun y=>[]) (y1p n)
def y96 (n:Nat):Cx P_ Ty_:=⟨[k216 n,k228 n,k23 n,k199 n],[],[],[]⟩
abbrev y97:List (List Nat):=[[],[1,2],[1,2,3,4,5],[1,2,3,4,5,7,8],[0]]
def zvi (n:Nat) (x:Unit):Pt P_ Ty_ [] Bool:=.call (k216 n) (⟨([]:List Xa),([]:List Xb),([]:List Xc),([]:List Xd)⟩:Xe) fun (y1:Yac)=>.call (k228 n) y1.1 fun (y2:Ybq)=>.call (k228 n) (⟨#[108,116,104,49,0,0]⟩:ByteArray) fun (y3:Ybq)=>.ite (y1.2==0) (.ite ((y1.1.size:Int)==16) (.need (0≤(8:Int)∧(8:Int)≤(y1.1.size:Int)) (.ite ((y1.1.extract 0 ((8:Int).toNat))==(⟨#[108,116,104,49,0,0,0,0]⟩:ByteArray)) (.ite (y2.1==0) (.ite (y2.2.1==0) (.call (k23 n) ((⟨y2.2.2.1,y2.2.2.2.1,y2.2.2.2.2.1,y2.2.2.2.2.2⟩:Xe),(⟨([]:List Xa),([]:List Xb),([]:List Xc),([]:List Xd)⟩:Xe)) fun (y4:Bool)=>.ite y4 (.ite (y3.1==242) (.ite (y3.2.1==6) (.call (k199 n) (⟨#[49,50,51,52,53,54,55,56,57]⟩:ByteArray) fun (y5:Int)=>.leaf (y5==11051210869376104954)) (.leaf false)) (.leaf false)) (.leaf false)) (.leaf false)) (.leaf false)) (.leaf false))) (.leaf false)) (.leaf false)
def k231 (n:Nat):Con P_ Ty_:=zq (X:=Unit) (R:=Bool) (pro:=[]) (y96 n) 14 y97 (fun x=>.no) [] [] [] ⟨[(0,.any)],[]⟩ [] true (fun x=>[]) (fun x=>[]) (fun y=>([(0,B_ y)],[])) (fun y=>B_ y) (fun y=>[]) (zvi n)
def zvj (n:Nat):Cx P_ Ty_:=⟨[k101 n,k216 n,k231 n,k228 n,k23 n],[(69,false,0)],[],[]⟩
abbrev zvk:List (List Nat):=[[2,3],[3,5,6],[3,5,25],[4],[3,5,29],[4],[3,5,31],[5,7],[5,7,38],[5,7],[9],[4],[3,5,11],[3,5,11,12],[3,5,11,12,64],[3,5,11,12],[3,5,11,12,13],[3,5,11,12,13,14],[3,5,11,12,13,14,78],[3,5,11,12,13,14,87],[3,5,11,12,13,14],[3,5,11,12,13,14],[5,13,15,16],[4]]
def zqv (x:Yay) (p:Yac):EH Ty_:=([(5,.sc (.string p.1)),(7,I_ p.2)],[])
def zqw (x:Yay) (p:Yad):EH Ty_:=([(3,.pt 3 [] 0 0),(5,.sc (.string p.1)),(11,I_ p.2.1),(12,I_ p.2.2)],[(3,.lit 3 [[B_ x.2.Cut_,I_ x.2.At_,.sc (.int .u64 x.2.Bits_)]])])
def zqx (x:Yay) (v1:Yad) (q1:Yab) (p:Bool):EH Ty_:=([(3,.pt 3 [] 0 0),(5,.sc (.string v1.1)),(11,I_ v1.2.1),(12,I_ v1.2.2),(13,.sw 69 []),(14,I_ q1.1),(78,B_ p)],[(3,.lit 3 [[B_ x.2.Cut_,I_ x.2.At_,.sc (.int .u64 x.2.Bits_)]]),(69,.typ false 0 q1.2)])
def zqy (n:Nat) (x:Yay) (v1:Yad) (q1:Yab):Pt P_ Ty_ [] (Bo (Yab) (Yab) Empty):=.join (S:=Bool) (zqx x v1 q1) (.ite (decide (q1.1<(64:Int))) (.leaf (.inl (decide ((IntKind.i64.wrap (v1.2.2+q1.1))<v1.2.1)))) (.leaf (.inl false))) fun s3=>.ite s3 (.need (0≤(IntKind.u64.wrap q1.1)) (.ite (((x.2.Bits_.fdiv (2 ^ min (IntKind.u64.wrap q1.1).toNat IntKind.u64.bits)).tmod (2:Int))==1) (.need (0≤(IntKind.i64.wrap ((IntKind.i64.wrap (v1.2.2+q1.1)).tdiv (8:Int)))∧(IntKind.i64.wrap ((IntKind.i64.wrap (v1.2.2+q1.1)).tdiv (8:Int)))<(q1.2.length:Int)) (.bnd (q1.2[(IntKind.i64.wrap ((IntKind.i64.wrap (v1.2.2+q1.1)).tdiv (8:Int))).toNat]?) fun y6=>.need (0≤(IntKind.u64.wrap ((IntKind.i64.wrap (v1.2.2+q1.1)).tmod (8:Int)))) (.need (0≤(IntKind.i64.wrap ((IntKind.i64.wrap (v1.2.2+q1.1)).tdiv (8:Int)))∧(IntKind.i64.wrap ((IntKind.i64.wrap (v1.2.2+q1.1)).tdiv (8:Int)))<(q1.2.length:Int)) (.bnd (q1.2[(IntKind.i64.wrap ((IntKind.i64.wrap (v1.2.2+q1.1)).tdiv (8:Int))).toNat]?) fun y7=>.leaf (.go ((IntKind.i64.wrap (q1.1+(1:Int))),(q1.2.set ((IntKind.i64.wrap ((IntKind.i64.wrap (v1.2.2+q1.1)).tdiv (8:Int))).toNat) (IntKind.u8.wrap (BitVec.ofInt IntKind.u8.bits y6 ^^^ BitVec.ofInt IntKind.u8.bits (IntKind.u8.wrap ((1:Int) * 2 ^ min (IntKind.u64.wrap ((IntKind.i64.wrap (v1.2.2+q1.1)).tmod (8:Int))).toNat IntKind.u8.bits))).toNat)))))))) (.leaf (.go ((IntKind.i64.wrap (q1.1+(1:Int))),q1.2))))) (.leaf (.out (q1.1,q1.2)))
def zqu (n:Nat) (x:Yay) (v1:Yad):LCon P_ Ty_ []:=lcon (X:=Yab) (Y:=Yab) (Z:=Empty) (zvj n) (subC [1,1,1,1,1,1,1,1,1,0,1,0,0] (fnC P_ 8 zvk)) (fun q1=>.two (.join Bool (zqx x v1 q1) ⟨[(3,.ref 3),(5,.any),(11,.any),(12,.any),(13,.ref 69),(14,.any),(78,.any)],[(3,.any),(69,.any)]⟩ .no .no) .no) 0 false ⟨[(3,.ref 3),(5,.any),(11,.any),(12,.any),(13,.ref 69),(14,.any)],[(3,.any),(69,.any)]⟩ ⟨[(3,.ref 3),(5,.any),(11,.any),(12,.any),(13,.ref 69),(14,.any),(78,.any)],[(3,.any),(69,.any)]⟩ ⟨[],[]⟩ (fun q1=>([(3,.pt 3 [] 0 0),(5,.sc (.string v1.1)),(11,I_ v1.2.1),(12,I_ v1.2.2),(13,.sw 69 []),(14,I_ q1.1)],[(3,.lit 3 [[B_ x.2.Cut_,I_ x.2.At_,.sc (.int .u64 x.2.Bits_)]]),(69,.typ false 0 q1.2)])) (fun p=>([(3,.pt 3 [] 0 0),(5,.sc (.string v1.1)),(11,I_ v1.2.1),(12,I_ v1.2.2),(13,.sw 69 []),(14,I_ p.1),(78,B_ false)],[(3,.lit 3 [[B_ x.2.Cut_,I_ x.2.At_,.sc (.int .u64 x.2.Bits_)]]),(69,.typ false 0 p.2)])) (fun p=>nomatch p) n (zqy n x v1)
def zvl (n:Nat) (x:Yay):Pt P_ Ty_ [] Bool:=.call (k101 n) x.1 fun (y1:Ybx)=>.call (k216 n) (⟨y1.1,y1.2.1,y1.2.2.1,y1.2.2.2⟩:Xe) fun (y2:Yac)=>.ite (y2.2 != (0:Int)) (.call (k231 n) () fun (y3:Bool)=>.leaf y3) (.ite (decide ((y2.1.size:Int)<(16:Int))) (.leaf false) (.ite x.2.Cut_ (.need ((y2.1.size:Int) ≠ 0) (.join (S:=Yac) (zqv x) (.ite (decide ((x.2.At_.tmod (y2.1.size:Int))<(0:Int))) (.leaf (.inl (y2.1,(IntKind.i64.wrap ((x.2.At_.tmod (y2.1.size:Int))+(y2.1.size:Int)))))) (.leaf (.inl (y2.1,(x.2.At_.tmod (y2.1.size:Int)))))) fun s1=>.need (0≤s1.2∧s1.2≤(s1.1.size:Int)) (.call (k228 n) (s1.1.extract 0 s1.2.toNat) fun (y4:Ybq)=>.ite (y4.1 != (0:Int)) (.call (k231 n) () fun (y5:Bool)=>.leaf y5) (.leaf false)))) (.need ((IntKind.i64.wrap ((8:Int) * (y2.1.size:Int))) ≠ 0) (.join (S:=Yad) (zqw x) (.ite (decide ((x.2.At_.tmod (IntKind.i64.wrap ((8:Int) * (y2.1.size:Int))))<(0:Int))) (.leaf (.inl (y2.1,(IntKind.i64.wrap ((8:Int) * (y2.1.size:Int))),(IntKind.i64.wrap ((x.2.At_.tmod (IntKind.i64.wrap ((8:Int) * (y2.1.size:Int))))+(IntKind.i64.wrap ((8:Int) * (y2.1.size:Int)))))))) (.leaf (.inl (y2.1,(IntKind.i64.wrap ((8:Int) * (y2.1.size:Int))),(x.2.At_.tmod (IntKind.i64.wrap ((8:Int) * (y2.1.size:Int)))))))) fun s2=>.loop (V:=Yad) (zqu n x) (s2.1,s2.2.1,s2.2.2) ((0:Int),(bytesOf s2.1)) fun (v1:Yad) (y8:Yab)=>.call (k228 n) (zv y8.2) fun (y9:Ybq)=>.ite (((zv y8.2)==v1.1)==(y9.1==0)) (.ite (y9.1==0) (.call (k231 n) () fun (y10:Bool)=>.leaf y10) (.call (k23 n) ((⟨y9.2.2.1,y9.2.2.2.1,y9.2.2.2.2.1,y9.2.2.2.2.2⟩:Xe),(⟨([]:List Xa),([]:List Xb),([]:List Xc),([]:List Xd)⟩:Xe)) fun (y11:Bool)=>.ite y11 (.call (k231 n) () fun (y12:Bool)=>.leaf y12) (.leaf false))) (.leaf false)))))
def k236 (n:Nat):Con P_ Ty_:=zq (X:=Yay) (R:=Bool) (pro:=[]) (zvj n) 8 zvk (fun x=>.two .no (.two .no (.two .no (.two .no (.two (.two .no (.two (.two .no (.join (Yac) (zqv x) ⟨[(5,.any),(7,.any)],[]⟩ .no .no)) .no)) (.two .no (.two .no (.join (Yad) (zqw x) ⟨[(3,.ref 3),(5,.any),(11,.any),(12,.any)],[(3,.any)]⟩ .no (.two .no (.two (.two .no (.two (.loop (Yad) (zqu n x) false ⟨[(3,.ref 3),(5,.any),(11,.any),(12,.any),(13,.ref 69),(14,.any)],[(3,.any),(69,.any)]⟩) .no)) .no)))))))))) [.ag [.im 1,.im 2,.im 3,.im 4],.ag [.any,.any,.any]] [] [] ⟨[(4,.any)],[]⟩ [] true (fun x=>[.ag [.im 1 x.1.Sign_,.im 2 x.1.Regs_,.im 3 x.1.Slots_,.im 4 x.1.List_],.ag [B_ x.2.Cut_,I_ x.2.At_,.sc (.int .u64 x.2.Bits_)]]) (fun x=>[]) (fun y=>([(4,B_ y)],[])) (fun y=>B_ y) (fun y=>[]) (zvl n)
def y3f (n:Nat):Cx P_ Ty_:=⟨[],[],[],[]⟩
abbrev y3g:List (List Nat):=[[0],[0,11],[2],[0,3],[0,3,15],[0,3,4],[0,3,59],[2],[0,3],[2]]
def zxt (x:ByteArray) (p:Bool):EH Ty_:=([(0,.sc (.string x)),(11,B_ p)],[])
def zxu (x:ByteArray) (v1:Unit) (q1:Int) (p:Bool):EH Ty_:=([(0,.sc (.string x)),(3,I_ q1),(59,B_ p)],[])
def zxv (n:Nat) (x:ByteArray) (v1:Unit) (q1:Int):Pt P_ Ty_ [] (Bo Int Int Unit):=.ite (decide (q1<(x.size:Int))) (.need (0≤q1∧q1<(x.size:Int)) (.join (S:=Bool) (zxu x v1 q1) (.ite (decide ((zb x q1)≥(97:Int))) (.ite (decide ((zb x q1)≤(122:Int))) (.leaf (.inl false)) (.ite (decide ((zb x q1)≥(65:Int))) (.ite (decide ((zb x q1)≤(90:Int))) (.leaf (.inl false)) (.ite (decide ((zb x q1)≥(48:Int))) (.ite (decide ((zb x q1)≤(57:Int))) (.leaf (.inl false)) (.ite ((zb x q1)==95) (.leaf (.inl false)) (.ite ((zb x q1)==46) (.leaf (.inl false)) (.ite ((zb x q1)==47) (.leaf (.inl false)) (.leaf (.inl (!((zb x q1)==45)))))))) (.ite ((zb x q1)==95) (.leaf (.inl false)) (.ite ((zb x q1)==46) (.leaf (.inl false)) (.ite ((zb x q1)==47) (.leaf (.inl false)) (.leaf (.inl (!((zb x q1)==45))))))))) (.ite (decide ((zb x q1)≥(48:Int))) (.ite (decide ((zb x q1)≤(57:Int))) (.leaf (.inl false)) (.ite ((zb x q1)==95) (.leaf (.inl false)) (.ite ((zb x q1)==46) (.leaf (.inl false)) (.ite ((zb x q1)==47) (.leaf (.inl false)) (.leaf (.inl (!((zb x q1)==45)))))))) (.ite ((zb x q1)==95) (.leaf (.inl false)) (.ite ((zb x q1)==46) (.leaf (.inl false)) (.ite ((zb x q1)==47) (.leaf (.inl false)) (.leaf (.inl (!((zb x q1)==45)))))))))) (.ite (decide ((zb x q1)≥(65:Int))) (.ite (decide ((zb x q1)≤(90:Int))) (.leaf (.inl false)) (.ite (decide ((zb x q1)≥(48:Int))) (.ite (decide ((zb x q1)≤(57:Int))) (.leaf (.inl false)) (.ite ((zb x q1)==95) (.leaf (.inl false)) (.ite ((zb x q1)==46) (.leaf (.inl false)) (.ite ((zb x q1)==47) (.leaf (.inl false)) (.leaf (.inl (!((zb x q1)==45)))))))) (.ite ((zb x q1)==95) (.leaf (.inl false)) (.ite ((zb x q1)==46) (.leaf (.inl false)) (.ite ((zb x q1)==47) (.leaf (.inl false)) (.leaf (.inl (!((zb x q1)==45))))))))) (.ite (decide ((zb x q1)≥(48:Int))) (.ite (decide ((zb x q1)≤(57:Int))) (.leaf (.inl false)) (.ite ((zb x q1)==95) (.leaf (.inl false)) (.ite ((zb x q1)==46) (.leaf (.inl false)) (.ite ((zb x q1)==47) (.leaf (.inl false)) (.leaf (.inl (!((zb x q1)==45)))))))) (.ite ((zb x q1)==95) (.leaf (.inl false)) (.ite ((zb x q1)==46) (.leaf (.inl false)) (.ite ((zb x q1)==47) (.leaf (.inl false)) (.leaf (.inl (!((zb x q1)==45)))))))))) fun s2=>.ite s2 (.leaf (.ret ())) (.leaf (.go (IntKind.i64.wrap (q1+(1:Int))))))) (.leaf (.out q1))
def zxs (n:Nat) (x:ByteArray) (v1:Unit):LCon P_ Ty_ []:=lcon (X:=Int) (Y:=Int) (Z:=Unit) (y3f n) (subC [1,1,0,1,0,0] (fnC P_ 83 y3g)) (fun q1=>.two .no (.two (.two (.two .no (.join Bool (zxu x v1 q1) ⟨[(0,.any),(3,.any),(59,.any)],[]⟩ .no .no)) .no) .no)) 0 true ⟨[(0,.any),(3,.any)],[]⟩ ⟨[(0,.any),(3,.any),(15,.any)],[]⟩ ⟨[(2,.any)],[]⟩ (fun q1=>([(0,.sc (.string x)),(3,I_ q1)],[])) (fun p=>([(0,.sc (.string x)),(3,I_ p),(15,B_ false)],[])) (fun p=>([(2,B_ false)],[])) n (zxv n x v1)
def y3h (n:Nat) (x:ByteArray):Pt P_ Ty_ [] Bool:=.join (S:=Bool) (zxt x) (.ite (x==(⟨#[]⟩:ByteArray)) (.leaf (.inl true)) (.leaf (.inl (decide ((x.size:Int) > (64:Int)))))) fun s1=>.ite s1 (.leaf false) (.loopR (V:=Unit) (zxs n x) () (0:Int) (fun (v1:Unit) (y1:Int)=>.leaf true) fun (v1:Unit) (z1:Unit)=>.leaf false)
def k63 (n:Nat):Con P_ Ty_:=zq (X:=ByteArray) (R:=Bool) (pro:=[]) (y3f n) 83 y3g (fun x=>.two .no (.two (.join Bool (zxt x) ⟨[(0,.any),(11,.any)],[]⟩ .no .no) (.two (.two .no (.two (.loop Unit (zxs n x) true ⟨[(0,.any),(3,.any)],[]⟩) .no)) .no))) [.any] [] [] ⟨[(2,.any)],[]⟩ [] true (fun x=>[.sc (.string x)]) (fun x=>[]) (fun y=>([(2,B_ y)],[])) (fun y=>B_ y) (fun y=>[]) (y3h n)
def ybi (n:Nat):Cx P_ Ty_:=⟨[k63 n],[],[],[]⟩
abbrev ybj:List (List Nat):=[[1],[2]]
def y31 (n:Nat) (x:Xa):Pt P_ Ty_ [] Bool:=.call (k63 n) x.Name_ fun (y1:Bool)=>.ite y1 (.ite (x.Kind_==1) (.ite (decide (x.Len_≥(1:Int))) (.leaf (decide (x.Len_≤(4096:Int)))) (.leaf false)) (.ite (x.Kind_==2) (.ite (decide (x.Len_≥(1:Int))) (.leaf (decide (x.Len_≤(4096:Int)))) (.leaf false)) (.leaf false))) (.leaf false)
def k55 (n:Nat):Con P_ Ty_:=zq (X:=Xa) (R:=Bool) (pro:=[]) (ybi n) 64 ybj (fun x=>.no) [.ag [.any,.any,.any]] [] [] ⟨[(2,.any)],[]⟩ [] true (fun x=>[.ag [.sc (.string x.Name_),I_ x.Kind_,I_ x.Len_]]) (fun x=>[]) (fun y=>([(2,B_ y)],[])) (fun y=>B_ y) (fun y=>[]) (y31 n)
def y32 (n:Nat):Cx P_ Ty_:=⟨[],[],[],[]⟩
abbrev y33:List (List Nat):=[[0,1],[0,1,6],[0,1,6,10],[0,1,6,19],[4,5],[0,1,6],[4,5]]
def zx9 (n:Nat) (x:Ybk) (v1:Unit) (q1:Int):Pt P_ Ty_ [] (Bo Int Int Int):=.ite (decide (q1<(x.1.length:Int))) (.bnd (idx x.1 q1) fun y1=>.ite (y1.Name_==x.2) (.leaf (.ret q1)) (.leaf (.go (IntKind.i64.wrap (q1+(1:Int)))))) (.leaf (.out q1))
def zx8 (n:Nat) (x:Ybk) (v1:Unit):LCon P_ Ty_ []:=lcon (X:=Int) (Y:=Int) (Z:=Int) (y32 n) (subC [1,0,1,0,0] (fnC P_ 65 y33)) (fun q1=>.no) 0 true ⟨[(0,.im 1),(1,.any),(6,.any)],[]⟩ ⟨[(0,.im 1),(1,.any),(6,.any),(10,.any)],[]⟩ ⟨[(4,.any),(5,.any)],[]⟩ (fun q1=>([(0,.im 1 x.1),(1,.sc (.string x.2)),(6,I_ q1)],[])) (fun p=>([(0,.im 1 x.1),(1,.sc (.string x.2)),(6,I_ p),(10,B_ false)],[])) (fun p=>([(4,I_ p),(5,B_ true)],[])) n (zx9 n x v1)
def y34 (n:Nat) (x:Ybk):Pt P_ Ty_ [] (Yaj):=.loopR (V:=Unit) (zx8 n x) () (0:Int) (fun (v1:Unit) (y2:Int)=>.leaf ((0:Int),false)) fun (v1:Unit) (z1:Int)=>.leaf (z1,true)
def k56 (n:Nat):Con P_ Ty_:=zq (X:=Ybk) (R:=Yaj) (pro:=[]) (y32 n) 65 y33 (fun x=>.two .no (.two (.two .no (.two (.loop Unit (zx8 n x) true ⟨[(0,.im 1),(1,.any),(6,.any)],[]⟩) .no)) .no)) [.im 1,.any] [] [] ⟨[(4,.any),(5,.any)],[]⟩ [] true (fun x=>[.im 1 x.1,.sc (.string x.2)]) (fun x=>[]) (fun y=>([(4,I_ y.1),(5,B_ y.2)],[])) (fun y=>.tu [I_ y.1,B_ y.2]) (fun y=>[]) (y34 n)
def ybs (n:Nat):Cx P_ Ty_:=⟨[k55 n],[],[],[]⟩
abbrev ybt:List (List Nat):=[[1],[1,3],[2],[1,7],[2],[2]]
def y3i (n:Nat) (x:Xa):Pt P_ Ty_ [] Int:=.call (k55 n) x fun (y1:Bool)=>.ite (!y1) (.leaf (0:Int)) (.ite (x.Kind_==2) (.leaf (IntKind.i64.wrap ((2:Int) * x.Len_))) (.leaf x.Len_))
def k64 (n:Nat):Con P_ Ty_:=zq (X:=Xa) (R:=Int) (pro:=[]) (ybs n) 84 ybt (fun x=>.no) [.ag [.any,.any,.any]] [] [] ⟨[(2,.any)],[]⟩ [] true (fun x=>[.ag [.sc (.string x.Name_),I_ x.Kind_,I_ x.Len_]]) (fun x=>[]) (fun y=>([(2,I_ y)],[])) (fun y=>I_ y) (fun y=>[]) (y3i n)
def y35 (n:Nat):Cx P_ Ty_:=⟨[k64 n],[],[],[]⟩
abbrev y36:List (List Nat):=[[0],[0,3],[0,3,4],[0,3,4,8],[0,3,4],[0,3,4],[2]]
def zxb (n:Nat) (x:(List Xa)) (v1:Unit) (q1:Yaa):Pt P_ Ty_ [] (Bo (Yaa) (Yaa) Empty):=.ite (decide (q1.2<(x.length:Int))) (.bnd (idx x q1.2) fun y1=>.call (k64 n) y1 fun (y2:Int)=>.leaf (.go ((IntKind.i64.wrap (q1.1+y2)),(IntKind.i64.wrap (q1.2+(1:Int)))))) (.leaf (.out (q1.1,q1.2)))
def zxa (n:Nat) (x:(List Xa)) (v1:Unit):LCon P_ Ty_ []:=lcon (X:=Yaa) (Y:=Yaa) (Z:=Empty) (y35 n) (subC [1,1,0,1,0,0] (fnC P_ 66 y36)) (fun q1=>.no) 0 false ⟨[(0,.im 1),(3,.any),(4,.any)],[]⟩ ⟨[(0,.im 1),(3,.any),(4,.any),(8,.any)],[]⟩ ⟨[],[]⟩ (fun q1=>([(0,.im 1 x),(3,I_ q1.1),(4,I_ q1.2)],[])) (fun p=>([(0,.im 1 x),(3,I_ p.1),(4,I_ p.2),(8,B_ false)],[])) (fun p=>nomatch p) n (zxb n x v1)
def y37 (n:Nat) (x:(List Xa)):Pt P_ Ty_ [] Int:=.loop (V:=Unit) (zxa n x) () ((0:Int),(0:Int)) fun (v1:Unit) (y3:Yaa)=>.leaf y3.1
def k57 (n:Nat):Con P_ Ty_:=zq (X:=(List Xa)) (R:=Int) (pro:=[]) (y35 n) 66 y36 (fun x=>.two .no (.two .no (.two (.two .no (.two (.loop Unit (zxa n x) false ⟨[(0,.im 1),(3,.any),(4,.any)],[]⟩) .no)) .no))) [.im 1] [] [] ⟨[(2,.any)],[]⟩ [] true (fun x=>[.im 1 x]) (fun x=>[]) (fun y=>([(2,I_ y)],[])) (fun y=>I_ y) (fun y=>[]) (y37 n)
def zsg (n:Nat):Cx P_ Ty_:=⟨[k55 n,k56 n,k57 n],[],[],[]⟩
abbrev zsh:List (List Nat):=[[0],[0,9],[2],[0,3],[0,3,13],[0,3,21],[2],[0,3],[0,4],[0,4,25],[0,4,5],[0,4,40],[2],[0,4],[43],[2],[2]]
def zwu (n:Nat) (x:(List Xa)) (v1:Unit) (q1:Int):Pt P_ Ty_ [] (Bo Int Int Unit):=.ite (decide (q1<(x.length:Int))) (.bnd (idx x q1) fun y1=>.call (k55 n) y1 fun (y2:Bool)=>.ite (!y2) (.leaf (.ret ())) (.leaf (.go (IntKind.i64.wrap (q1+(1:Int)))))) (.leaf (.out q1))
def zws (n:Nat) (x:(List Xa)) (v1:Unit):LCon P_ Ty_ []:=lcon (X:=Int) (Y:=Int) (Z:=Unit) (zsg n) (subC [1,1,0,1,0,0] (fnC P_ 35 zsh)) (fun q1=>.no) 0 true ⟨[(0,.im 1),(3,.any)],[]⟩ ⟨[(0,.im 1),(3,.any),(13,.any)],[]⟩ ⟨[(2,.any)],[]⟩ (fun q1=>([(0,.im 1 x),(3,I_ q1)],[])) (fun p=>([(0,.im 1 x),(3,I_ p),(13,B_ false)],[])) (fun p=>([(2,I_ (100:Int))],[])) n (zwu n x v1)
def zwv (n:Nat) (x:(List Xa)) (v2:Unit) (q2:Int):Pt P_ Ty_ [] (Bo Int Int Unit):=.ite (decide (q2<(x.length:Int))) (.bnd (idx x q2) fun y4=>.call (k56 n) (x,y4.Name_) fun (y5:Yaj)=>.ite (y5.1 != q2) (.leaf (.ret ())) (.leaf (.go (IntKind.i64.wrap (q2+(1:Int)))))) (.leaf (.out q2))
def zwt (n:Nat) (x:(List Xa)) (v2:Unit):LCon P_ Ty_ []:=lcon (X:=Int) (Y:=Int) (Z:=Unit) (zsg n) (subC [1,1,1,0,1,0,0] (fnC P_ 35 zsh)) (fun q2=>.no) 2 true ⟨[(0,.im 1),(4,.any)],[]⟩ ⟨[(0,.im 1),(4,.any),(25,.any)],[]⟩ ⟨[(2,.any)],[]⟩ (fun q2=>([(0,.im 1 x),(4,I_ q2)],[])) (fun p=>([(0,.im 1 x),(4,I_ p),(25,B_ false)],[])) (fun p=>([(2,I_ (101:Int))],[])) n (zwv n x v2)
def y2h (n:Nat) (x:(List Xa)):Pt P_ Ty_ [] Int:=.ite (decide ((x.length:Int) > (64:Int))) (.leaf (2:Int)) (.loopR (V:=Unit) (zws n x) () (0:Int) (fun (v1:Unit) (y3:Int)=>.loopR (V:=Unit) (zwt n x) () (0:Int) (fun (v2:Unit) (y6:Int)=>.call (k57 n) x fun (y7:Int)=>.ite (decide (y7 > (65536:Int))) (.leaf (102:Int)) (.leaf (0:Int))) fun (v2:Unit) (z2:Unit)=>.leaf (101:Int)) fun (v1:Unit) (z1:Unit)=>.leaf (100:Int))
def k38 (n:Nat):Con P_ Ty_:=zq (X:=(List Xa)) (R:=Int) (pro:=[]) (zsg n) 35 zsh (fun x=>.two .no (.two .no (.two (.two .no (.two (.loop Unit (zws n x) true ⟨[(0,.im 1),(3,.any)],[]⟩) .no)) (.two (.two .no (.two (.loop Unit (zwt n x) true ⟨[(0,.im 1),(4,.any)],[]⟩) .no)) .no)))) [.im 1] [] [] ⟨[(2,.any)],[]⟩ [] true (fun x=>[.im 1 x]) (fun x=>[]) (fun y=>([(2,I_ y)],[])) (fun y=>I_ y) (fun y=>[]) (y2h n)
def yb4 (n:Nat):Cx P_ Ty_:=⟨[],[],[],[]⟩
abbrev yb5:List (List Nat):=[[1,2],[1,2,7],[4],[4]]
def y2i (n:Nat) (x:Ych):Pt P_ Ty_ [] Bool:=.ite (x.1.Kind_==3) (.ite (decide (x.1.Param_≥(0:Int))) (.leaf (decide (x.1.Param_<(x.2.length:Int)))) (.leaf false)) (.ite (x.1.Kind_==1) (.leaf (x.1.Param_==0)) (.ite (x.1.Kind_==2) (.leaf (x.1.Param_==0)) (.leaf false)))
def k39 (n:Nat):Con P_ Ty_:=zq (X:=Ych) (R:=Bool) (pro:=[]) (yb4 n) 36 yb5 (fun x=>.no) [.ag [.any,.any],.im 1] [] [] ⟨[(4,.any)],[]⟩ [] true (fun x=>[.ag [I_ x.1.Kind_,I_ x.1.Param_],.im 1 x.2]) (fun x=>[]) (fun y=>([(4,B_ y)],[])) (fun y=>B_ y) (fun y=>[]) (y2i n)
def yc2 (n:Nat):Cx P_ Ty_:=⟨[],[],[],[]⟩
abbrev yc3:List (List Nat):=[[0,2],[2,3],[2,3,4],[2,3,4,5],[2,4,5,6],[2,4,5,6,25],[2,4,6],[2,4],[2,4,5,6,34],[2,4],[2,4],[2,4,5],[2,4],[2]]
def zxw (x:Int) (p:Ycv):EH Ty_:=([(2,.pt 2 [] 0 0),(4,.pt 4 [] 0 0)],[(2,.lit 5 [[B_ false,.sc (.int .u64 (0:Int)),I_ (0:Int),B_ false,B_ false]]),(4,.lit 5 [[B_ (((IntKind.u64.wrap x).fdiv (2 ^ min (31:Int).toNat IntKind.u64.bits))==1),.sc (.int .u64 p.1),I_ p.2.1,B_ p.2.2.1,B_ p.2.2.2]])])
def y3n (n:Nat) (x:Int):Pt P_ Ty_ [] (Yci):=.join (S:=Ycv) (zxw x) (.ite ((IntKind.i64.wrap (IntKind.u64.wrap (BitVec.ofInt IntKind.u64.bits ((IntKind.u64.wrap x).fdiv (2 ^ min (23:Int).toNat IntKind.u64.bits)) &&& BitVec.ofInt IntKind.u64.bits (255:Int)).toNat))==255) (.leaf (.inl ((0:Int),(0:Int),((IntKind.u64.wrap (BitVec.ofInt IntKind.u64.bits (IntKind.u64.wrap x) &&& BitVec.ofInt IntKind.u64.bits (8388607:Int)).toNat)==0),((IntKind.u64.wrap (BitVec.ofInt IntKind.u64.bits (IntKind.u64.wrap x) &&& BitVec.ofInt IntKind.u64.bits (8388607:Int)).toNat) != (0:Int))))) (.ite ((IntKind.i64.wrap (IntKind.u64.wrap (BitVec.ofInt IntKind.u64.bits ((IntKind.u64.wrap x).fdiv (2 ^ min (23:Int).toNat IntKind.u64.bits)) &&& BitVec.ofInt IntKind.u64.bits (255:Int)).toNat))==0) (.leaf (.inl ((IntKind.u64.wrap (BitVec.ofInt IntKind.u64.bits (IntKind.u64.wrap x) &&& BitVec.ofInt IntKind.u64.bits (8388607:Int)).toNat),(-149:Int),false,false))) (.leaf (.inl ((IntKind.u64.wrap ((8388608:Int)+(IntKind.u64.wrap (BitVec.ofInt IntKind.u64.bits (IntKind.u64.wrap x) &&& BitVec.ofInt IntKind.u64.bits (8388607:Int)).toNat))),(IntKind.i64.wrap ((IntKind.i64.wrap (IntKind.u64.wrap (BitVec.ofInt IntKind.u64.bits ((IntKind.u64.wrap x).fdiv (2 ^ min (23:Int).toNat IntKind.u64.bits)) &&& BitVec.ofInt IntKind.u64.bits (255:Int)).toNat)) - (150:Int))),false,false))))) fun s1=>.leaf ((((IntKind.u64.wrap x).fdiv (2 ^ min (31:Int).toNat IntKind.u64.bits))==1),s1.1,s1.2.1,s1.2.2.1,s1.2.2.2)
def k69 (n:Nat):Con P_ Ty_:=zq (X:=Int) (R:=Yci) (pro:=[]) (yc2 n) 91 yc3 (fun x=>.two .no (.two .no (.two .no (.two .no (.two .no (.join (Ycv) (zxw x) ⟨[(2,.ref 2),(4,.ref 4)],[(2,.any),(4,.any)]⟩ .no .no)))))) [.any] [] [] ⟨[(2,.ref 100000)],[(100000,.any)]⟩ [] true (fun x=>[I_ x]) (fun x=>[]) (fun y=>([(2,.pt 100000 [] 0 0)],[(100000,.lit 5 [[B_ y.1,.sc (.int .u64 y.2.1),I_ y.2.2.1,B_ y.2.2.2.1,B_ y.2.2.2.2]])])) (fun y=>.ag [B_ y.1,.sc (.int .u64 y.2.1),I_ y.2.2.1,B_ y.2.2.2.1,B_ y.2.2.2.2]) (fun y=>[]) (y3n n)
def ybu (n:Nat):Cx P_ Ty_:=⟨[k69 n],[],[],[]⟩
abbrev ybv:List (List Nat):=[[0],[0,5],[2],[2]]
def y3j (n:Nat) (x:Int):Pt P_ Ty_ [] Int:=.call (k69 n) x fun (y1:Yci)=>.ite y1.2.2.2.2 (.leaf (2143289344:Int)) (.leaf x)
def k65 (n:Nat):Con P_ Ty_:=zq (X:=Int) (R:=Int) (pro:=[]) (ybu n) 85 ybv (fun x=>.no) [.any] [] [] ⟨[(2,.any)],[]⟩ [] true (fun x=>[I_ x]) (fun x=>[]) (fun y=>([(2,I_ y)],[])) (fun y=>I_ y) (fun y=>[]) (y3j n)
def ybk (n:Nat):Cx P_ Ty_:=⟨[k65 n],[],[],[]⟩
abbrev ybl:List (List Nat):=[[0],[2]]
def y38 (n:Nat) (x:Int):Pt P_ Ty_ [] Bool:=.call (k65 n) (IntKind.i64.wrap x) fun (y1:Int)=>.leaf (y1==(IntKind.i64.wrap x))
def k58 (n:Nat):Con P_ Ty_:=zq (X:=Int) (R:=Bool) (pro:=[]) (ybk n) 67 ybl (fun x=>.no) [.any] [] [] ⟨[(2,.any)],[]⟩ [] true (fun x=>[.sc (.int .u32 x)]) (fun x=>[]) (fun y=>([(2,B_ y)],[])) (fun y=>B_ y) (fun y=>[]) (y38 n)
def yb6 (n:Nat):Cx P_ Ty_:=⟨[k39 n,k58 n],[],[],[]⟩
abbrev yb7:List (List Nat):=[[1,2],[2,9],[4],[2,13],[4],[4]]
def y2j (n:Nat) (x:Ycj):Pt P_ Ty_ [] Bool:=.call (k39 n) (x.1.Type_,x.2) fun (y1:Bool)=>.ite (!y1) (.leaf false) (.ite (x.1.Type_.Kind_==2) (.ite (x.1.Bits_==0) (.ite (decide (x.1.Int_≥(0:Int))) (.leaf (decide (x.1.Int_≤(2147483647:Int)))) (.leaf false)) (.leaf false)) (.ite (x.1.Int_==0) (.call (k58 n) x.1.Bits_ fun (y2:Bool)=>.leaf y2) (.leaf false)))
def k40 (n:Nat):Con P_ Ty_:=zq (X:=Ycj) (R:=Bool) (pro:=[]) (yb6 n) 37 yb7 (fun x=>.no) [.ag [.any,.any,.any,.any,.any],.im 1] [] [] ⟨[(4,.any)],[]⟩ [] true (fun x=>[.ag [I_ x.1.Type_.Kind_,I_ x.1.Type_.Param_,B_ x.1.Keep_,.sc (.int .u32 x.1.Bits_),I_ x.1.Int_],.im 1 x.2]) (fun x=>[]) (fun y=>([(4,B_ y)],[])) (fun y=>B_ y) (fun y=>[]) (y2j n)
def yaq (n:Nat):Cx P_ Ty_:=⟨[],[],[],[]⟩
abbrev yar:List (List Nat):=[[0],[4],[4,5],[2,3],[4,7],[2,3],[4,9],[2,3],[4,11],[4,11],[4,11],[4,11],[4,11],[4,11],[4,11],[2,3],[4,19],[4,19],[4,19],[4,19],[2,3],[4,24],[2,3],[4,26],[2,3],[4,28],[2,3],[4,30],[2,3],[4,32],[4,32],[2,3],[4,35],[4,35],[2,3],[4,38],[4,38],[4,38],[4,38],[4,38],[2,3],[4,44],[2,3],[4,46],[4,46],[2,3],[4,49],[2,3],[4,51],[2,3],[4,53],[2,3],[4,55],[2,3],[4,57],[4,57],[2,3],[60],[2,3],[2,3]]
def zw2 (x:Int) (p:Bool):EH Ty_:=([(4,I_ x),(11,B_ p)],[])
def zw3 (x:Int) (p:Bool):EH Ty_:=([(4,I_ x),(19,B_ p)],[])
def zw4 (x:Int) (p:Bool):EH Ty_:=([(4,I_ x),(32,B_ p)],[])
def zw5 (x:Int) (p:Bool):EH Ty_:=([(4,I_ x),(35,B_ p)],[])
def zw6 (x:Int) (p:Bool):EH Ty_:=([(4,I_ x),(38,B_ p)],[])
def zw7 (x:Int) (p:Bool):EH Ty_:=([(4,I_ x),(46,B_ p)],[])
def zw8 (x:Int) (p:Bool):EH Ty_:=([(4,I_ x),(57,B_ p)],[])
def y1r (n:Nat) (x:Int):Pt P_ Ty_ [] (Yao):=.ite (x==1) (.leaf ((⟨#[110,45,45,45,45]⟩:ByteArray),true)) (.ite (x==2) (.leaf ((⟨#[119,45,45,45,105]⟩:ByteArray),true)) (.ite (x==3) (.leaf ((⟨#[97,99,45,45,45]⟩:ByteArray),true)) (.join (S:=Bool) (zw2 x) (.ite (x==4) (.leaf (.inl true)) (.ite (x==5) (.leaf (.inl true)) (.ite (x==6) (.leaf (.inl true)) (.ite (x==7) (.leaf (.inl true)) (.ite (x==8) (.leaf (.inl true)) (.ite (x==9) (.leaf (.inl true)) (.leaf (.inl (x==10))))))))) fun s1=>.ite s1 (.leaf ((⟨#[100,120,120,45,45]⟩:ByteArray),true)) (.join (S:=Bool) (zw3 x) (.ite (x==11) (.leaf (.inl true)) (.ite (x==12) (.leaf (.inl true)) (.ite (x==13) (.leaf (.inl true)) (.leaf (.inl (x==14)))))) fun s2=>.ite s2 (.leaf ((⟨#[100,120,45,45,45]⟩:ByteArray),true)) (.ite (x==15) (.leaf ((⟨#[100,120,120,120,45]⟩:ByteArray),true)) (.ite (x==16) (.leaf ((⟨#[110,110,119,45,45]⟩:ByteArray),true)) (.ite (x==17) (.leaf ((⟨#[110,119,45,45,45]⟩:ByteArray),true)) (.ite (x==18) (.leaf ((⟨#[119,110,45,45,45]⟩:ByteArray),true)) (.join (S:=Bool) (zw4 x) (.ite (x==19) (.leaf (.inl true)) (.leaf (.inl (x==20)))) fun s3=>.ite s3 (.leaf ((⟨#[110,118,45,45,45]⟩:ByteArray),true)) (.join (S:=Bool) (zw5 x) (.ite (x==21) (.leaf (.inl true)) (.leaf (.inl (x==25)))) fun s4=>.ite s4 (.leaf ((⟨#[119,119,45,45,45]⟩:ByteArray),true)) (.join (S:=Bool) (zw6 x) (.ite (x==22) (.leaf (.inl true)) (.ite (x==23) (.leaf (.inl true)) (.ite (x==24) (.leaf (.inl true)) (.ite (x==27) (.leaf (.inl true)) (.leaf (.inl (x==28))))))) fun s5=>.ite s5 (.leaf ((⟨#[119,119,119,45,45]⟩:ByteArray),true)) (.ite (x==26) (.leaf ((⟨#[119,119,119,119,45]⟩:ByteArray),true)) (.join (S:=Bool) (zw7 x) (.ite (x==29) (.leaf (.inl true)) (.leaf (.inl (x==30)))) fun s6=>.ite s6 (.leaf ((⟨#[118,45,45,45,112]⟩:ByteArray),true)) (.ite (x==31) (.leaf ((⟨#[45,118,45,45,112]⟩:ByteArray),true)) (.ite (x==32) (.leaf ((⟨#[97,45,45,45,115]⟩:ByteArray),true)) (.ite (x==33) (.leaf ((⟨#[45,97,45,45,115]⟩:ByteArray),true)) (.ite (x==34) (.leaf ((⟨#[45,119,45,45,45]⟩:ByteArray),true)) (.join (S:=Bool) (zw8 x) (.ite (x==35) (.leaf (.inl true)) (.leaf (.inl (x==37)))) fun s7=>.ite s7 (.leaf ((⟨#[45,45,45,45,45]⟩:ByteArray),true)) (.ite (x==36) (.leaf ((⟨#[45,45,45,45,113]⟩:ByteArray),true)) (.leaf ((⟨#[]⟩:ByteArray),false)))))))))))))))))))))
def k27 (n:Nat):Con P_ Ty_:=zq (X:=Int) (R:=Yao) (pro:=[]) (yaq n) 54 yar (fun x=>.two .no (.two (.two .no (.two (.two .no (.two .no (.two .no (.two .no (.two .no (.two .no (.join Bool (zw2 x) ⟨[(4,.any),(11,.any)],[]⟩ .no (.two .no (.join Bool (zw3 x) ⟨[(4,.any),(19,.any)],[]⟩ .no (.two .no (.two .no (.two .no (.two .no (.two .no (.two .no (.two .no (.two .no (.two .no (.join Bool (zw4 x) ⟨[(4,.any),(32,.any)],[]⟩ .no (.two .no (.join Bool (zw5 x) ⟨[(4,.any),(35,.any)],[]⟩ .no (.two .no (.join Bool (zw6 x) ⟨[(4,.any),(38,.any)],[]⟩ .no (.two .no (.two .no (.two .no (.join Bool (zw7 x) ⟨[(4,.any),(46,.any)],[]⟩ .no (.two .no (.two .no (.two .no (.two .no (.two .no (.two .no (.two .no (.two .no (.two .no (.join Bool (zw8 x) ⟨[(4,.any),(57,.any)],[]⟩ .no .no))))))))))))))))))))))))))))))))))))) .no)) .no)) [.any] [] [] ⟨[(2,.any),(3,.any)],[]⟩ [] true (fun x=>[I_ x]) (fun x=>[]) (fun y=>([(2,.sc (.string y.1)),(3,B_ y.2)],[])) (fun y=>.tu [.sc (.string y.1),B_ y.2]) (fun y=>[]) (y1r n)
def yc4 (n:Nat):Cx P_ Ty_:=⟨[],[],[],[]⟩
abbrev yc5:List (List Nat):=[[1,2,4],[1,2,4,14],[4,5],[4,5]]
def zxx (x:Xe×Int) (p:Bool):EH Ty_:=([(1,I_ x.2),(2,.pt 2 [] 0 0),(4,.pt 4 [] 0 0),(14,B_ p)],[(2,.lit 4 [[.im 1 x.1.Sign_,.im 2 x.1.Regs_,.im 3 x.1.Slots_,.im 4 x.1.List_]]),(4,.lit 2 [[I_ (0:Int),I_ (0:Int)]])])
def y3o (n:Nat) (x:Xe×Int):Pt P_ Ty_ [] (Yck):=.join (S:=Bool) (zxx x) (.ite (decide (x.2<(0:Int))) (.leaf (.inl true)) (.leaf (.inl (decide (x.2≥(x.1.Regs_.length:Int)))))) fun s1=>.ite s1 (.leaf (false,(0:Int),(0:Int))) (.bnd (idx x.1.Regs_ x.2) fun y1=>.leaf (true,y1.Kind_,y1.Param_))
def k70 (n:Nat):Con P_ Ty_:=zq (X:=Xe×Int) (R:=Yck) (pro:=[]) (yc4 n) 92 yc5 (fun x=>.two .no (.two (.join Bool (zxx x) ⟨[(1,.any),(2,.ref 2),(4,.ref 4),(14,.any)],[(2,.any),(4,.any)]⟩ .no .no) .no)) [.ag [.im 1,.im 2,.im 3,.im 4],.any] [] [] ⟨[(4,.ref 100000),(5,.any)],[(100000,.any)]⟩ [] true (fun x=>[.ag [.im 1 x.1.Sign_,.im 2 x.1.Regs_,.im 3 x.1.Slots_,.im 4 x.1.List_],I_ x.2]) (fun x=>[]) (fun y=>([(4,.pt 100000 [] 0 0),(5,B_ y.1)],[(100000,.lit 2 [[I_ y.2.1,I_ y.2.2]])])) (fun y=>.tu [.ag [I_ y.2.1,I_ y.2.2],B_ y.1]) (fun y=>[]) (y3o n)
def ybw (n:Nat):Cx P_ Ty_:=⟨[k70 n],[],[],[]⟩
abbrev ybx:List (List Nat):=[[1,2,4,7],[1,2,4,7,14],[8],[1,7,9,10],[1,7,9,24],[8],[1,7,9,11],[1,7,9,11,12],[7,9,11,12,31],[7,9,11,12,31,32],[8],[7,9,11,12,31,35],[8],[7,9,11,12,31,40],[8],[7,9,11,12,31,43],[8],[7,9,11,31,49],[8],[7,9,11,57],[8],[8]]
def y3k (n:Nat) (x:Ycl):Pt P_ Ty_ [] Bool:=.ite (x.2.1==45) (.leaf (x.2.2.1==0)) (.call (k70 n) (x.1,x.2.2.1) fun (y1:Yck)=>.ite (!y1.1) (.leaf false) (.ite (x.2.1==110) (.leaf (y1.2.1==1)) (.ite (x.2.1==119) (.leaf (y1.2.1==2)) (.ite (x.2.1==118) (.leaf (y1.2.1==3)) (.ite (x.2.1==100) (.ite (y1.2.1==1) (.leaf true) (.leaf (y1.2.1==3))) (.ite (x.2.1==120) (.ite (y1.2.1==1) (.leaf true) (.leaf (y1.2.1==x.2.2.2.Kind_ && (y1.2.2==x.2.2.2.Param_ && true)))) (.ite (x.2.1==99) (.ite (y1.2.1==x.2.2.2.Kind_ && (y1.2.2==x.2.2.2.Param_ && true)) (.leaf true) (.ite (y1.2.1==1) (.leaf (x.2.2.2.Kind_==3)) (.leaf false))) (.leaf true))))))))
def k66 (n:Nat):Con P_ Ty_:=zq (X:=Ycl) (R:=Bool) (pro:=[]) (ybw n) 86 ybx (fun x=>.no) [.ag [.im 1,.im 2,.im 3,.im 4],.any,.any,.ag [.any,.any]] [] [] ⟨[(8,.any)],[]⟩ [] true (fun x=>[.ag [.im 1 x.1.Sign_,.im 2 x.1.Regs_,.im 3 x.1.Slots_,.im 4 x.1.List_],.sc (.int .u8 x.2.1),I_ x.2.2.1,.ag [I_ x.2.2.2.Kind_,I_ x.2.2.2.Param_]]) (fun x=>[]) (fun y=>([(8,B_ y)],[])) (fun y=>B_ y) (fun y=>[]) (y3k n)
def yby (n:Nat):Cx P_ Ty_:=⟨[],[],[],[]⟩
abbrev ybz:List (List Nat):=[[1,2,3],[6]]
def y3l (n:Nat) (x:Ycm):Pt P_ Ty_ [] Bool:=.ite (x.2.1==0) (.leaf true) (.ite (x.2.1==1) (.bnd (idx x.1.Sign_ x.2.2) fun y1=>.leaf (y1.Kind_==2)) (.leaf false))
def k67 (n:Nat):Con P_ Ty_:=zq (X:=Ycm) (R:=Bool) (pro:=[]) (yby n) 87 ybz (fun x=>.no) [.ag [.im 1,.im 2,.im 3,.im 4],.any,.any] [] [] ⟨[(6,.any)],[]⟩ [] true (fun x=>[.ag [.im 1 x.1.Sign_,.im 2 x.1.Regs_,.im 3 x.1.Slots_,.im 4 x.1.List_],I_ x.2.1,I_ x.2.2]) (fun x=>[]) (fun y=>([(6,B_ y)],[])) (fun y=>B_ y) (fun y=>[]) (y3l n)
def ybm (n:Nat):Cx P_ Ty_:=⟨[k27 n,k58 n,k66 n,k67 n],[],[],[]⟩
abbrev ybn:List (List Nat):=[[2,3],[2,3,5,6],[2,3,5,32],[4],[2,3,5,7],[2,3,5,7,36],[2,3,5,7,44],[4],[2,3,5,7],[2,3,5,7,53],[4],[2,3,5,7,81],[4],[2,3,5,8],[2,3,5,8,90],[2,3,5,8],[2,3,8,98],[2,3,8,98,99],[4],[2,3,8,98,109],[4],[2,3,8,98,117],[4],[2,3,141],[4],[4]]
def zxc (x:Yan) (p:Yao):EH Ty_:=([(2,.pt 2 [] 0 0),(3,.pt 3 [] 0 0),(5,.sc (.string p.1)),(32,B_ p.2)],[(2,.lit 4 [[.im 1 x.1.Sign_,.im 2 x.1.Regs_,.im 3 x.1.Slots_,.im 4 x.1.List_]]),(3,.lit 7 [[I_ x.2.Op_,I_ x.2.D_,I_ x.2.A_,I_ x.2.B_,I_ x.2.C_,I_ x.2.N_,.sc (.int .u32 x.2.Bits_)]])])
def zxd (x:Yan) (p:Yad):EH Ty_:=([(2,.pt 2 [] 0 0),(3,.pt 3 [] 0 0),(5,.sc (.string p.1)),(7,.pt 7 [] 0 0)],[(2,.lit 4 [[.im 1 x.1.Sign_,.im 2 x.1.Regs_,.im 3 x.1.Slots_,.im 4 x.1.List_]]),(3,.lit 7 [[I_ x.2.Op_,I_ x.2.D_,I_ x.2.A_,I_ x.2.B_,I_ x.2.C_,I_ x.2.N_,.sc (.int .u32 x.2.Bits_)]]),(7,.lit 2 [[I_ p.2.1,I_ p.2.2]])])
def zxe (x:Yan) (p:Ybu):EH Ty_:=([(2,.pt 2 [] 0 0),(3,.pt 3 [] 0 0),(5,.sc (.string p.1)),(7,.pt 7 [] 0 0),(81,B_ p.2.1)],[(2,.lit 4 [[.im 1 x.1.Sign_,.im 2 x.1.Regs_,.im 3 x.1.Slots_,.im 4 x.1.List_]]),(3,.lit 7 [[I_ x.2.Op_,I_ x.2.D_,I_ x.2.A_,I_ x.2.B_,I_ x.2.C_,I_ x.2.N_,.sc (.int .u32 x.2.Bits_)]]),(7,.lit 2 [[I_ p.2.2.1,I_ p.2.2.2]])])
def zxf (x:Yan) (p:Ybu):EH Ty_:=([(2,.pt 2 [] 0 0),(3,.pt 3 [] 0 0),(5,.sc (.string p.1)),(8,.pt 8 [] 0 0),(90,B_ p.2.1)],[(2,.lit 4 [[.im 1 x.1.Sign_,.im 2 x.1.Regs_,.im 3 x.1.Slots_,.im 4 x.1.List_]]),(3,.lit 7 [[I_ x.2.Op_,I_ x.2.D_,I_ x.2.A_,I_ x.2.B_,I_ x.2.C_,I_ x.2.N_,.sc (.int .u32 x.2.Bits_)]]),(8,.lit 2 [[I_ p.2.2.1,I_ p.2.2.2]])])
def zxg (x:Yan) (p:Yad):EH Ty_:=([(2,.pt 2 [] 0 0),(3,.pt 3 [] 0 0),(5,.sc (.string p.1)),(8,.pt 8 [] 0 0)],[(2,.lit 4 [[.im 1 x.1.Sign_,.im 2 x.1.Regs_,.im 3 x.1.Slots_,.im 4 x.1.List_]]),(3,.lit 7 [[I_ x.2.Op_,I_ x.2.D_,I_ x.2.A_,I_ x.2.B_,I_ x.2.C_,I_ x.2.N_,.sc (.int .u32 x.2.Bits_)]]),(8,.lit 2 [[I_ p.2.1,I_ p.2.2]])])
def y39 (n:Nat) (x:Yan):Pt P_ Ty_ [] Bool:=.call (k27 n) x.2.Op_ fun (y1:Yao)=>.join (S:=Yao) (zxc x) (.ite (!y1.2) (.leaf (.inl (y1.1,true))) (.ite (x.2.Op_ != (1:Int)) (.ite (x.2.Bits_ != (0:Int)) (.leaf (.inl (y1.1,true))) (.call (k58 n) x.2.Bits_ fun (y2:Bool)=>.leaf (.inl (y1.1,(!y2))))) (.call (k58 n) x.2.Bits_ fun (y3:Bool)=>.leaf (.inl (y1.1,(!y3)))))) fun s1=>.ite s1.2 (.leaf false) (.join (S:=Yad) (zxd x) (.need (0≤(0:Int)∧(0:Int)<(s1.1.size:Int)) (.ite ((zb s1.1 (0:Int)) != (45:Int)) (.need (0≤(0:Int)∧(0:Int)<(s1.1.size:Int)) (.call (k66 n) (x.1,(zb s1.1 (0:Int)),x.2.D_,(⟨(0:Int),(0:Int)⟩:Xb)) fun (y4:Bool)=>.ite (!y4) (.leaf (.inr false)) (.bnd (idx x.1.Regs_ x.2.D_) fun y5=>.leaf (.inl (s1.1,y5.Kind_,y5.Param_))))) (.ite (x.2.D_ != (0:Int)) (.leaf (.inr false)) (.leaf (.inl (s1.1,(0:Int),(0:Int))))))) fun s2=>.join (S:=Ybu) (zxe x) (.need (0≤(1:Int)∧(1:Int)<(s2.1.size:Int)) (.call (k66 n) (x.1,(zb s2.1 (1:Int)),x.2.A_,(⟨s2.2.1,s2.2.2⟩:Xb)) fun (y6:Bool)=>.ite (!y6) (.leaf (.inl (s2.1,true,s2.2.1,s2.2.2))) (.need (0≤(2:Int)∧(2:Int)<(s2.1.size:Int)) (.call (k66 n) (x.1,(zb s2.1 (2:Int)),x.2.B_,(⟨s2.2.1,s2.2.2⟩:Xb)) fun (y7:Bool)=>.ite (!y7) (.leaf (.inl (s2.1,true,s2.2.1,s2.2.2))) (.need (0≤(3:Int)∧(3:Int)<(s2.1.size:Int)) (.call (k66 n) (x.1,(zb s2.1 (3:Int)),x.2.C_,(⟨s2.2.1,s2.2.2⟩:Xb)) fun (y8:Bool)=>.leaf (.inl (s2.1,(!y8),s2.2.1,s2.2.2)))))))) fun s3=>.ite s3.2.1 (.leaf false) (.join (S:=Yad) (zxg x) (.join (S:=Ybu) (zxf x) (.need (0≤(0:Int)∧(0:Int)<(s3.1.size:Int)) (.ite ((zb s3.1 (0:Int))==45) (.need (0≤(1:Int)∧(1:Int)<(s3.1.size:Int)) (.leaf (.inl (s3.1,((zb s3.1 (1:Int)) != (45:Int)),s3.2.2.1,s3.2.2.2)))) (.leaf (.inl (s3.1,false,s3.2.2.1,s3.2.2.2))))) fun s4=>.ite s4.2.1 (.bnd (idx x.1.Regs_ x.2.A_) fun y9=>.leaf (.inl (s4.1,y9.Kind_,y9.Param_))) (.leaf (.inl (s4.1,s4.2.2.1,s4.2.2.2)))) fun s5=>.need (0≤(4:Int)∧(4:Int)<(s5.1.size:Int)) (.ite ((zb s5.1 (4:Int))==105) (.ite (decide (x.2.N_≥(0:Int))) (.leaf (decide (x.2.N_≤(2147483647:Int)))) (.leaf false)) (.ite ((zb s5.1 (4:Int))==112) (.call (k67 n) (x.1,x.2.N_,s5.2.2) fun (y10:Bool)=>.leaf y10) (.ite ((zb s5.1 (4:Int))==115) (.ite (decide (x.2.N_≥(0:Int))) (.ite (decide (x.2.N_<(x.1.Slots_.length:Int))) (.bnd (idx x.1.Slots_ x.2.N_) fun y11=>.leaf (y11.Type_.Kind_==s5.2.1 && (y11.Type_.Param_==s5.2.2 && true))) (.leaf false)) (.leaf false)) (.ite ((zb s5.1 (4:Int))==113) (.ite (decide (x.2.N_≥(0:Int))) (.leaf (decide (x.2.N_<(x.1.Sign_.length:Int)))) (.leaf false)) (.leaf (x.2.N_==0))))))))
def k59 (n:Nat):Con P_ Ty_:=zq (X:=Yan) (R:=Bool) (pro:=[]) (ybm n) 68 ybn (fun x=>.two .no (.two .no (.two (.join (Yao) (zxc x) ⟨[(2,.ref 2),(3,.ref 3),(5,.any),(32,.any)],[(2,.any),(3,.any)]⟩ .no .no) (.two .no (.join (Yad) (zxd x) ⟨[(2,.ref 2),(3,.ref 3),(5,.any),(7,.ref 7)],[(2,.any),(3,.any),(7,.any)]⟩ .no (.two (.join (Ybu) (zxe x) ⟨[(2,.ref 2),(3,.ref 3),(5,.any),(7,.ref 7),(81,.any)],[(2,.any),(3,.any),(7,.any)]⟩ .no .no) (.two .no (.join (Yad) (zxg x) ⟨[(2,.ref 2),(3,.ref 3),(5,.any),(8,.ref 8)],[(2,.any),(3,.any),(8,.any)]⟩ (.join (Ybu) (zxf x) ⟨[(2,.ref 2),(3,.ref 3),(5,.any),(8,.ref 8),(90,.any)],[(2,.any),(3,.any),(8,.any)]⟩ .no .no) .no)))))))) [.ag [.im 1,.im 2,.im 3,.im 4],.ag [.any,.any,.any,.any,.any,.any,.any]] [] [] ⟨[(4,.any)],[]⟩ [] true (fun x=>[.ag [.im 1 x.1.Sign_,.im 2 x.1.Regs_,.im 3 x.1.Slots_,.im 4 x.1.List_],.ag [I_ x.2.Op_,I_ x.2.D_,I_ x.2.A_,I_ x.2.B_,I_ x.2.C_,I_ x.2.N_,.sc (.int .u32 x.2.Bits_)]]) (fun x=>[]) (fun y=>([(4,B_ y)],[])) (fun y=>B_ y) (fun y=>[]) (y39 n)
def yam (n:Nat):Cx P_ Ty_:=⟨[],[],[],[]⟩
abbrev yan:List (List Nat):=[[0],[2]]
def y1k (n:Nat) (x:Int):Pt P_ Ty_ [] Bool:=.ite (decide (x≥(3:Int))) (.leaf (decide (x≤(15:Int)))) (.leaf false)
def k14 (n:Nat):Con P_ Ty_:=zq (X:=Int) (R:=Bool) (pro:=[]) (yam n) 88 yan (fun x=>.no) [.any] [] [] ⟨[(2,.any)],[]⟩ [] true (fun x=>[I_ x]) (fun x=>[]) (fun y=>([(2,B_ y)],[])) (fun y=>B_ y) (fun y=>[]) (y1k n)
def ybo (n:Nat):Cx P_ Ty_:=⟨[k14 n],[],[],[]⟩
abbrev ybp:List (List Nat):=[[2,3],[2,3,5],[2,3,5,6],[2,3,5,6],[2,3,5,6],[2,3,5,6],[2,5],[2,3,5,21],[2,3,5,21],[2,5],[2,5,47],[4],[4]]
def zxh (x:Yan) (p:Bool):EH Ty_:=([(2,.pt 2 [] 0 0),(3,.pt 3 [] 0 0),(5,I_ (-1:Int)),(6,B_ p)],[(2,.lit 4 [[.im 1 x.1.Sign_,.im 2 x.1.Regs_,.im 3 x.1.Slots_,.im 4 x.1.List_]]),(3,.lit 7 [[I_ x.2.Op_,I_ x.2.D_,I_ x.2.A_,I_ x.2.B_,I_ x.2.C_,I_ x.2.N_,.sc (.int .u32 x.2.Bits_)]])])
def zxi (x:Yan) (p:Bool):EH Ty_:=([(2,.pt 2 [] 0 0),(3,.pt 3 [] 0 0),(5,I_ (-1:Int)),(21,B_ p)],[(2,.lit 4 [[.im 1 x.1.Sign_,.im 2 x.1.Regs_,.im 3 x.1.Slots_,.im 4 x.1.List_]]),(3,.lit 7 [[I_ x.2.Op_,I_ x.2.D_,I_ x.2.A_,I_ x.2.B_,I_ x.2.C_,I_ x.2.N_,.sc (.int .u32 x.2.Bits_)]])])
def zxj (x:Yan) (p:Int):EH Ty_:=([(2,.pt 2 [] 0 0),(5,I_ p)],[(2,.lit 4 [[.im 1 x.1.Sign_,.im 2 x.1.Regs_,.im 3 x.1.Slots_,.im 4 x.1.List_]])])
def zxk (x:Yan) (p:Yaj):EH Ty_:=([(2,.pt 2 [] 0 0),(5,I_ p.1),(47,B_ p.2)],[(2,.lit 4 [[.im 1 x.1.Sign_,.im 2 x.1.Regs_,.im 3 x.1.Slots_,.im 4 x.1.List_]])])
def y3a (n:Nat) (x:Yan):Pt P_ Ty_ [] Int:=.join (S:=Int) (zxj x) (.join (S:=Bool) (zxh x) (.call (k14 n) x.2.Op_ fun (y1:Bool)=>.ite y1 (.leaf (.inl true)) (.ite (x.2.Op_==29) (.leaf (.inl true)) (.ite (x.2.Op_==30) (.leaf (.inl true)) (.leaf (.inl (x.2.Op_==32)))))) fun s1=>.ite s1 (.leaf (.inl x.2.D_)) (.join (S:=Bool) (zxi x) (.ite (x.2.Op_==31) (.leaf (.inl true)) (.leaf (.inl (x.2.Op_==33)))) fun s2=>.ite s2 (.leaf (.inl x.2.A_)) (.leaf (.inl (-1:Int))))) fun s3=>.join (S:=Yaj) (zxk x) (.ite (decide (s3<(0:Int))) (.leaf (.inl (s3,true))) (.ite (decide (s3≥(x.1.Regs_.length:Int))) (.leaf (.inl (s3,true))) (.bnd (idx x.1.Regs_ s3) fun y2=>.leaf (.inl (s3,(y2.Kind_ != (3:Int))))))) fun s4=>.ite s4.2 (.leaf (-1:Int)) (.bnd (idx x.1.Regs_ s4.1) fun y3=>.leaf y3.Param_)
def k60 (n:Nat):Con P_ Ty_:=zq (X:=Yan) (R:=Int) (pro:=[]) (ybo n) 69 ybp (fun x=>.two .no (.two .no (.join Int (zxj x) ⟨[(2,.ref 2),(5,.any)],[(2,.any)]⟩ (.two (.join Bool (zxh x) ⟨[(2,.ref 2),(3,.ref 3),(5,.any),(6,.any)],[(2,.any),(3,.any)]⟩ .no (.two .no (.join Bool (zxi x) ⟨[(2,.ref 2),(3,.ref 3),(5,.any),(21,.any)],[(2,.any),(3,.any)]⟩ .no .no))) .no) (.two (.join (Yaj) (zxk x) ⟨[(2,.ref 2),(5,.any),(47,.any)],[(2,.any)]⟩ .no .no) .no)))) [.ag [.im 1,.im 2,.im 3,.im 4],.ag [.any,.any,.any,.any,.any,.any,.any]] [] [] ⟨[(4,.any)],[]⟩ [] true (fun x=>[.ag [.im 1 x.1.Sign_,.im 2 x.1.Regs_,.im 3 x.1.Slots_,.im 4 x.1.List_],.ag [I_ x.2.Op_,I_ x.2.D_,I_ x.2.A_,I_ x.2.B_,I_ x.2.C_,I_ x.2.N_,.sc (.int .u32 x.2.Bits_)]]) (fun x=>[]) (fun y=>([(4,I_ y)],[])) (fun y=>I_ y) (fun y=>[]) (y3a n)
def y1e (n:Nat):Cx P_ Ty_:=⟨[k27 n],[(20,false,6),(38,false,6),(39,false,6)],[],[]⟩
abbrev y1f:List (List Nat):=[[1],[1,3],[1,3,4,5],[3,4,5,6],[3,4,5,6,7],[3,4,5,6,7,25],[3,4,5,6,7,32],[3,4,5,6,7],[3,4,5,6,7],[2]]
def zuf (x:Xd) (v1:Yao) (q1:Yab) (p:Bool):EH Ty_:=([(3,.sw 600001 []),(4,.sc (.string v1.1)),(5,B_ v1.2),(6,.sw 20 []),(7,I_ q1.1),(25,B_ p)],[(600001,.typ false 6 q1.2),(20,.typ false 6 ([x.A_,x.B_,x.C_]:List Int))])
def zug (n:Nat) (x:Xd) (v1:Yao) (q1:Yab):Pt P_ Ty_ [] (Bo (Yab) (Yab) Empty):=.join (S:=Bool) (zuf x v1 q1) (.ite v1.2 (.leaf (.inl (decide (q1.1<(3:Int))))) (.leaf (.inl false))) fun s1=>.ite s1 (.need (0≤(IntKind.i64.wrap (q1.1+(1:Int)))∧(IntKind.i64.wrap (q1.1+(1:Int)))<(v1.1.size:Int)) (.ite ((zb v1.1 (IntKind.i64.wrap (q1.1+(1:Int)))) != (45:Int)) (.need (0≤q1.1∧q1.1<(([x.A_,x.B_,x.C_]:List Int).length:Int)) (.bnd (([x.A_,x.B_,x.C_]:List Int)[q1.1.toNat]?) fun y2=>.need ((q1.2.length+([y2]:List Int).length) * 8≤140737488355328) (.leaf (.go ((IntKind.i64.wrap (q1.1+(1:Int))),(q1.2++([y2]:List Int))))))) (.leaf (.go ((IntKind.i64.wrap (q1.1+(1:Int))),q1.2))))) (.leaf (.out (q1.1,q1.2)))
def zue (n:Nat) (x:Xd) (v1:Yao):LCon P_ Ty_ []:=lcon (X:=Yab) (Y:=Yab) (Z:=Empty) (y1e n) (subC [1,1,1,1,0,1,0,0] (fnC P_ 70 y1f)) (fun q1=>.two (.join Bool (zuf x v1 q1) ⟨[(3,.ref 600001),(4,.any),(5,.any),(6,.ref 20),(7,.any),(25,.any)],[(600001,.any),(20,.any)]⟩ .no .no) .no) 0 false ⟨[(3,.own 600001 false 6),(4,.any),(5,.any),(6,.ref 20),(7,.any)],[(600001,.any),(20,.any)]⟩ ⟨[(3,.ref 600001),(4,.any),(5,.any),(6,.ref 20),(7,.any),(25,.any)],[(600001,.any),(20,.any)]⟩ ⟨[],[]⟩ (fun q1=>([(3,.sw 600001 []),(4,.sc (.string v1.1)),(5,B_ v1.2),(6,.sw 20 []),(7,I_ q1.1)],[(600001,.typ false 6 q1.2),(20,.typ false 6 ([x.A_,x.B_,x.C_]:List Int))])) (fun p=>([(3,.sw 600001 []),(4,.sc (.string v1.1)),(5,B_ v1.2),(6,.sw 20 []),(7,I_ p.1),(25,B_ false)],[(600001,.typ false 6 p.2),(20,.typ false 6 ([x.A_,x.B_,x.C_]:List Int))])) (fun p=>nomatch p) n (zug n x v1)
def y1g (n:Nat) (x:Xd):Pt P_ Ty_ [] (List Int):=.call (k27 n) x.Op_ fun (y1:Yao)=>.loop (V:=Yao) (zue n x) (y1.1,y1.2) ((0:Int),([]:List Int)) fun (v1:Yao) (y3:Yab)=>.leaf y3.2
def k10 (n:Nat):Con P_ Ty_:=zq (X:=Xd) (R:=(List Int)) (pro:=[]) (y1e n) 70 y1f (fun x=>.two .no (.two .no (.two .no (.two .no (.two (.two .no (.two (.loop (Yao) (zue n x) false ⟨[(3,.own 600001 false 6),(4,.any),(5,.any),(6,.ref 20),(7,.any)],[(600001,.any),(20,.any)]⟩) .no)) .no))))) [.ag [.any,.any,.any,.any,.any,.any,.any]] [] [100000] ⟨[(2,.ref 100000)],[(100000,.any)]⟩ [100000] true (fun x=>[.ag [I_ x.Op_,I_ x.D_,I_ x.A_,I_ x.B_,I_ x.C_,I_ x.N_,.sc (.int .u32 x.Bits_)]]) (fun x=>[]) (fun y=>([(2,.sw 100000 [])],[(100000,.typ false 6 y)])) (fun y=>.sw 100000 []) (fun y=>[(100000,.typ false 6 y)]) (y1g n)
def y2k (n:Nat):Cx P_ Ty_:=⟨[k59 n,k60 n,k10 n],[],[],[]⟩
abbrev y2l:List (List Nat):=[[2,3,4,5],[2,3,4,5,9],[2,3,5,9,49],[8],[2,3,5,9,10],[2,3,5,9,10,11],[2,3,5,9,10,11,55],[2,3,5,9,10,11,65],[8],[2,3,5,9,10,11],[3,9,67],[3,9,67,68],[3,9,67,68],[8],[3,9,67,74],[8],[9,83],[8],[8]]
def zwx (x:Yaz) (p:Bool):EH Ty_:=([(2,.im 5 x.2.2.1),(3,.im 9 x.2.2.2),(4,.pt 4 [] 0 0),(5,.pt 5 [] 0 0),(9,B_ p)],[(4,.lit 4 [[.im 1 x.1.Sign_,.im 2 x.1.Regs_,.im 3 x.1.Slots_,.im 4 x.1.List_]]),(5,.lit 7 [[I_ x.2.1.Op_,I_ x.2.1.D_,I_ x.2.1.A_,I_ x.2.1.B_,I_ x.2.1.C_,I_ x.2.1.N_,.sc (.int .u32 x.2.1.Bits_)]])])
def zwy (x:Yaz) (p:Ybv):EH Ty_:=([(2,.im 5 x.2.2.1),(3,.im 9 x.2.2.2),(5,.pt 5 [] 0 0),(9,B_ p.1),(49,B_ p.2)],[(5,.lit 7 [[I_ x.2.1.Op_,I_ x.2.1.D_,I_ x.2.1.A_,I_ x.2.1.B_,I_ x.2.1.C_,I_ x.2.1.N_,.sc (.int .u32 x.2.1.Bits_)]])])
def zwz (x:Yaz) (p:Ybv):EH Ty_:=([(3,.im 9 x.2.2.2),(9,B_ p.1),(67,I_ x.2.1.Op_),(68,B_ p.2)],[])
def zx0 (n:Nat) (x:Yaz) (v1:Ybl) (q1:Int):Pt P_ Ty_ [] (Bo Int Int Unit):=.ite (decide (q1<(v1.2.length:Int))) (.need (0≤q1∧q1<(v1.2.length:Int)) (.bnd (v1.2[q1.toNat]?) fun y6=>.bnd (idx x.2.2.1 y6) fun y7=>.ite (!y7) (.leaf (.ret ())) (.leaf (.go (IntKind.i64.wrap (q1+(1:Int))))))) (.leaf (.out q1))
def zww (n:Nat) (x:Yaz) (v1:Ybl):LCon P_ Ty_ []:=lcon (X:=Int) (Y:=Int) (Z:=Unit) (y2k n) (subC [1,1,1,1,0,1,0,0] (fnC P_ 38 y2l)) (fun q1=>.no) 0 true ⟨[(2,.im 5),(3,.im 9),(5,.ref 5),(9,.any),(10,.ref 51),(11,.any)],[(5,.any),(51,.any)]⟩ ⟨[(2,.im 5),(3,.im 9),(5,.ref 5),(9,.any),(10,.ref 51),(11,.any),(55,.any)],[(5,.any),(51,.any)]⟩ ⟨[(8,.any)],[]⟩ (fun q1=>([(2,.im 5 x.2.2.1),(3,.im 9 x.2.2.2),(5,.pt 5 [] 0 0),(9,B_ v1.1),(10,.sw 51 []),(11,I_ q1)],[(5,.lit 7 [[I_ x.2.1.Op_,I_ x.2.1.D_,I_ x.2.1.A_,I_ x.2.1.B_,I_ x.2.1.C_,I_ x.2.1.N_,.sc (.int .u32 x.2.1.Bits_)]]),(51,.typ false 6 v1.2)])) (fun p=>([(2,.im 5 x.2.2.1),(3,.im 9 x.2.2.2),(5,.pt 5 [] 0 0),(9,B_ v1.1),(10,.sw 51 []),(11,I_ p),(55,B_ false)],[(5,.lit 7 [[I_ x.2.1.Op_,I_ x.2.1.D_,I_ x.2.1.A_,I_ x.2.1.B_,I_ x.2.1.C_,I_ x.2.1.N_,.sc (.int .u32 x.2.1.Bits_)]]),(51,.typ false 6 v1.2)])) (fun p=>([(8,B_ false)],[])) n (zx0 n x v1)
def y2m (n:Nat) (x:Yaz):Pt P_ Ty_ [] Bool:=.join (S:=Bool) (zwx x) (.ite (decide ((x.2.2.2.length:Int) > (0:Int))) (.bnd (idx x.2.2.2 (IntKind.i64.wrap ((x.2.2.2.length:Int) - (1:Int)))) fun y1=>.leaf (.inl (y1.Op_==36))) (.leaf (.inl false))) fun s1=>.join (S:=Ybv) (zwy x) (.call (k59 n) (x.1,x.2.1) fun (y2:Bool)=>.ite (!y2) (.leaf (.inl (s1,true))) (.ite s1 (.ite (x.2.1.Op_ != (37:Int)) (.call (k60 n) (x.1,x.2.1) fun (y3:Int)=>.bnd (idx x.2.2.2 (IntKind.i64.wrap ((x.2.2.2.length:Int) - (1:Int)))) fun y4=>.leaf (.inl (s1,(y3 != y4.Param_)))) (.leaf (.inl (s1,false)))) (.leaf (.inl (s1,false))))) fun s2=>.ite s2.2 (.leaf false) (.call (k10 n) x.2.1 fun (y5:(List Int))=>.loopR (V:=Ybl) (zww n x) (s2.1,y5) (0:Int) (fun (v1:Ybl) (y8:Int)=>.join (S:=Ybv) (zwz x) (.ite (x.2.1.Op_==34) (.leaf (.inl (v1.1,true))) (.leaf (.inl (v1.1,(x.2.1.Op_==36))))) fun s3=>.ite s3.2 (.leaf (decide ((x.2.2.2.length:Int)<(64:Int)))) (.ite (x.2.1.Op_==35) (.ite (decide ((x.2.2.2.length:Int) > (0:Int))) (.leaf (!s3.1)) (.leaf false)) (.ite (x.2.1.Op_==37) (.leaf s3.1) (.leaf true)))) fun (v1:Ybl) (z1:Unit)=>.leaf false)
def k41 (n:Nat):Con P_ Ty_:=zq (X:=Yaz) (R:=Bool) (pro:=[]) (y2k n) 38 y2l (fun x=>.two .no (.join Bool (zwx x) ⟨[(2,.im 5),(3,.im 9),(4,.ref 4),(5,.ref 5),(9,.any)],[(4,.any),(5,.any)]⟩ .no (.two (.join (Ybv) (zwy x) ⟨[(2,.im 5),(3,.im 9),(5,.ref 5),(9,.any),(49,.any)],[(5,.any)]⟩ .no .no) (.two .no (.two (.two .no (.two (.loop (Ybl) (zww n x) true ⟨[(2,.im 5),(3,.im 9),(5,.ref 5),(9,.any),(10,.ref 51),(11,.any)],[(5,.any),(51,.any)]⟩) .no)) (.two (.two .no (.two (.join (Ybv) (zwz x) ⟨[(3,.im 9),(9,.any),(67,.any),(68,.any)],[]⟩ .no .no) .no)) .no)))))) [.ag [.im 1,.im 2,.im 3,.im 4],.ag [.any,.any,.any,.any,.any,.any,.any],.im 5,.im 9] [] [] ⟨[(8,.any)],[]⟩ [] true (fun x=>[.ag [.im 1 x.1.Sign_,.im 2 x.1.Regs_,.im 3 x.1.Slots_,.im 4 x.1.List_],.ag [I_ x.2.1.Op_,I_ x.2.1.D_,I_ x.2.1.A_,I_ x.2.1.B_,I_ x.2.1.C_,I_ x.2.1.N_,.sc (.int .u32 x.2.1.Bits_)],.im 5 x.2.2.1,.im 9 x.2.2.2]) (fun x=>[]) (fun y=>([(8,B_ y)],[])) (fun y=>B_ y) (fun y=>[]) (y2m n)
def yb8 (n:Nat):Cx P_ Ty_:=⟨[],[(6,false,5)],[],[]⟩
abbrev yb9:List (List Nat):=[[0],[0,3],[2]]
def y2n (n:Nat) (x:(List Bool)):Pt P_ Ty_ [] (List Bool):=.need (x.length * 1≤140737488355328) (.leaf x)
def k42 (n:Nat):Con P_ Ty_:=zq (X:=(List Bool)) (R:=(List Bool)) (pro:=[]) (yb8 n) 39 yb9 (fun x=>.no) [.im 5] [] [100000] ⟨[(2,.ref 100000)],[(100000,.any)]⟩ [100000] true (fun x=>[.im 5 x]) (fun x=>[]) (fun y=>([(2,.sw 100000 [])],[(100000,.typ false 5 y)])) (fun y=>.sw 100000 []) (fun y=>[(100000,.typ false 5 y)]) (y2n n)
def yai (n:Nat):Cx P_ Ty_:=⟨[k27 n],[],[],[]⟩
abbrev yaj:List (List Nat):=[[1],[3,4],[2]]
def y1i (n:Nat) (x:Xd):Pt P_ Ty_ [] Bool:=.call (k27 n) x.Op_ fun (y1:Yao)=>.ite y1.2 (.need (0≤(0:Int)∧(0:Int)<(y1.1.size:Int)) (.leaf ((zb y1.1 (0:Int)) != (45:Int)))) (.leaf false)
def k12 (n:Nat):Con P_ Ty_:=zq (X:=Xd) (R:=Bool) (pro:=[]) (yai n) 40 yaj (fun x=>.no) [.ag [.any,.any,.any,.any,.any,.any,.any]] [] [] ⟨[(2,.any)],[]⟩ [] true (fun x=>[.ag [I_ x.Op_,I_ x.D_,I_ x.A_,I_ x.B_,I_ x.C_,I_ x.N_,.sc (.int .u32 x.Bits_)]]) (fun x=>[]) (fun y=>([(2,B_ y)],[])) (fun y=>B_ y) (fun y=>[]) (y1i n)
def zhv (n:Nat):Cx P_ Ty_:=⟨[k38 n,k39 n,k40 n,k41 n,k42 n,k12 n],[(75,false,5),(76,false,5),(113,true,9),(114,true,9)],[113],[]⟩
abbrev zhw:List (List Nat):=[[1],[1,4],[1,4,15],[2,3],[1,19],[2,3],[1,30],[2,3],[1,5],[1,5,39],[1,5,50],[2,3],[1,5],[1,6],[1,6,55],[1,6,66],[2,3],[1,6],[1,7],[1,7,8],[1,7,8,71],[1,7,8],[1,7,8],[1,7,9],[1,7,9,10],[1,7,9,10,81],[1,7,9,10,11],[1,7,9,10,11,94],[2,3],[1,7,9,10,11,96],[1,7,9,10],[1,7,9,10,11,115],[1,7,9,10],[1,7,9,10],[1,7,9,10,11,132],[1,7,9,10],[1,7,9,10,11,141],[1,7,9,10],[1,7,9,10],[1,150],[2,3],[2,3]]
def zv0 (x:Xe) (p:Bool):EH Ty_:=([(1,.pt 1 [] 0 0),(19,B_ p)],[(1,.lit 4 [[.im 1 x.Sign_,.im 2 x.Regs_,.im 3 x.Slots_,.im 4 x.List_]])])
def zv1 (x:Xe) (v4:Unit) (q4:Yba) (p:Ycw):EH Ty_:=([(1,.pt 1 [] 0 0),(7,.sw 600002 []),(9,.sw 600003 []),(10,I_ q4.1),(11,.pt 11 [] 0 0),(96,B_ p.1)],[(1,.lit 4 [[.im 1 x.Sign_,.im 2 x.Regs_,.im 3 x.Slots_,.im 4 x.List_]]),(600002,.typ false 5 q4.2.1),(600003,.typ true 9 q4.2.2),(11,.lit 7 [[I_ p.2.1,I_ p.2.2.1,I_ p.2.2.2.1,I_ p.2.2.2.2.1,I_ p.2.2.2.2.2.1,I_ p.2.2.2.2.2.2.1,.sc (.int .u32 p.2.2.2.2.2.2.2)]])])
def zv2 (n:Nat) (x:Xe) (v1:Unit) (q1:Int):Pt P_ Ty_ [] (Bo Int Int Unit):=.ite (decide (q1<(x.Regs_.length:Int))) (.bnd (idx x.Regs_ q1) fun y2=>.call (k39 n) (y2,x.Sign_) fun (y3:Bool)=>.ite (!y3) (.leaf (.ret ())) (.leaf (.go (IntKind.i64.wrap (q1+(1:Int)))))) (.leaf (.out q1))
def zuw (n:Nat) (x:Xe) (v1:Unit):LCon P_ Ty_ []:=lcon (X:=Int) (Y:=Int) (Z:=Unit) (zhv n) (subC [1,1,1,0,1,0,0] (fnC P_ 20 zhw)) (fun q1=>.no) 1 true ⟨[(1,.ref 1),(5,.any)],[(1,.any)]⟩ ⟨[(1,.ref 1),(5,.any),(39,.any)],[(1,.any)]⟩ ⟨[(2,.any),(3,.any)],[]⟩ (fun q1=>([(1,.pt 1 [] 0 0),(5,I_ q1)],[(1,.lit 4 [[.im 1 x.Sign_,.im 2 x.Regs_,.im 3 x.Slots_,.im 4 x.List_]])])) (fun p=>([(1,.pt 1 [] 0 0),(5,I_ p),(39,B_ false)],[(1,.lit 4 [[.im 1 x.Sign_,.im 2 x.Regs_,.im 3 x.Slots_,.im 4 x.List_]])])) (fun p=>([(2,I_ (160:Int)),(3,I_ (-1:Int))],[])) n (zv2 n x v1)
def zv3 (n:Nat) (x:Xe) (v2:Unit) (q2:Int):Pt P_ Ty_ [] (Bo Int Int Unit):=.ite (decide (q2<(x.Slots_.length:Int))) (.bnd (idx x.Slots_ q2) fun y5=>.call (k40 n) (y5,x.Sign_) fun (y6:Bool)=>.ite (!y6) (.leaf (.ret ())) (.leaf (.go (IntKind.i64.wrap (q2+(1:Int)))))) (.leaf (.out q2))
def zux (n:Nat) (x:Xe) (v2:Unit):LCon P_ Ty_ []:=lcon (X:=Int) (Y:=Int) (Z:=Unit) (zhv n) (subC [1,1,1,1,0,1,0,0] (fnC P_ 20 zhw)) (fun q2=>.no) 3 true ⟨[(1,.ref 1),(6,.any)],[(1,.any)]⟩ ⟨[(1,.ref 1),(6,.any),(55,.any)],[(1,.any)]⟩ ⟨[(2,.any),(3,.any)],[]⟩ (fun q2=>([(1,.pt 1 [] 0 0),(6,I_ q2)],[(1,.lit 4 [[.im 1 x.Sign_,.im 2 x.Regs_,.im 3 x.Slots_,.im 4 x.List_]])])) (fun p=>([(1,.pt 1 [] 0 0),(6,I_ p),(55,B_ false)],[(1,.lit 4 [[.im 1 x.Sign_,.im 2 x.Regs_,.im 3 x.Slots_,.im 4 x.List_]])])) (fun p=>([(2,I_ (160:Int)),(3,I_ (-1:Int))],[])) n (zv3 n x v2)
def zv4 (n:Nat) (x:Xe) (v3:Unit) (q3:Yai):Pt P_ Ty_ [] (Bo (Yai) (Yai) Empty):=.ite (decide (q3.1<(x.Regs_.length:Int))) (.need ((q3.2.length+([false]:List Bool).length) * 1≤140737488355328) (.leaf (.go ((IntKind.i64.wrap (q3.1+(1:Int))),(q3.2++([false]:List Bool)))))) (.leaf (.out (q3.1,q3.2)))
def zuy (n:Nat) (x:Xe) (v3:Unit):LCon P_ Ty_ []:=lcon (X:=Yai) (Y:=Yai) (Z:=Empty) (zhv n) (subC [1,1,1,1,1,1,0,1,0,0] (fnC P_ 20 zhw)) (fun q3=>.no) 5 false ⟨[(1,.ref 1),(7,.own 600001 false 5),(8,.any)],[(1,.any),(600001,.any)]⟩ ⟨[(1,.ref 1),(7,.ref 600001),(8,.any),(71,.any)],[(1,.any),(600001,.any)]⟩ ⟨[],[]⟩ (fun q3=>([(1,.pt 1 [] 0 0),(7,.sw 600001 []),(8,I_ q3.1)],[(1,.lit 4 [[.im 1 x.Sign_,.im 2 x.Regs_,.im 3 x.Slots_,.im 4 x.List_]]),(600001,.typ false 5 q3.2)])) (fun p=>([(1,.pt 1 [] 0 0),(7,.sw 600001 []),(8,I_ p.1),(71,B_ false)],[(1,.lit 4 [[.im 1 x.Sign_,.im 2 x.Regs_,.im 3 x.Slots_,.im 4 x.List_]]),(600001,.typ false 5 p.2)])) (fun p=>nomatch p) n (zv4 n x v3)
def zv5 (n:Nat) (x:Xe) (v4:Unit) (q4:Yba):Pt P_ Ty_ [] (Bo (Yba) (Yba) Int):=.ite (decide (q4.1<(x.List_.length:Int))) (.bnd (idx x.List_ q4.1) fun y9=>.call (k41 n) (x,y9,q4.2.1,q4.2.2) fun (y10:Bool)=>.ite (!y10) (.leaf (.ret q4.1)) (.join (S:=Ycw) (zv1 x v4 q4) (.ite (y9.Op_==34) (.leaf (.inl (true,y9.Op_,y9.D_,y9.A_,y9.B_,y9.C_,y9.N_,y9.Bits_))) (.leaf (.inl ((y9.Op_==36),y9.Op_,y9.D_,y9.A_,y9.B_,y9.C_,y9.N_,y9.Bits_)))) fun s2=>.ite s2.1 (.call (k42 n) q4.2.1 fun (y11:(List Bool))=>.need ((q4.2.2.length+([(⟨s2.2.1,s2.2.2.2.2.2.2.1,y11⟩:Xg)]:List Xg).length) * 40≤140737488355328) (.leaf (.go ((IntKind.i64.wrap (q4.1+(1:Int))),q4.2.1,(q4.2.2++([(⟨s2.2.1,s2.2.2.2.2.2.2.1,y11⟩:Xg)]:List Xg)))))) (.ite (s2.2.1==35) (.need (0≤(IntKind.i64.wrap ((q4.2.2.length:Int) - (1:Int)))∧(IntKind.i64.wrap ((q4.2.2.length:Int) - (1:Int)))<(q4.2.2.length:Int)) (.bnd (q4.2.2[(IntKind.i64.wrap ((q4.2.2.length:Int) - (1:Int))).toNat]?) fun y12=>.bnd (q4.2.2[(IntKind.i64.wrap ((q4.2.2.length:Int) - (1:Int))).toNat]?) fun y13=>.call (k42 n) y13.Set_ fun (y14:(List Bool))=>.need (0≤(IntKind.i64.wrap ((q4.2.2.length:Int) - (1:Int)))∧(IntKind.i64.wrap ((q4.2.2.length:Int) - (1:Int)))≤(q4.2.2.length:Int)) (.need ((IntKind.i64.wrap ((q4.2.2.length:Int) - (1:Int))).toNat≤q4.2.2.length) (.leaf (.go ((IntKind.i64.wrap (q4.1+(1:Int))),y14,(q4.2.2.take ((IntKind.i64.wrap ((q4.2.2.length:Int) - (1:Int))).toNat)))))))) (.ite (s2.2.1==37) (.need (0≤(IntKind.i64.wrap ((q4.2.2.length:Int) - (1:Int)))∧(IntKind.i64.wrap ((q4.2.2.length:Int) - (1:Int)))≤(q4.2.2.length:Int)) (.need ((IntKind.i64.wrap ((q4.2.2.length:Int) - (1:Int))).toNat≤q4.2.2.length) (.leaf (.go ((IntKind.i64.wrap (q4.1+(1:Int))),q4.2.1,(q4.2.2.take ((IntKind.i64.wrap ((q4.2.2.length:Int) - (1:Int))).toNat))))))) (.call (k12 n) (⟨s2.2.1,s2.2.2.1,s2.2.2.2.1,s2.2.2.2.2.1,s2.2.2.2.2.2.1,s2.2.2.2.2.2.2.1,s2.2.2.2.2.2.2.2⟩:Xd) fun (y15:Bool)=>.ite y15 (.need (0≤s2.2.2.1∧s2.2.2.1<(q4.2.1.length:Int)) (.bnd (q4.2.1[s2.2.2.1.toNat]?) fun y16=>.leaf (.go ((IntKind.i64.wrap (q4.1+(1:Int))),(q4.2.1.set s2.2.2.1.toNat true),q4.2.2)))) (.leaf (.go ((IntKind.i64.wrap (q4.1+(1:Int))),q4.2.1,q4.2.2)))))))) (.leaf (.out (q4.1,q4.2.1,q4.2.2)))
def zuz (n:Nat) (x:Xe) (v4:Unit):LCon P_ Ty_ []:=lcon (X:=Yba) (Y:=Yba) (Z:=Int) (zhv n) (subC [1,1,1,1,1,1,1,1,0,1,0,0] (fnC P_ 20 zhw)) (fun q4=>.two .no (.two (.two (.two .no (.two .no (.two (.join (Ycw) (zv1 x v4 q4) ⟨[(1,.ref 1),(7,.ref 600002),(9,.ref 600003),(10,.any),(11,.ref 11),(96,.any)],[(1,.any),(600002,.any),(600003,.any),(11,.any)]⟩ .no .no) .no))) .no) .no)) 7 true ⟨[(1,.ref 1),(7,.ref 600002),(9,.own 600003 true 9),(10,.any)],[(1,.any),(600002,.any),(600003,.any)]⟩ ⟨[(1,.ref 1),(7,.ref 600002),(9,.ref 600003),(10,.any),(81,.any)],[(1,.any),(600002,.any),(600003,.any)]⟩ ⟨[(2,.any),(3,.any)],[]⟩ (fun q4=>([(1,.pt 1 [] 0 0),(7,.sw 600002 []),(9,.sw 600003 []),(10,I_ q4.1)],[(1,.lit 4 [[.im 1 x.Sign_,.im 2 x.Regs_,.im 3 x.Slots_,.im 4 x.List_]]),(600002,.typ false 5 q4.2.1),(600003,.typ true 9 q4.2.2)])) (fun p=>([(1,.pt 1 [] 0 0),(7,.sw 600002 []),(9,.sw 600003 []),(10,I_ p.1),(81,B_ false)],[(1,.lit 4 [[.im 1 x.Sign_,.im 2 x.Regs_,.im 3 x.Slots_,.im 4 x.List_]]),(600002,.typ false 5 p.2.1),(600003,.typ true 9 p.2.2)])) (fun p=>([(2,I_ (160:Int)),(3,I_ p)],[])) n (zv5 n x v4)
def y1o (n:Nat) (x:Xe):Pt P_ Ty_ [] (Yaa):=.call (k38 n) x.Sign_ fun (y1:Int)=>.ite (y1 != (0:Int)) (.leaf (y1,(-1:Int))) (.join (S:=Bool) (zv0 x) (.ite (decide ((x.Regs_.length:Int) > (16384:Int))) (.leaf (.inl true)) (.leaf (.inl (decide ((x.List_.length:Int) > (32768:Int)))))) fun s1=>.ite s1 (.leaf ((181:Int),(-1:Int))) (.ite (decide ((x.Slots_.length:Int) > (4096:Int))) (.leaf ((180:Int),(-1:Int))) (.loopR (V:=Unit) (zuw n x) () (0:Int) (fun (v1:Unit) (y4:Int)=>.loopR (V:=Unit) (zux n x) () (0:Int) (fun (v2:Unit) (y7:Int)=>.loop (V:=Unit) (zuy n x) () ((0:Int),([]:List Bool)) fun (v3:Unit) (y8:Yai)=>.loopR (V:=Unit) (zuz n x) () ((0:Int),y8.2,([]:List Xg)) (fun (v4:Unit) (y17:Yba)=>.ite (decide ((y17.2.2.length:Int) > (0:Int))) (.leaf ((160:Int),(x.List_.length:Int))) (.leaf ((0:Int),(0:Int)))) fun (v4:Unit) (z3:Int)=>.leaf ((160:Int),z3)) fun (v2:Unit) (z2:Unit)=>.leaf ((160:Int),(-1:Int))) fun (v1:Unit) (z1:Unit)=>.leaf ((160:Int),(-1:Int)))))
def k21 (n:Nat):Con P_ Ty_:=zq (X:=Xe) (R:=Yaa) (pro:=[]) (zhv n) 20 zhw (fun x=>.two .no (.two .no (.two (.two (.two .no (.two .no (.join Bool (zv0 x) ⟨[(1,.ref 1),(19,.any)],[(1,.any)]⟩ .no .no))) .no) (.two (.two .no (.two (.loop Unit (zuw n x) true ⟨[(1,.ref 1),(5,.any)],[(1,.any)]⟩) .no)) (.two (.two .no (.two (.loop Unit (zux n x) true ⟨[(1,.ref 1),(6,.any)],[(1,.any)]⟩) .no)) (.two .no (.two (.two .no (.two (.loop Unit (zuy n x) false ⟨[(1,.ref 1),(7,.own 600001 false 5),(8,.any)],[(1,.any),(600001,.any)]⟩) .no)) (.two .no (.two (.two .no (.two (.loop Unit (zuz n x) true ⟨[(1,.ref 1),(7,.ref 600002),(9,.own 600003 true 9),(10,.any)],[(1,.any),(600002,.any),(600003,.any)]⟩) .no)) .no))))))))) [.ag [.im 1,.im 2,.im 3,.im 4]] [] [] ⟨[(2,.any),(3,.any)],[]⟩ [] true (fun x=>[.ag [.im 1 x.Sign_,.im 2 x.Regs_,.im 3 x.Slots_,.im 4 x.List_]]) (fun x=>[]) (fun y=>([(2,I_ y.1),(3,I_ y.2)],[])) (fun y=>.tu [I_ y.1,I_ y.2]) (fun y=>[]) (y1o n)
def f101 (n:Nat) (x:Xe):Option (Ybx):=(zud n x).run
theorem y4l (n:Nat) (x:Xe):f101 n x=need (x.Sign_.length * 32≤140737488355328) (need (x.Regs_.length * 16≤140737488355328) (need (x.Slots_.length * 32≤140737488355328) (need (x.List_.length * 56≤140737488355328) (some (x.Sign_,x.Regs_,x.Slots_,x.List_))))):=by kernel_rfl
def f71 (n:Nat) (x:Yac):Option Int:=g71 n x.1 x.2
def f68 (n:Nat) (x:Yac):Option Int:=(y3m n x).run
theorem y8l (n:Nat) (x:Yac):f68 n x=(f71 n (x.1,x.2)).bind fun y1=>some y1:=by kernel_rfl
def zn3 (n:Nat) (x:ByteArray) (v1:Unit) (q1:Int):Option (Bo Int Int Unit):=(zxr n x v1 q1).run
def f61 (n:Nat) (x:ByteArray):Option Bool:=(y3d n x).run
theorem zkg (n:Nat) (x:ByteArray) (v1:Unit) (q1:Int):zn3 n x v1 q1=bif (decide (q1<((bytesOf x).length:Int))) then ((idx (bytesOf x) q1).bind fun y1=>((bif (decide (y1≥(65:Int))) then (some (.inl (y1,(decide (y1≤(90:Int)))))) else (some (.inl (y1,false))):Option (Int×Bool⊕_)).bind (zk fun s2=>bif s2.2 then (some (.inl true)) else ((bif (decide (s2.1≥(97:Int))) then (some (.inl (s2.1,(decide (s2.1≤(122:Int)))))) else (some (.inl (s2.1,false))):Option (Int×Bool⊕_)).bind (zk fun s3=>bif s3.2 then (some (.inl true)) else ((bif (decide (s3.1≥(48:Int))) then (some (.inl (s3.1,(decide (s3.1≤(57:Int)))))) else (some (.inl (s3.1,false))):Option (Int×Bool⊕_)).bind (zk fun s4=>bif s4.2 then (some (.inl true)) else ((f68 n ((⟨#[95,46,47,45]⟩:ByteArray),s4.1)).bind fun y2=>some (.inl (decide (y2≥(0:Int)))))))))):Option (Bool⊕_)).bind (zk fun s5=>bif s5 then (some (.go (IntKind.i64.wrap (q1+(1:Int))))) else (some (.ret ())))) else (some (.out q1)):=by kernel_rfl
theorem y89 (n:Nat) (x:ByteArray):f61 n x=(bif (x==(⟨#[]⟩:ByteArray)) then (some (.inl true)) else (some (.inl (decide ((x.size:Int) > (64:Int))))):Option (Bool⊕_)).bind (zk fun s1=>bif s1 then (some false) else ((iter (zn3 n x ()) n (0:Int)).bind (Bo.then (fun y3=>some true) (fun z1=>some false)))):=by kernel_rfl
def f48 (n:Nat) (x:Xa):Option Bool:=(y2o n x).run
theorem y7p (n:Nat) (x:Xa):f48 n x=(f61 n x.Name_).bind fun y1=>bif y1 then (bif (x.Kind_==1) then (bif (decide (x.Len_≥(1:Int))) then (some (decide (x.Len_≤(4096:Int)))) else (some false)) else (bif (x.Kind_==2) then (bif (decide (x.Len_≥(1:Int))) then (some (decide (x.Len_≤(4096:Int)))) else (some false)) else (some false))) else (some false):=by kernel_rfl
def f62 (n:Nat) (x:Xa):Option Int:=(y3e n x).run
theorem y8b (n:Nat) (x:Xa):f62 n x=(f48 n x).bind fun y1=>bif (!y1) then (some (0:Int)) else (bif (x.Kind_==2) then (some (IntKind.i64.wrap ((2:Int) * x.Len_))) else (some x.Len_)):=by kernel_rfl
def zmy (n:Nat) (x:(List Xa)) (v1:Unit) (q1:Yaa):Option (Bo (Yaa) (Yaa) Empty):=(zx2 n x v1 q1).run
def f49 (n:Nat) (x:(List Xa)):Option Int:=(y2r n x).run
theorem zkb (n:Nat) (x:(List Xa)) (v1:Unit) (q1:Yaa):zmy n x v1 q1=bif (decide (q1.2<(x.length:Int))) then ((idx x q1.2).bind fun y1=>(f62 n y1).bind fun y2=>some (.go ((IntKind.i64.wrap (q1.1+y2)),(IntKind.i64.wrap (q1.2+(1:Int)))))) else (some (.out (q1.1,q1.2))):=by kernel_rfl
theorem y7q (n:Nat) (x:(List Xa)):f49 n x=(iter (zmy n x ()) n ((0:Int),(0:Int))).bind (Bo.then (fun y3=>some y3.1) (fun _=>none)):=by kernel_rfl
def f28 (n:Nat) (x:(List Xa)):Option Int:=g28 n x
def f31 (n:Nat) (x:Xe×Xb):Option Bool:=(y1u n x).run
theorem y79 (n:Nat) (x:Xe×Xb):f31 n x=(bif (x.2.Kind_==1) then (some (.inl true)) else (some (.inl (x.2.Kind_==2))):Option (Bool⊕_)).bind (zk fun s1=>bif s1 then (some (x.2.Param_==0)) else (bif (x.2.Kind_==3) then (bif (decide (x.2.Param_≥(0:Int))) then (some (decide (x.2.Param_<(x.1.Sign_.length:Int)))) else (some false)) else (some false))):=by kernel_rfl
def f30 (n:Nat) (x:Yby):Option (Yak):=(y1t n x).run
theorem y78 (n:Nat) (x:Yby):f30 n x=(f31 n ((⟨x.2.1,x.2.2.1,x.2.2.2.1,x.2.2.2.2⟩:Xe),x.1)).bind fun y1=>some ((!y1),x.2.1,x.2.2.1,x.2.2.2.1,x.2.2.2.2):=by kernel_rfl
def zmz (n:Nat) (x:Yas) (v1:Unit) (q1:Yae):Option (Bo (Yae) (Yae) (Yae)):=(zx4 n x v1 q1).run
def f50 (n:Nat) (x:Yas):Option (Yae):=(y2u n x).run
theorem zkc (n:Nat) (x:Yas) (v1:Unit) (q1:Yae):zmz n x v1 q1=bif (decide (q1.1<(x.1.length:Int))) then ((idx x.1 q1.1).bind fun y1=>(f30 n (y1,q1.2.1,q1.2.2.1,q1.2.2.2.1,q1.2.2.2.2)).bind fun y2=>bif y2.1 then (some (.ret (q1.1,y2.2.1,y2.2.2.1,y2.2.2.2.1,y2.2.2.2.2))) else (some (.go ((IntKind.i64.wrap (q1.1+(1:Int))),y2.2.1,y2.2.2.1,y2.2.2.2.1,y2.2.2.2.2)))) else (some (.out (q1.1,q1.2.1,q1.2.2.1,q1.2.2.2.1,q1.2.2.2.2))):=by kernel_rfl
theorem y7s (n:Nat) (x:Yas):f50 n x=(iter (zmz n x ()) n ((0:Int),x.2.1,x.2.2.1,x.2.2.2.1,x.2.2.2.2)).bind (Bo.then (fun y3=>some ((-1:Int),y3.2.1,y3.2.2.1,y3.2.2.2.1,y3.2.2.2.2)) (fun z1=>some (z1.1,z1.2.1,z1.2.2.1,z1.2.2.2.1,z1.2.2.2.2))):=by kernel_rfl
def f29 (n:Nat) (x:Yas):Option (Yak):=(y1s n x).run
theorem y76 (n:Nat) (x:Yas):f29 n x=(f50 n (x.1,x.2.1,x.2.2.1,x.2.2.2.1,x.2.2.2.2)).bind fun y1=>some ((decide (y1.1≥(0:Int))),y1.2.1,y1.2.2.1,y1.2.2.2.1,y1.2.2.2.2):=by kernel_rfl
def f52 (n:Nat) (x:Int):Option Bool:=(y2y n x).run
theorem y7u (n:Nat) (x:Int):f52 n x=bif (decide ((IntKind.u32.wrap (BitVec.ofInt IntKind.u32.bits x &&& ~~~BitVec.ofInt IntKind.u32.bits (2147483648:Int)).toNat)≤(2139095040:Int))) then (some true) else (some (x==2143289344)):=by kernel_rfl
def f34 (n:Nat) (x:Xe×Xc):Option Bool:=(y1x n x).run
theorem y7d (n:Nat) (x:Xe×Xc):f34 n x=(f31 n (x.1,x.2.Type_)).bind fun y1=>bif (!y1) then (some false) else (bif (x.2.Type_.Kind_==2) then (bif (x.2.Bits_==0) then (bif (decide (x.2.Int_≥(0:Int))) then (some (decide (x.2.Int_≤(2147483647:Int)))) else (some false)) else (some false)) else (bif (x.2.Int_==0) then ((f52 n x.2.Bits_).bind fun y2=>some y2) else (some false))):=by kernel_rfl
def f33 (n:Nat) (x:Ybz):Option (Yak):=(y1w n x).run
theorem y7c (n:Nat) (x:Ybz):f33 n x=(f34 n ((⟨x.2.1,x.2.2.1,x.2.2.2.1,x.2.2.2.2⟩:Xe),x.1)).bind fun y1=>some ((!y1),x.2.1,x.2.2.1,x.2.2.2.1,x.2.2.2.2):=by kernel_rfl
def zn0 (n:Nat) (x:Yat) (v1:Unit) (q1:Yae):Option (Bo (Yae) (Yae) (Yae)):=(zx6 n x v1 q1).run
def f51 (n:Nat) (x:Yat):Option (Yae):=(y2x n x).run
theorem zkd (n:Nat) (x:Yat) (v1:Unit) (q1:Yae):zn0 n x v1 q1=bif (decide (q1.1<(x.1.length:Int))) then ((idx x.1 q1.1).bind fun y1=>(f33 n (y1,q1.2.1,q1.2.2.1,q1.2.2.2.1,q1.2.2.2.2)).bind fun y2=>bif y2.1 then (some (.ret (q1.1,y2.2.1,y2.2.2.1,y2.2.2.2.1,y2.2.2.2.2))) else (some (.go ((IntKind.i64.wrap (q1.1+(1:Int))),y2.2.1,y2.2.2.1,y2.2.2.2.1,y2.2.2.2.2)))) else (some (.out (q1.1,q1.2.1,q1.2.2.1,q1.2.2.2.1,q1.2.2.2.2))):=by kernel_rfl
theorem y7t (n:Nat) (x:Yat):f51 n x=(iter (zn0 n x ()) n ((0:Int),x.2.1,x.2.2.1,x.2.2.2.1,x.2.2.2.2)).bind (Bo.then (fun y3=>some ((-1:Int),y3.2.1,y3.2.2.1,y3.2.2.2.1,y3.2.2.2.2)) (fun z1=>some (z1.1,z1.2.1,z1.2.2.1,z1.2.2.2.1,z1.2.2.2.2))):=by kernel_rfl
def f32 (n:Nat) (x:Yat):Option (Yak):=(y1v n x).run
theorem y7a (n:Nat) (x:Yat):f32 n x=(f51 n (x.1,x.2.1,x.2.2.1,x.2.2.2.1,x.2.2.2.2)).bind fun y1=>some ((decide (y1.1≥(0:Int))),y1.2.1,y1.2.2.1,y1.2.2.2.1,y1.2.2.2.2):=by kernel_rfl
def f26 (n:Nat) (x:Int):Option (Ybr):=(y1q n x).run
theorem y73 (n:Nat) (x:Int):f26 n x=bif (x==1) then (some (true,(1:Int),(0:Int),(0:Int),(0:Int),(0:Int))) else (bif (x==2) then (some (true,(2:Int),(0:Int),(0:Int),(0:Int),(1:Int))) else (bif (x==3) then (some (true,(8:Int),(7:Int),(0:Int),(0:Int),(0:Int))) else ((bif (x==4) then (some (.inl true)) else (bif (x==5) then (some (.inl true)) else (bif (x==6) then (some (.inl true)) else (bif (x==7) then (some (.inl true)) else (bif (x==8) then (some (.inl true)) else (bif (x==9) then (some (.inl true)) else (some (.inl (x==10)))))))):Option (Bool⊕_)).bind (zk fun s1=>bif s1 then (some (true,(4:Int),(5:Int),(5:Int),(0:Int),(0:Int))) else ((bif (x==11) then (some (.inl true)) else (bif (x==12) then (some (.inl true)) else (bif (x==13) then (some (.inl true)) else (some (.inl (x==14))))):Option (Bool⊕_)).bind (zk fun s2=>bif s2 then (some (true,(4:Int),(5:Int),(0:Int),(0:Int),(0:Int))) else (bif (x==15) then (some (true,(4:Int),(5:Int),(5:Int),(5:Int),(0:Int))) else (bif (x==16) then (some (true,(1:Int),(1:Int),(2:Int),(0:Int),(0:Int))) else (bif (x==17) then (some (true,(1:Int),(2:Int),(0:Int),(0:Int),(0:Int))) else (bif (x==18) then (some (true,(2:Int),(1:Int),(0:Int),(0:Int),(0:Int))) else ((bif (x==19) then (some (.inl true)) else (some (.inl (x==20))):Option (Bool⊕_)).bind (zk fun s3=>bif s3 then (some (true,(1:Int),(3:Int),(0:Int),(0:Int),(0:Int))) else ((bif (x==21) then (some (.inl true)) else (some (.inl (x==25))):Option (Bool⊕_)).bind (zk fun s4=>bif s4 then (some (true,(2:Int),(2:Int),(0:Int),(0:Int),(0:Int))) else ((bif (x==22) then (some (.inl true)) else (bif (x==23) then (some (.inl true)) else (bif (x==24) then (some (.inl true)) else (bif (x==27) then (some (.inl true)) else (some (.inl (x==28)))))):Option (Bool⊕_)).bind (zk fun s5=>bif s5 then (some (true,(2:Int),(2:Int),(2:Int),(0:Int),(0:Int))) else (bif (x==26) then (some (true,(2:Int),(2:Int),(2:Int),(2:Int),(0:Int))) else ((bif (x==29) then (some (.inl true)) else (some (.inl (x==30))):Option (Bool⊕_)).bind (zk fun s6=>bif s6 then (some (true,(3:Int),(0:Int),(0:Int),(0:Int),(2:Int))) else (bif (x==31) then (some (true,(0:Int),(3:Int),(0:Int),(0:Int),(2:Int))) else (bif (x==32) then (some (true,(8:Int),(0:Int),(0:Int),(0:Int),(3:Int))) else (bif (x==33) then (some (true,(0:Int),(8:Int),(0:Int),(0:Int),(3:Int))) else (bif (x==34) then (some (true,(0:Int),(2:Int),(0:Int),(0:Int),(0:Int))) else (bif (x==36) then (some (true,(0:Int),(0:Int),(0:Int),(0:Int),(4:Int))) else ((bif (x==35) then (some (.inl true)) else (some (.inl (x==37))):Option (Bool⊕_)).bind (zk fun s7=>bif s7 then (some (true,(0:Int),(0:Int),(0:Int),(0:Int),(0:Int))) else (some (false,(0:Int),(0:Int),(0:Int),(0:Int),(0:Int))))))))))))))))))))))))))))):=by kernel_rfl
def f53 (n:Nat) (x:Ybw):Option (Ybm):=(y2z n x).run
theorem y7v (n:Nat) (x:Ybw):f53 n x=(bif (decide (x.2.2.2.2.2.2.2<(0:Int))) then (some (.inl true)) else (some (.inl (decide (x.2.2.2.2.2.2.2≥(x.2.1.length:Int))))):Option (Bool⊕_)).bind (zk fun s1=>bif s1 then (some (false,x.1,x.2.1,x.2.2.1,x.2.2.2.1,x.2.2.2.2.1,x.2.2.2.2.2.1,x.2.2.2.2.2.2.1,(0:Int),(0:Int))) else ((idx x.2.1 x.2.2.2.2.2.2.2).bind fun y1=>some (true,x.1,x.2.1,x.2.2.1,x.2.2.2.1,x.2.2.2.2.1,x.2.2.2.2.2.1,x.2.2.2.2.2.2.1,y1.Kind_,y1.Param_))):=by kernel_rfl
def f54 (n:Nat) (x:Yca):Option Bool:=(y30 n x).run
theorem y7x (n:Nat) (x:Yca):f54 n x=bif (x.2.1==1) then (some (x.1.Kind_==1)) else (bif (x.2.1==2) then (some (x.1.Kind_==2)) else (bif (x.2.1==3) then (some (x.1.Kind_==3)) else (bif (x.2.1==4) then (some (x.1.Kind_ != (2:Int))) else (bif (x.2.1==5) then (bif (x.1.Kind_==1) then (some true) else (some (x.1.Kind_==x.2.2.Kind_ && (x.1.Param_==x.2.2.Param_ && true)))) else (bif (x.2.1==6) then (some (x.1.Kind_==x.2.2.Kind_ && (x.1.Param_==x.2.2.Param_ && true))) else (bif (x.2.1==7) then (bif (x.1.Kind_==x.2.2.Kind_ && (x.1.Param_==x.2.2.Param_ && true)) then (some true) else (bif (x.1.Kind_==1) then (some (x.2.2.Kind_==3)) else (some false))) else (some true))))))):=by kernel_rfl
def zdr (n:Nat) (x:Yaf) (v1:Ybd) (q1:Yau):Option (Bo (Yau) (Yau) (Ycb)):=(zwf n x v1 q1).run
def f35 (n:Nat) (x:Yaf):Option (Yap):=(y2a n x).run
end
end Loom
