/- What the functions that CodePrints reaches answer,and that they do (part 1 of 1). -/
import Derived.Test.YtoobnbnmmkkioaaLoomD
import Derived.Test.YtoobnbnmmkkioaaChecked
import Derived.KernelRfl
import Derived.WalkKit
import Derived.WalkSpells
import Derived.WalkLawsBesides
import Derived.Lib.Bytealg
import Derived.Defers
import Derived.Recover
set_option linter.unusedVariables false
set_option linter.unusedSimpArgs false
set_option linter.unusedSectionVars false
namespace Loom
open Go Go.RowKit
set_option maxRecDepth 100000
noncomputable abbrev P_:=Go.Proofs.Try.prog
abbrev I_ {E} (x:Int):TV E:=.sc (.int .i64 x)
abbrev B_ {E} (x:Bool):TV E:=.sc (.bool x)
structure Xa where
 Name_:ByteArray
 Kind_:Int
 Len_:Int
structure Xb where
 Kind_:Int
 Param_:Int
structure Xc where
 Type_:Xb
 Keep_:Bool
 Bits_:Int
 Int_:Int
structure Xd where
 Op_:Int
 D_:Int
 A_:Int
 B_:Int
 C_:Int
 N_:Int
 Bits_:Int
structure Xe where
 Sign_:(List Xa)
 Regs_:(List Xb)
 Slots_:(List Xc)
 List_:(List Xd)
def El_:Nat→Type
 | 0=>Int
 | 1=>Xa
 | 2=>Xb
 | 3=>Xc
 | 4=>Xd
 | 5=>Bool
 | 6=>Int
 | 7=>(List Int)
 | 8=>Addr
 | _+9=>Empty
def c0 (_:Bool) (x:Int):List AV:=[.sc (.int .u8 x)]
def d0 (_:Bool) (x:Int):List (TV El_):=[.sc (.int .u8 x)]
def c1 (_:Bool) (x:Xa):List AV:=[.sc (.string x.Name_),.sc (.int .i64 x.Kind_),.sc (.int .i64 x.Len_)]
def d1 (_:Bool) (x:Xa):List (TV El_):=[.sc (.string x.Name_),.sc (.int .i64 x.Kind_),.sc (.int .i64 x.Len_)]
def c2 (_:Bool) (x:Xb):List AV:=[.sc (.int .i64 x.Kind_),.sc (.int .i64 x.Param_)]
def d2 (_:Bool) (x:Xb):List (TV El_):=[.sc (.int .i64 x.Kind_),.sc (.int .i64 x.Param_)]
def c3 (_:Bool) (x:Xc):List AV:=[.sc (.int .i64 x.Type_.Kind_),.sc (.int .i64 x.Type_.Param_),.sc (.bool x.Keep_),.sc (.int .u32 x.Bits_),.sc (.int .i64 x.Int_)]
def d3 (_:Bool) (x:Xc):List (TV El_):=[.sc (.int .i64 x.Type_.Kind_),.sc (.int .i64 x.Type_.Param_),.sc (.bool x.Keep_),.sc (.int .u32 x.Bits_),.sc (.int .i64 x.Int_)]
def c4 (_:Bool) (x:Xd):List AV:=[.sc (.int .i64 x.Op_),.sc (.int .i64 x.D_),.sc (.int .i64 x.A_),.sc (.int .i64 x.B_),.sc (.int .i64 x.C_),.sc (.int .i64 x.N_),.sc (.int .u32 x.Bits_)]
def d4 (_:Bool) (x:Xd):List (TV El_):=[.sc (.int .i64 x.Op_),.sc (.int .i64 x.D_),.sc (.int .i64 x.A_),.sc (.int .i64 x.B_),.sc (.int .i64 x.C_),.sc (.int .i64 x.N_),.sc (.int .u32 x.Bits_)]
def c5 (_:Bool) (x:Bool):List AV:=[.sc (.bool x)]
def d5 (_:Bool) (x:Bool):List (TV El_):=[.sc (.bool x)]
def c6 (_:Bool) (x:Int):List AV:=[.sc (.int .i64 x)]
def d6 (_:Bool) (x:Int):List (TV El_):=[.sc (.int .i64 x)]
def c7:Bool→(List Int)→List AV
 | true,x=>[.ow 1 (x.map (c6 false))]
 | false,x=>[.im 1 (x.map (c6 false))]
def d7:Bool→(List Int)→List (TV El_)
 | true,x=>[.ow false 6 x]
 | false,x=>[.im 6 x]
def c8 (_:Bool) (x:Addr):List AV:=[.sc (.pointer (some x))]
def d8 (_:Bool) (x:Addr):List (TV El_):=[.sc (.pointer (some x))]
def ca_ (m:Bool):(t:Nat)→El_ t→List AV
 | 0=>c0 m
 | 1=>c1 m
 | 2=>c2 m
 | 3=>c3 m
 | 4=>c4 m
 | 5=>c5 m
 | 6=>c6 m
 | 7=>c7 m
 | 8=>c8 m
 | _+9=>fun _=>[]
def ct_ (m:Bool):(t:Nat)→El_ t→List (TV El_)
 | 0=>d0 m
 | 1=>d1 m
 | 2=>d2 m
 | 3=>d3 m
 | 4=>d4 m
 | 5=>d5 m
 | 6=>d6 m
 | 7=>d7 m
 | 8=>d8 m
 | _+9=>fun _=>[]
def sz_:Nat→Nat
 | 0=>1
 | 1=>3
 | 2=>2
 | 3=>5
 | 4=>7
 | 5=>1
 | 6=>1
 | 7=>1
 | 8=>1
 | _+9=>0
def ks_ (m:Bool):Nat→List Kd
 | 0=>[]
 | 1=>[]
 | 2=>[]
 | 3=>[]
 | 4=>[]
 | 5=>[]
 | 6=>[]
 | 7=>bif m then [.ow false 6] else [.im 6]
 | 8=>[]
 | _+9=>[]
abbrev T0_:TT0:=⟨El_,sz_,ca_⟩
def u0 (m:Bool):List (TV El_)→Option Int
 | [v0]=>((gI .u8 v0).bind fun a0=>some a0)
 | _=>none
def u1 (m:Bool):List (TV El_)→Option Xa
 | [v0,v1,v2]=>((gS v0).bind fun a0=>(gI .i64 v1).bind fun a1=>(gI .i64 v2).bind fun a2=>some ⟨a0,a1,a2⟩)
 | _=>none
def u2 (m:Bool):List (TV El_)→Option Xb
 | [v0,v1]=>((gI .i64 v0).bind fun a0=>(gI .i64 v1).bind fun a1=>some ⟨a0,a1⟩)
 | _=>none
def u3 (m:Bool):List (TV El_)→Option Xc
 | [v0,v1,v2,v3,v4]=>((gI .i64 v0).bind fun a0=>(gI .i64 v1).bind fun a1=>(gB v2).bind fun a2=>(gI .u32 v3).bind fun a3=>(gI .i64 v4).bind fun a4=>some ⟨⟨a0,a1⟩,a2,a3,a4⟩)
 | _=>none
def u4 (m:Bool):List (TV El_)→Option Xd
 | [v0,v1,v2,v3,v4,v5,v6]=>((gI .i64 v0).bind fun a0=>(gI .i64 v1).bind fun a1=>(gI .i64 v2).bind fun a2=>(gI .i64 v3).bind fun a3=>(gI .i64 v4).bind fun a4=>(gI .i64 v5).bind fun a5=>(gI .u32 v6).bind fun a6=>some ⟨a0,a1,a2,a3,a4,a5,a6⟩)
 | _=>none
def u5 (m:Bool):List (TV El_)→Option Bool
 | [v0]=>((gB v0).bind fun a0=>some a0)
 | _=>none
def u6 (m:Bool):List (TV El_)→Option Int
 | [v0]=>((gI .i64 v0).bind fun a0=>some a0)
 | _=>none
def u7 (m:Bool):List (TV El_)→Option (List Int)
 | [v0]=>bif m then ((gO false 6 v0).bind fun a0=>some a0) else ((gM 6 v0).bind fun a0=>some a0)
 | _=>none
def u8 (m:Bool):List (TV El_)→Option Addr
 | [v0]=>((gP v0).bind fun a0=>some a0)
 | _=>none
def un_ (m:Bool):(t:Nat)→List (TV El_)→Option (El_ t)
 | 0=>u0 m
 | 1=>u1 m
 | 2=>u2 m
 | 3=>u3 m
 | 4=>u4 m
 | 5=>u5 m
 | 6=>u6 m
 | 7=>u7 m
 | 8=>u8 m
 | _+9=>fun _=>none
theorem zu4 (m:Bool) (l:List (TV El_)) (x:Int) (h:u0 m l=some x):denL T0_ [] l=c0 m x:=by
 unfold u0 at h
 split at h
 ·skip
  obtain ⟨a0,h0,h⟩:=zj h
  cases h
  simp only [denL,z33 (T:=T0_) h0]
  rfl
 ·cases h
theorem zu5 (m:Bool) (l:List (TV El_)) (x:Xa) (h:u1 m l=some x):denL T0_ [] l=c1 m x:=by
 unfold u1 at h
 split at h
 ·skip
  obtain ⟨a0,h0,h⟩:=zj h
  obtain ⟨a1,h1,h⟩:=zj h
  obtain ⟨a2,h2,h⟩:=zj h
  cases h
  simp only [denL,zty (T:=T0_) h0,z33 (T:=T0_) h1,z33 (T:=T0_) h2]
  rfl
 ·cases h
theorem zu6 (m:Bool) (l:List (TV El_)) (x:Xb) (h:u2 m l=some x):denL T0_ [] l=c2 m x:=by
 unfold u2 at h
 split at h
 ·skip
  obtain ⟨a0,h0,h⟩:=zj h
  obtain ⟨a1,h1,h⟩:=zj h
  cases h
  simp only [denL,z33 (T:=T0_) h0,z33 (T:=T0_) h1]
  rfl
 ·cases h
theorem zu7 (m:Bool) (l:List (TV El_)) (x:Xc) (h:u3 m l=some x):denL T0_ [] l=c3 m x:=by
 unfold u3 at h
 split at h
 ·skip
  obtain ⟨a0,h0,h⟩:=zj h
  obtain ⟨a1,h1,h⟩:=zj h
  obtain ⟨a2,h2,h⟩:=zj h
  obtain ⟨a3,h3,h⟩:=zj h
  obtain ⟨a4,h4,h⟩:=zj h
  cases h
  simp only [denL,z33 (T:=T0_) h0,z33 (T:=T0_) h1,zoe (T:=T0_) h2,z33 (T:=T0_) h3,z33 (T:=T0_) h4]
  rfl
 ·cases h
theorem zu8 (m:Bool) (l:List (TV El_)) (x:Xd) (h:u4 m l=some x):denL T0_ [] l=c4 m x:=by
 unfold u4 at h
 split at h
 ·skip
  obtain ⟨a0,h0,h⟩:=zj h
  obtain ⟨a1,h1,h⟩:=zj h
  obtain ⟨a2,h2,h⟩:=zj h
  obtain ⟨a3,h3,h⟩:=zj h
  obtain ⟨a4,h4,h⟩:=zj h
  obtain ⟨a5,h5,h⟩:=zj h
  obtain ⟨a6,h6,h⟩:=zj h
  cases h
  simp only [denL,z33 (T:=T0_) h0,z33 (T:=T0_) h1,z33 (T:=T0_) h2,z33 (T:=T0_) h3,z33 (T:=T0_) h4,z33 (T:=T0_) h5,z33 (T:=T0_) h6]
  rfl
 ·cases h
theorem zu9 (m:Bool) (l:List (TV El_)) (x:Bool) (h:u5 m l=some x):denL T0_ [] l=c5 m x:=by
 unfold u5 at h
 split at h
 ·skip
  obtain ⟨a0,h0,h⟩:=zj h
  cases h
  simp only [denL,zoe (T:=T0_) h0]
  rfl
 ·cases h
theorem zua (m:Bool) (l:List (TV El_)) (x:Int) (h:u6 m l=some x):denL T0_ [] l=c6 m x:=by
 unfold u6 at h
 split at h
 ·skip
  obtain ⟨a0,h0,h⟩:=zj h
  cases h
  simp only [denL,z33 (T:=T0_) h0]
  rfl
 ·cases h
theorem zub (m:Bool) (l:List (TV El_)) (x:(List Int)) (h:u7 m l=some x):denL T0_ [] l=c7 m x:=by
 unfold u7 at h
 split at h
 ·cases m
  ·simp only [cond_false] at h
   obtain ⟨a0,h0,h⟩:=zj h
   cases h
   simp only [denL,ztv (T:=T0_) h0]
   rfl
  ·simp only [cond_true] at h
   obtain ⟨a0,h0,h⟩:=zj h
   cases h
   simp only [denL,ztw (T:=T0_) h0]
   rfl
 ·cases h
theorem zuc (m:Bool) (l:List (TV El_)) (x:Addr) (h:u8 m l=some x):denL T0_ [] l=c8 m x:=by
 unfold u8 at h
 split at h
 ·skip
  obtain ⟨a0,h0,h⟩:=zj h
  cases h
  simp only [denL,ztx (T:=T0_) h0]
  rfl
 ·cases h
theorem im7:∀ (m:Bool) (x:(List Int)),z4f (c7 m x)=c7 false x
 | true,x=>by simp only [c7,z4f,toIm,zao (o:=c6 false) (c:=c6 false) (fun _=>rfl)]
 | false,_=>rfl
theorem ow7 (x:(List Int)):z2n (c7 true x)=true:=by simp [c7,z2n,noIm,z80 (o:=c6 false) (fun _=>rfl)]
theorem zq3:∀ (m:Bool) (t:Nat) (x:El_ t),denL T0_ [] (ct_ m t x)=ca_ m t x
 | m,0,x=>rfl
 | m,1,x=>rfl
 | m,2,x=>rfl
 | m,3,x=>rfl
 | m,4,x=>rfl
 | m,5,x=>rfl
 | m,6,x=>rfl
 | m,7,x=>by cases m <;> rfl
 | m,8,x=>rfl
 | _,_+9,x=>rfl
theorem zq2:∀ (m:Bool) (t:Nat) (x:El_ t),inRL (T:=T0_) (ct_ m t x)=true
 | m,0,x=>rfl
 | m,1,x=>rfl
 | m,2,x=>rfl
 | m,3,x=>rfl
 | m,4,x=>rfl
 | m,5,x=>rfl
 | m,6,x=>rfl
 | m,7,x=>by cases m <;> rfl
 | m,8,x=>rfl
 | _,_+9,x=>rfl
theorem zs4:∀ (m:Bool) (t:Nat) (cs:List (TV El_)) (x:El_ t),un_ m t cs=some x→denL T0_ [] cs=ca_ m t x
 | m,0,cs,x=>zu4 m cs x
 | m,1,cs,x=>zu5 m cs x
 | m,2,cs,x=>zu6 m cs x
 | m,3,cs,x=>zu7 m cs x
 | m,4,cs,x=>zu8 m cs x
 | m,5,cs,x=>zu9 m cs x
 | m,6,cs,x=>zua m cs x
 | m,7,cs,x=>zub m cs x
 | m,8,cs,x=>zuc m cs x
 | _,_+9,_,x=>fun _=>nomatch x
theorem zrp:∀ (m:Bool) (t:Nat) (x:El_ t),z4f (ca_ m t x)=ca_ false t x
 | m,0,x=>rfl
 | m,1,x=>rfl
 | m,2,x=>rfl
 | m,3,x=>rfl
 | m,4,x=>rfl
 | m,5,x=>rfl
 | m,6,x=>rfl
 | m,7,x=>im7 m x
 | m,8,x=>rfl
 | _,_+9,x=>rfl
def po_:Nat→Bool
 | 0=>true
 | 1=>true
 | 2=>true
 | 3=>true
 | 4=>true
 | 5=>true
 | 6=>true
 | 7=>true
 | 8=>true
 | _+9=>true
theorem zrw:∀ (t:Nat) (x:El_ t),po_ t=true→z2n (ca_ true t x)=true
 | 0,x=>fun _=>rfl
 | 1,x=>fun _=>rfl
 | 2,x=>fun _=>rfl
 | 3,x=>fun _=>rfl
 | 4,x=>fun _=>rfl
 | 5,x=>fun _=>rfl
 | 6,x=>fun _=>rfl
 | 7,x=>fun _=>ow7 x
 | 8,x=>fun _=>rfl
 | _+9,x=>fun _=>rfl
def pl_:Nat→Bool
 | 0=>true
 | 1=>true
 | 2=>true
 | 3=>true
 | 4=>true
 | 5=>true
 | 6=>true
 | 7=>false
 | 8=>true
 | _+9=>true
theorem zrx:∀ (t:Nat) (x:El_ t),pl_ t=true→z2n (ca_ false t x)=true
 | 0,x=>fun _=>rfl
 | 1,x=>fun _=>rfl
 | 2,x=>fun _=>rfl
 | 3,x=>fun _=>rfl
 | 4,x=>fun _=>rfl
 | 5,x=>fun _=>rfl
 | 6,x=>fun _=>rfl
 | 7,x=>fun h=>nomatch h
 | 8,x=>fun _=>rfl
 | _+9,x=>fun _=>rfl
theorem zqe:∀ (t:Nat) (x:El_ t),(ca_ false t x).all zae=true
 | 0,x=>rfl
 | 1,x=>rfl
 | 2,x=>rfl
 | 3,x=>rfl
 | 4,x=>rfl
 | 5,x=>rfl
 | 6,x=>rfl
 | 7,x=>rfl
 | 8,x=>rfl
 | _+9,x=>rfl
theorem zru:∀ (m:Bool) (t:Nat) (x:El_ t),∀ a ∈ ca_ m t x,isZ a=false
 | m,0,x=>z4l rfl
 | m,1,x=>z4l rfl
 | m,2,x=>z4l rfl
 | m,3,x=>z4l rfl
 | m,4,x=>z4l rfl
 | m,5,x=>z4l rfl
 | m,6,x=>z4l rfl
 | m,7,x=>by cases m <;> exact z4l rfl
 | m,8,x=>z4l rfl
 | _,_+9,x=>z4l rfl
abbrev Ty_:TT where
 El:=El_
 sz:=sz_
 ca:=ca_
 ks:=ks_
 ct:=ct_
 un:=un_
 ct_ok:=zq3
 ct_in:=zq2
 un_ok:=zs4
 im_ok:=zrp
 po:=po_
 ow_ok:=zrw
 nz_ok:=zru
 fl_ok:=zqe
 pl:=pl_
 pl_ok:=zrx
 u8:=0
 bs:=fun l=>l
 bs_ok:=fun _=>rfl
 bs_sz:=rfl
 sb:=fun l=>l
 sb_ok:=fun _ _=>rfl
abbrev Yaa:=Int×Int
abbrev Yab:=Int×(List Int)
abbrev Yac:=Int×(List Xa)×(List Xb)×(List Xc)×(List Xd)
abbrev Yad:=ByteArray×Int
abbrev Yae:=(List Xa)×(List Xb)×(List Xc)×(List Xd)×(List Bool)×(List (List Int))×(List Int)×Xd
abbrev Yaf:=Int×ByteArray×Int
abbrev Yag:=Bool×(List Xa)×(List Xb)×(List Xc)×(List Xd)
abbrev Yah:=ByteArray×Int×Int×Int
abbrev Yai:=Int×Bool
abbrev Yaj:=Bool×(List Xa)×(List Xb)×(List Xc)×(List Xd)×(List Bool)×(List (List Int))×(List Int)
abbrev Yak:=Int×Int×Int
abbrev Yal:=ByteArray×Int×Int
abbrev Yam:=Xe×Xe
abbrev Yan:=Int×(List Xa)×(List Xb)×(List Xc)
abbrev Yao:=Int×ByteArray×Int×(List Xd)
abbrev Yap:=Int×Int×Int×Int×Int
abbrev Yaq:=Int×(List Xa)×(List Xb)×(List Xc)×(List Xd)×(List Bool)×(List (List Int))×(List Int)×Int×Int×Int×Int
abbrev Yar:=(List Xd)×Int×(List Xa)×(List Xb)×(List Xc)
abbrev Yas:=Int×(List Xa)×(List Xb)×(List Xc)×(List Xd)×(List Bool)×(List (List Int))×(List Int)
abbrev Yat:=Int×(List Xa)
abbrev Yau:=Int×ByteArray×Int×(List Xb)
abbrev Yav:=Int×(List Xa)×(List Xb)
abbrev Yaw:=Int×ByteArray×Int×(List Xc)
abbrev Yax:=(List Xb)×(List Xa)×(List Xb)×(List Xc)×(List Xd)
abbrev Yay:=(List Xc)×(List Xa)×(List Xb)×(List Xc)×(List Xd)
abbrev Yaz:=Bool×Int×Int×Int×Int×Int
abbrev Yba:=Bool×(List Xa)×(List Xb)×(List Xc)×(List Xd)×(List Bool)×(List (List Int))×(List Int)×Int×Int
abbrev Ybb:=Bool×Int
abbrev Ybc:=Int×(List Bool)
abbrev Ybd:=ByteArray×ByteArray×Int
abbrev Ybe:=Int×ByteArray×Int×(List Xa)
abbrev Ybf:=(List Nat)×Int×Int
abbrev Ybg:=Int×ByteArray×Int×Int×Int×Int×Int×Int×Int
abbrev Ybh:=(List Nat)×Int×Int×Int×Int×Int×Int×Int×Int
abbrev Ybi:=(List Int)×Int×ByteArray×Int
abbrev Ybj:=(List Int)×Int
abbrev Ybk:=(List Int)×Int×Int
abbrev Ybl:=Nat×Int×Int×Int×Int×Int×Int×Int
abbrev Ybm:=Int×Int×(List Xa)×(List Xb)×(List Xc)×(List Xd)
abbrev Ybn:=(List Xa)×(List Xb)×(List Xc)×(List Xd)×(List Bool)×(List (List Int))×(List Int)×Int
abbrev Ybo:=Bool×(List Xa)×(List Xb)×(List Xc)×(List Xd)×(List Bool)×(List (List Int))×(List Int)×Int×Int×Int×Int×Int×Int×Int
abbrev Ybp:=(List Xa)×(List Xb)×(List Xc)×(List Xd)×(List Bool)×(List (List Int))×(List Int)
abbrev Ybq:=(List (List Int))×(List Int)
abbrev Ybr:=Bool×(List (List Int))×(List Int)
abbrev Ybs:=Int×Int×Int×Bool×Int×Int
abbrev Ybt:=Int×Bool×ByteArray×Int
abbrev Ybu:=Int×Int×ByteArray×Int×(List Xb)
abbrev Ybv:=ByteArray×Int×Int×Int×Bool×Int×Int
abbrev Ybw:=ByteArray×Int×Int×Int×Int×Int×Int×Int×Int
abbrev Ybx:=ByteArray×Int×(List Xa)×(List Xb)×(List Xc)×(List Xd)
abbrev Yby:=(List Xa)×(List Xb)×(List Xc)×(List Xd)×Int×Int
abbrev Ybz:=Xb×(List Xa)×(List Xb)×(List Xc)×(List Xd)
abbrev Yca:=Xc×(List Xa)×(List Xb)×(List Xc)×(List Xd)
abbrev Ycb:=(List Nat)×Int×Int×Int×Int×Int×Int×Int
noncomputable def zfs (n:Nat):Cx P_ Ty_:=⟨[],[],[],[]⟩
abbrev zft:List (List Nat):=[[0],[0,3],[3,8,9,10],[3,8,9,10,11],[3,5,8,9,10],[3,8,9,10],[3,8,9,10,18],[3,8,9,10,18,19],[3,6,8,9,10,18],[3,6,8,9,10,18],[3,8,9,10,18,25],[3,8,9,10,18],[3,8,9,10,18],[3,8,9,10],[2]]
noncomputable def zhe (n:Nat) (x:ByteArray) (v1:Unit) (q1:Yaa) (v2:Unit) (q2:Yaa):Pt P_ Ty_ [] (Bo (Yaa) (Yaa) Empty):=.ite (decide (q2.2<(8:Int))) (.ite ((IntKind.u64.wrap (BitVec.ofInt IntKind.u64.bits q2.1 &&& BitVec.ofInt IntKind.u64.bits (1:Int)).toNat)==1) (.leaf (.go ((IntKind.u64.wrap (BitVec.ofInt IntKind.u64.bits (q2.1.fdiv (2 ^ min (1:Int).toNat IntKind.u64.bits)) ^^^ BitVec.ofInt IntKind.u64.bits (14514072000185962306:Int)).toNat),(IntKind.i64.wrap (q2.2+(1:Int)))))) (.leaf (.go ((q2.1.fdiv (2 ^ min (1:Int).toNat IntKind.u64.bits)),(IntKind.i64.wrap (q2.2+(1:Int))))))) (.leaf (.out (q2.1,q2.2)))
noncomputable def zhc (n:Nat) (x:ByteArray) (v1:Unit) (q1:Yaa) (v2:Unit):LCon P_ Ty_ []:=lcon (X:=Yaa) (Y:=Yaa) (Z:=Empty) (zfs n) (subC [1,1,0,1,0,0,1,1,0,0,1,1,1,0,0] (fnC P_ 15 zft)) (fun q2=>.no) 2 false ⟨[(3,.any),(8,.im 0),(9,.any),(10,.any),(18,.any)],[]⟩ ⟨[(3,.any),(8,.im 0),(9,.any),(10,.any),(18,.any),(19,.any)],[]⟩ ⟨[],[]⟩ (fun q2=>([(3,.sc (.int .u64 q2.1)),(8,.im 0 (bytesOf x)),(9,I_ ((bytesOf x).length:Int)),(10,I_ q1.2),(18,I_ q2.2)],[])) (fun p=>([(3,.sc (.int .u64 p.1)),(8,.im 0 (bytesOf x)),(9,I_ ((bytesOf x).length:Int)),(10,I_ q1.2),(18,I_ p.2),(19,B_ false)],[])) (fun p=>nomatch p) n (zhe n x v1 q1 v2)
noncomputable def zhd (n:Nat) (x:ByteArray) (v1:Unit) (q1:Yaa):Pt P_ Ty_ [] (Bo (Yaa) (Yaa) Empty):=.ite (decide (q1.2<((bytesOf x).length:Int))) (.bnd (idx (bytesOf x) q1.2) fun y1=>.loop (V:=Unit) (zhc n x v1 q1) () ((IntKind.u64.wrap (BitVec.ofInt IntKind.u64.bits q1.1 ^^^ BitVec.ofInt IntKind.u64.bits (IntKind.u64.wrap y1)).toNat),(0:Int)) fun (v2:Unit) (y2:Yaa)=>.leaf (.go (y2.1,(IntKind.i64.wrap (q1.2+(1:Int)))))) (.leaf (.out (q1.1,q1.2)))
noncomputable def zhb (n:Nat) (x:ByteArray) (v1:Unit):LCon P_ Ty_ []:=lcon (X:=Yaa) (Y:=Yaa) (Z:=Empty) (zfs n) (subC [1,1,0,1,0,0] (fnC P_ 15 zft)) (fun q1=>.two .no (.two .no (.two (.two (.two .no (.two .no (.two .no (.two (.loop Unit (zhc n x v1 q1) false ⟨[(3,.any),(8,.im 0),(9,.any),(10,.any),(18,.any)],[]⟩) .no)))) .no) .no))) 0 false ⟨[(3,.any),(8,.im 0),(9,.any),(10,.any)],[]⟩ ⟨[(3,.any),(8,.im 0),(9,.any),(10,.any),(11,.any)],[]⟩ ⟨[],[]⟩ (fun q1=>([(3,.sc (.int .u64 q1.1)),(8,.im 0 (bytesOf x)),(9,I_ ((bytesOf x).length:Int)),(10,I_ q1.2)],[])) (fun p=>([(3,.sc (.int .u64 p.1)),(8,.im 0 (bytesOf x)),(9,I_ ((bytesOf x).length:Int)),(10,I_ p.2),(11,B_ false)],[])) (fun p=>nomatch p) n (zhd n x v1)
noncomputable def zkh (n:Nat) (x:ByteArray):Pt P_ Ty_ [] Int:=.loop (V:=Unit) (zhb n x) () ((18446744073709551615:Int),(0:Int)) fun (v1:Unit) (y3:Yaa)=>.leaf (cmpl .u64 y3.1)
noncomputable def k199 (n:Nat):Con P_ Ty_:=z1f (X:=ByteArray) (R:=Int) (pro:=[]) (zfs n) 15 zft (fun x=>.two .no (.two .no (.two (.two .no (.two (.loop Unit (zhb n x) false ⟨[(3,.any),(8,.im 0),(9,.any),(10,.any)],[]⟩) .no)) .no))) [.any] [] [] ⟨[(2,.any)],[]⟩ [] true (fun x=>[.sc (.string x)]) (fun x=>[]) (fun y=>([(2,.sc (.int .u64 y))],[])) (fun y=>.sc (.int .u64 y)) (fun y=>[]) (zkh n)
noncomputable def zfq (n:Nat):Cx P_ Ty_:=⟨[],[],[],[]⟩
abbrev zfr:List (List Nat):=[[0],[0,3],[0,3,4],[0,3,4,10],[0,3,4],[0,3,4,5],[0,3,4,5,20],[0,3,4,5,6],[0,3,4,5,6],[0,3,4,5,28],[0,3,4,5],[0,3,4,5],[0,3,4],[2]]
noncomputable def zha (n:Nat) (x:ByteArray) (v1:Unit) (q1:Yaa) (v2:Unit) (q2:Yaa):Pt P_ Ty_ [] (Bo (Yaa) (Yaa) Empty):=.ite (decide (q2.2<(8:Int))) (.ite ((q2.1.tmod (2:Int))==1) (.leaf (.go ((IntKind.u64.wrap (BitVec.ofInt IntKind.u64.bits (q2.1.fdiv (2 ^ min (1:Int).toNat IntKind.u64.bits)) ^^^ BitVec.ofInt IntKind.u64.bits (14514072000185962306:Int)).toNat),(IntKind.i64.wrap (q2.2+(1:Int)))))) (.leaf (.go ((q2.1.fdiv (2 ^ min (1:Int).toNat IntKind.u64.bits)),(IntKind.i64.wrap (q2.2+(1:Int))))))) (.leaf (.out (q2.1,q2.2)))
noncomputable def zh8 (n:Nat) (x:ByteArray) (v1:Unit) (q1:Yaa) (v2:Unit):LCon P_ Ty_ []:=lcon (X:=Yaa) (Y:=Yaa) (Z:=Empty) (zfq n) (subC [1,1,0,1,0,0,1,0,0,1,1,0,0] (fnC P_ 16 zfr)) (fun q2=>.no) 2 false ⟨[(0,.any),(3,.any),(4,.any),(5,.any)],[]⟩ ⟨[(0,.any),(3,.any),(4,.any),(5,.any),(20,.any)],[]⟩ ⟨[],[]⟩ (fun q2=>([(0,.sc (.string x)),(3,.sc (.int .u64 q2.1)),(4,I_ q1.2),(5,I_ q2.2)],[])) (fun p=>([(0,.sc (.string x)),(3,.sc (.int .u64 p.1)),(4,I_ q1.2),(5,I_ p.2),(20,B_ false)],[])) (fun p=>nomatch p) n (zha n x v1 q1 v2)
noncomputable def zh9 (n:Nat) (x:ByteArray) (v1:Unit) (q1:Yaa):Pt P_ Ty_ [] (Bo (Yaa) (Yaa) Empty):=.ite (decide (q1.2<(x.size:Int))) (.need (0≤q1.2∧q1.2<(x.size:Int)) (.loop (V:=Unit) (zh8 n x v1 q1) () ((IntKind.u64.wrap (BitVec.ofInt IntKind.u64.bits q1.1 ^^^ BitVec.ofInt IntKind.u64.bits (IntKind.u64.wrap (z2l x q1.2))).toNat),(0:Int)) fun (v2:Unit) (y1:Yaa)=>.leaf (.go (y1.1,(IntKind.i64.wrap (q1.2+(1:Int))))))) (.leaf (.out (q1.1,q1.2)))
noncomputable def zh7 (n:Nat) (x:ByteArray) (v1:Unit):LCon P_ Ty_ []:=lcon (X:=Yaa) (Y:=Yaa) (Z:=Empty) (zfq n) (subC [1,1,0,1,0,0] (fnC P_ 16 zfr)) (fun q1=>.two .no (.two (.two (.two .no (.two .no (.two (.loop Unit (zh8 n x v1 q1) false ⟨[(0,.any),(3,.any),(4,.any),(5,.any)],[]⟩) .no))) .no) .no)) 0 false ⟨[(0,.any),(3,.any),(4,.any)],[]⟩ ⟨[(0,.any),(3,.any),(4,.any),(10,.any)],[]⟩ ⟨[],[]⟩ (fun q1=>([(0,.sc (.string x)),(3,.sc (.int .u64 q1.1)),(4,I_ q1.2)],[])) (fun p=>([(0,.sc (.string x)),(3,.sc (.int .u64 p.1)),(4,I_ p.2),(10,B_ false)],[])) (fun p=>nomatch p) n (zh9 n x v1)
noncomputable def zkg (n:Nat) (x:ByteArray):Pt P_ Ty_ [] Int:=.loop (V:=Unit) (zh7 n x) () ((18446744073709551615:Int),(0:Int)) fun (v1:Unit) (y2:Yaa)=>.leaf (cmpl .u64 y2.1)
noncomputable def k198 (n:Nat):Con P_ Ty_:=z1f (X:=ByteArray) (R:=Int) (pro:=[]) (zfq n) 16 zfr (fun x=>.two .no (.two .no (.two (.two .no (.two (.loop Unit (zh7 n x) false ⟨[(0,.any),(3,.any),(4,.any)],[]⟩) .no)) .no))) [.any] [] [] ⟨[(2,.any)],[]⟩ [] true (fun x=>[.sc (.string x)]) (fun x=>[]) (fun y=>([(2,.sc (.int .u64 y))],[])) (fun y=>.sc (.int .u64 y)) (fun y=>[]) (zkg n)
set_option maxHeartbeats 1000000 in
theorem zs7 (s:ByteArray) (c:Int) (w:World) :
  Calls Go.Proofs.Try.prog 94 #[.string s,.int .u8 c] w fun e w'=>e = .returned (.int .i64 (Lib.indexByte s.data.toList c.toNat.toUInt8))∧w'=w:=by
 go_enter Go.Proofs.Try.func94,Go.Proofs.Try.ntmps94
 go_wp2
 rw [run_callFunc_extern Go.Proofs.Try.func95 (by kernel_rfl) (by kernel_rfl) (by kernel_rfl) (e:=Extern.BytealgIndexByte.indexByte) (by kernel_rfl),Lib.run_indexByteString]
 simp only [Result.andThen]
 rw [Oper.upon_value]
 go_wp2
 go_ret
 exact ⟨rfl,rfl⟩
noncomputable def g71 (_:Nat) (a0:ByteArray) (a1:Int):Option Int:=some (Lib.indexByte a0.data.toList a1.toNat.toUInt8)
theorem zlt (n:Nat) (a0:ByteArray) (a1:Int) (r:Int) (hg:g71 n a0 a1=some r):z1j Go.Proofs.Try.prog 94 [St a0,.sc (.int .u8 a1)] [] (I64 r) []:=by
 obtain rfl:=Option.some.inj hg
 exact z1j.quiet (vs:=[.string a0,.int .u8 a1]) fun w=>zs7 a0 a1 w
noncomputable def k71 (n:Nat):Con Go.Proofs.Try.prog Ty_ where
 f:=94
 X:=ByteArray×Int
 Y:=Int
 A:=[.any,.any]
 H:=[]
 N:=[]
 encA:=fun x=>[.sc (.string x.1),.sc (.int .u8 x.2)]
 encH:=fun _=>[]
 G:=fun x=>g71 n x.1 x.2
 encR:=fun y=>.sc (.int .i64 y)
 encO:=fun _=>[]
 strong:=true
 ok:=fun x y h=>⟨fun _=>zlt n x.1 x.2 y h,z1j.toG (zlt n x.1 x.2 y h)⟩
noncomputable def ztr (n:Nat):Cx P_ Ty_:=⟨[k71 n],[],[],[]⟩
abbrev zts:List (List Nat):=[[0,1],[4]]
noncomputable def ztt (n:Nat) (x:Yad):Pt P_ Ty_ [] Int:=.call (k71 n) (x.1,x.2) fun (y1:Int)=>.leaf y1
noncomputable def k68 (n:Nat):Con P_ Ty_:=z1f (X:=Yad) (R:=Int) (pro:=[]) (ztr n) 93 zts (fun x=>.no) [.any,.any] [] [] ⟨[(4,.any)],[]⟩ [] true (fun x=>[.sc (.string x.1),.sc (.int .u8 x.2)]) (fun x=>[]) (fun y=>([(4,I_ y)],[])) (fun y=>I_ y) (fun y=>[]) (ztt n)
noncomputable def zob (n:Nat):Cx P_ Ty_:=⟨[k68 n],[],[],[]⟩
abbrev zoc:List (List Nat):=[[0],[0,11],[2],[13,14,15],[13,14,15,16],[4,13,14,15],[4,13,14,15,19],[4,13,14,15,19],[4,13,14,15,19],[13,14,15,19],[2],[13,14,15],[2]]
noncomputable def zlo (x:ByteArray) (p:Bool):EH Ty_:=([(0,.sc (.string x)),(11,B_ p)],[])
noncomputable def zlp (x:ByteArray) (v1:Unit) (q1:Int) (p:Yai):EH Ty_:=([(4,.sc (.int .u8 p.1)),(13,.im 0 (bytesOf x)),(14,I_ ((bytesOf x).length:Int)),(15,I_ q1),(19,B_ p.2)],[])
noncomputable def zlq (x:ByteArray) (v1:Unit) (q1:Int) (p:Yai):EH Ty_:=([(4,.sc (.int .u8 p.1)),(13,.im 0 (bytesOf x)),(14,I_ ((bytesOf x).length:Int)),(15,I_ q1),(19,B_ p.2)],[])
noncomputable def zlr (x:ByteArray) (v1:Unit) (q1:Int) (p:Yai):EH Ty_:=([(4,.sc (.int .u8 p.1)),(13,.im 0 (bytesOf x)),(14,I_ ((bytesOf x).length:Int)),(15,I_ q1),(19,B_ p.2)],[])
noncomputable def zls (x:ByteArray) (v1:Unit) (q1:Int) (p:Bool):EH Ty_:=([(13,.im 0 (bytesOf x)),(14,I_ ((bytesOf x).length:Int)),(15,I_ q1),(19,B_ p)],[])
noncomputable def zrn (n:Nat) (x:ByteArray) (v1:Unit) (q1:Int):Pt P_ Ty_ [] (Bo Int Int Unit):=.ite (decide (q1<((bytesOf x).length:Int))) (.bnd (idx (bytesOf x) q1) fun y1=>.join (S:=Bool) (zls x v1 q1) (.join (S:=Yai) (zlp x v1 q1) (.ite (decide (y1≥(65:Int))) (.leaf (.inl (y1,(decide (y1≤(90:Int)))))) (.leaf (.inl (y1,false)))) fun s2=>.ite s2.2 (.leaf (.inl true)) (.join (S:=Yai) (zlq x v1 q1) (.ite (decide (s2.1≥(97:Int))) (.leaf (.inl (s2.1,(decide (s2.1≤(122:Int)))))) (.leaf (.inl (s2.1,false)))) fun s3=>.ite s3.2 (.leaf (.inl true)) (.join (S:=Yai) (zlr x v1 q1) (.ite (decide (s3.1≥(48:Int))) (.leaf (.inl (s3.1,(decide (s3.1≤(57:Int)))))) (.leaf (.inl (s3.1,false)))) fun s4=>.ite s4.2 (.leaf (.inl true)) (.call (k68 n) ((⟨#[95,46,47,45]⟩:ByteArray),s4.1) fun (y2:Int)=>.leaf (.inl (decide (y2≥(0:Int)))))))) fun s5=>.ite s5 (.leaf (.go (IntKind.i64.wrap (q1+(1:Int))))) (.leaf (.ret ()))) (.leaf (.out q1))
noncomputable def zln (n:Nat) (x:ByteArray) (v1:Unit):LCon P_ Ty_ []:=lcon (X:=Int) (Y:=Int) (Z:=Unit) (zob n) (subC [1,1,0,1,0,0] (fnC P_ 89 zoc)) (fun q1=>.two .no (.two .no (.two (.two (.two .no (.two (.join Bool (zls x v1 q1) ⟨[(13,.im 0),(14,.any),(15,.any),(19,.any)],[]⟩ (.join (Yai) (zlp x v1 q1) ⟨[(4,.any),(13,.im 0),(14,.any),(15,.any),(19,.any)],[]⟩ .no (.two .no (.join (Yai) (zlq x v1 q1) ⟨[(4,.any),(13,.im 0),(14,.any),(15,.any),(19,.any)],[]⟩ .no (.two .no (.join (Yai) (zlr x v1 q1) ⟨[(4,.any),(13,.im 0),(14,.any),(15,.any),(19,.any)],[]⟩ .no .no))))) .no) .no)) .no) .no))) 0 true ⟨[(13,.im 0),(14,.any),(15,.any)],[]⟩ ⟨[(13,.im 0),(14,.any),(15,.any),(16,.any)],[]⟩ ⟨[(2,.any)],[]⟩ (fun q1=>([(13,.im 0 (bytesOf x)),(14,I_ ((bytesOf x).length:Int)),(15,I_ q1)],[])) (fun p=>([(13,.im 0 (bytesOf x)),(14,I_ ((bytesOf x).length:Int)),(15,I_ p),(16,B_ false)],[])) (fun p=>([(2,B_ false)],[])) n (zrn n x v1)
noncomputable def ztn (n:Nat) (x:ByteArray):Pt P_ Ty_ [] Bool:=.join (S:=Bool) (zlo x) (.ite (x==(⟨#[]⟩:ByteArray)) (.leaf (.inl true)) (.leaf (.inl (decide ((x.size:Int) > (64:Int)))))) fun s1=>.ite s1 (.leaf false) (.loopR (V:=Unit) (zln n x) () (0:Int) (fun (v1:Unit) (y3:Int)=>.leaf true) fun (v1:Unit) (z1:Unit)=>.leaf false)
noncomputable def k61 (n:Nat):Con P_ Ty_:=z1f (X:=ByteArray) (R:=Bool) (pro:=[]) (zob n) 89 zoc (fun x=>.two .no (.two (.join Bool (zlo x) ⟨[(0,.any),(11,.any)],[]⟩ .no .no) (.two (.two .no (.two (.loop Unit (zln n x) true ⟨[(13,.im 0),(14,.any),(15,.any)],[]⟩) .no)) .no))) [.any] [] [] ⟨[(2,.any)],[]⟩ [] true (fun x=>[.sc (.string x)]) (fun x=>[]) (fun y=>([(2,B_ y)],[])) (fun y=>B_ y) (fun y=>[]) (ztn n)
noncomputable def zt9 (n:Nat):Cx P_ Ty_:=⟨[k61 n],[],[],[]⟩
abbrev zta:List (List Nat):=[[1],[2]]
noncomputable def ztb (n:Nat) (x:Xa):Pt P_ Ty_ [] Bool:=.call (k61 n) x.Name_ fun (y1:Bool)=>.ite y1 (.ite (x.Kind_==1) (.ite (decide (x.Len_≥(1:Int))) (.leaf (decide (x.Len_≤(4096:Int)))) (.leaf false)) (.ite (x.Kind_==2) (.ite (decide (x.Len_≥(1:Int))) (.leaf (decide (x.Len_≤(4096:Int)))) (.leaf false)) (.leaf false))) (.leaf false)
noncomputable def k48 (n:Nat):Con P_ Ty_:=z1f (X:=Xa) (R:=Bool) (pro:=[]) (zt9 n) 71 zta (fun x=>.no) [.ag [.any,.any,.any]] [] [] ⟨[(2,.any)],[]⟩ [] true (fun x=>[.ag [.sc (.string x.Name_),I_ x.Kind_,I_ x.Len_]]) (fun x=>[]) (fun y=>([(2,B_ y)],[])) (fun y=>B_ y) (fun y=>[]) (ztb n)
noncomputable def zto (n:Nat):Cx P_ Ty_:=⟨[k48 n],[],[],[]⟩
abbrev ztp:List (List Nat):=[[1],[1,3],[2],[1,7],[2],[2]]
noncomputable def ztq (n:Nat) (x:Xa):Pt P_ Ty_ [] Int:=.call (k48 n) x fun (y1:Bool)=>.ite (!y1) (.leaf (0:Int)) (.ite (x.Kind_==2) (.leaf (IntKind.i64.wrap ((2:Int) * x.Len_))) (.leaf x.Len_))
noncomputable def k62 (n:Nat):Con P_ Ty_:=z1f (X:=Xa) (R:=Int) (pro:=[]) (zto n) 90 ztp (fun x=>.no) [.ag [.any,.any,.any]] [] [] ⟨[(2,.any)],[]⟩ [] true (fun x=>[.ag [.sc (.string x.Name_),I_ x.Kind_,I_ x.Len_]]) (fun x=>[]) (fun y=>([(2,I_ y)],[])) (fun y=>I_ y) (fun y=>[]) (ztq n)
noncomputable def zo4 (n:Nat):Cx P_ Ty_:=⟨[k62 n],[],[],[]⟩
abbrev zo5:List (List Nat):=[[0],[0,3],[3,6,7,8],[3,6,7,8,9],[3,5,6,7,8],[3,6,7,8],[3,6,7,8],[2]]
noncomputable def zrk (n:Nat) (x:(List Xa)) (v1:Unit) (q1:Yaa):Pt P_ Ty_ [] (Bo (Yaa) (Yaa) Empty):=.ite (decide (q1.2<(x.length:Int))) (.bnd (idx x q1.2) fun y1=>.call (k62 n) y1 fun (y2:Int)=>.leaf (.go ((IntKind.i64.wrap (q1.1+y2)),(IntKind.i64.wrap (q1.2+(1:Int)))))) (.leaf (.out (q1.1,q1.2)))
noncomputable def zlj (n:Nat) (x:(List Xa)) (v1:Unit):LCon P_ Ty_ []:=lcon (X:=Yaa) (Y:=Yaa) (Z:=Empty) (zo4 n) (subC [1,1,0,1,0,0] (fnC P_ 72 zo5)) (fun q1=>.no) 0 false ⟨[(3,.any),(6,.im 1),(7,.any),(8,.any)],[]⟩ ⟨[(3,.any),(6,.im 1),(7,.any),(8,.any),(9,.any)],[]⟩ ⟨[],[]⟩ (fun q1=>([(3,I_ q1.1),(6,.im 1 x),(7,I_ (x.length:Int)),(8,I_ q1.2)],[])) (fun p=>([(3,I_ p.1),(6,.im 1 x),(7,I_ (x.length:Int)),(8,I_ p.2),(9,B_ false)],[])) (fun p=>nomatch p) n (zrk n x v1)
noncomputable def ztc (n:Nat) (x:(List Xa)):Pt P_ Ty_ [] Int:=.loop (V:=Unit) (zlj n x) () ((0:Int),(0:Int)) fun (v1:Unit) (y3:Yaa)=>.leaf y3.1
noncomputable def k49 (n:Nat):Con P_ Ty_:=z1f (X:=(List Xa)) (R:=Int) (pro:=[]) (zo4 n) 72 zo5 (fun x=>.two .no (.two .no (.two (.two .no (.two (.loop Unit (zlj n x) false ⟨[(3,.any),(6,.im 1),(7,.any),(8,.any)],[]⟩) .no)) .no))) [.im 1] [] [] ⟨[(2,.any)],[]⟩ [] true (fun x=>[.im 1 x]) (fun x=>[]) (fun y=>([(2,I_ y)],[])) (fun y=>I_ y) (fun y=>[]) (ztc n)
noncomputable def zre (n:Nat) (a0:List Xa):Option Int:=(k49 n).G a0
noncomputable def zfu (n:Nat) (a0:Xa):Option Bool:=(k48 n).G a0
theorem zri (n:Nat) (p:Xa) (v:Bool) (hv:(k48 n).G p=some v):z1j Go.Proofs.Try.prog 71 [.ag [St p.Name_,I64 p.Kind_,I64 p.Len_]] [] (Bl v) []:=((k48 n).ok p v hv).1 rfl
theorem zrj (n:Nat) (p:List Xa) (v:Int) (hv:(k49 n).G p=some v):z1j Go.Proofs.Try.prog 72 [.im 3 (p.map (c1 false))] [] (I64 v) []:=((k49 n).ok p v hv).1 rfl
/-- sign.Check over the parameters: none: one may not be; else the names,each once. -/
noncomputable def zb1 (n:Nat):List Xa→List ByteArray→Option (Option (List ByteArray))
 | [],ks=>some (some ks)
 | p::l,ks=>(zfu n p).bind fun v=>bif v then zb1 n l (bif has p.Name_ ks then ks else ks++[p.Name_]) else some none
noncomputable def z7v (n:Nat) (a0:List Xa):Option (List ByteArray)→Option Int
 | none=>some 100
 | some ks=>bif decide ((ks.length:Int)<((a0.map (c1 false)).length:Int)) then some 101 else (zre n a0).bind fun v=>bif decide (v > 65536) then some 102 else some 0
noncomputable def g28 (n:Nat) (a0:List Xa):Option Int:=bif decide (((a0.map (c1 false)).length:Int) > 64) then some 2 else (zb1 n a0 []).bind (z7v n a0)

namespace F28
noncomputable abbrev P:Program:=Go.Proofs.Try.prog
noncomputable def b:Code:=(Go.Proofs.Try.f41.body).getD .skip
theorem body:Go.Proofs.Try.f41.body=some b:=by kernel_rfl
theorem e1:b = .seq (lf b) (.seq (lf (rt b)) (.seq (.region (rid (lf (rt (rt b)))) (rops (lf (rt (rt b)))) false) (.seq (lf (rt (rt (rt b)))) (rt (rt (rt (rt b))))))):=by kernel_rfl
noncomputable abbrev R3:Array Oper:=rops (lf (rt (rt b)))
noncomputable def z:Code:=lf (rt (rt (rt b)))
noncomputable def q:Code:=rt (rt (rt (rt b)))
noncomputable def l:Code:=lf (lf (rt z))
theorem e2:z = .seq (lf z) (.block 0 (.loop l)):=by kernel_rfl
theorem e3:l = .seq (lf l) (.seq (.cond (.tmp 13) .skip (.exit 0)) (.seq (.block 1 (.seq (lf (lf (lf (rt (rt l))))) (.seq (lf (rt (lf (lf (rt (rt l)))))) (.region (rid (rt (rt (lf (lf (rt (rt l))))))) (rops (rt (rt (lf (lf (rt (rt l))))))) false)))) (rt (rt (rt l))))):=by kernel_rfl
noncomputable abbrev R9:Array Oper:=rops (rt (rt (lf (lf (rt (rt l))))))
theorem e4:q = .seq (.block 2 (.seq (.region (rid (lf (lf (lf q)))) (rops (lf (lf (lf q)))) false) (rt (lf (lf q))))) (rt q):=by kernel_rfl
noncomputable abbrev R11:Array Oper:=rops (lf (lf (lf q)))
end F28
namespace F28
abbrev xs (a0:List Xa):Els:=a0.map (c1 false)
abbrev mp (b:Nat):AV:=.sc (.map (some b))
/-- The slots at the loop's head. -/
abbrev EL (a0:List Xa) (b:Nat) (i:Int):Env:=zu [(0,.im 3 (xs a0)),(3,mp b),(10,.im 3 (xs a0)),(11,I64 ((xs a0).length:Int)),(12,I64 i)]
abbrev EL' (a0:List Xa) (b:Nat) (i:Int):Env:=zu [(0,.im 3 (xs a0)),(3,mp b),(10,.im 3 (xs a0)),(11,I64 ((xs a0).length:Int)),(12,I64 i),(13,Bl (decide (i<((xs a0).length:Int))))]
theorem ut:P.underlying 138=some (.map 9 3):=by kernel_rfl
theorem uk:P.underlying 9=some .string:=by kernel_rfl
theorem uz (w:World):(zeroValue 3).run P w = .ok (.int .i64 0) w:=by kernel_rfl

theorem zsd {w0 w:World} {a:Act} {a0:List Xa} {bm:Nat} {ks:List ByteArray} {i:Int} {p:Xa} {Q:Exit→Act→World→Prop}
  (n:Now 35 w0 (some (bm,ks)) (zu [(0,.im 3 (xs a0)),(3,mp bm),(5,.pt 5 [] 0 0),(10,.im 3 (xs a0)),(11,I64 ((xs a0).length:Int)),(12,I64 i),(18,Bl false)]) [(5,⟨3,[[St p.Name_,I64 p.Kind_,I64 p.Len_]]⟩)] a w)
  (hK:∀ a' w',Now 35 w0 (some (bm,bif has p.Name_ ks then ks else ks++[p.Name_])) (EL a0 bm i) [] a' w'→Q .normal a' w') :
  (Code.region (rid (rt (rt (lf (lf (rt (rt l))))))) R9 false).wp P Q a w:=by
 refine wp_region ?_
 have hr:List.range R9.size=[0,1,2,3,4,5]:=by kernel_rfl
 rw [hr]
 refine n.rda (d:=19) (b:=.mov (.tmp 3)) (mp bm) (by kernel_rfl) (by kernel_rfl) fun a w n=>?_
 refine n.rda (d:=20) (b:=.fad 0 (.tmp 5)) (.pt 5 [] 0 0) (by kernel_rfl) (by kernel_rfl) fun a w n=>?_
 refine n.rda (d:=21) (b:=.load false 1 (.tmp 20)) (St p.Name_) (by kernel_rfl) (by kernel_rfl) fun a w n=>?_
 obtain ⟨o,ho,hg,hd,hop⟩:=zde (ops:=R9) (i:=3) (g:=none) (d:=some 22) (op:=.lookup 138 (.tmp 19) (.tmp 21) false) (by kernel_rfl)
 obtain ⟨c,hc⟩:=(n.km bm ks rfl).1.lookup (P:=P) ut uk (uz w) p.Name_
 have hm:a.eval (.tmp 19) = .map (some bm):=n.eval rfl
 have hk:a.eval (.tmp 21) = .string p.Name_:=n.eval rfl
 refine n.val (v:=.int .i64 c) ho hg hd (by decide) (by simp only [execOp,hop,hm,hk,Sem.run_bind,hc,Result.andThen]; rfl) fun a n=>?_
 refine n.rda (d:=23) (b:=.bin .add (.tmp 22) (.const (.int .i64 1))) (I64 (IntKind.i64.wrap (c+1))) (by kernel_rfl) (by kernel_rfl) fun a w n=>?_
 obtain ⟨o,ho,hg,hd,hop⟩:=zde (ops:=R9) (i:=5) (g:=none) (d:=none) (op:=.mapUpdate 138 (.tmp 19) (.tmp 21) (.tmp 23)) (by kernel_rfl)
 refine n.upd ho hg hd hop ut uk rfl rfl rfl fun a w n=>?_
 exact hK _ _ (n.gh (zb.norm (P:=P) (bm:=[]) (S:=[0,3,10,11,12]) (by kernel_rfl)))

theorem loop {n:Nat} {w0:World} {a0:List Xa} {bm:Nat} {r:Int} {Q:Exit→Act→World→Prop} (he:∀ ks a w,z7v n a0 (some ks)=some r→Now 35 w0 (some (bm,ks)) (EL' a0 bm a0.length) [] a w→Q (.exit 0) a w)
  (hr:∀ m e' h' a' w',z2z e' h' [.t 2]=some (I64 r)→Now 35 w0 m e' h' a' w'→Q .ret a' w'):∀ (rest pre:List Xa) (ks:List ByteArray) (a:Act) (w:World),a0=pre++rest→a0.length≤64→(zb1 n rest ks).bind (z7v n a0)=some r →
  Now 35 w0 (some (bm,ks)) (EL a0 bm pre.length) [] a w→z2q P F28.l Q a w:=by
 intro rest
 induction rest with
 | nil =>
  intro pre ks a w hp hlen hg nw
  refine z2q.step (Eq.mpr (congrArg (fun X:Code=>X.wp P (Exit.then (z2q P F28.l Q) Q) a w) e3) ?_)
  focus
   refine wp_seq (nw.ex (c:=.reg [0,3,10,11,12,13] [⟨13,none,.rd (.bin .lss (.tmp 12) (.tmp 11))⟩]) (R:=fun o e h=>o = .normal∧e=EL' a0 bm pre.length∧h=[]) ⟨[[0,3,10,11,12,13]],[],by kernel_rfl⟩ (W.regG (RG.fin 1 [] _ [] (by kernel_rfl) ⟨rfl,rfl,rfl⟩)) ?_)
   rintro o e h a w ⟨rfl,rfl,rfl⟩ nw
   refine wp_seq (wp_cond (t:=false) ?_ (wp_exit ?_))
   ·rw [nw.eval (v:=.bool (decide ((pre.length:Int)<((xs a0).length:Int)))) rfl]
    simp [xs,hp]
   ·refine he ks a w ?_ ?_
    ·simpa [zb1] using hg
    ·have:pre.length=a0.length:=by simp [hp]
     rw [← this]; exact nw
 | cons p rest ih =>
  intro pre ks a w hp hlen hg nw
  have hi:idx a0 (pre.length:Int)=some p:=by
   simp [idx,hp]
  have hl:pre.length<a0.length:=by simp [hp]
  refine z2q.step (Eq.mpr (congrArg (fun X:Code=>X.wp P (Exit.then (z2q P F28.l Q) Q) a w) e3) ?_)
  focus
   refine wp_seq (nw.ex (c:=.reg [0,3,10,11,12,13] [⟨13,none,.rd (.bin .lss (.tmp 12) (.tmp 11))⟩]) (R:=fun o e h=>o = .normal∧e=EL' a0 bm pre.length∧h=[]) ⟨[[0,3,10,11,12,13]],[],by kernel_rfl⟩ (W.regG (RG.fin 1 [] _ [] (by kernel_rfl) ⟨rfl,rfl,rfl⟩)) ?_)
   rintro o e h a w ⟨rfl,rfl,rfl⟩ nw
   refine wp_seq (wp_cond (t:=true) ?_ (wp_skip ?_))
   ·rw [nw.eval (v:=.bool (decide ((pre.length:Int)<((xs a0).length:Int)))) rfl]
    simp [xs,hp]
    omega
   show (Code.seq _ _).wp _ _ _ _
   refine wp_seq (wp_block (wp_seq (nw.ex (c:=.reg [0,3,5,10,11,12] [⟨14,none,.rd (.iad 3 (.tmp 10) (.tmp 12))⟩,⟨15,none,.rd (.load true 3 (.tmp 14))⟩,⟨5,none,.mk (.box 3 (.const (.agg #[(.string ⟨#[]⟩),(.int .i64 (0)),(.int .i64 (0))])))⟩,⟨35,none,.st 3 (.tmp 5) (.tmp 15)⟩])
    (R:=fun o e h=>o = .normal∧e=zu [(0,.im 3 (xs a0)),(3,mp bm),(5,.pt 5 [] 0 0),(10,.im 3 (xs a0)),(11,I64 ((xs a0).length:Int)),(12,I64 pre.length)]∧h=[(5,⟨3,[[St p.Name_,I64 p.Kind_,I64 p.Len_]]⟩)])
    ⟨[[0,3,5,10,11,12]],[],by kernel_rfl⟩ (W.regG ?_) ?_)))
   ·refine RG.iadIm (R:=Xa) (r:=p) (E:=some) (c:=(c1 false)) (xs:=a0) (i:=pre.length) (k:=.i64) (by kernel_rfl) (by kernel_rfl) (by kernel_rfl) (by rw [hi]; rfl) (fun y2 _ hg=>?_)
    cases hg
    exact RG.fin 3 [(5,5)] _ _ (by kernel_rfl) ⟨rfl,rfl,rfl⟩
   rintro o e h a w ⟨rfl,rfl,rfl⟩ nw
   obtain ⟨v,hv,hg⟩:=Option.bind_eq_some_iff.1 (show ((zfu n p).bind fun v=>(bif v then zb1 n rest (bif has p.Name_ ks then ks else ks++[p.Name_]) else some none).bind (z7v n a0))=some r by rw [← Option.bind_assoc]; exact hg)
   show (Code.seq _ _).wp _ _ _ _
   refine wp_seq (nw.ex (c:=.seq (.reg [0,3,5,10,11,12,18] [⟨16,none,.rd (.load true 3 (.tmp 5))⟩,⟨17,none,.call 71 [(.tmp 16)]⟩,⟨18,none,.rd (.un1 .not (.tmp 17))⟩]) (.cond (.tmp 18) (.seq (.reg [2] [⟨2,none,.rd (.mov (.const (.int .i64 100)))⟩]) .ret) .skip))
    (R:=fun o e h=>(o = .ret∧v=false∧e=zu [(2,I64 100)])∨(o = .normal∧v=true∧e=zu [(0,.im 3 (xs a0)),(3,mp bm),(5,.pt 5 [] 0 0),(10,.im 3 (xs a0)),(11,I64 ((xs a0).length:Int)),(12,I64 pre.length),(18,Bl false)]∧h=[(5,⟨3,[[St p.Name_,I64 p.Kind_,I64 p.Len_]]⟩)]))
    ⟨[[0,3,5,10,11,12,18],[2]],[],by kernel_rfl⟩ ?_ ?_)
   ·refine W.seq (W.regG ?_)
    refine RG.cut 1 [(5,5)] [0,3,5,10,11,12,16] (zu [(0,.im 3 (xs a0)),(3,mp bm),(5,.pt 5 [] 0 0),(10,.im 3 (xs a0)),(11,I64 ((xs a0).length:Int)),(12,I64 pre.length),(16,.ag [St p.Name_,I64 p.Kind_,I64 p.Len_])]) [(5,⟨3,[[St p.Name_,I64 p.Kind_,I64 p.Len_]]⟩)] (by kernel_rfl) ?_
    refine RG.callP (R:=Bool) (r:=v) (E:=some) [] [(5,5)] [0,3,5,10,11,12,17] false [.ag [St p.Name_,I64 p.Kind_,I64 p.Len_]] (fun v2=>Bl v2) (fun v2=>[]) (fun v2=>zu [(0,.im 3 (xs a0)),(3,mp bm),(5,.pt 5 [] 0 0),(10,.im 3 (xs a0)),(11,I64 ((xs a0).length:Int)),(12,I64 pre.length),(17,Bl v2)]) (fun v2=>[(5,⟨3,[[St p.Name_,I64 p.Kind_,I64 p.Len_]]⟩)]) (by kernel_rfl) (gv:=zfu n p) (by rw [hv]; rfl) (by kernel_rfl) (fun v2 hv=>z1j.toG (zri n p v2 hv)) (by kernel_rfl) (fun v2=>by kernel_rfl) (fun h=>by cases h) (fun v2 hv' hg'=>?_)
    cases hg'
    refine RG.fin 1 [(5,5)] (zu [(0,.im 3 (xs a0)),(3,mp bm),(5,.pt 5 [] 0 0),(10,.im 3 (xs a0)),(11,I64 ((xs a0).length:Int)),(12,I64 pre.length),(18,Bl (!v))]) [(5,⟨3,[[St p.Name_,I64 p.Kind_,I64 p.Len_]]⟩)] (by kernel_rfl) ?_
    cases v with
    | true=>exact W.condF (by kernel_rfl) (W.skip (.inr ⟨rfl,rfl,rfl,rfl⟩))
    | false=>exact W.condT (by kernel_rfl) (W.seq (W.regG (RG.fin 1 [] (zu [(2,I64 100)]) [] (by kernel_rfl) (W.ret (.inl ⟨rfl,rfl,rfl⟩)))))
   rintro o e h a w (⟨rfl,rfl,rfl⟩ | ⟨rfl,rfl,rfl,rfl⟩) nw
   ·simp only [z7v,cond_false,Option.bind_some,Option.some.injEq] at hg
    subst hg
    exact hr _ _ _ _ _ rfl nw
   ·refine zsd nw fun a w nw=>?_
    refine nw.ex (c:=.reg [0,3,10,11,12] [⟨24,none,.rd (.bin .add (.tmp 12) (.const (.int .i64 1)))⟩,⟨12,none,.rd (.mov (.tmp 24))⟩]) (R:=fun o e h=>o = .normal∧e=EL a0 bm (IntKind.i64.wrap (pre.length+1))∧h=[]) ⟨[[0,3,10,11,12]],[],by kernel_rfl⟩ (W.regG (RG.fin 2 [] _ [] (by kernel_rfl) ⟨rfl,rfl,rfl⟩)) ?_
    rintro o e h a w ⟨rfl,rfl,rfl⟩ nw
    have hw:IntKind.i64.wrap ((pre.length:Int)+1)=((pre++[p]).length:Int):=by
     have:(pre.length:Int)<64:=by omega
     simp only [List.length_append,List.length_singleton]
     rw [zor (by omega) (by omega)]
     simp
    rw [hw] at nw
    exact ih (pre++[p]) _ a w (by simp [hp]) hlen hg nw

theorem tail {n:Nat} {w0 w:World} {a:Act} {a0:List Xa} {bm:Nat} {ks:List ByteArray} {r:Int} {Q:Exit→Act→World→Prop} (hg:z7v n a0 (some ks)=some r) (nw:Now 35 w0 (some (bm,ks)) (EL' a0 bm a0.length) [] a w)
  (hr:∀ m e' h' a' w',z2z e' h' [.t 2]=some (I64 r)→Now 35 w0 m e' h' a' w'→Q .ret a' w'):q.wp P Q a w:=by
 rw [e4]
 refine wp_seq (wp_block (wp_seq (wp_region ?_)))
 have h11:List.range (rops (lf (lf (lf q)))).size=[0,1,2,3,4,5]:=by kernel_rfl
 rw [h11]
 refine nw.rda (d:=26) (b:=.mov (.tmp 3)) (mp bm) (by kernel_rfl) (by kernel_rfl) fun a w nw=>?_
 obtain ⟨o,ho,hgd,hd,hop⟩:=zde (ops:=R11) (i:=1) (g:=none) (d:=some 27) (op:=.call { callee:=.builtin .len,args:=#[.tmp 26],argTypes:=#[138] }) (by kernel_rfl)
 have hm:a.eval (.tmp 26) = .map (some bm):=nw.eval rfl
 have hc:=(nw.km bm ks rfl).1.len (P:=P) ut o.type
 refine nw.val (v:=.int .i64 ks.length) ho hgd hd (by decide) (by simp [execOp,hop,resolve,invoke,builtin,hm,hc,Result.andThen]) fun a nw=>?_
 refine nw.rda (d:=28) (b:=.mov (.tmp 0)) (.im 3 (xs a0)) (by kernel_rfl) (by kernel_rfl) fun a w nw=>?_
 refine nw.rda (d:=29) (b:=.len (.tmp 28)) (I64 ((xs a0).length:Int)) (by kernel_rfl) (by kernel_rfl) fun a w nw=>?_
 refine nw.rda (d:=30) (b:=.bin .lss (.tmp 27) (.tmp 29)) (Bl (decide ((ks.length:Int)<((xs a0).length:Int)))) (by kernel_rfl) (by kernel_rfl) fun a w nw=>?_
 refine nw.rda (d:=25) (b:=.mov (.tmp 30)) (Bl (decide ((ks.length:Int)<((xs a0).length:Int)))) (by kernel_rfl) (by kernel_rfl) fun a w nw=>?_
 have nw:=nw.gh (zb.norm (P:=P) (bm:=[]) (S:=[0,25]) (e1:=zu [(0,.im 3 (xs a0)),(25,Bl (decide ((ks.length:Int)<((xs a0).length:Int))))]) (h1:=[]) (by kernel_rfl))
 refine nw.ex (c:=.cond (.tmp 25) (.seq (.reg [2] [⟨2,none,.rd (.mov (.const (.int .i64 101)))⟩]) .ret)
   (.seq (.reg [31] [⟨32,none,.rd (.mov (.tmp 0))⟩,⟨33,none,.call 72 [(.tmp 32)]⟩,⟨34,none,.rd (.bin .gtr (.tmp 33) (.const (.int .i64 65536)))⟩,⟨31,none,.rd (.mov (.tmp 34))⟩]) (.cond (.tmp 31) (.seq (.reg [2] [⟨2,none,.rd (.mov (.const (.int .i64 102)))⟩]) .ret) .skip)))
  (R:=fun o e h=>(o = .ret∧e=zu [(2,I64 r)])∨(o = .normal∧r=0∧h=[]))
  ⟨[[2],[31],[2]],[],by kernel_rfl⟩ ?_ ?_
 ·unfold z7v at hg
  refine W.condB (by kernel_rfl) hg (fun hg=>?_) (fun hg=>?_)
  ·obtain rfl:=Option.some.inj hg
   exact W.seq (W.regG (RG.fin 1 [] (zu [(2,I64 101)]) [] (by kernel_rfl) (W.ret (.inl ⟨rfl,rfl⟩))))
  ·refine W.seq (W.regG ?_)
   refine RG.cut 1 [] [32] (zu [(32,.im 3 (xs a0))]) [] (by kernel_rfl) ?_
   refine RG.callP [] [] [33] false [.im 3 (xs a0)] (fun v2=>I64 v2) (fun v2=>[]) (fun v2=>zu [(33,I64 v2)]) (fun v2=>[]) (by kernel_rfl) hg (by kernel_rfl) (fun v2 hv=>z1j.toG (zrj n a0 v2 hv)) (by kernel_rfl) (fun v2=>by kernel_rfl) (fun h=>by cases h) (fun v2 hv hg=>?_)
   refine RG.fin 2 [] (zu [(31,Bl (decide (v2 > 65536)))]) [] (by kernel_rfl) ?_
   refine W.condB (by kernel_rfl) hg (fun hg=>?_) (fun hg=>?_)
   ·obtain rfl:=Option.some.inj hg
    exact W.seq (W.regG (RG.fin 1 [] (zu [(2,I64 102)]) [] (by kernel_rfl) (W.ret (.inl ⟨rfl,rfl⟩))))
   ·obtain rfl:=Option.some.inj hg
    exact W.skip (.inr ⟨rfl,rfl,rfl⟩)
 rintro o e h a w (⟨rfl,rfl⟩ | ⟨rfl,rfl,rfl⟩) nw
 ·exact hr _ _ _ _ _ rfl nw
 ·refine nw.ex (c:=.seq (.reg [2] [⟨2,none,.rd (.mov (.const (.int .i64 0)))⟩]) .ret) (R:=fun o e h=>o = .ret∧e=zu [(2,I64 0)]) ⟨[[2]],[],by kernel_rfl⟩ (W.seq (W.regG (RG.fin 1 [] (zu [(2,I64 0)]) [] (by kernel_rfl) (W.ret ⟨rfl,rfl⟩)))) ?_
  rintro o e h a w ⟨rfl,rfl⟩ nw
  exact hr _ _ _ _ _ rfl nw
end F28
open F28 in
theorem zl4 (n:Nat) (a0:List Xa) (r:Int) (hg:g28 n a0=some r):z1j Go.Proofs.Try.prog 41 [.im 3 (a0.map (c1 false))] [] (I64 r) []:=by
 refine Now.call (P:=P) (N:=35) (fn:=Go.Proofs.Try.f41) (ts:=[.t 2]) (by kernel_rfl) F28.body (by kernel_rfl) (by kernel_rfl) fun a w0 Q nw hr=>?_
 rw [e1]
 refine wp_seq (nw.ex (c:=.reg [0] [⟨2,none,.rd (.mov (.const (.int .i64 0)))⟩]) (R:=fun o e h=>o = .normal∧e=zu [(0,.im 3 (xs a0))]∧h=[]) ⟨[[0]],[],by kernel_rfl⟩ (W.regG (RG.fin 1 [] _ [] (by kernel_rfl) ⟨rfl,rfl,rfl⟩)) ?_)
 rintro o e h a w ⟨rfl,rfl,rfl⟩ nw
 show (Code.seq _ _).wp _ _ _ _
 unfold g28 at hg
 refine wp_seq (nw.ex (c:=.seq (.reg [0,8] [⟨6,none,.rd (.mov (.tmp 0))⟩,⟨7,none,.rd (.len (.tmp 6))⟩,⟨8,none,.rd (.bin .gtr (.tmp 7) (.const (.int .i64 64)))⟩]) (.cond (.tmp 8) (.seq (.reg [2] [⟨2,none,.rd (.mov (.const (.int .i64 2)))⟩]) .ret) .skip))
  (R:=fun o e h=>(o = .ret∧e=zu [(2,I64 r)])∨(o = .normal∧a0.length≤64∧(zb1 n a0 []).bind (z7v n a0)=some r∧e=zu [(0,.im 3 (xs a0)),(8,Bl (decide (((xs a0).length:Int) > 64)))]∧h=[])) ⟨[[0,8],[2]],[],by kernel_rfl⟩ ?_ ?_)
 ·refine W.seq (W.regG (RG.fin 3 [] (zu [(0,.im 3 (xs a0)),(8,Bl (decide (((xs a0).length:Int) > 64)))]) [] (by kernel_rfl) ?_))
  cases hd:decide (((xs a0).length:Int) > 64) with
  | true =>
   rw [hd] at hg
   obtain rfl:=Option.some.inj hg
   exact W.condT (by kernel_rfl) (W.seq (W.regG (RG.fin 1 [] (zu [(2,I64 2)]) [] (by kernel_rfl) (W.ret (.inl ⟨rfl,rfl⟩)))))
  | false =>
   rw [hd] at hg
   refine W.condF (by kernel_rfl) (W.skip (.inr ⟨rfl,?_,hg,rfl,rfl⟩))
   simp [xs] at hd
   omega
 rintro o e h a w (⟨rfl,rfl⟩ | ⟨rfl,hlen,hg,rfl,rfl⟩) nw
 ·exact hr _ _ _ _ _ rfl nw
 show (Code.seq _ _).wp _ _ _ _
 refine wp_seq (wp_region ?_)
 have h3:List.range (rops (lf (rt (rt b)))).size=[0,1]:=by kernel_rfl
 rw [h3]
 obtain ⟨o,ho,hgd,hd,hop⟩:=zde (ops:=R3) (i:=0) (g:=none) (d:=some 9) (op:=.makeMap 138 none) (by kernel_rfl)
 refine nw.make ho hgd hd (by decide) hop fun bm a w nw=>?_
 refine nw.rda (d:=3) (b:=.mov (.tmp 9)) (mp bm) (by kernel_rfl) (by kernel_rfl) fun a w nw=>?_
 have nw:=nw.gh (zb.norm (P:=P) (bm:=[]) (S:=[0,3]) (e1:=zu [(0,.im 3 (xs a0)),(3,mp bm)]) (h1:=[]) (by kernel_rfl))
 show (Code.seq z q).wp _ _ _ _
 refine wp_seq ?_
 rw [e2]
 refine wp_seq (nw.ex (c:=.reg [0,3,10,11,12] [⟨10,none,.rd (.mov (.tmp 0))⟩,⟨11,none,.rd (.len (.tmp 10))⟩,⟨12,none,.rd (.mov (.const (.int .i64 0)))⟩]) (R:=fun o e h=>o = .normal∧e=EL a0 bm 0∧h=[]) ⟨[[0,3,10,11,12]],[],by kernel_rfl⟩ (W.regG (RG.fin 3 [] _ [] (by kernel_rfl) ⟨rfl,rfl,rfl⟩)) ?_)
 rintro o e h a w ⟨rfl,rfl,rfl⟩ nw
 refine wp_block (z2q.wp (loop (n:=n) (Q:=Exit.inBlock 0 (Exit.then (q.wp P Q) Q)) (w0:=w0) (a0:=a0) (bm:=bm) (r:=r) (fun ks a w hg nw=>?_) (fun m e h a w hv nw=>hr m e h a w hv nw) a0 [] [] a w rfl hlen hg nw))
 exact tail hg nw hr
noncomputable def k28 (n:Nat):Con Go.Proofs.Try.prog Ty_ where
 f:=41
 X:=(List Xa)
 Y:=Int
 A:=[.im 1]
 H:=[]
 N:=[]
 encA:=fun x=>[.im 1 x]
 encH:=fun _=>[]
 G:=fun x=>g28 n x
 encR:=fun y=>.sc (.int .i64 y)
 encO:=fun _=>[]
 strong:=true
 ok:=fun x y h=>⟨fun _=>zl4 n x y h,z1j.toG (zl4 n x y h)⟩
noncomputable def zsw (n:Nat):Cx P_ Ty_:=⟨[],[],[],[]⟩
abbrev zsx:List (List Nat):=[[2,3],[2,3,6],[2,3,6,7],[2,3,6,7],[4],[2,3,13],[4],[4]]
noncomputable def zl5 (x:Xe×Xb) (p:Bool):EH Ty_:=([(2,.pt 2 [] 0 0),(3,.pt 3 [] 0 0),(6,I_ x.2.Kind_),(7,B_ p)],[(2,.lit 4 [[.im 1 x.1.Sign_,.im 2 x.1.Regs_,.im 3 x.1.Slots_,.im 4 x.1.List_]]),(3,.lit 2 [[I_ x.2.Kind_,I_ x.2.Param_]])])
noncomputable def znw (n:Nat) (x:Xe×Xb):Pt P_ Ty_ [] Bool:=.join (S:=Bool) (zl5 x) (.ite (x.2.Kind_==1) (.leaf (.inl true)) (.leaf (.inl (x.2.Kind_==2)))) fun s1=>.ite s1 (.leaf (x.2.Param_==0)) (.ite (x.2.Kind_==3) (.ite (decide (x.2.Param_≥(0:Int))) (.leaf (decide (x.2.Param_<(x.1.Sign_.length:Int)))) (.leaf false)) (.leaf false))
noncomputable def k31 (n:Nat):Con P_ Ty_:=z1f (X:=Xe×Xb) (R:=Bool) (pro:=[]) (zsw n) 44 zsx (fun x=>.two .no (.two (.two .no (.two (.join Bool (zl5 x) ⟨[(2,.ref 2),(3,.ref 3),(6,.any),(7,.any)],[(2,.any),(3,.any)]⟩ .no .no) .no)) .no)) [.ag [.im 1,.im 2,.im 3,.im 4],.ag [.any,.any]] [] [] ⟨[(4,.any)],[]⟩ [] true (fun x=>[.ag [.im 1 x.1.Sign_,.im 2 x.1.Regs_,.im 3 x.1.Slots_,.im 4 x.1.List_],.ag [I_ x.2.Kind_,I_ x.2.Param_]]) (fun x=>[]) (fun y=>([(4,B_ y)],[])) (fun y=>B_ y) (fun y=>[]) (znw n)
noncomputable def zst (n:Nat):Cx P_ Ty_:=⟨[k31 n],[],[],[]⟩
abbrev zsu:List (List Nat):=[[1,2],[3]]
noncomputable def zsv (n:Nat) (x:Ybz):Pt P_ Ty_ [200000] (Yag):=.call (k31 n) ((⟨x.2.1,x.2.2.1,x.2.2.2.1,x.2.2.2.2⟩:Xe),x.1) fun (y1:Bool)=>.leaf ((!y1),x.2.1,x.2.2.1,x.2.2.2.1,x.2.2.2.2)
noncomputable def k30 (n:Nat):Con P_ Ty_:=z1f (X:=Ybz) (R:=Yag) (pro:=[200000]) (zst n) 43 zsu (fun x=>.no) [.ag [.any,.any],.pt 200000] [(200000,[.im 1,.im 2,.im 3,.im 4])] [] ⟨[(3,.any)],[(200000,.any)]⟩ [200000] false (fun x=>[.ag [I_ x.1.Kind_,I_ x.1.Param_],.pt 200000 [] 0 0]) (fun x=>[(200000,.lit 4 [[.im 1 x.2.1,.im 2 x.2.2.1,.im 3 x.2.2.2.1,.im 4 x.2.2.2.2]])]) (fun y=>([(3,B_ y.1)],[(200000,.lit 4 [[.im 1 y.2.1,.im 2 y.2.2.1,.im 3 y.2.2.2.1,.im 4 y.2.2.2.2]])])) (fun y=>B_ y.1) (fun y=>[(200000,.lit 4 [[.im 1 y.2.1,.im 2 y.2.2.1,.im 3 y.2.2.2.1,.im 4 y.2.2.2.2]])]) (zsv n)
noncomputable def zo6 (n:Nat):Cx P_ Ty_:=⟨[k30 n],[],[],[]⟩
abbrev zo7:List (List Nat):=[[0,1],[0,1,7,8],[0,1,7,8,9],[0,1,5,7,8],[0,1,5,7,8,16],[4],[0,1,7,8],[4]]
noncomputable def zrl (n:Nat) (x:Yax) (v1:Unit) (q1:Yac):Pt P_ Ty_ [200000] (Bo (Yac) (Yac) (Yac)):=.ite (decide (q1.1<(x.1.length:Int))) (.bnd (idx x.1 q1.1) fun y1=>.call (k30 n) (y1,q1.2.1,q1.2.2.1,q1.2.2.2.1,q1.2.2.2.2) fun (y2:Yag)=>.ite y2.1 (.leaf (.ret (q1.1,y2.2.1,y2.2.2.1,y2.2.2.2.1,y2.2.2.2.2))) (.leaf (.go ((IntKind.i64.wrap (q1.1+(1:Int))),y2.2.1,y2.2.2.1,y2.2.2.2.1,y2.2.2.2.2)))) (.leaf (.out (q1.1,q1.2.1,q1.2.2.1,q1.2.2.2.1,q1.2.2.2.2)))
noncomputable def zlk (n:Nat) (x:Yax) (v1:Unit):LCon P_ Ty_ [200000]:=lcon (X:=Yac) (Y:=Yac) (Z:=Yac) (zo6 n) (subC [1,0,1,0,0] (fnC P_ 73 zo7)) (fun q1=>.no) 0 true ⟨[(0,.im 2),(1,.fn [.ref 200000]),(7,.any),(8,.any)],[(200000,.any)]⟩ ⟨[(0,.im 2),(1,.fn [.ref 200000]),(7,.any),(8,.any),(9,.any)],[(200000,.any)]⟩ ⟨[(4,.any)],[(200000,.any)]⟩ (fun q1=>([(0,.im 2 x.1),(1,.fn 43 [.pt 200000 [] 0 0]),(7,I_ (x.1.length:Int)),(8,I_ q1.1)],[(200000,.lit 4 [[.im 1 q1.2.1,.im 2 q1.2.2.1,.im 3 q1.2.2.2.1,.im 4 q1.2.2.2.2]])])) (fun p=>([(0,.im 2 x.1),(1,.fn 43 [.pt 200000 [] 0 0]),(7,I_ (x.1.length:Int)),(8,I_ p.1),(9,B_ false)],[(200000,.lit 4 [[.im 1 p.2.1,.im 2 p.2.2.1,.im 3 p.2.2.2.1,.im 4 p.2.2.2.2]])])) (fun p=>([(4,I_ p.1)],[(200000,.lit 4 [[.im 1 p.2.1,.im 2 p.2.2.1,.im 3 p.2.2.2.1,.im 4 p.2.2.2.2]])])) n (zrl n x v1)
noncomputable def ztd (n:Nat) (x:Yax):Pt P_ Ty_ [200000] (Yac):=.loopR (V:=Unit) (zlk n x) () ((0:Int),x.2.1,x.2.2.1,x.2.2.2.1,x.2.2.2.2) (fun (v1:Unit) (y3:Yac)=>.leaf ((-1:Int),y3.2.1,y3.2.2.1,y3.2.2.2.1,y3.2.2.2.2)) fun (v1:Unit) (z1:Yac)=>.leaf (z1.1,z1.2.1,z1.2.2.1,z1.2.2.2.1,z1.2.2.2.2)
noncomputable def k50 (n:Nat):Con P_ Ty_:=z1f (X:=Yax) (R:=Yac) (pro:=[200000]) (zo6 n) 73 zo7 (fun x=>.two .no (.two (.two .no (.two (.loop Unit (zlk n x) true ⟨[(0,.im 2),(1,.fn [.ref 200000]),(7,.any),(8,.any)],[(200000,.any)]⟩) .no)) .no)) [.im 2,.fn 43 [.pt 200000]] [(200000,[.im 1,.im 2,.im 3,.im 4])] [] ⟨[(4,.any)],[(200000,.any)]⟩ [200000] false (fun x=>[.im 2 x.1,.fn 43 [.pt 200000 [] 0 0]]) (fun x=>[(200000,.lit 4 [[.im 1 x.2.1,.im 2 x.2.2.1,.im 3 x.2.2.2.1,.im 4 x.2.2.2.2]])]) (fun y=>([(4,I_ y.1)],[(200000,.lit 4 [[.im 1 y.2.1,.im 2 y.2.2.1,.im 3 y.2.2.2.1,.im 4 y.2.2.2.2]])])) (fun y=>I_ y.1) (fun y=>[(200000,.lit 4 [[.im 1 y.2.1,.im 2 y.2.2.1,.im 3 y.2.2.2.1,.im 4 y.2.2.2.2]])]) (ztd n)
noncomputable def zsq (n:Nat):Cx P_ Ty_:=⟨[k50 n],[],[],[]⟩
abbrev zsr:List (List Nat):=[[0,1],[4]]
noncomputable def zss (n:Nat) (x:Yax):Pt P_ Ty_ [200000] (Yag):=.call (k50 n) (x.1,x.2.1,x.2.2.1,x.2.2.2.1,x.2.2.2.2) fun (y1:Yac)=>.leaf ((decide (y1.1≥(0:Int))),y1.2.1,y1.2.2.1,y1.2.2.2.1,y1.2.2.2.2)
noncomputable def k29 (n:Nat):Con P_ Ty_:=z1f (X:=Yax) (R:=Yag) (pro:=[200000]) (zsq n) 42 zsr (fun x=>.no) [.im 2,.fn 43 [.pt 200000]] [(200000,[.im 1,.im 2,.im 3,.im 4])] [] ⟨[(4,.any)],[(200000,.any)]⟩ [200000] false (fun x=>[.im 2 x.1,.fn 43 [.pt 200000 [] 0 0]]) (fun x=>[(200000,.lit 4 [[.im 1 x.2.1,.im 2 x.2.2.1,.im 3 x.2.2.2.1,.im 4 x.2.2.2.2]])]) (fun y=>([(4,B_ y.1)],[(200000,.lit 4 [[.im 1 y.2.1,.im 2 y.2.2.1,.im 3 y.2.2.2.1,.im 4 y.2.2.2.2]])])) (fun y=>B_ y.1) (fun y=>[(200000,.lit 4 [[.im 1 y.2.1,.im 2 y.2.2.1,.im 3 y.2.2.2.1,.im 4 y.2.2.2.2]])]) (zss n)
noncomputable def ztf (n:Nat):Cx P_ Ty_:=⟨[],[],[],[]⟩
abbrev ztg:List (List Nat):=[[0],[2]]
noncomputable def zoa (n:Nat) (x:Int):Pt P_ Ty_ [] Bool:=.ite (decide ((IntKind.u32.wrap (BitVec.ofInt IntKind.u32.bits x &&& ~~~BitVec.ofInt IntKind.u32.bits (2147483648:Int)).toNat)≤(2139095040:Int))) (.leaf true) (.leaf (x==2143289344))
noncomputable def k52 (n:Nat):Con P_ Ty_:=z1f (X:=Int) (R:=Bool) (pro:=[]) (ztf n) 75 ztg (fun x=>.no) [.any] [] [] ⟨[(2,.any)],[]⟩ [] true (fun x=>[.sc (.int .u32 x)]) (fun x=>[]) (fun y=>([(2,B_ y)],[])) (fun y=>B_ y) (fun y=>[]) (zoa n)
noncomputable def zt4 (n:Nat):Cx P_ Ty_:=⟨[k31 n,k52 n],[],[],[]⟩
abbrev zt5:List (List Nat):=[[2,3],[3,9],[4],[3,13],[4],[4]]
noncomputable def znx (n:Nat) (x:Xe×Xc):Pt P_ Ty_ [] Bool:=.call (k31 n) (x.1,x.2.Type_) fun (y1:Bool)=>.ite (!y1) (.leaf false) (.ite (x.2.Type_.Kind_==2) (.ite (x.2.Bits_==0) (.ite (decide (x.2.Int_≥(0:Int))) (.leaf (decide (x.2.Int_≤(2147483647:Int)))) (.leaf false)) (.leaf false)) (.ite (x.2.Int_==0) (.call (k52 n) x.2.Bits_ fun (y2:Bool)=>.leaf y2) (.leaf false)))
noncomputable def k34 (n:Nat):Con P_ Ty_:=z1f (X:=Xe×Xc) (R:=Bool) (pro:=[]) (zt4 n) 47 zt5 (fun x=>.no) [.ag [.im 1,.im 2,.im 3,.im 4],.ag [.any,.any,.any,.any,.any]] [] [] ⟨[(4,.any)],[]⟩ [] true (fun x=>[.ag [.im 1 x.1.Sign_,.im 2 x.1.Regs_,.im 3 x.1.Slots_,.im 4 x.1.List_],.ag [I_ x.2.Type_.Kind_,I_ x.2.Type_.Param_,B_ x.2.Keep_,.sc (.int .u32 x.2.Bits_),I_ x.2.Int_]]) (fun x=>[]) (fun y=>([(4,B_ y)],[])) (fun y=>B_ y) (fun y=>[]) (znx n)
noncomputable def zt1 (n:Nat):Cx P_ Ty_:=⟨[k34 n],[],[],[]⟩
abbrev zt2:List (List Nat):=[[1,2],[3]]
noncomputable def zt3 (n:Nat) (x:Yca):Pt P_ Ty_ [200000] (Yag):=.call (k34 n) ((⟨x.2.1,x.2.2.1,x.2.2.2.1,x.2.2.2.2⟩:Xe),x.1) fun (y1:Bool)=>.leaf ((!y1),x.2.1,x.2.2.1,x.2.2.2.1,x.2.2.2.2)
noncomputable def k33 (n:Nat):Con P_ Ty_:=z1f (X:=Yca) (R:=Yag) (pro:=[200000]) (zt1 n) 46 zt2 (fun x=>.no) [.ag [.any,.any,.any,.any,.any],.pt 200000] [(200000,[.im 1,.im 2,.im 3,.im 4])] [] ⟨[(3,.any)],[(200000,.any)]⟩ [200000] false (fun x=>[.ag [I_ x.1.Type_.Kind_,I_ x.1.Type_.Param_,B_ x.1.Keep_,.sc (.int .u32 x.1.Bits_),I_ x.1.Int_],.pt 200000 [] 0 0]) (fun x=>[(200000,.lit 4 [[.im 1 x.2.1,.im 2 x.2.2.1,.im 3 x.2.2.2.1,.im 4 x.2.2.2.2]])]) (fun y=>([(3,B_ y.1)],[(200000,.lit 4 [[.im 1 y.2.1,.im 2 y.2.2.1,.im 3 y.2.2.2.1,.im 4 y.2.2.2.2]])])) (fun y=>B_ y.1) (fun y=>[(200000,.lit 4 [[.im 1 y.2.1,.im 2 y.2.2.1,.im 3 y.2.2.2.1,.im 4 y.2.2.2.2]])]) (zt3 n)
noncomputable def zo8 (n:Nat):Cx P_ Ty_:=⟨[k33 n],[],[],[]⟩
abbrev zo9:List (List Nat):=[[0,1],[0,1,7,8],[0,1,7,8,9],[0,1,5,7,8],[0,1,5,7,8,16],[4],[0,1,7,8],[4]]
noncomputable def zrm (n:Nat) (x:Yay) (v1:Unit) (q1:Yac):Pt P_ Ty_ [200000] (Bo (Yac) (Yac) (Yac)):=.ite (decide (q1.1<(x.1.length:Int))) (.bnd (idx x.1 q1.1) fun y1=>.call (k33 n) (y1,q1.2.1,q1.2.2.1,q1.2.2.2.1,q1.2.2.2.2) fun (y2:Yag)=>.ite y2.1 (.leaf (.ret (q1.1,y2.2.1,y2.2.2.1,y2.2.2.2.1,y2.2.2.2.2))) (.leaf (.go ((IntKind.i64.wrap (q1.1+(1:Int))),y2.2.1,y2.2.2.1,y2.2.2.2.1,y2.2.2.2.2)))) (.leaf (.out (q1.1,q1.2.1,q1.2.2.1,q1.2.2.2.1,q1.2.2.2.2)))
noncomputable def zll (n:Nat) (x:Yay) (v1:Unit):LCon P_ Ty_ [200000]:=lcon (X:=Yac) (Y:=Yac) (Z:=Yac) (zo8 n) (subC [1,0,1,0,0] (fnC P_ 74 zo9)) (fun q1=>.no) 0 true ⟨[(0,.im 3),(1,.fn [.ref 200000]),(7,.any),(8,.any)],[(200000,.any)]⟩ ⟨[(0,.im 3),(1,.fn [.ref 200000]),(7,.any),(8,.any),(9,.any)],[(200000,.any)]⟩ ⟨[(4,.any)],[(200000,.any)]⟩ (fun q1=>([(0,.im 3 x.1),(1,.fn 46 [.pt 200000 [] 0 0]),(7,I_ (x.1.length:Int)),(8,I_ q1.1)],[(200000,.lit 4 [[.im 1 q1.2.1,.im 2 q1.2.2.1,.im 3 q1.2.2.2.1,.im 4 q1.2.2.2.2]])])) (fun p=>([(0,.im 3 x.1),(1,.fn 46 [.pt 200000 [] 0 0]),(7,I_ (x.1.length:Int)),(8,I_ p.1),(9,B_ false)],[(200000,.lit 4 [[.im 1 p.2.1,.im 2 p.2.2.1,.im 3 p.2.2.2.1,.im 4 p.2.2.2.2]])])) (fun p=>([(4,I_ p.1)],[(200000,.lit 4 [[.im 1 p.2.1,.im 2 p.2.2.1,.im 3 p.2.2.2.1,.im 4 p.2.2.2.2]])])) n (zrm n x v1)
noncomputable def zte (n:Nat) (x:Yay):Pt P_ Ty_ [200000] (Yac):=.loopR (V:=Unit) (zll n x) () ((0:Int),x.2.1,x.2.2.1,x.2.2.2.1,x.2.2.2.2) (fun (v1:Unit) (y3:Yac)=>.leaf ((-1:Int),y3.2.1,y3.2.2.1,y3.2.2.2.1,y3.2.2.2.2)) fun (v1:Unit) (z1:Yac)=>.leaf (z1.1,z1.2.1,z1.2.2.1,z1.2.2.2.1,z1.2.2.2.2)
noncomputable def k51 (n:Nat):Con P_ Ty_:=z1f (X:=Yay) (R:=Yac) (pro:=[200000]) (zo8 n) 74 zo9 (fun x=>.two .no (.two (.two .no (.two (.loop Unit (zll n x) true ⟨[(0,.im 3),(1,.fn [.ref 200000]),(7,.any),(8,.any)],[(200000,.any)]⟩) .no)) .no)) [.im 3,.fn 46 [.pt 200000]] [(200000,[.im 1,.im 2,.im 3,.im 4])] [] ⟨[(4,.any)],[(200000,.any)]⟩ [200000] false (fun x=>[.im 3 x.1,.fn 46 [.pt 200000 [] 0 0]]) (fun x=>[(200000,.lit 4 [[.im 1 x.2.1,.im 2 x.2.2.1,.im 3 x.2.2.2.1,.im 4 x.2.2.2.2]])]) (fun y=>([(4,I_ y.1)],[(200000,.lit 4 [[.im 1 y.2.1,.im 2 y.2.2.1,.im 3 y.2.2.2.1,.im 4 y.2.2.2.2]])])) (fun y=>I_ y.1) (fun y=>[(200000,.lit 4 [[.im 1 y.2.1,.im 2 y.2.2.1,.im 3 y.2.2.2.1,.im 4 y.2.2.2.2]])]) (zte n)
noncomputable def zsy (n:Nat):Cx P_ Ty_:=⟨[k51 n],[],[],[]⟩
abbrev zsz:List (List Nat):=[[0,1],[4]]
noncomputable def zt0 (n:Nat) (x:Yay):Pt P_ Ty_ [200000] (Yag):=.call (k51 n) (x.1,x.2.1,x.2.2.1,x.2.2.2.1,x.2.2.2.2) fun (y1:Yac)=>.leaf ((decide (y1.1≥(0:Int))),y1.2.1,y1.2.2.1,y1.2.2.2.1,y1.2.2.2.2)
noncomputable def k32 (n:Nat):Con P_ Ty_:=z1f (X:=Yay) (R:=Yag) (pro:=[200000]) (zsy n) 45 zsz (fun x=>.no) [.im 3,.fn 46 [.pt 200000]] [(200000,[.im 1,.im 2,.im 3,.im 4])] [] ⟨[(4,.any)],[(200000,.any)]⟩ [200000] false (fun x=>[.im 3 x.1,.fn 46 [.pt 200000 [] 0 0]]) (fun x=>[(200000,.lit 4 [[.im 1 x.2.1,.im 2 x.2.2.1,.im 3 x.2.2.2.1,.im 4 x.2.2.2.2]])]) (fun y=>([(4,B_ y.1)],[(200000,.lit 4 [[.im 1 y.2.1,.im 2 y.2.2.1,.im 3 y.2.2.2.1,.im 4 y.2.2.2.2]])])) (fun y=>B_ y.1) (fun y=>[(200000,.lit 4 [[.im 1 y.2.1,.im 2 y.2.2.1,.im 3 y.2.2.2.1,.im 4 y.2.2.2.2]])]) (zt0 n)
noncomputable def zso (n:Nat):Cx P_ Ty_:=⟨[],[],[],[]⟩
abbrev zsp:List (List Nat):=[[0,2],[2,4],[2,4,5],[2,3],[2,4,8],[2,3],[2,4,11],[2,3],[2,4,14],[2,4,14],[2,4,14],[2,4,14],[2,4,14],[2,4,14],[2,4,14],[2,3],[2,4,23],[2,4,23],[2,4,23],[2,4,23],[2,3],[2,4,29],[2,3],[2,4,32],[2,3],[2,4,35],[2,3],[2,4,38],[2,3],[2,4,41],[2,4,41],[2,3],[2,4,45],[2,4,45],[2,3],[2,4,49],[2,4,49],[2,4,49],[2,4,49],[2,4,49],[2,3],[2,4,56],[2,3],[2,4,59],[2,4,59],[2,3],[2,4,63],[2,3],[2,4,66],[2,3],[2,4,69],[2,3],[2,4,72],[2,3],[2,4,75],[2,3],[2,4,78],[2,78],[2,3],[2,3]]
noncomputable def zkx (x:Int) (p:Bool):EH Ty_:=([(2,.pt 2 [] 0 0),(4,I_ x),(14,B_ p)],[(2,.lit 5 [[I_ (0:Int),I_ (0:Int),I_ (0:Int),I_ (0:Int),I_ (0:Int)]])])
noncomputable def zky (x:Int) (p:Bool):EH Ty_:=([(2,.pt 2 [] 0 0),(4,I_ x),(23,B_ p)],[(2,.lit 5 [[I_ (0:Int),I_ (0:Int),I_ (0:Int),I_ (0:Int),I_ (0:Int)]])])
noncomputable def zkz (x:Int) (p:Bool):EH Ty_:=([(2,.pt 2 [] 0 0),(4,I_ x),(41,B_ p)],[(2,.lit 5 [[I_ (0:Int),I_ (0:Int),I_ (0:Int),I_ (0:Int),I_ (0:Int)]])])
noncomputable def zl0 (x:Int) (p:Bool):EH Ty_:=([(2,.pt 2 [] 0 0),(4,I_ x),(45,B_ p)],[(2,.lit 5 [[I_ (0:Int),I_ (0:Int),I_ (0:Int),I_ (0:Int),I_ (0:Int)]])])
noncomputable def zl1 (x:Int) (p:Bool):EH Ty_:=([(2,.pt 2 [] 0 0),(4,I_ x),(49,B_ p)],[(2,.lit 5 [[I_ (0:Int),I_ (0:Int),I_ (0:Int),I_ (0:Int),I_ (0:Int)]])])
noncomputable def zl2 (x:Int) (p:Bool):EH Ty_:=([(2,.pt 2 [] 0 0),(4,I_ x),(59,B_ p)],[(2,.lit 5 [[I_ (0:Int),I_ (0:Int),I_ (0:Int),I_ (0:Int),I_ (0:Int)]])])
noncomputable def zl3 (x:Int) (p:Bool):EH Ty_:=([(2,.pt 2 [] 0 0),(78,B_ p)],[(2,.lit 5 [[I_ (0:Int),I_ (0:Int),I_ (0:Int),I_ (0:Int),I_ (0:Int)]])])
noncomputable def znv (n:Nat) (x:Int):Pt P_ Ty_ [] (Yaz):=.ite (x==1) (.leaf (true,(1:Int),(0:Int),(0:Int),(0:Int),(0:Int))) (.ite (x==2) (.leaf (true,(2:Int),(0:Int),(0:Int),(0:Int),(1:Int))) (.ite (x==3) (.leaf (true,(8:Int),(7:Int),(0:Int),(0:Int),(0:Int))) (.join (S:=Bool) (zkx x) (.ite (x==4) (.leaf (.inl true)) (.ite (x==5) (.leaf (.inl true)) (.ite (x==6) (.leaf (.inl true)) (.ite (x==7) (.leaf (.inl true)) (.ite (x==8) (.leaf (.inl true)) (.ite (x==9) (.leaf (.inl true)) (.leaf (.inl (x==10))))))))) fun s1=>.ite s1 (.leaf (true,(4:Int),(5:Int),(5:Int),(0:Int),(0:Int))) (.join (S:=Bool) (zky x) (.ite (x==11) (.leaf (.inl true)) (.ite (x==12) (.leaf (.inl true)) (.ite (x==13) (.leaf (.inl true)) (.leaf (.inl (x==14)))))) fun s2=>.ite s2 (.leaf (true,(4:Int),(5:Int),(0:Int),(0:Int),(0:Int))) (.ite (x==15) (.leaf (true,(4:Int),(5:Int),(5:Int),(5:Int),(0:Int))) (.ite (x==16) (.leaf (true,(1:Int),(1:Int),(2:Int),(0:Int),(0:Int))) (.ite (x==17) (.leaf (true,(1:Int),(2:Int),(0:Int),(0:Int),(0:Int))) (.ite (x==18) (.leaf (true,(2:Int),(1:Int),(0:Int),(0:Int),(0:Int))) (.join (S:=Bool) (zkz x) (.ite (x==19) (.leaf (.inl true)) (.leaf (.inl (x==20)))) fun s3=>.ite s3 (.leaf (true,(1:Int),(3:Int),(0:Int),(0:Int),(0:Int))) (.join (S:=Bool) (zl0 x) (.ite (x==21) (.leaf (.inl true)) (.leaf (.inl (x==25)))) fun s4=>.ite s4 (.leaf (true,(2:Int),(2:Int),(0:Int),(0:Int),(0:Int))) (.join (S:=Bool) (zl1 x) (.ite (x==22) (.leaf (.inl true)) (.ite (x==23) (.leaf (.inl true)) (.ite (x==24) (.leaf (.inl true)) (.ite (x==27) (.leaf (.inl true)) (.leaf (.inl (x==28))))))) fun s5=>.ite s5 (.leaf (true,(2:Int),(2:Int),(2:Int),(0:Int),(0:Int))) (.ite (x==26) (.leaf (true,(2:Int),(2:Int),(2:Int),(2:Int),(0:Int))) (.join (S:=Bool) (zl2 x) (.ite (x==29) (.leaf (.inl true)) (.leaf (.inl (x==30)))) fun s6=>.ite s6 (.leaf (true,(3:Int),(0:Int),(0:Int),(0:Int),(2:Int))) (.ite (x==31) (.leaf (true,(0:Int),(3:Int),(0:Int),(0:Int),(2:Int))) (.ite (x==32) (.leaf (true,(8:Int),(0:Int),(0:Int),(0:Int),(3:Int))) (.ite (x==33) (.leaf (true,(0:Int),(8:Int),(0:Int),(0:Int),(3:Int))) (.ite (x==34) (.leaf (true,(0:Int),(2:Int),(0:Int),(0:Int),(0:Int))) (.ite (x==36) (.leaf (true,(0:Int),(0:Int),(0:Int),(0:Int),(4:Int))) (.join (S:=Bool) (zl3 x) (.ite (x==35) (.leaf (.inl true)) (.leaf (.inl (x==37)))) fun s7=>.ite s7 (.leaf (true,(0:Int),(0:Int),(0:Int),(0:Int),(0:Int))) (.leaf (false,(0:Int),(0:Int),(0:Int),(0:Int),(0:Int))))))))))))))))))))))
noncomputable def k26 (n:Nat):Con P_ Ty_:=z1f (X:=Int) (R:=Yaz) (pro:=[]) (zso n) 76 zsp (fun x=>.two .no (.two (.two .no (.two (.two .no (.two .no (.two .no (.two .no (.two .no (.two .no (.join Bool (zkx x) ⟨[(2,.ref 2),(4,.any),(14,.any)],[(2,.any)]⟩ .no (.two .no (.join Bool (zky x) ⟨[(2,.ref 2),(4,.any),(23,.any)],[(2,.any)]⟩ .no (.two .no (.two .no (.two .no (.two .no (.two .no (.two .no (.two .no (.two .no (.two .no (.join Bool (zkz x) ⟨[(2,.ref 2),(4,.any),(41,.any)],[(2,.any)]⟩ .no (.two .no (.join Bool (zl0 x) ⟨[(2,.ref 2),(4,.any),(45,.any)],[(2,.any)]⟩ .no (.two .no (.join Bool (zl1 x) ⟨[(2,.ref 2),(4,.any),(49,.any)],[(2,.any)]⟩ .no (.two .no (.two .no (.two .no (.join Bool (zl2 x) ⟨[(2,.ref 2),(4,.any),(59,.any)],[(2,.any)]⟩ .no (.two .no (.two .no (.two .no (.two .no (.two .no (.two .no (.two .no (.two .no (.two .no (.two .no (.two .no (.join Bool (zl3 x) ⟨[(2,.ref 2),(78,.any)],[(2,.any)]⟩ .no .no))))))))))))))))))))))))))))))))))))))) .no)) .no)) [.any] [] [] ⟨[(2,.ref 100000),(3,.any)],[(100000,.any)]⟩ [] true (fun x=>[I_ x]) (fun x=>[]) (fun y=>([(2,.pt 100000 [] 0 0),(3,B_ y.1)],[(100000,.lit 5 [[I_ y.2.1,I_ y.2.2.1,I_ y.2.2.2.1,I_ y.2.2.2.2.1,I_ y.2.2.2.2.2]])])) (fun y=>.tu [.ag [I_ y.2.1,I_ y.2.2.1,I_ y.2.2.2.1,I_ y.2.2.2.2.1,I_ y.2.2.2.2.2],B_ y.1]) (fun y=>[]) (znv n)
noncomputable def zth (n:Nat):Cx P_ Ty_:=⟨[],[],[],[]⟩
abbrev zti:List (List Nat):=[[0,1,4],[0,1,4,17],[4,5],[4,5]]
noncomputable def zlm (x:Ybn) (p:Bool):EH Ty_:=([(0,.pt 200000 [] 0 0),(1,I_ x.2.2.2.2.2.2.2),(4,.pt 4 [] 0 0),(17,B_ p)],[(200000,.lit 7 [[.im 1 x.1,.im 2 x.2.1,.im 3 x.2.2.1,.im 4 x.2.2.2.1,.ow false 5 x.2.2.2.2.1,.ow true 7 x.2.2.2.2.2.1,.ow false 6 x.2.2.2.2.2.2.1]]),(4,.lit 2 [[I_ (0:Int),I_ (0:Int)]])])
noncomputable def ztj (n:Nat) (x:Ybn):Pt P_ Ty_ [200000] (Yba):=.join (S:=Bool) (zlm x) (.ite (decide (x.2.2.2.2.2.2.2<(0:Int))) (.leaf (.inl true)) (.leaf (.inl (decide (x.2.2.2.2.2.2.2≥(x.2.1.length:Int)))))) fun s1=>.ite s1 (.leaf (false,x.1,x.2.1,x.2.2.1,x.2.2.2.1,x.2.2.2.2.1,x.2.2.2.2.2.1,x.2.2.2.2.2.2.1,(0:Int),(0:Int))) (.bnd (idx x.2.1 x.2.2.2.2.2.2.2) fun y1=>.leaf (true,x.1,x.2.1,x.2.2.1,x.2.2.2.1,x.2.2.2.2.1,x.2.2.2.2.2.1,x.2.2.2.2.2.2.1,y1.Kind_,y1.Param_))
noncomputable def k53 (n:Nat):Con P_ Ty_:=z1f (X:=Ybn) (R:=Yba) (pro:=[200000]) (zth n) 77 zti (fun x=>.two .no (.two (.join Bool (zlm x) ⟨[(0,.ref 200000),(1,.any),(4,.ref 4),(17,.any)],[(200000,.any),(4,.any)]⟩ .no .no) .no)) [.pt 200000,.any] [(200000,[.im 1,.im 2,.im 3,.im 4,.ow false 5,.ow true 7,.ow false 6])] [] ⟨[(4,.ref 100000),(5,.any)],[(200000,.any),(100000,.any)]⟩ [200000] false (fun x=>[.pt 200000 [] 0 0,I_ x.2.2.2.2.2.2.2]) (fun x=>[(200000,.lit 7 [[.im 1 x.1,.im 2 x.2.1,.im 3 x.2.2.1,.im 4 x.2.2.2.1,.ow false 5 x.2.2.2.2.1,.ow true 7 x.2.2.2.2.2.1,.ow false 6 x.2.2.2.2.2.2.1]])]) (fun y=>([(4,.pt 100000 [] 0 0),(5,B_ y.1)],[(200000,.lit 7 [[.im 1 y.2.1,.im 2 y.2.2.1,.im 3 y.2.2.2.1,.im 4 y.2.2.2.2.1,.ow false 5 y.2.2.2.2.2.1,.ow true 7 y.2.2.2.2.2.2.1,.ow false 6 y.2.2.2.2.2.2.2.1]]),(100000,.lit 2 [[I_ y.2.2.2.2.2.2.2.2.1,I_ y.2.2.2.2.2.2.2.2.2]])])) (fun y=>.tu [.ag [I_ y.2.2.2.2.2.2.2.2.1,I_ y.2.2.2.2.2.2.2.2.2],B_ y.1]) (fun y=>[(200000,.lit 7 [[.im 1 y.2.1,.im 2 y.2.2.1,.im 3 y.2.2.2.1,.im 4 y.2.2.2.2.1,.ow false 5 y.2.2.2.2.2.1,.ow true 7 y.2.2.2.2.2.2.1,.ow false 6 y.2.2.2.2.2.2.2.1]])]) (ztj n)
noncomputable def ztk (n:Nat):Cx P_ Ty_:=⟨[],[],[],[]⟩
abbrev ztl:List (List Nat):=[[1,3,5],[1,3,5,7],[3,5,7,11],[3,5,7,11,12],[6],[3,5,7,11,15],[6],[3,5,7,11,20],[6],[3,5,7,11,25],[6],[3,5,7,11,30],[6],[3,5,7,11,38],[6],[3,5,7,43],[6],[6]]
noncomputable def ztm (n:Nat) (x:Xb×Int×Xb):Pt P_ Ty_ [] Bool:=.ite (x.2.1==1) (.leaf (x.1.Kind_==1)) (.ite (x.2.1==2) (.leaf (x.1.Kind_==2)) (.ite (x.2.1==3) (.leaf (x.1.Kind_==3)) (.ite (x.2.1==4) (.leaf (x.1.Kind_ != (2:Int))) (.ite (x.2.1==5) (.ite (x.1.Kind_==1) (.leaf true) (.leaf (x.1.Kind_==x.2.2.Kind_ && (x.1.Param_==x.2.2.Param_ && true)))) (.ite (x.2.1==6) (.leaf (x.1.Kind_==x.2.2.Kind_ && (x.1.Param_==x.2.2.Param_ && true))) (.ite (x.2.1==7) (.ite (x.1.Kind_==x.2.2.Kind_ && (x.1.Param_==x.2.2.Param_ && true)) (.leaf true) (.ite (x.1.Kind_==1) (.leaf (x.2.2.Kind_==3)) (.leaf false))) (.leaf true)))))))
noncomputable def k54 (n:Nat):Con P_ Ty_:=z1f (X:=Xb×Int×Xb) (R:=Bool) (pro:=[]) (ztk n) 78 ztl (fun x=>.no) [.ag [.any,.any],.any,.ag [.any,.any]] [] [] ⟨[(6,.any)],[]⟩ [] true (fun x=>[.ag [I_ x.1.Kind_,I_ x.1.Param_],I_ x.2.1,.ag [I_ x.2.2.Kind_,I_ x.2.2.Param_]]) (fun x=>[]) (fun y=>([(6,B_ y)],[])) (fun y=>B_ y) (fun y=>[]) (ztm n)
noncomputable def zny (n:Nat):Cx P_ Ty_:=⟨[k26 n,k53 n,k54 n,k52 n],[],[],[]⟩
abbrev znz:List (List Nat):=[[0,3],[0,3,5,6],[0,3,5,21],[4],[0,3,5,7,8],[0,3,5,7,8,30,31],[0,3,5,7,8,30,31,32],[0,3,5,7,8,9,10,30,31],[0,3,5,7,8,9,10,11,30,31],[0,3,5,7,8,9,10,11,30,31,47],[0,3,5,7,8,30,31,49],[4],[0,3,5,7,8,9,10,12,13,30,31],[0,3,5,7,8,9,12,30,31,64],[4],[0,3,5,7,8,12,30,31,65],[0,3,5,7,8,12,30,31,65,66],[0,3,5,7,8,30,31],[0,3,5,7,8,12,30,31,70],[0,3,5,7,8,12,30,31,74],[0,3,5,7,8,30,31],[0,3,5,7,8,30,31],[0,3,5,8,95],[4],[0,3,8,97],[0,3,8,97,98],[4],[0,3,8,97,108],[4],[0,3,8,97,131],[4],[0,3,161],[4],[4]]
noncomputable def zl7 (x:Yae) (v1:Yap) (q1:Yaq) (p:Yba):EH Ty_:=([(0,.pt 200000 [] 0 0),(3,.pt 3 [] 0 0),(5,.pt 5 [] 0 0),(7,.pt 7 [] 0 0),(8,.pt 8 [] 0 0),(9,I_ q1.1),(12,.pt 12 [] 0 0),(30,.ag [I_ v1.1,I_ v1.2.1,I_ v1.2.2.1,I_ v1.2.2.2.1]),(31,I_ q1.1),(64,B_ p.1)],[(200000,.lit 7 [[.im 1 p.2.1,.im 2 p.2.2.1,.im 3 p.2.2.2.1,.im 4 p.2.2.2.2.1,.ow false 5 p.2.2.2.2.2.1,.ow true 7 p.2.2.2.2.2.2.1,.ow false 6 p.2.2.2.2.2.2.2.1]]),(3,.lit 7 [[I_ x.2.2.2.2.2.2.2.Op_,I_ x.2.2.2.2.2.2.2.D_,I_ x.2.2.2.2.2.2.2.A_,I_ x.2.2.2.2.2.2.2.B_,I_ x.2.2.2.2.2.2.2.C_,I_ x.2.2.2.2.2.2.2.N_,.sc (.int .u32 x.2.2.2.2.2.2.2.Bits_)]]),(5,.lit 5 [[I_ v1.1,I_ v1.2.1,I_ v1.2.2.1,I_ v1.2.2.2.1,I_ v1.2.2.2.2]]),(7,.lit 2 [[I_ q1.2.2.2.2.2.2.2.2.1,I_ q1.2.2.2.2.2.2.2.2.2.1]]),(8,.lit 2 [[I_ q1.2.2.2.2.2.2.2.2.2.2.1,I_ q1.2.2.2.2.2.2.2.2.2.2.2]]),(12,.lit 2 [[I_ p.2.2.2.2.2.2.2.2.1,I_ p.2.2.2.2.2.2.2.2.2]])])
noncomputable def zl8 (x:Yae) (p:Ybo):EH Ty_:=([(0,.pt 200000 [] 0 0),(3,.pt 3 [] 0 0),(5,.pt 5 [] 0 0),(8,.pt 8 [] 0 0),(95,B_ p.1)],[(200000,.lit 7 [[.im 1 p.2.1,.im 2 p.2.2.1,.im 3 p.2.2.2.1,.im 4 p.2.2.2.2.1,.ow false 5 p.2.2.2.2.2.1,.ow true 7 p.2.2.2.2.2.2.1,.ow false 6 p.2.2.2.2.2.2.2.1]]),(3,.lit 7 [[I_ x.2.2.2.2.2.2.2.Op_,I_ x.2.2.2.2.2.2.2.D_,I_ x.2.2.2.2.2.2.2.A_,I_ x.2.2.2.2.2.2.2.B_,I_ x.2.2.2.2.2.2.2.C_,I_ x.2.2.2.2.2.2.2.N_,.sc (.int .u32 x.2.2.2.2.2.2.2.Bits_)]]),(5,.lit 5 [[I_ p.2.2.2.2.2.2.2.2.1,I_ p.2.2.2.2.2.2.2.2.2.1,I_ p.2.2.2.2.2.2.2.2.2.2.1,I_ p.2.2.2.2.2.2.2.2.2.2.2.1,I_ p.2.2.2.2.2.2.2.2.2.2.2.2.1]]),(8,.lit 2 [[I_ p.2.2.2.2.2.2.2.2.2.2.2.2.2.1,I_ p.2.2.2.2.2.2.2.2.2.2.2.2.2.2]])])
noncomputable def zrf (n:Nat) (x:Yae) (v1:Yap) (q1:Yaq):Pt P_ Ty_ [200000] (Bo (Yaq) (Yaq) (Ybp)):=.ite (decide (q1.1<(4:Int))) (.bnd (idx [v1.1,v1.2.1,v1.2.2.1,v1.2.2.2.1] q1.1) fun y2=>.bnd (idx [x.2.2.2.2.2.2.2.D_,x.2.2.2.2.2.2.2.A_,x.2.2.2.2.2.2.2.B_,x.2.2.2.2.2.2.2.C_] q1.1) fun y3=>.ite (y2==0) (.ite (y3 != (0:Int)) (.leaf (.ret (q1.2.1,q1.2.2.1,q1.2.2.2.1,q1.2.2.2.2.1,q1.2.2.2.2.2.1,q1.2.2.2.2.2.2.1,q1.2.2.2.2.2.2.2.1))) (.leaf (.go ((IntKind.i64.wrap (q1.1+(1:Int))),q1.2.1,q1.2.2.1,q1.2.2.2.1,q1.2.2.2.2.1,q1.2.2.2.2.2.1,q1.2.2.2.2.2.2.1,q1.2.2.2.2.2.2.2.1,q1.2.2.2.2.2.2.2.2.1,q1.2.2.2.2.2.2.2.2.2.1,q1.2.2.2.2.2.2.2.2.2.2.1,q1.2.2.2.2.2.2.2.2.2.2.2)))) (.call (k53 n) (q1.2.1,q1.2.2.1,q1.2.2.2.1,q1.2.2.2.2.1,q1.2.2.2.2.2.1,q1.2.2.2.2.2.2.1,q1.2.2.2.2.2.2.2.1,y3) fun (y4:Yba)=>.join (S:=Yba) (zl7 x v1 q1) (.ite (!y4.1) (.leaf (.inl (true,y4.2.1,y4.2.2.1,y4.2.2.2.1,y4.2.2.2.2.1,y4.2.2.2.2.2.1,y4.2.2.2.2.2.2.1,y4.2.2.2.2.2.2.2.1,y4.2.2.2.2.2.2.2.2.1,y4.2.2.2.2.2.2.2.2.2))) (.call (k54 n) ((⟨y4.2.2.2.2.2.2.2.2.1,y4.2.2.2.2.2.2.2.2.2⟩:Xb),y2,(⟨q1.2.2.2.2.2.2.2.2.1,q1.2.2.2.2.2.2.2.2.2.1⟩:Xb)) fun (y5:Bool)=>.leaf (.inl ((!y5),y4.2.1,y4.2.2.1,y4.2.2.2.1,y4.2.2.2.2.1,y4.2.2.2.2.2.1,y4.2.2.2.2.2.2.1,y4.2.2.2.2.2.2.2.1,y4.2.2.2.2.2.2.2.2.1,y4.2.2.2.2.2.2.2.2.2)))) fun s1=>.ite s1.1 (.leaf (.ret (s1.2.1,s1.2.2.1,s1.2.2.2.1,s1.2.2.2.2.1,s1.2.2.2.2.2.1,s1.2.2.2.2.2.2.1,s1.2.2.2.2.2.2.2.1))) (.ite (q1.1==0) (.leaf (.go ((IntKind.i64.wrap (q1.1+(1:Int))),s1.2.1,s1.2.2.1,s1.2.2.2.1,s1.2.2.2.2.1,s1.2.2.2.2.2.1,s1.2.2.2.2.2.2.1,s1.2.2.2.2.2.2.2.1,s1.2.2.2.2.2.2.2.2.1,s1.2.2.2.2.2.2.2.2.2,s1.2.2.2.2.2.2.2.2.1,s1.2.2.2.2.2.2.2.2.2))) (.ite (q1.1==1) (.ite (v1.1==0) (.leaf (.go ((IntKind.i64.wrap (q1.1+(1:Int))),s1.2.1,s1.2.2.1,s1.2.2.2.1,s1.2.2.2.2.1,s1.2.2.2.2.2.1,s1.2.2.2.2.2.2.1,s1.2.2.2.2.2.2.2.1,q1.2.2.2.2.2.2.2.2.1,q1.2.2.2.2.2.2.2.2.2.1,s1.2.2.2.2.2.2.2.2.1,s1.2.2.2.2.2.2.2.2.2))) (.leaf (.go ((IntKind.i64.wrap (q1.1+(1:Int))),s1.2.1,s1.2.2.1,s1.2.2.2.1,s1.2.2.2.2.1,s1.2.2.2.2.2.1,s1.2.2.2.2.2.2.1,s1.2.2.2.2.2.2.2.1,q1.2.2.2.2.2.2.2.2.1,q1.2.2.2.2.2.2.2.2.2.1,q1.2.2.2.2.2.2.2.2.2.2.1,q1.2.2.2.2.2.2.2.2.2.2.2)))) (.leaf (.go ((IntKind.i64.wrap (q1.1+(1:Int))),s1.2.1,s1.2.2.1,s1.2.2.2.1,s1.2.2.2.2.1,s1.2.2.2.2.2.1,s1.2.2.2.2.2.2.1,s1.2.2.2.2.2.2.2.1,q1.2.2.2.2.2.2.2.2.1,q1.2.2.2.2.2.2.2.2.2.1,q1.2.2.2.2.2.2.2.2.2.2.1,q1.2.2.2.2.2.2.2.2.2.2.2))))))) (.leaf (.out (q1.1,q1.2.1,q1.2.2.1,q1.2.2.2.1,q1.2.2.2.2.1,q1.2.2.2.2.2.1,q1.2.2.2.2.2.2.1,q1.2.2.2.2.2.2.2.1,q1.2.2.2.2.2.2.2.2.1,q1.2.2.2.2.2.2.2.2.2.1,q1.2.2.2.2.2.2.2.2.2.2.1,q1.2.2.2.2.2.2.2.2.2.2.2)))
noncomputable def zl6 (n:Nat) (x:Yae) (v1:Yap):LCon P_ Ty_ [200000]:=lcon (X:=Yaq) (Y:=Yaq) (Z:=Ybp) (zny n) (subC [1,1,1,1,0,1,0,0] (fnC P_ 48 znz)) (fun q1=>.two .no (.two .no (.two (.two (.two .no (.two .no (.two .no (.two .no (.two (.join (Yba) (zl7 x v1 q1) ⟨[(0,.ref 200000),(3,.ref 3),(5,.ref 5),(7,.ref 7),(8,.ref 8),(9,.any),(12,.ref 12),(30,.any),(31,.any),(64,.any)],[(200000,.any),(3,.any),(5,.any),(7,.any),(8,.any),(12,.any)]⟩ .no .no) .no))))) .no) .no))) 0 true ⟨[(0,.ref 200000),(3,.ref 3),(5,.ref 5),(7,.ref 7),(8,.ref 8),(30,.any),(31,.any)],[(200000,.any),(3,.any),(5,.any),(7,.any),(8,.any)]⟩ ⟨[(0,.ref 200000),(3,.ref 3),(5,.ref 5),(7,.ref 7),(8,.ref 8),(30,.any),(31,.any),(32,.any)],[(200000,.any),(3,.any),(5,.any),(7,.any),(8,.any)]⟩ ⟨[(4,.any)],[(200000,.any)]⟩ (fun q1=>([(0,.pt 200000 [] 0 0),(3,.pt 3 [] 0 0),(5,.pt 5 [] 0 0),(7,.pt 7 [] 0 0),(8,.pt 8 [] 0 0),(30,.ag [I_ v1.1,I_ v1.2.1,I_ v1.2.2.1,I_ v1.2.2.2.1]),(31,I_ q1.1)],[(200000,.lit 7 [[.im 1 q1.2.1,.im 2 q1.2.2.1,.im 3 q1.2.2.2.1,.im 4 q1.2.2.2.2.1,.ow false 5 q1.2.2.2.2.2.1,.ow true 7 q1.2.2.2.2.2.2.1,.ow false 6 q1.2.2.2.2.2.2.2.1]]),(3,.lit 7 [[I_ x.2.2.2.2.2.2.2.Op_,I_ x.2.2.2.2.2.2.2.D_,I_ x.2.2.2.2.2.2.2.A_,I_ x.2.2.2.2.2.2.2.B_,I_ x.2.2.2.2.2.2.2.C_,I_ x.2.2.2.2.2.2.2.N_,.sc (.int .u32 x.2.2.2.2.2.2.2.Bits_)]]),(5,.lit 5 [[I_ v1.1,I_ v1.2.1,I_ v1.2.2.1,I_ v1.2.2.2.1,I_ v1.2.2.2.2]]),(7,.lit 2 [[I_ q1.2.2.2.2.2.2.2.2.1,I_ q1.2.2.2.2.2.2.2.2.2.1]]),(8,.lit 2 [[I_ q1.2.2.2.2.2.2.2.2.2.2.1,I_ q1.2.2.2.2.2.2.2.2.2.2.2]])])) (fun p=>([(0,.pt 200000 [] 0 0),(3,.pt 3 [] 0 0),(5,.pt 5 [] 0 0),(7,.pt 7 [] 0 0),(8,.pt 8 [] 0 0),(30,.ag [I_ v1.1,I_ v1.2.1,I_ v1.2.2.1,I_ v1.2.2.2.1]),(31,I_ p.1),(32,B_ false)],[(200000,.lit 7 [[.im 1 p.2.1,.im 2 p.2.2.1,.im 3 p.2.2.2.1,.im 4 p.2.2.2.2.1,.ow false 5 p.2.2.2.2.2.1,.ow true 7 p.2.2.2.2.2.2.1,.ow false 6 p.2.2.2.2.2.2.2.1]]),(3,.lit 7 [[I_ x.2.2.2.2.2.2.2.Op_,I_ x.2.2.2.2.2.2.2.D_,I_ x.2.2.2.2.2.2.2.A_,I_ x.2.2.2.2.2.2.2.B_,I_ x.2.2.2.2.2.2.2.C_,I_ x.2.2.2.2.2.2.2.N_,.sc (.int .u32 x.2.2.2.2.2.2.2.Bits_)]]),(5,.lit 5 [[I_ v1.1,I_ v1.2.1,I_ v1.2.2.1,I_ v1.2.2.2.1,I_ v1.2.2.2.2]]),(7,.lit 2 [[I_ p.2.2.2.2.2.2.2.2.1,I_ p.2.2.2.2.2.2.2.2.2.1]]),(8,.lit 2 [[I_ p.2.2.2.2.2.2.2.2.2.2.1,I_ p.2.2.2.2.2.2.2.2.2.2.2]])])) (fun p=>([(4,B_ false)],[(200000,.lit 7 [[.im 1 p.1,.im 2 p.2.1,.im 3 p.2.2.1,.im 4 p.2.2.2.1,.ow false 5 p.2.2.2.2.1,.ow true 7 p.2.2.2.2.2.1,.ow false 6 p.2.2.2.2.2.2]])])) n (zrf n x v1)
noncomputable def zt6 (n:Nat) (x:Yae):Pt P_ Ty_ [200000] (Yaj):=.call (k26 n) x.2.2.2.2.2.2.2.Op_ fun (y1:Yaz)=>.ite (!y1.1) (.leaf (false,x.1,x.2.1,x.2.2.1,x.2.2.2.1,x.2.2.2.2.1,x.2.2.2.2.2.1,x.2.2.2.2.2.2.1)) (.loopR (V:=Yap) (zl6 n x) (y1.2.1,y1.2.2.1,y1.2.2.2.1,y1.2.2.2.2.1,y1.2.2.2.2.2) ((0:Int),x.1,x.2.1,x.2.2.1,x.2.2.2.1,x.2.2.2.2.1,x.2.2.2.2.2.1,x.2.2.2.2.2.2.1,(0:Int),(0:Int),(0:Int),(0:Int)) (fun (v1:Yap) (y6:Yaq)=>.join (S:=Ybo) (zl8 x) (.ite (x.2.2.2.2.2.2.2.Op_==1) (.call (k52 n) x.2.2.2.2.2.2.2.Bits_ fun (y7:Bool)=>.ite (!y7) (.leaf (.inl (true,y6.2.1,y6.2.2.1,y6.2.2.2.1,y6.2.2.2.2.1,y6.2.2.2.2.2.1,y6.2.2.2.2.2.2.1,y6.2.2.2.2.2.2.2.1,v1.1,v1.2.1,v1.2.2.1,v1.2.2.2.1,v1.2.2.2.2,y6.2.2.2.2.2.2.2.2.2.2.1,y6.2.2.2.2.2.2.2.2.2.2.2))) (.ite (x.2.2.2.2.2.2.2.Op_ != (1:Int)) (.leaf (.inl ((x.2.2.2.2.2.2.2.Bits_ != (0:Int)),y6.2.1,y6.2.2.1,y6.2.2.2.1,y6.2.2.2.2.1,y6.2.2.2.2.2.1,y6.2.2.2.2.2.2.1,y6.2.2.2.2.2.2.2.1,v1.1,v1.2.1,v1.2.2.1,v1.2.2.2.1,v1.2.2.2.2,y6.2.2.2.2.2.2.2.2.2.2.1,y6.2.2.2.2.2.2.2.2.2.2.2))) (.leaf (.inl (false,y6.2.1,y6.2.2.1,y6.2.2.2.1,y6.2.2.2.2.1,y6.2.2.2.2.2.1,y6.2.2.2.2.2.2.1,y6.2.2.2.2.2.2.2.1,v1.1,v1.2.1,v1.2.2.1,v1.2.2.2.1,v1.2.2.2.2,y6.2.2.2.2.2.2.2.2.2.2.1,y6.2.2.2.2.2.2.2.2.2.2.2))))) (.ite (x.2.2.2.2.2.2.2.Op_ != (1:Int)) (.leaf (.inl ((x.2.2.2.2.2.2.2.Bits_ != (0:Int)),y6.2.1,y6.2.2.1,y6.2.2.2.1,y6.2.2.2.2.1,y6.2.2.2.2.2.1,y6.2.2.2.2.2.2.1,y6.2.2.2.2.2.2.2.1,v1.1,v1.2.1,v1.2.2.1,v1.2.2.2.1,v1.2.2.2.2,y6.2.2.2.2.2.2.2.2.2.2.1,y6.2.2.2.2.2.2.2.2.2.2.2))) (.leaf (.inl (false,y6.2.1,y6.2.2.1,y6.2.2.2.1,y6.2.2.2.2.1,y6.2.2.2.2.2.1,y6.2.2.2.2.2.2.1,y6.2.2.2.2.2.2.2.1,v1.1,v1.2.1,v1.2.2.1,v1.2.2.2.1,v1.2.2.2.2,y6.2.2.2.2.2.2.2.2.2.2.1,y6.2.2.2.2.2.2.2.2.2.2.2))))) fun s2=>.ite s2.1 (.leaf (false,s2.2.1,s2.2.2.1,s2.2.2.2.1,s2.2.2.2.2.1,s2.2.2.2.2.2.1,s2.2.2.2.2.2.2.1,s2.2.2.2.2.2.2.2.1)) (.ite (s2.2.2.2.2.2.2.2.2.2.2.2.2.1==1) (.ite (decide (x.2.2.2.2.2.2.2.N_≥(0:Int))) (.leaf ((decide (x.2.2.2.2.2.2.2.N_≤(2147483647:Int))),s2.2.1,s2.2.2.1,s2.2.2.2.1,s2.2.2.2.2.1,s2.2.2.2.2.2.1,s2.2.2.2.2.2.2.1,s2.2.2.2.2.2.2.2.1)) (.leaf (false,s2.2.1,s2.2.2.1,s2.2.2.2.1,s2.2.2.2.2.1,s2.2.2.2.2.2.1,s2.2.2.2.2.2.2.1,s2.2.2.2.2.2.2.2.1))) (.ite (s2.2.2.2.2.2.2.2.2.2.2.2.2.1==2) (.ite (x.2.2.2.2.2.2.2.N_==0) (.leaf (true,s2.2.1,s2.2.2.1,s2.2.2.2.1,s2.2.2.2.2.1,s2.2.2.2.2.2.1,s2.2.2.2.2.2.2.1,s2.2.2.2.2.2.2.2.1)) (.ite (x.2.2.2.2.2.2.2.N_==1) (.bnd (idx s2.2.1 s2.2.2.2.2.2.2.2.2.2.2.2.2.2.2) fun y8=>.leaf ((y8.Kind_==2),s2.2.1,s2.2.2.1,s2.2.2.2.1,s2.2.2.2.2.1,s2.2.2.2.2.2.1,s2.2.2.2.2.2.2.1,s2.2.2.2.2.2.2.2.1)) (.leaf (false,s2.2.1,s2.2.2.1,s2.2.2.2.1,s2.2.2.2.2.1,s2.2.2.2.2.2.1,s2.2.2.2.2.2.2.1,s2.2.2.2.2.2.2.2.1)))) (.ite (s2.2.2.2.2.2.2.2.2.2.2.2.2.1==3) (.ite (decide (x.2.2.2.2.2.2.2.N_≥(0:Int))) (.ite (decide (x.2.2.2.2.2.2.2.N_<(s2.2.2.2.1.length:Int))) (.bnd (idx s2.2.2.2.1 x.2.2.2.2.2.2.2.N_) fun y9=>.leaf ((y9.Type_.Kind_==s2.2.2.2.2.2.2.2.2.2.2.2.2.2.1 && (y9.Type_.Param_==s2.2.2.2.2.2.2.2.2.2.2.2.2.2.2 && true)),s2.2.1,s2.2.2.1,s2.2.2.2.1,s2.2.2.2.2.1,s2.2.2.2.2.2.1,s2.2.2.2.2.2.2.1,s2.2.2.2.2.2.2.2.1)) (.leaf (false,s2.2.1,s2.2.2.1,s2.2.2.2.1,s2.2.2.2.2.1,s2.2.2.2.2.2.1,s2.2.2.2.2.2.2.1,s2.2.2.2.2.2.2.2.1))) (.leaf (false,s2.2.1,s2.2.2.1,s2.2.2.2.1,s2.2.2.2.2.1,s2.2.2.2.2.2.1,s2.2.2.2.2.2.2.1,s2.2.2.2.2.2.2.2.1))) (.ite (s2.2.2.2.2.2.2.2.2.2.2.2.2.1==4) (.ite (decide (x.2.2.2.2.2.2.2.N_≥(0:Int))) (.leaf ((decide (x.2.2.2.2.2.2.2.N_<(s2.2.1.length:Int))),s2.2.1,s2.2.2.1,s2.2.2.2.1,s2.2.2.2.2.1,s2.2.2.2.2.2.1,s2.2.2.2.2.2.2.1,s2.2.2.2.2.2.2.2.1)) (.leaf (false,s2.2.1,s2.2.2.1,s2.2.2.2.1,s2.2.2.2.2.1,s2.2.2.2.2.2.1,s2.2.2.2.2.2.2.1,s2.2.2.2.2.2.2.2.1))) (.leaf ((x.2.2.2.2.2.2.2.N_==0),s2.2.1,s2.2.2.1,s2.2.2.2.1,s2.2.2.2.2.1,s2.2.2.2.2.2.1,s2.2.2.2.2.2.2.1,s2.2.2.2.2.2.2.2.1))))))) fun (v1:Yap) (z1:Ybp)=>.leaf (false,z1.1,z1.2.1,z1.2.2.1,z1.2.2.2.1,z1.2.2.2.2.1,z1.2.2.2.2.2.1,z1.2.2.2.2.2.2))
noncomputable def k35 (n:Nat):Con P_ Ty_:=z1f (X:=Yae) (R:=Yaj) (pro:=[200000]) (zny n) 48 znz (fun x=>.two .no (.two .no (.two .no (.two .no (.two (.two .no (.two (.loop (Yap) (zl6 n x) true ⟨[(0,.ref 200000),(3,.ref 3),(5,.ref 5),(7,.ref 7),(8,.ref 8),(30,.any),(31,.any)],[(200000,.any),(3,.any),(5,.any),(7,.any),(8,.any)]⟩) .no)) (.two (.join (Ybo) (zl8 x) ⟨[(0,.ref 200000),(3,.ref 3),(5,.ref 5),(8,.ref 8),(95,.any)],[(200000,.any),(3,.any),(5,.any),(8,.any)]⟩ .no .no) .no)))))) [.pt 200000,.ag [.any,.any,.any,.any,.any,.any,.any]] [(200000,[.im 1,.im 2,.im 3,.im 4,.ow false 5,.ow true 7,.ow false 6])] [] ⟨[(4,.any)],[(200000,.any)]⟩ [200000] false (fun x=>[.pt 200000 [] 0 0,.ag [I_ x.2.2.2.2.2.2.2.Op_,I_ x.2.2.2.2.2.2.2.D_,I_ x.2.2.2.2.2.2.2.A_,I_ x.2.2.2.2.2.2.2.B_,I_ x.2.2.2.2.2.2.2.C_,I_ x.2.2.2.2.2.2.2.N_,.sc (.int .u32 x.2.2.2.2.2.2.2.Bits_)]]) (fun x=>[(200000,.lit 7 [[.im 1 x.1,.im 2 x.2.1,.im 3 x.2.2.1,.im 4 x.2.2.2.1,.ow false 5 x.2.2.2.2.1,.ow true 7 x.2.2.2.2.2.1,.ow false 6 x.2.2.2.2.2.2.1]])]) (fun y=>([(4,B_ y.1)],[(200000,.lit 7 [[.im 1 y.2.1,.im 2 y.2.2.1,.im 3 y.2.2.2.1,.im 4 y.2.2.2.2.1,.ow false 5 y.2.2.2.2.2.1,.ow true 7 y.2.2.2.2.2.2.1,.ow false 6 y.2.2.2.2.2.2.2]])])) (fun y=>B_ y.1) (fun y=>[(200000,.lit 7 [[.im 1 y.2.1,.im 2 y.2.2.1,.im 3 y.2.2.2.1,.im 4 y.2.2.2.2.1,.ow false 5 y.2.2.2.2.2.1,.ow true 7 y.2.2.2.2.2.2.1,.ow false 6 y.2.2.2.2.2.2.2]])]) (zt6 n)
noncomputable def zsj (n:Nat):Cx P_ Ty_:=⟨[],[],[],[]⟩
abbrev zsk:List (List Nat):=[[0],[2]]
noncomputable def zsl (n:Nat) (x:Int):Pt P_ Ty_ [] Bool:=.ite (decide (x≥(3:Int))) (.leaf (decide (x≤(15:Int)))) (.leaf false)
noncomputable def k13 (n:Nat):Con P_ Ty_:=z1f (X:=Int) (R:=Bool) (pro:=[]) (zsj n) 79 zsk (fun x=>.no) [.any] [] [] ⟨[(2,.any)],[]⟩ [] true (fun x=>[I_ x]) (fun x=>[]) (fun y=>([(2,B_ y)],[])) (fun y=>B_ y) (fun y=>[]) (zsl n)
noncomputable def zo0 (n:Nat):Cx P_ Ty_:=⟨[k13 n],[(53,false,6)],[],[]⟩
abbrev zo1:List (List Nat):=[[0,3],[0,3,5],[0,3,5,15],[0,3,5],[0,3,5,29],[0,3,5,29,30],[0,3,5,29,30],[0,3,42],[4],[0,3,45],[],[4],[0,3,5,29,57],[0,68],[4],[0,6],[0,6,81,82,83],[0,6,81,82,83,84],[0,6,8,81,82,83],[0,6,81,82,83],[0,6,81,82,83],[0],[],[4],[0,3,5,117],[0,120],[4],[],[4],[0,3,5,136],[4],[0,3,9],[0,3,9,139],[0,3,9,139],[0,3,9,139],[0,3,9,139],[4],[0,3,9,163],[0,3,9,163],[4],[4]]
noncomputable def zla (x:Yae) (p:Int):EH Ty_:=([(0,.pt 200000 [] 0 0),(3,.pt 3 [] 0 0),(5,I_ p)],[(200000,.lit 7 [[.im 1 x.1,.im 2 x.2.1,.im 3 x.2.2.1,.im 4 x.2.2.2.1,.ow false 5 x.2.2.2.2.1,.ow true 7 x.2.2.2.2.2.1,.ow false 6 x.2.2.2.2.2.2.1]]),(3,.lit 7 [[I_ x.2.2.2.2.2.2.2.Op_,I_ x.2.2.2.2.2.2.2.D_,I_ x.2.2.2.2.2.2.2.A_,I_ x.2.2.2.2.2.2.2.B_,I_ x.2.2.2.2.2.2.2.C_,I_ x.2.2.2.2.2.2.2.N_,.sc (.int .u32 x.2.2.2.2.2.2.2.Bits_)]])])
noncomputable def zlb (x:Yae) (p:Yai):EH Ty_:=([(0,.pt 200000 [] 0 0),(3,.pt 3 [] 0 0),(5,I_ p.1),(29,I_ x.2.2.2.2.2.2.2.Op_),(30,B_ p.2)],[(200000,.lit 7 [[.im 1 x.1,.im 2 x.2.1,.im 3 x.2.2.1,.im 4 x.2.2.2.1,.ow false 5 x.2.2.2.2.1,.ow true 7 x.2.2.2.2.2.1,.ow false 6 x.2.2.2.2.2.2.1]]),(3,.lit 7 [[I_ x.2.2.2.2.2.2.2.Op_,I_ x.2.2.2.2.2.2.2.D_,I_ x.2.2.2.2.2.2.2.A_,I_ x.2.2.2.2.2.2.2.B_,I_ x.2.2.2.2.2.2.2.C_,I_ x.2.2.2.2.2.2.2.N_,.sc (.int .u32 x.2.2.2.2.2.2.2.Bits_)]])])
noncomputable def zlc (x:Yae) (p:Bool):EH Ty_:=([(0,.pt 200000 [] 0 0),(3,.pt 3 [] 0 0),(42,B_ p)],[(200000,.lit 7 [[.im 1 x.1,.im 2 x.2.1,.im 3 x.2.2.1,.im 4 x.2.2.2.1,.ow false 5 x.2.2.2.2.1,.ow true 7 x.2.2.2.2.2.1,.ow false 6 x.2.2.2.2.2.2.1]]),(3,.lit 7 [[I_ x.2.2.2.2.2.2.2.Op_,I_ x.2.2.2.2.2.2.2.D_,I_ x.2.2.2.2.2.2.2.A_,I_ x.2.2.2.2.2.2.2.B_,I_ x.2.2.2.2.2.2.2.C_,I_ x.2.2.2.2.2.2.2.N_,.sc (.int .u32 x.2.2.2.2.2.2.2.Bits_)]])])
noncomputable def zld (x:Yae) (p:Bool):EH Ty_:=([(0,.pt 200000 [] 0 0),(68,B_ p)],[(200000,.lit 7 [[.im 1 x.1,.im 2 x.2.1,.im 3 x.2.2.1,.im 4 x.2.2.2.1,.ow false 5 x.2.2.2.2.1,.ow true 7 x.2.2.2.2.2.1,.ow false 6 x.2.2.2.2.2.2.1]])])
noncomputable def zle (x:Yae) (p:Ybb):EH Ty_:=([(0,.pt 200000 [] 0 0),(3,.pt 3 [] 0 0),(9,.pt 9 [] 0 0),(139,B_ p.1)],[(200000,.lit 7 [[.im 1 x.1,.im 2 x.2.1,.im 3 x.2.2.1,.im 4 x.2.2.2.1,.ow false 5 x.2.2.2.2.1,.ow true 7 x.2.2.2.2.2.1,.ow false 6 x.2.2.2.2.2.2.1]]),(3,.lit 7 [[I_ x.2.2.2.2.2.2.2.Op_,I_ x.2.2.2.2.2.2.2.D_,I_ x.2.2.2.2.2.2.2.A_,I_ x.2.2.2.2.2.2.2.B_,I_ x.2.2.2.2.2.2.2.C_,I_ x.2.2.2.2.2.2.2.N_,.sc (.int .u32 x.2.2.2.2.2.2.2.Bits_)]]),(9,.lit 2 [[I_ (3:Int),I_ p.2]])])
noncomputable def zlf (x:Yae) (p:Ybb):EH Ty_:=([(0,.pt 200000 [] 0 0),(3,.pt 3 [] 0 0),(9,.pt 9 [] 0 0),(163,B_ p.1)],[(200000,.lit 7 [[.im 1 x.1,.im 2 x.2.1,.im 3 x.2.2.1,.im 4 x.2.2.2.1,.ow false 5 x.2.2.2.2.1,.ow true 7 x.2.2.2.2.2.1,.ow false 6 x.2.2.2.2.2.2.1]]),(3,.lit 7 [[I_ x.2.2.2.2.2.2.2.Op_,I_ x.2.2.2.2.2.2.2.D_,I_ x.2.2.2.2.2.2.2.A_,I_ x.2.2.2.2.2.2.2.B_,I_ x.2.2.2.2.2.2.2.C_,I_ x.2.2.2.2.2.2.2.N_,.sc (.int .u32 x.2.2.2.2.2.2.2.Bits_)]]),(9,.lit 2 [[I_ (3:Int),I_ p.2]])])
noncomputable def zrg (n:Nat) (x:Yae) (v1:Int) (q1:Ybc):Pt P_ Ty_ [200000] (Bo (Ybc) (Ybc) Empty):=.ite (decide (q1.1<v1)) (.bnd (x.2.2.2.2.2.1[(IntKind.i64.wrap ((x.2.2.2.2.2.1.length:Int) - (1:Int))).toNat]?) fun y4=>.need (0≤q1.1∧q1.1<(y4.length:Int)) (.bnd (x.2.2.2.2.2.1[(IntKind.i64.wrap ((x.2.2.2.2.2.1.length:Int) - (1:Int))).toNat]?) fun y5=>.bnd (y5[q1.1.toNat]?) fun y6=>.need (0≤y6∧y6<(q1.2.length:Int)) (.bnd (q1.2[y6.toNat]?) fun y7=>.leaf (.go ((IntKind.i64.wrap (q1.1+(1:Int))),(q1.2.set y6.toNat false)))))) (.leaf (.out (q1.1,q1.2)))
noncomputable def zl9 (n:Nat) (x:Yae) (v1:Int):LCon P_ Ty_ [200000]:=lcon (X:=Ybc) (Y:=Ybc) (Z:=Empty) (zo0 n) (subC [1,1,1,0,1,0,1,1,1,0,1,1,0,1,0,0] (fnC P_ 49 zo1)) (fun q1=>.no) 1 false ⟨[(0,.ref 200000),(6,.any),(81,.ref 200000),(82,.any),(83,.any)],[(200000,.any)]⟩ ⟨[(0,.ref 200000),(6,.any),(81,.ref 200000),(82,.any),(83,.any),(84,.any)],[(200000,.any)]⟩ ⟨[],[]⟩ (fun q1=>([(0,.pt 200000 [] 0 0),(6,I_ (IntKind.i64.wrap ((x.2.2.2.2.2.1.length:Int) - (1:Int)))),(81,.sw 200000 [(0,5),((IntKind.i64.wrap ((x.2.2.2.2.2.1.length:Int) - (1:Int))).toNat,0)]),(82,I_ v1),(83,I_ q1.1)],[(200000,.lit 7 [[.im 1 x.1,.im 2 x.2.1,.im 3 x.2.2.1,.im 4 x.2.2.2.1,.ow false 5 q1.2,.ow true 7 x.2.2.2.2.2.1,.ow false 6 x.2.2.2.2.2.2.1]])])) (fun p=>([(0,.pt 200000 [] 0 0),(6,I_ (IntKind.i64.wrap ((x.2.2.2.2.2.1.length:Int) - (1:Int)))),(81,.sw 200000 [(0,5),((IntKind.i64.wrap ((x.2.2.2.2.2.1.length:Int) - (1:Int))).toNat,0)]),(82,I_ v1),(83,I_ p.1),(84,B_ false)],[(200000,.lit 7 [[.im 1 x.1,.im 2 x.2.1,.im 3 x.2.2.1,.im 4 x.2.2.2.1,.ow false 5 p.2,.ow true 7 x.2.2.2.2.2.1,.ow false 6 x.2.2.2.2.2.2.1]])])) (fun p=>nomatch p) n (zrg n x v1)
noncomputable def zt7 (n:Nat) (x:Yae):Pt P_ Ty_ [200000] (Yaj):=.join (S:=Int) (zla x) (.ite (decide ((x.2.2.2.2.2.2.1.length:Int) > (0:Int))) (.need (0≤(IntKind.i64.wrap ((x.2.2.2.2.2.2.1.length:Int) - (1:Int)))∧(IntKind.i64.wrap ((x.2.2.2.2.2.2.1.length:Int) - (1:Int)))<(x.2.2.2.2.2.2.1.length:Int)) (.bnd (x.2.2.2.2.2.2.1[(IntKind.i64.wrap ((x.2.2.2.2.2.2.1.length:Int) - (1:Int))).toNat]?) fun y1=>.leaf (.inl y1))) (.leaf (.inl (-1:Int)))) fun s1=>.join (S:=Yai) (zlb x) (.ite (x.2.2.2.2.2.2.2.Op_==34) (.leaf (.inl (s1,true))) (.leaf (.inl (s1,(x.2.2.2.2.2.2.2.Op_==36))))) fun s2=>.ite s2.2 (.join (S:=Bool) (zlc x) (.ite (decide (s2.1≥(0:Int))) (.leaf (.inl true)) (.leaf (.inl ((x.2.2.2.2.2.2.1.length:Int)==64)))) fun s3=>.ite s3 (.leaf (false,x.1,x.2.1,x.2.2.1,x.2.2.2.1,x.2.2.2.2.1,x.2.2.2.2.2.1,x.2.2.2.2.2.2.1)) (.ite (x.2.2.2.2.2.2.2.Op_==36) (.need ((x.2.2.2.2.2.2.1.length+([x.2.2.2.2.2.2.2.N_]:List Int).length) * 8≤140737488355328) (.leaf (true,x.1,x.2.1,x.2.2.1,x.2.2.2.1,x.2.2.2.2.1,x.2.2.2.2.2.1,(x.2.2.2.2.2.2.1++([x.2.2.2.2.2.2.2.N_]:List Int))))) (.leaf (true,x.1,x.2.1,x.2.2.1,x.2.2.2.1,x.2.2.2.2.1,x.2.2.2.2.2.1,x.2.2.2.2.2.2.1)))) (.ite (x.2.2.2.2.2.2.2.Op_==35) (.join (S:=Bool) (zld x) (.ite ((x.2.2.2.2.2.2.1.length:Int)==0) (.leaf (.inl true)) (.leaf (.inl (decide (s2.1≥(0:Int)))))) fun s4=>.ite s4 (.leaf (false,x.1,x.2.1,x.2.2.1,x.2.2.2.1,x.2.2.2.2.1,x.2.2.2.2.2.1,x.2.2.2.2.2.2.1)) (.need (0≤(IntKind.i64.wrap ((x.2.2.2.2.2.1.length:Int) - (1:Int)))∧(IntKind.i64.wrap ((x.2.2.2.2.2.1.length:Int) - (1:Int)))<(x.2.2.2.2.2.1.length:Int)) (.bnd (x.2.2.2.2.2.1[(IntKind.i64.wrap ((x.2.2.2.2.2.1.length:Int) - (1:Int))).toNat]?) fun y2=>.bnd (x.2.2.2.2.2.1[(IntKind.i64.wrap ((x.2.2.2.2.2.1.length:Int) - (1:Int))).toNat]?) fun y3=>.loop (V:=Int) (zl9 n x) (y3.length:Int) ((0:Int),x.2.2.2.2.1) fun (v1:Int) (y8:Ybc)=>.need (0≤(IntKind.i64.wrap ((x.2.2.2.2.2.1.length:Int) - (1:Int)))∧(IntKind.i64.wrap ((x.2.2.2.2.2.1.length:Int) - (1:Int)))≤(x.2.2.2.2.2.1.length:Int)) (.need ((IntKind.i64.wrap ((x.2.2.2.2.2.1.length:Int) - (1:Int))).toNat≤x.2.2.2.2.2.1.length) (.need (0≤(IntKind.i64.wrap ((x.2.2.2.2.2.2.1.length:Int) - (1:Int)))∧(IntKind.i64.wrap ((x.2.2.2.2.2.2.1.length:Int) - (1:Int)))≤(x.2.2.2.2.2.2.1.length:Int)) (.need ((IntKind.i64.wrap ((x.2.2.2.2.2.2.1.length:Int) - (1:Int))).toNat≤x.2.2.2.2.2.2.1.length) (.leaf (true,x.1,x.2.1,x.2.2.1,x.2.2.2.1,y8.2,(x.2.2.2.2.2.1.take ((IntKind.i64.wrap ((x.2.2.2.2.2.1.length:Int) - (1:Int))).toNat)),(x.2.2.2.2.2.2.1.take ((IntKind.i64.wrap ((x.2.2.2.2.2.2.1.length:Int) - (1:Int))).toNat)))))))))) (.ite (x.2.2.2.2.2.2.2.Op_==37) (.ite (decide (s2.1<(0:Int))) (.leaf (false,x.1,x.2.1,x.2.2.1,x.2.2.2.1,x.2.2.2.2.1,x.2.2.2.2.2.1,x.2.2.2.2.2.2.1)) (.need (0≤(IntKind.i64.wrap ((x.2.2.2.2.2.2.1.length:Int) - (1:Int)))∧(IntKind.i64.wrap ((x.2.2.2.2.2.2.1.length:Int) - (1:Int)))≤(x.2.2.2.2.2.2.1.length:Int)) (.need ((IntKind.i64.wrap ((x.2.2.2.2.2.2.1.length:Int) - (1:Int))).toNat≤x.2.2.2.2.2.2.1.length) (.leaf (true,x.1,x.2.1,x.2.2.1,x.2.2.2.1,x.2.2.2.2.1,x.2.2.2.2.2.1,(x.2.2.2.2.2.2.1.take ((IntKind.i64.wrap ((x.2.2.2.2.2.2.1.length:Int) - (1:Int))).toNat))))))) (.ite (decide (s2.1<(0:Int))) (.leaf (true,x.1,x.2.1,x.2.2.1,x.2.2.2.1,x.2.2.2.2.1,x.2.2.2.2.2.1,x.2.2.2.2.2.2.1)) (.join (S:=Ybb) (zle x) (.call (k13 n) x.2.2.2.2.2.2.2.Op_ fun (y9:Bool)=>.ite y9 (.leaf (.inl (true,s2.1))) (.ite (x.2.2.2.2.2.2.2.Op_==29) (.leaf (.inl (true,s2.1))) (.ite (x.2.2.2.2.2.2.2.Op_==30) (.leaf (.inl (true,s2.1))) (.leaf (.inl ((x.2.2.2.2.2.2.2.Op_==32),s2.1)))))) fun s5=>.ite s5.1 (.bnd (idx x.2.1 x.2.2.2.2.2.2.2.D_) fun y10=>.leaf ((y10.Kind_==(3:Int) && (y10.Param_==s5.2 && true)),x.1,x.2.1,x.2.2.1,x.2.2.2.1,x.2.2.2.2.1,x.2.2.2.2.2.1,x.2.2.2.2.2.2.1)) (.join (S:=Ybb) (zlf x) (.ite (x.2.2.2.2.2.2.2.Op_==31) (.leaf (.inl (true,s5.2))) (.leaf (.inl ((x.2.2.2.2.2.2.2.Op_==33),s5.2)))) fun s6=>.ite s6.1 (.bnd (idx x.2.1 x.2.2.2.2.2.2.2.A_) fun y11=>.leaf ((y11.Kind_==(3:Int) && (y11.Param_==s6.2 && true)),x.1,x.2.1,x.2.2.1,x.2.2.2.1,x.2.2.2.2.1,x.2.2.2.2.2.1,x.2.2.2.2.2.2.1)) (.leaf (false,x.1,x.2.1,x.2.2.1,x.2.2.2.1,x.2.2.2.2.1,x.2.2.2.2.2.1,x.2.2.2.2.2.2.1)))))))
noncomputable def k36 (n:Nat):Con P_ Ty_:=z1f (X:=Yae) (R:=Yaj) (pro:=[200000]) (zo0 n) 49 zo1 (fun x=>.two .no (.two .no (.join Int (zla x) ⟨[(0,.ref 200000),(3,.ref 3),(5,.any)],[(200000,.any),(3,.any)]⟩ .no (.two (.two .no (.two (.join (Yai) (zlb x) ⟨[(0,.ref 200000),(3,.ref 3),(5,.any),(29,.any),(30,.any)],[(200000,.any),(3,.any)]⟩ .no (.two (.two (.join Bool (zlc x) ⟨[(0,.ref 200000),(3,.ref 3),(42,.any)],[(200000,.any),(3,.any)]⟩ .no .no) .no) (.two .no (.two (.two (.join Bool (zld x) ⟨[(0,.ref 200000),(68,.any)],[(200000,.any)]⟩ .no .no) (.two .no (.two (.two .no (.two (.loop Int (zl9 n x) false ⟨[(0,.ref 200000),(6,.any),(81,.ref 200000),(82,.any),(83,.any)],[(200000,.any)]⟩) .no)) .no))) .no)))) .no)) (.two .no (.two .no (.two (.two (.join (Ybb) (zle x) ⟨[(0,.ref 200000),(3,.ref 3),(9,.ref 9),(139,.any)],[(200000,.any),(3,.any),(9,.any)]⟩ .no (.two .no (.join (Ybb) (zlf x) ⟨[(0,.ref 200000),(3,.ref 3),(9,.ref 9),(163,.any)],[(200000,.any),(3,.any),(9,.any)]⟩ .no .no))) .no) .no))))))) [.pt 200000,.ag [.any,.any,.any,.any,.any,.any,.any]] [(200000,[.im 1,.im 2,.im 3,.im 4,.ow false 5,.ow true 7,.ow false 6])] [] ⟨[(4,.any)],[(200000,.any)]⟩ [200000] false (fun x=>[.pt 200000 [] 0 0,.ag [I_ x.2.2.2.2.2.2.2.Op_,I_ x.2.2.2.2.2.2.2.D_,I_ x.2.2.2.2.2.2.2.A_,I_ x.2.2.2.2.2.2.2.B_,I_ x.2.2.2.2.2.2.2.C_,I_ x.2.2.2.2.2.2.2.N_,.sc (.int .u32 x.2.2.2.2.2.2.2.Bits_)]]) (fun x=>[(200000,.lit 7 [[.im 1 x.1,.im 2 x.2.1,.im 3 x.2.2.1,.im 4 x.2.2.2.1,.ow false 5 x.2.2.2.2.1,.ow true 7 x.2.2.2.2.2.1,.ow false 6 x.2.2.2.2.2.2.1]])]) (fun y=>([(4,B_ y.1)],[(200000,.lit 7 [[.im 1 y.2.1,.im 2 y.2.2.1,.im 3 y.2.2.2.1,.im 4 y.2.2.2.2.1,.ow false 5 y.2.2.2.2.2.1,.ow true 7 y.2.2.2.2.2.2.1,.ow false 6 y.2.2.2.2.2.2.2]])])) (fun y=>B_ y.1) (fun y=>[(200000,.lit 7 [[.im 1 y.2.1,.im 2 y.2.2.1,.im 3 y.2.2.2.1,.im 4 y.2.2.2.2.1,.ow false 5 y.2.2.2.2.2.1,.ow true 7 y.2.2.2.2.2.2.1,.ow false 6 y.2.2.2.2.2.2.2]])]) (zt7 n)
noncomputable def g9_c (n:Nat):Cx P_ Ty_:=⟨[k26 n],[(37,false,6),(38,false,6)],[],[]⟩
abbrev g9_k:List (List Nat):=[[1],[1,3],[1,3,5],[1,5,20,21],[1,5,20,21,22],[1,5,6,7,20,21],[1,5,6,20,21,26],[1,5,20,21],[1,5,20,21],[2]]
noncomputable def ztu (n:Nat) (x:Xd) (v1:Yak) (q1:Yab):Pt P_ Ty_ [] (Bo (Yab) (Yab) Empty):=.ite (decide (q1.1<(3:Int))) (.bnd (idx [v1.1,v1.2.1,v1.2.2] q1.1) fun y2=>.ite (y2 != (0:Int)) (.bnd (idx [x.A_,x.B_,x.C_] q1.1) fun y3=>.need ((q1.2.length+([y3]:List Int).length) * 8≤140737488355328) (.leaf (.go ((IntKind.i64.wrap (q1.1+(1:Int))),(q1.2++([y3]:List Int)))))) (.leaf (.go ((IntKind.i64.wrap (q1.1+(1:Int))),q1.2)))) (.leaf (.out (q1.1,q1.2)))
noncomputable def zod (n:Nat) (x:Xd) (v1:Yak):LCon P_ Ty_ []:=lcon (X:=Yab) (Y:=Yab) (Z:=Empty) (g9_c n) (subC [1,1,1,0,1,0,0] (fnC P_ 52 g9_k)) (fun q1=>.no) 0 false ⟨[(1,.ref 1),(5,.own 600001 false 6),(20,.any),(21,.any)],[(1,.any),(600001,.any)]⟩ ⟨[(1,.ref 1),(5,.ref 600001),(20,.any),(21,.any),(22,.any)],[(1,.any),(600001,.any)]⟩ ⟨[],[]⟩ (fun q1=>([(1,.pt 1 [] 0 0),(5,.sw 600001 []),(20,.ag [I_ v1.1,I_ v1.2.1,I_ v1.2.2]),(21,I_ q1.1)],[(1,.lit 7 [[I_ x.Op_,I_ x.D_,I_ x.A_,I_ x.B_,I_ x.C_,I_ x.N_,.sc (.int .u32 x.Bits_)]]),(600001,.typ false 6 q1.2)])) (fun p=>([(1,.pt 1 [] 0 0),(5,.sw 600001 []),(20,.ag [I_ v1.1,I_ v1.2.1,I_ v1.2.2]),(21,I_ p.1),(22,B_ false)],[(1,.lit 7 [[I_ x.Op_,I_ x.D_,I_ x.A_,I_ x.B_,I_ x.C_,I_ x.N_,.sc (.int .u32 x.Bits_)]]),(600001,.typ false 6 p.2)])) (fun p=>nomatch p) n (ztu n x v1)
noncomputable def g9_t (n:Nat) (x:Xd):Pt P_ Ty_ [] (List Int):=.call (k26 n) x.Op_ fun (y1:Yaz)=>.loop (V:=Yak) (zod n x) (y1.2.2.1,y1.2.2.2.1,y1.2.2.2.2.1) ((0:Int),([]:List Int)) fun (v1:Yak) (y4:Yab)=>.leaf y4.2
noncomputable def k9 (n:Nat):Con P_ Ty_:=z1f (X:=Xd) (R:=(List Int)) (pro:=[]) (g9_c n) 52 g9_k (fun x=>.two .no (.two .no (.two .no (.two (.two .no (.two (.loop (Yak) (zod n x) false ⟨[(1,.ref 1),(5,.own 600001 false 6),(20,.any),(21,.any)],[(1,.any),(600001,.any)]⟩) .no)) .no)))) [.ag [.any,.any,.any,.any,.any,.any,.any]] [] [100000] ⟨[(2,.ref 100000)],[(100000,.any)]⟩ [100000] true (fun x=>[.ag [I_ x.Op_,I_ x.D_,I_ x.A_,I_ x.B_,I_ x.C_,I_ x.N_,.sc (.int .u32 x.Bits_)]]) (fun x=>[]) (fun y=>([(2,.sw 100000 [])],[(100000,.typ false 6 y)])) (fun y=>.sw 100000 []) (fun y=>[(100000,.typ false 6 y)]) (g9_t n)
noncomputable def zsg (n:Nat):Cx P_ Ty_:=⟨[k26 n],[],[],[]⟩
abbrev zsh:List (List Nat):=[[1],[3],[2]]
noncomputable def zsi (n:Nat) (x:Xd):Pt P_ Ty_ [] Bool:=.call (k26 n) x.Op_ fun (y1:Yaz)=>.leaf (y1.2.1 != (0:Int))
noncomputable def k11 (n:Nat):Con P_ Ty_:=z1f (X:=Xd) (R:=Bool) (pro:=[]) (zsg n) 51 zsh (fun x=>.no) [.ag [.any,.any,.any,.any,.any,.any,.any]] [] [] ⟨[(2,.any)],[]⟩ [] true (fun x=>[.ag [I_ x.Op_,I_ x.D_,I_ x.A_,I_ x.B_,I_ x.C_,I_ x.N_,.sc (.int .u32 x.Bits_)]]) (fun x=>[]) (fun y=>([(2,B_ y)],[])) (fun y=>B_ y) (fun y=>[]) (zsi n)
noncomputable def zo2 (n:Nat):Cx P_ Ty_:=⟨[k9 n,k11 n],[(32,false,6),(41,true,7),(87,false,6)],[],[]⟩
abbrev zo3:List (List Nat):=[[0,3],[0,3,9,10,11],[0,3,9,10,11,12],[0,3,6,9,10,11],[0,3,9,10,11,22],[4],[0,3,9,10,11],[0,3,26],[0,3],[0,3],[0,3,57],[0,3],[0,3,7],[0,3,7,72],[],[4]]
noncomputable def zlh (x:Yae) (p:Ybq):EH Ty_:=([(0,.pt 200000 [] 0 0),(3,.pt 3 [] 0 0)],[(200000,.lit 7 [[.im 1 x.1,.im 2 x.2.1,.im 3 x.2.2.1,.im 4 x.2.2.2.1,.ow false 5 x.2.2.2.2.1,.ow true 7 p.1,.ow false 6 p.2]]),(3,.lit 7 [[I_ x.2.2.2.2.2.2.2.Op_,I_ x.2.2.2.2.2.2.2.D_,I_ x.2.2.2.2.2.2.2.A_,I_ x.2.2.2.2.2.2.2.B_,I_ x.2.2.2.2.2.2.2.C_,I_ x.2.2.2.2.2.2.2.N_,.sc (.int .u32 x.2.2.2.2.2.2.2.Bits_)]])])
noncomputable def zli (x:Yae) (p:Ybr):EH Ty_:=([(0,.pt 200000 [] 0 0),(3,.pt 3 [] 0 0),(57,B_ p.1)],[(200000,.lit 7 [[.im 1 x.1,.im 2 x.2.1,.im 3 x.2.2.1,.im 4 x.2.2.2.1,.ow false 5 x.2.2.2.2.1,.ow true 7 p.2.1,.ow false 6 p.2.2]]),(3,.lit 7 [[I_ x.2.2.2.2.2.2.2.Op_,I_ x.2.2.2.2.2.2.2.D_,I_ x.2.2.2.2.2.2.2.A_,I_ x.2.2.2.2.2.2.2.B_,I_ x.2.2.2.2.2.2.2.C_,I_ x.2.2.2.2.2.2.2.N_,.sc (.int .u32 x.2.2.2.2.2.2.2.Bits_)]])])
noncomputable def zrh (n:Nat) (x:Yae) (v1:Yab) (q1:Int):Pt P_ Ty_ [200000] (Bo Int Int Unit):=.ite (decide (q1<v1.1)) (.need (0≤q1∧q1<(v1.2.length:Int)) (.bnd (v1.2[q1.toNat]?) fun y2=>.need (0≤y2∧y2<(x.2.2.2.2.1.length:Int)) (.bnd (x.2.2.2.2.1[y2.toNat]?) fun y3=>.ite (!y3) (.leaf (.ret ())) (.leaf (.go (IntKind.i64.wrap (q1+(1:Int)))))))) (.leaf (.out q1))
noncomputable def zlg (n:Nat) (x:Yae) (v1:Yab):LCon P_ Ty_ [200000]:=lcon (X:=Int) (Y:=Int) (Z:=Unit) (zo2 n) (subC [1,0,1,0,0] (fnC P_ 50 zo3)) (fun q1=>.no) 0 true ⟨[(0,.ref 200000),(3,.ref 3),(9,.ref 9),(10,.any),(11,.any)],[(200000,.any),(3,.any),(9,.any)]⟩ ⟨[(0,.ref 200000),(3,.ref 3),(9,.ref 9),(10,.any),(11,.any),(12,.any)],[(200000,.any),(3,.any),(9,.any)]⟩ ⟨[(4,.any)],[(200000,.any)]⟩ (fun q1=>([(0,.pt 200000 [] 0 0),(3,.pt 3 [] 0 0),(9,.sw 9 []),(10,I_ v1.1),(11,I_ q1)],[(200000,.lit 7 [[.im 1 x.1,.im 2 x.2.1,.im 3 x.2.2.1,.im 4 x.2.2.2.1,.ow false 5 x.2.2.2.2.1,.ow true 7 x.2.2.2.2.2.1,.ow false 6 x.2.2.2.2.2.2.1]]),(3,.lit 7 [[I_ x.2.2.2.2.2.2.2.Op_,I_ x.2.2.2.2.2.2.2.D_,I_ x.2.2.2.2.2.2.2.A_,I_ x.2.2.2.2.2.2.2.B_,I_ x.2.2.2.2.2.2.2.C_,I_ x.2.2.2.2.2.2.2.N_,.sc (.int .u32 x.2.2.2.2.2.2.2.Bits_)]]),(9,.typ false 6 v1.2)])) (fun p=>([(0,.pt 200000 [] 0 0),(3,.pt 3 [] 0 0),(9,.sw 9 []),(10,I_ v1.1),(11,I_ p),(12,B_ false)],[(200000,.lit 7 [[.im 1 x.1,.im 2 x.2.1,.im 3 x.2.2.1,.im 4 x.2.2.2.1,.ow false 5 x.2.2.2.2.1,.ow true 7 x.2.2.2.2.2.1,.ow false 6 x.2.2.2.2.2.2.1]]),(3,.lit 7 [[I_ x.2.2.2.2.2.2.2.Op_,I_ x.2.2.2.2.2.2.2.D_,I_ x.2.2.2.2.2.2.2.A_,I_ x.2.2.2.2.2.2.2.B_,I_ x.2.2.2.2.2.2.2.C_,I_ x.2.2.2.2.2.2.2.N_,.sc (.int .u32 x.2.2.2.2.2.2.2.Bits_)]]),(9,.typ false 6 v1.2)])) (fun p=>([(4,B_ false)],[(200000,.lit 7 [[.im 1 x.1,.im 2 x.2.1,.im 3 x.2.2.1,.im 4 x.2.2.2.1,.ow false 5 x.2.2.2.2.1,.ow true 7 x.2.2.2.2.2.1,.ow false 6 x.2.2.2.2.2.2.1]])])) n (zrh n x v1)
noncomputable def zt8 (n:Nat) (x:Yae):Pt P_ Ty_ [200000] (Yaj):=.call (k9 n) x.2.2.2.2.2.2.2 fun (y1:(List Int))=>.loopR (V:=Yab) (zlg n x) ((y1.length:Int),y1) (0:Int) (fun (v1:Yab) (y4:Int)=>.join (S:=Ybq) (zlh x) (.ite (x.2.2.2.2.2.2.2.Op_==34) (.need ((x.2.2.2.2.2.2.1.length+([(-1:Int)]:List Int).length) * 8≤140737488355328) (.need ((x.2.2.2.2.2.1.length+([[]]:List (List Int)).length) * 24≤140737488355328) (.leaf (.inl ((x.2.2.2.2.2.1++([[]]:List (List Int))),(x.2.2.2.2.2.2.1++([(-1:Int)]:List Int))))))) (.leaf (.inl (x.2.2.2.2.2.1,x.2.2.2.2.2.2.1)))) fun s1=>.join (S:=Ybr) (zli x) (.call (k11 n) x.2.2.2.2.2.2.2 fun (y5:Bool)=>.ite y5 (.need (0≤x.2.2.2.2.2.2.2.D_∧x.2.2.2.2.2.2.2.D_<(x.2.2.2.2.1.length:Int)) (.bnd (x.2.2.2.2.1[x.2.2.2.2.2.2.2.D_.toNat]?) fun y6=>.leaf (.inl ((!y6),s1.1,s1.2)))) (.leaf (.inl (false,s1.1,s1.2)))) fun s2=>.ite s2.1 (.need (0≤x.2.2.2.2.2.2.2.D_∧x.2.2.2.2.2.2.2.D_<(x.2.2.2.2.1.length:Int)) (.bnd (x.2.2.2.2.1[x.2.2.2.2.2.2.2.D_.toNat]?) fun y7=>.ite (decide ((IntKind.i64.wrap ((s2.2.1.length:Int) - (1:Int)))≥(0:Int))) (.need (0≤(IntKind.i64.wrap ((s2.2.1.length:Int) - (1:Int)))∧(IntKind.i64.wrap ((s2.2.1.length:Int) - (1:Int)))<(s2.2.1.length:Int)) (.bnd (s2.2.1[(IntKind.i64.wrap ((s2.2.1.length:Int) - (1:Int))).toNat]?) fun y8=>.bnd (s2.2.1[(IntKind.i64.wrap ((s2.2.1.length:Int) - (1:Int))).toNat]?) fun y9=>.bnd (s2.2.1[(IntKind.i64.wrap ((s2.2.1.length:Int) - (1:Int))).toNat]?) fun y10=>.need ((y9.length+([x.2.2.2.2.2.2.2.D_]:List Int).length) * 8≤140737488355328) (.need (0≤(IntKind.i64.wrap ((s2.2.1.length:Int) - (1:Int)))∧(IntKind.i64.wrap ((s2.2.1.length:Int) - (1:Int)))<(s2.2.1.length:Int)) (.need ((IntKind.i64.wrap ((s2.2.1.length:Int) - (1:Int))).toNat=(IntKind.i64.wrap ((s2.2.1.length:Int) - (1:Int))).toNat∧(IntKind.i64.wrap ((s2.2.1.length:Int) - (1:Int))).toNat<s2.2.1.length) (.leaf (true,x.1,x.2.1,x.2.2.1,x.2.2.2.1,(x.2.2.2.2.1.set x.2.2.2.2.2.2.2.D_.toNat true),(s2.2.1.set ((IntKind.i64.wrap ((s2.2.1.length:Int) - (1:Int))).toNat) (y9++([x.2.2.2.2.2.2.2.D_]:List Int))),s2.2.2)))))) (.leaf (true,x.1,x.2.1,x.2.2.1,x.2.2.2.1,(x.2.2.2.2.1.set x.2.2.2.2.2.2.2.D_.toNat true),s2.2.1,s2.2.2)))) (.leaf (true,x.1,x.2.1,x.2.2.1,x.2.2.2.1,x.2.2.2.2.1,s2.2.1,s2.2.2))) fun (v1:Yab) (z1:Unit)=>.leaf (false,x.1,x.2.1,x.2.2.1,x.2.2.2.1,x.2.2.2.2.1,x.2.2.2.2.2.1,x.2.2.2.2.2.2.1)
noncomputable def k37 (n:Nat):Con P_ Ty_:=z1f (X:=Yae) (R:=Yaj) (pro:=[200000]) (zo2 n) 50 zo3 (fun x=>.two .no (.two (.two .no (.two (.loop (Yab) (zlg n x) true ⟨[(0,.ref 200000),(3,.ref 3),(9,.ref 9),(10,.any),(11,.any)],[(200000,.any),(3,.any),(9,.any)]⟩) .no)) (.join (Ybq) (zlh x) ⟨[(0,.ref 200000),(3,.ref 3)],[(200000,.any),(3,.any)]⟩ .no (.two (.join (Ybr) (zli x) ⟨[(0,.ref 200000),(3,.ref 3),(57,.any)],[(200000,.any),(3,.any)]⟩ .no .no) .no)))) [.pt 200000,.ag [.any,.any,.any,.any,.any,.any,.any]] [(200000,[.im 1,.im 2,.im 3,.im 4,.ow false 5,.ow true 7,.ow false 6])] [] ⟨[(4,.any)],[(200000,.any)]⟩ [200000] false (fun x=>[.pt 200000 [] 0 0,.ag [I_ x.2.2.2.2.2.2.2.Op_,I_ x.2.2.2.2.2.2.2.D_,I_ x.2.2.2.2.2.2.2.A_,I_ x.2.2.2.2.2.2.2.B_,I_ x.2.2.2.2.2.2.2.C_,I_ x.2.2.2.2.2.2.2.N_,.sc (.int .u32 x.2.2.2.2.2.2.2.Bits_)]]) (fun x=>[(200000,.lit 7 [[.im 1 x.1,.im 2 x.2.1,.im 3 x.2.2.1,.im 4 x.2.2.2.1,.ow false 5 x.2.2.2.2.1,.ow true 7 x.2.2.2.2.2.1,.ow false 6 x.2.2.2.2.2.2.1]])]) (fun y=>([(4,B_ y.1)],[(200000,.lit 7 [[.im 1 y.2.1,.im 2 y.2.2.1,.im 3 y.2.2.2.1,.im 4 y.2.2.2.2.1,.ow false 5 y.2.2.2.2.2.1,.ow true 7 y.2.2.2.2.2.2.1,.ow false 6 y.2.2.2.2.2.2.2]])])) (fun y=>B_ y.1) (fun y=>[(200000,.lit 7 [[.im 1 y.2.1,.im 2 y.2.2.1,.im 3 y.2.2.2.1,.im 4 y.2.2.2.2.1,.ow false 5 y.2.2.2.2.2.1,.ow true 7 y.2.2.2.2.2.2.1,.ow false 6 y.2.2.2.2.2.2.2]])]) (zt8 n)
noncomputable def znt (n:Nat):Cx P_ Ty_:=⟨[k28 n,k29 n,k32 n,k35 n,k36 n,k37 n],[(45,false,5)],[],[]⟩
abbrev znu:List (List Nat):=[[1],[1,4],[1,4,11],[2,3],[1,15],[2,3],[1,26],[2,3],[1,40],[2,3],[1,5],[1,5,49,50,51],[1,5,49,50,51,52],[1,5,6,7,49,50,51],[1,5,6,49,50,51,71],[2,3],[1,5,49,50,51],[1,79],[2,3],[2,3]]
noncomputable def zkd (x:Xe) (p:Bool):EH Ty_:=([(1,.pt 1 [] 0 0),(15,B_ p)],[(1,.lit 4 [[.im 1 x.Sign_,.im 2 x.Regs_,.im 3 x.Slots_,.im 4 x.List_]])])
noncomputable def zke (x:Xe) (p:Yag):EH Ty_:=([(1,.pt 1 [] 0 0),(40,B_ p.1)],[(1,.lit 4 [[.im 1 p.2.1,.im 2 p.2.2.1,.im 3 p.2.2.2.1,.im 4 p.2.2.2.2]])])
noncomputable def zkf (x:Xe) (v1:Yar) (q1:Yas) (p:Yaj):EH Ty_:=([(1,.pt 1 [] 0 0),(5,.pt 47 [] 0 0),(6,I_ q1.1),(49,.im 4 v1.1),(50,I_ v1.2.1),(51,I_ q1.1),(71,B_ p.1)],[(1,.lit 4 [[.im 1 v1.2.2.1,.im 2 v1.2.2.2.1,.im 3 v1.2.2.2.2,.im 4 v1.1]]),(47,.lit 7 [[.im 1 p.2.1,.im 2 p.2.2.1,.im 3 p.2.2.2.1,.im 4 p.2.2.2.2.1,.ow false 5 p.2.2.2.2.2.1,.ow true 7 p.2.2.2.2.2.2.1,.ow false 6 p.2.2.2.2.2.2.2]])])
noncomputable def zqf (n:Nat) (x:Xe) (v1:Yar) (q1:Yas):Pt P_ Ty_ [] (Bo (Yas) (Yas) Int):=.ite (decide (q1.1<v1.2.1)) (.bnd (idx v1.1 q1.1) fun y4=>.join (S:=Yaj) (zkf x v1 q1) (.call (k35 n) (q1.2.1,q1.2.2.1,q1.2.2.2.1,q1.2.2.2.2.1,q1.2.2.2.2.2.1,q1.2.2.2.2.2.2.1,q1.2.2.2.2.2.2.2,y4) fun (y5:Yaj)=>.ite (!y5.1) (.leaf (.inl (true,y5.2.1,y5.2.2.1,y5.2.2.2.1,y5.2.2.2.2.1,y5.2.2.2.2.2.1,y5.2.2.2.2.2.2.1,y5.2.2.2.2.2.2.2))) (.call (k36 n) (y5.2.1,y5.2.2.1,y5.2.2.2.1,y5.2.2.2.2.1,y5.2.2.2.2.2.1,y5.2.2.2.2.2.2.1,y5.2.2.2.2.2.2.2,y4) fun (y6:Yaj)=>.ite (!y6.1) (.leaf (.inl (true,y6.2.1,y6.2.2.1,y6.2.2.2.1,y6.2.2.2.2.1,y6.2.2.2.2.2.1,y6.2.2.2.2.2.2.1,y6.2.2.2.2.2.2.2))) (.call (k37 n) (y6.2.1,y6.2.2.1,y6.2.2.2.1,y6.2.2.2.2.1,y6.2.2.2.2.2.1,y6.2.2.2.2.2.2.1,y6.2.2.2.2.2.2.2,y4) fun (y7:Yaj)=>.leaf (.inl ((!y7.1),y7.2.1,y7.2.2.1,y7.2.2.2.1,y7.2.2.2.2.1,y7.2.2.2.2.2.1,y7.2.2.2.2.2.2.1,y7.2.2.2.2.2.2.2))))) fun s3=>.ite s3.1 (.leaf (.ret q1.1)) (.leaf (.go ((IntKind.i64.wrap (q1.1+(1:Int))),s3.2.1,s3.2.2.1,s3.2.2.2.1,s3.2.2.2.2.1,s3.2.2.2.2.2.1,s3.2.2.2.2.2.2.1,s3.2.2.2.2.2.2.2)))) (.leaf (.out (q1.1,q1.2.1,q1.2.2.1,q1.2.2.2.1,q1.2.2.2.2.1,q1.2.2.2.2.2.1,q1.2.2.2.2.2.2.1,q1.2.2.2.2.2.2.2)))
noncomputable def zkc (n:Nat) (x:Xe) (v1:Yar):LCon P_ Ty_ []:=lcon (X:=Yas) (Y:=Yas) (Z:=Int) (znt n) (subC [1,1,1,1,0,1,0,0] (fnC P_ 21 znu)) (fun q1=>.two .no (.two .no (.two (.two (.two .no (.join (Yaj) (zkf x v1 q1) ⟨[(1,.ref 1),(5,.ref 47),(6,.any),(49,.im 4),(50,.any),(51,.any),(71,.any)],[(1,.any),(47,.any)]⟩ .no .no)) .no) .no))) 1 true ⟨[(1,.ref 1),(5,.ref 47),(49,.im 4),(50,.any),(51,.any)],[(1,.any),(47,.fix [.no,.no,.no,.no,.no,.ow true 7,.ow false 6])]⟩ ⟨[(1,.ref 1),(5,.ref 47),(49,.im 4),(50,.any),(51,.any),(52,.any)],[(1,.any),(47,.any)]⟩ ⟨[(2,.any),(3,.any)],[]⟩ (fun q1=>([(1,.pt 1 [] 0 0),(5,.pt 47 [] 0 0),(49,.im 4 v1.1),(50,I_ v1.2.1),(51,I_ q1.1)],[(1,.lit 4 [[.im 1 v1.2.2.1,.im 2 v1.2.2.2.1,.im 3 v1.2.2.2.2,.im 4 v1.1]]),(47,.lit 7 [[.im 1 q1.2.1,.im 2 q1.2.2.1,.im 3 q1.2.2.2.1,.im 4 q1.2.2.2.2.1,.ow false 5 q1.2.2.2.2.2.1,.ow true 7 q1.2.2.2.2.2.2.1,.ow false 6 q1.2.2.2.2.2.2.2]])])) (fun p=>([(1,.pt 1 [] 0 0),(5,.pt 47 [] 0 0),(49,.im 4 v1.1),(50,I_ v1.2.1),(51,I_ p.1),(52,B_ false)],[(1,.lit 4 [[.im 1 v1.2.2.1,.im 2 v1.2.2.2.1,.im 3 v1.2.2.2.2,.im 4 v1.1]]),(47,.lit 7 [[.im 1 p.2.1,.im 2 p.2.2.1,.im 3 p.2.2.2.1,.im 4 p.2.2.2.2.1,.ow false 5 p.2.2.2.2.2.1,.ow true 7 p.2.2.2.2.2.2.1,.ow false 6 p.2.2.2.2.2.2.2]])])) (fun p=>([(2,I_ (160:Int)),(3,I_ p)],[])) n (zqf n x v1)
noncomputable def zsm (n:Nat) (x:Xe):Pt P_ Ty_ [] (Yaa):=.call (k28 n) x.Sign_ fun (y1:Int)=>.ite (y1 != (0:Int)) (.leaf (y1,(-1:Int))) (.join (S:=Bool) (zkd x) (.ite (decide ((x.Regs_.length:Int) > (16384:Int))) (.leaf (.inl true)) (.leaf (.inl (decide ((x.List_.length:Int) > (32768:Int)))))) fun s1=>.ite s1 (.leaf ((181:Int),(-1:Int))) (.ite (decide ((x.Slots_.length:Int) > (4096:Int))) (.leaf ((180:Int),(-1:Int))) (.join (S:=Yag) (zke x) (.call (k29 n) (x.Regs_,x.Sign_,x.Regs_,x.Slots_,x.List_) fun (y2:Yag)=>.ite y2.1 (.leaf (.inl (true,y2.2.1,y2.2.2.1,y2.2.2.2.1,y2.2.2.2.2))) (.call (k32 n) (y2.2.2.2.1,y2.2.1,y2.2.2.1,y2.2.2.2.1,y2.2.2.2.2) fun (y3:Yag)=>.leaf (.inl (y3.1,y3.2.1,y3.2.2.1,y3.2.2.2.1,y3.2.2.2.2)))) fun s2=>.ite s2.1 (.leaf ((160:Int),(-1:Int))) (.need (0≤(s2.2.2.1.length:Int)∧(s2.2.2.1.length:Int) * (1:Int)≤140737488355328) (.loopR (V:=Yar) (zkc n x) (s2.2.2.2.2,(s2.2.2.2.2.length:Int),s2.2.1,s2.2.2.1,s2.2.2.2.1) ((0:Int),s2.2.1,s2.2.2.1,s2.2.2.2.1,s2.2.2.2.2,(List.replicate (s2.2.2.1.length:Int).toNat false),([]:List (List Int)),([]:List Int)) (fun (v1:Yar) (y8:Yas)=>.ite (decide ((y8.2.2.2.2.2.2.2.length:Int) > (0:Int))) (.leaf ((160:Int),(v1.1.length:Int))) (.leaf ((0:Int),(0:Int)))) fun (v1:Yar) (z1:Int)=>.leaf ((160:Int),z1))))))
noncomputable def k16 (n:Nat):Con P_ Ty_:=z1f (X:=Xe) (R:=Yaa) (pro:=[]) (znt n) 21 znu (fun x=>.two .no (.two (.two .no (.two (.two .no (.two .no (.join Bool (zkd x) ⟨[(1,.ref 1),(15,.any)],[(1,.any)]⟩ .no .no))) .no)) (.two (.join (Yag) (zke x) ⟨[(1,.ref 1),(40,.any)],[(1,.any)]⟩ .no .no) (.two .no (.two (.two .no (.two (.loop (Yar) (zkc n x) true ⟨[(1,.ref 1),(5,.ref 47),(49,.im 4),(50,.any),(51,.any)],[(1,.any),(47,.fix [.no,.no,.no,.no,.no,.ow true 7,.ow false 6])]⟩) .no)) .no))))) [.ag [.im 1,.im 2,.im 3,.im 4]] [] [] ⟨[(2,.any),(3,.any)],[]⟩ [] true (fun x=>[.ag [.im 1 x.Sign_,.im 2 x.Regs_,.im 3 x.Slots_,.im 4 x.List_]]) (fun x=>[]) (fun y=>([(2,I_ y.1),(3,I_ y.2)],[])) (fun y=>.tu [I_ y.1,I_ y.2]) (fun y=>[]) (zsm n)
noncomputable def zki (n:Nat):Cx P_ Ty_:=⟨[],[(16,false,0),(27,false,0)],[],[]⟩
abbrev zkj:List (List Nat):=[[0,1,5],[0,1],[0,1],[]]
noncomputable def zpc (n:Nat) (x:Ybj) (v1:Unit) (q1:Yab):Pt P_ Ty_ [200000] (Bo (Yab) (Yab) Empty):=.ite (decide (q1.1≥(128:Int))) (.need ((q1.2.length+([(IntKind.u8.wrap (BitVec.ofInt IntKind.u8.bits (IntKind.u8.wrap q1.1) ||| BitVec.ofInt IntKind.u8.bits (128:Int)).toNat)]:List Int).length) * 1≤140737488355328) (.leaf (.go ((q1.1.fdiv (2 ^ min (7:Int).toNat IntKind.i64.bits)),(q1.2++([(IntKind.u8.wrap (BitVec.ofInt IntKind.u8.bits (IntKind.u8.wrap q1.1) ||| BitVec.ofInt IntKind.u8.bits (128:Int)).toNat)]:List Int)))))) (.leaf (.out (q1.1,q1.2)))
noncomputable def zhm (n:Nat) (x:Ybj) (v1:Unit):LCon P_ Ty_ [200000]:=lcon (X:=Yab) (Y:=Yab) (Z:=Empty) (zki n) (subC [0,0,0] (fnC P_ 22 zkj)) (fun q1=>.no) 0 false ⟨[(0,.ref 200000),(1,.any)],[(200000,.any)]⟩ ⟨[(0,.ref 200000),(1,.any),(5,.any)],[(200000,.any)]⟩ ⟨[],[]⟩ (fun q1=>([(0,.pt 200000 [] 0 0),(1,I_ q1.1)],[(200000,.lit 1 [[.ow false 0 q1.2]])])) (fun p=>([(0,.pt 200000 [] 0 0),(1,I_ p.1),(5,B_ false)],[(200000,.lit 1 [[.ow false 0 p.2]])])) (fun p=>nomatch p) n (zpc n x v1)
noncomputable def zqk (n:Nat) (x:Ybj):Pt P_ Ty_ [200000] (List Int):=.loop (V:=Unit) (zhm n x) () (x.2,x.1) fun (v1:Unit) (y1:Yab)=>.need ((y1.2.length+([(IntKind.u8.wrap y1.1)]:List Int).length) * 1≤140737488355328) (.leaf (y1.2++([(IntKind.u8.wrap y1.1)]:List Int)))
noncomputable def k217 (n:Nat):Con P_ Ty_:=z1f (X:=Ybj) (R:=(List Int)) (pro:=[200000]) (zki n) 22 zkj (fun x=>.two (.two (.loop Unit (zhm n x) false ⟨[(0,.ref 200000),(1,.any)],[(200000,.any)]⟩) .no) .no) [.pt 200000,.any] [(200000,[.ow false 0])] [] ⟨[],[(200000,.any)]⟩ [200000] true (fun x=>[.pt 200000 [] 0 0,I_ x.2]) (fun x=>[(200000,.lit 1 [[.ow false 0 x.1]])]) (fun y=>([],[(200000,.lit 1 [[.ow false 0 y]])])) (fun y=>.tu []) (fun y=>[(200000,.lit 1 [[.ow false 0 y]])]) (zqk n)
noncomputable def zql (n:Nat):Cx P_ Ty_:=⟨[k217 n],[(12,false,0)],[],[]⟩
abbrev zqm:List (List Nat):=[[0,3],[0,3],[0,3,18],[]]
noncomputable def zqn (n:Nat) (x:(List Int)×Xb):Pt P_ Ty_ [200000] (List Int):=.need ((x.1.length+([(IntKind.u8.wrap x.2.Kind_)]:List Int).length) * 1≤140737488355328) (.ite (x.2.Kind_==3) (.call (k217 n) ((x.1++([(IntKind.u8.wrap x.2.Kind_)]:List Int)),x.2.Param_) fun (y1:(List Int))=>.leaf y1) (.leaf (x.1++([(IntKind.u8.wrap x.2.Kind_)]:List Int))))
noncomputable def k218 (n:Nat):Con P_ Ty_:=z1f (X:=(List Int)×Xb) (R:=(List Int)) (pro:=[200000]) (zql n) 23 zqm (fun x=>.no) [.pt 200000,.ag [.any,.any]] [(200000,[.ow false 0])] [] ⟨[],[(200000,.any)]⟩ [200000] true (fun x=>[.pt 200000 [] 0 0,.ag [I_ x.2.Kind_,I_ x.2.Param_]]) (fun x=>[(200000,.lit 1 [[.ow false 0 x.1]])]) (fun y=>([],[(200000,.lit 1 [[.ow false 0 y]])])) (fun y=>.tu []) (fun y=>[(200000,.lit 1 [[.ow false 0 y]])]) (zqn n)
noncomputable def zkk (n:Nat):Cx P_ Ty_:=⟨[],[(21,false,0)],[],[]⟩
abbrev zkl:List (List Nat):=[[0,1,7,8],[0,1,7,8,9],[0,1,6,7,8],[0,1,7,8],[0,1,7,8]]
noncomputable def zpd (n:Nat) (x:Ybk) (v1:Unit) (q1:Yab):Pt P_ Ty_ [200000] (Bo (Yab) (Yab) Empty):=.ite (decide (q1.1<x.2.2)) (.need (0≤(IntKind.i64.wrap ((8:Int) * q1.1))) (.need ((q1.2.length+([(IntKind.u8.wrap (x.2.1.fdiv (2 ^ min (IntKind.i64.wrap ((8:Int) * q1.1)).toNat IntKind.u64.bits)))]:List Int).length) * 1≤140737488355328) (.leaf (.go ((IntKind.i64.wrap (q1.1+(1:Int))),(q1.2++([(IntKind.u8.wrap (x.2.1.fdiv (2 ^ min (IntKind.i64.wrap ((8:Int) * q1.1)).toNat IntKind.u64.bits)))]:List Int))))))) (.leaf (.out (q1.1,q1.2)))
noncomputable def zhn (n:Nat) (x:Ybk) (v1:Unit):LCon P_ Ty_ [200000]:=lcon (X:=Yab) (Y:=Yab) (Z:=Empty) (zkk n) (subC [1,0,0] (fnC P_ 24 zkl)) (fun q1=>.no) 0 false ⟨[(0,.ref 200000),(1,.any),(7,.any),(8,.any)],[(200000,.any)]⟩ ⟨[(0,.ref 200000),(1,.any),(7,.any),(8,.any),(9,.any)],[(200000,.any)]⟩ ⟨[],[]⟩ (fun q1=>([(0,.pt 200000 [] 0 0),(1,.sc (.int .u64 x.2.1)),(7,I_ x.2.2),(8,I_ q1.1)],[(200000,.lit 1 [[.ow false 0 q1.2]])])) (fun p=>([(0,.pt 200000 [] 0 0),(1,.sc (.int .u64 x.2.1)),(7,I_ x.2.2),(8,I_ p.1),(9,B_ false)],[(200000,.lit 1 [[.ow false 0 p.2]])])) (fun p=>nomatch p) n (zpd n x v1)
noncomputable def zqo (n:Nat) (x:Ybk):Pt P_ Ty_ [200000] (List Int):=.loop (V:=Unit) (zhn n x) () ((0:Int),x.1) fun (v1:Unit) (y1:Yab)=>.leaf y1.2
noncomputable def k219 (n:Nat):Con P_ Ty_:=z1f (X:=Ybk) (R:=(List Int)) (pro:=[200000]) (zkk n) 24 zkl (fun x=>.two .no (.two (.loop Unit (zhn n x) false ⟨[(0,.ref 200000),(1,.any),(7,.any),(8,.any)],[(200000,.any)]⟩) .no)) [.pt 200000,.any,.any] [(200000,[.ow false 0])] [] ⟨[],[(200000,.any)]⟩ [200000] true (fun x=>[.pt 200000 [] 0 0,.sc (.int .u64 x.2.1),I_ x.2.2]) (fun x=>[(200000,.lit 1 [[.ow false 0 x.1]])]) (fun y=>([],[(200000,.lit 1 [[.ow false 0 y]])])) (fun y=>.tu []) (fun y=>[(200000,.lit 1 [[.ow false 0 y]])]) (zqo n)
noncomputable def zqg (n:Nat):Cx P_ Ty_:=⟨[],[],[],[]⟩
abbrev zqh:List (List Nat):=[[0],[3],[3,4],[3,4],[3,4],[3,4],[3,4],[3,4],[4],[2],[2]]
noncomputable def zhf (x:Int) (p:Bool):EH Ty_:=([(4,B_ p)],[])
noncomputable def zqi (n:Nat) (x:Int):Pt P_ Ty_ [] Bool:=.join (S:=Bool) (zhf x) (.ite (x==2) (.leaf (.inl true)) (.ite (x==29) (.leaf (.inl true)) (.ite (x==30) (.leaf (.inl true)) (.ite (x==31) (.leaf (.inl true)) (.ite (x==32) (.leaf (.inl true)) (.ite (x==33) (.leaf (.inl true)) (.leaf (.inl (x==36))))))))) fun s1=>.ite s1 (.leaf true) (.leaf false)
noncomputable def k215 (n:Nat):Con P_ Ty_:=z1f (X:=Int) (R:=Bool) (pro:=[]) (zqg n) 53 zqh (fun x=>.two .no (.two (.two .no (.two (.join Bool (zhf x) ⟨[(4,.any)],[]⟩ .no .no) .no)) .no)) [.any] [] [] ⟨[(2,.any)],[]⟩ [] true (fun x=>[I_ x]) (fun x=>[]) (fun y=>([(2,B_ y)],[])) (fun y=>B_ y) (fun y=>[]) (zqi n)
noncomputable def zn3 (n:Nat):Cx P_ Ty_:=⟨[k11 n,k9 n,k215 n],[(12,false,8),(13,false,8),(24,false,8),(41,false,8)],[],[]⟩
abbrev zn4:List (List Nat):=[[0],[0,3],[0,3,7],[0,3],[0,3],[0,3,36],[3],[2]]
noncomputable def zee (x:Ybl) (p:(List Addr)):EH Ty_:=([(0,.pp (.xp x.1 [(.int .i64 x.2.1),(.int .i64 x.2.2.1),(.int .i64 x.2.2.2.1),(.int .i64 x.2.2.2.2.1),(.int .i64 x.2.2.2.2.2.1),(.int .i64 x.2.2.2.2.2.2.1),(.int .u32 x.2.2.2.2.2.2.2)] 0)),(3,.sw 600001 [])],[(600001,.typ false 8 p)])
noncomputable def zn5 (n:Nat) (x:Ybl):Pt P_ Ty_ [] (List Addr):=.join (S:=(List Addr)) (zee x) (.call (k11 n) (⟨x.2.1,x.2.2.1,x.2.2.2.1,x.2.2.2.2.1,x.2.2.2.2.2.1,x.2.2.2.2.2.2.1,x.2.2.2.2.2.2.2⟩:Xd) fun (y1:Bool)=>.ite y1 (.need (([(⟨x.1,1,none⟩:Addr)]:List Addr).length * 8≤140737488355328) (.leaf (.inl ([(⟨x.1,1,none⟩:Addr)]:List Addr)))) (.leaf (.inl ([]:List Addr)))) fun s1=>.call (k9 n) (⟨x.2.1,x.2.2.1,x.2.2.2.1,x.2.2.2.2.1,x.2.2.2.2.2.1,x.2.2.2.2.2.2.1,x.2.2.2.2.2.2.2⟩:Xd) fun (y2:(List Int))=>.need (0≤(y2.length:Int)∧(y2.length:Int)≤(([(⟨x.1,2,none⟩:Addr),(⟨x.1,3,none⟩:Addr),(⟨x.1,4,none⟩:Addr)]:List Addr).length:Int)) (.need (0+(y2.length:Int).toNat≤([(⟨x.1,2,none⟩:Addr),(⟨x.1,3,none⟩:Addr),(⟨x.1,4,none⟩:Addr)]:List Addr).length) (.need ((s1.length+((([(⟨x.1,2,none⟩:Addr),(⟨x.1,3,none⟩:Addr),(⟨x.1,4,none⟩:Addr)]:List Addr).drop 0).take ((y2.length:Int).toNat)).length) * 8≤140737488355328) (.call (k215 n) x.2.1 fun (y3:Bool)=>.ite y3 (.need (((s1++((([(⟨x.1,2,none⟩:Addr),(⟨x.1,3,none⟩:Addr),(⟨x.1,4,none⟩:Addr)]:List Addr).drop 0).take ((y2.length:Int).toNat))).length+([(⟨x.1,5,none⟩:Addr)]:List Addr).length) * 8≤140737488355328) (.leaf ((s1++((([(⟨x.1,2,none⟩:Addr),(⟨x.1,3,none⟩:Addr),(⟨x.1,4,none⟩:Addr)]:List Addr).drop 0).take ((y2.length:Int).toNat)))++([(⟨x.1,5,none⟩:Addr)]:List Addr)))) (.leaf (s1++((([(⟨x.1,2,none⟩:Addr),(⟨x.1,3,none⟩:Addr),(⟨x.1,4,none⟩:Addr)]:List Addr).drop 0).take ((y2.length:Int).toNat)))))))
noncomputable def zah (n:Nat):Con P_ Ty_:=z1f (X:=Ybl) (R:=(List Addr)) (pro:=[]) (zn3 n) 25 zn4 (fun x=>.two .no (.two .no (.join (List Addr) (zee x) ⟨[(0,.any),(3,.own 600001 false 8)],[(600001,.any)]⟩ .no .no))) [.any] [] [100000] ⟨[(2,.ref 100000)],[(100000,.any)]⟩ [100000] true (fun x=>[.pp (.xp x.1 [(.int .i64 x.2.1),(.int .i64 x.2.2.1),(.int .i64 x.2.2.2.1),(.int .i64 x.2.2.2.2.1),(.int .i64 x.2.2.2.2.2.1),(.int .i64 x.2.2.2.2.2.2.1),(.int .u32 x.2.2.2.2.2.2.2)] 0)]) (fun x=>[]) (fun y=>([(2,.sw 100000 [])],[(100000,.typ false 8 y)])) (fun y=>.sw 100000 []) (fun y=>[(100000,.typ false 8 y)]) (zn5 n)
def z42 (o0:Option Bool) (o1:Option (List Int)) (o2:Option Bool) (b:Nat):Option (List Addr):=(o0.bind fun y1=>bif y1 then (need (([(⟨b,1,none⟩:Addr)]:List Addr).length * 8≤140737488355328) (some (.inl ([(⟨b,1,none⟩:Addr)]:List Addr)))) else (some (.inl ([]:List Addr))):Option ((List Addr)⊕_)).bind (z3b fun s1=>o1.bind fun y2=>need (0≤(y2.length:Int)∧(y2.length:Int)≤(([(⟨b,2,none⟩:Addr),(⟨b,3,none⟩:Addr),(⟨b,4,none⟩:Addr)]:List Addr).length:Int)) (need (0+(y2.length:Int).toNat≤([(⟨b,2,none⟩:Addr),(⟨b,3,none⟩:Addr),(⟨b,4,none⟩:Addr)]:List Addr).length) (need ((s1.length+((([(⟨b,2,none⟩:Addr),(⟨b,3,none⟩:Addr),(⟨b,4,none⟩:Addr)]:List Addr).drop 0).take ((y2.length:Int).toNat)).length) * 8≤140737488355328) (o2.bind fun y3=>bif y3 then (need (((s1++((([(⟨b,2,none⟩:Addr),(⟨b,3,none⟩:Addr),(⟨b,4,none⟩:Addr)]:List Addr).drop 0).take ((y2.length:Int).toNat))).length+([(⟨b,5,none⟩:Addr)]:List Addr).length) * 8≤140737488355328) (some ((s1++((([(⟨b,2,none⟩:Addr),(⟨b,3,none⟩:Addr),(⟨b,4,none⟩:Addr)]:List Addr).drop 0).take ((y2.length:Int).toNat)))++([(⟨b,5,none⟩:Addr)]:List Addr)))) else (some (s1++((([(⟨b,2,none⟩:Addr),(⟨b,3,none⟩:Addr),(⟨b,4,none⟩:Addr)]:List Addr).drop 0).take ((y2.length:Int).toNat))))))))
theorem ziy (n:Nat) (x:Ybl):(zah n).G x=z42 ((k11 n).G (⟨x.2.1,x.2.2.1,x.2.2.2.1,x.2.2.2.2.1,x.2.2.2.2.2.1,x.2.2.2.2.2.2.1,x.2.2.2.2.2.2.2⟩:Xd)) ((k9 n).G (⟨x.2.1,x.2.2.1,x.2.2.2.1,x.2.2.2.2.1,x.2.2.2.2.2.1,x.2.2.2.2.2.2.1,x.2.2.2.2.2.2.2⟩:Xd)) ((k215 n).G x.2.1) x.1:=by kernel_rfl
theorem zey (o0:Option Bool) (o1:Option (List Int)) (o2:Option Bool) (l:List Addr) (h:z42 o0 o1 o2 0=some l) (b:Nat):z42 o0 o1 o2 b=some ((l.map (·.off)).map fun c=>(⟨b,c,none⟩:Addr)):=by
 cases o0 with
 | none=>(revert h; simp [z3b,need,z42])
 | some z0 =>
 cases o1 with
 | none=>(revert h; (try cases z0) <;> simp [z3b,need,z42])
 | some z1 =>
 cases o2 with
 | none=>(revert h; (try cases z0) <;> simp [z3b,need,z42])
 | some z2 =>
 revert h
 cases z0 <;> cases z2 <;> simp [z42,z3b,need] <;> intros <;> subst_vars <;> simp_all [List.map_take]
theorem zix (n:Nat) (x:Int×Int×Int×Int×Int×Int×Int) (l:List Addr) (h:(zah n).G (0,x)=some l) (b:Nat):(zah n).G (b,x)=some ((l.map (·.off)).map fun c=>(⟨b,c,none⟩:Addr)):=by
 rw [ziy] at h ⊢
 exact zey _ _ _ l h b
noncomputable def k220 (n:Nat):Con Go.Proofs.Try.prog Ty_ where
 f:=25
 X:=Int×Int×Int×Int×Int×Int×Int
 Y:=(List Nat)×Int×Int×Int×Int×Int×Int×Int
 A:=[.pt 200000]
 H:=[]
 N:=[]
 encA:=fun _=>[.pt 200000 [] 0 0]
 encH:=fun x=>[(200000,.lit 7 [[.sc (.int .i64 x.1),.sc (.int .i64 x.2.1),.sc (.int .i64 x.2.2.1),.sc (.int .i64 x.2.2.2.1),.sc (.int .i64 x.2.2.2.2.1),.sc (.int .i64 x.2.2.2.2.2.1),.sc (.int .u32 x.2.2.2.2.2.2)]])]
 G:=fun x=>((zah n).G (0,x)).map fun l=>(l.map (·.off),x)
 encR:=fun y=>.pp (.fs 200000 y.1)
 encO:=fun y=>[(200000,.lit 7 [[.sc (.int .i64 y.2.1),.sc (.int .i64 y.2.2.1),.sc (.int .i64 y.2.2.2.1),.sc (.int .i64 y.2.2.2.2.1),.sc (.int .i64 y.2.2.2.2.2.1),.sc (.int .i64 y.2.2.2.2.2.2.1),.sc (.int .u32 y.2.2.2.2.2.2.2)]])]
 strong:=false
 ok:=fun x y h=>⟨fun h=>(nomatch h),by
  obtain ⟨l,hl,rfl⟩:=Option.map_eq_some_iff.1 h
  refine CallG.fields' (x:=[(.int .i64 x.1),(.int .i64 x.2.1),(.int .i64 x.2.2.1),(.int .i64 x.2.2.2.1),(.int .i64 x.2.2.2.2.1),(.int .i64 x.2.2.2.2.2.1),(.int .u32 x.2.2.2.2.2.2)]) (cs:=l.map (·.off)) fun b=>?_
  exact ((zah n).ok (b,x) _ (zix n x l hl b)).2⟩
noncomputable def z8n (n:Nat):Cx P_ Ty_:=⟨[k16 n,k217 n,k218 n,k219 n,k220 n,k199 n],[(26,false,0),(50,false,0),(110,false,0),(152,false,0)],[],[]⟩
abbrev z8o:List (List Nat):=[[1],[1,4],[1,4,24],[2,3],[1,6],[1,6],[1,6,36,37,38],[1,6,36,37,38,39],[1,6,8,36,37,38],[1,6,8,36,37,38],[1,6,8,36,37,38],[1,6,8,36,37,38],[1,6,36,37,38],[1,6,36,37,38],[1,6],[1,6,80,81,82],[1,6,80,81,82,83],[1,6,10,80,81,82],[1,6,80,81,82],[1,6,80,81,82],[1,6],[1,6,96,97,98],[1,6,96,97,98,99],[1,6,12,96,97,98],[1,6,12,13,96,97,98],[1,6,12,13,96,97,98,103],[1,6,12,13,96,97,98],[1,6,12,96,97,98],[1,6,12,96,97,98],[1,6,12,96,97,98,121],[1,6,96,97,98],[1,6,96,97,98],[1,6,96,97,98],[1,6],[6,138,139,140],[6,138,139,140,141],[6,15,138,139,140],[6,15,138,139,140],[6,15,138,139,140,156,157,158],[6,15,138,139,140,156,157,158,159],[6,15,17,138,139,140,156,157,158],[6,15,138,139,140,156,157,158],[6,15,138,139,140,156,157,158],[6,15,138,139,140,170],[6,138,139,140],[6,138,139,140],[6],[2,3]]
noncomputable def zhl (x:Xe) (v3:Unit) (q3:Yab) (p:Ybs):EH Ty_:=([(1,.pt 1 [] 0 0),(6,.pt 29 [] 0 0),(12,.pt 12 [] 0 0),(13,.sc (.int .u8 p.1)),(96,.im 3 x.Slots_),(97,I_ (x.Slots_.length:Int)),(98,I_ q3.1)],[(1,.lit 4 [[.im 1 x.Sign_,.im 2 x.Regs_,.im 3 x.Slots_,.im 4 x.List_]]),(29,.lit 1 [[.ow false 0 q3.2]]),(12,.lit 5 [[I_ p.2.1,I_ p.2.2.1,B_ p.2.2.2.1,.sc (.int .u32 p.2.2.2.2.1),I_ p.2.2.2.2.2]])])
noncomputable def zp7 (n:Nat) (x:Xe) (v1:Unit) (q1:Yab):Pt P_ Ty_ [] (Bo (Yab) (Yab) Empty):=.ite (decide (q1.1<(x.Sign_.length:Int))) (.bnd (idx x.Sign_ q1.1) fun y3=>.need ((q1.2.length+([(IntKind.u8.wrap y3.Kind_)]:List Int).length) * 1≤140737488355328) (.call (k217 n) ((q1.2++([(IntKind.u8.wrap y3.Kind_)]:List Int)),(y3.Name_.size:Int)) fun (y4:(List Int))=>.need ((y4.length+(bytesOf y3.Name_).length) * 1≤140737488355328) (.call (k217 n) ((y4++(bytesOf y3.Name_)),y3.Len_) fun (y5:(List Int))=>.leaf (.go ((IntKind.i64.wrap (q1.1+(1:Int))),y5))))) (.leaf (.out (q1.1,q1.2)))
noncomputable def zhg (n:Nat) (x:Xe) (v1:Unit):LCon P_ Ty_ []:=lcon (X:=Yab) (Y:=Yab) (Z:=Empty) (z8n n) (subC [1,1,1,1,0,1,0,0] (fnC P_ 11 z8o)) (fun q1=>.no) 0 false ⟨[(1,.ref 1),(6,.ref 29),(36,.im 1),(37,.any),(38,.any)],[(1,.any),(29,.any)]⟩ ⟨[(1,.ref 1),(6,.ref 29),(36,.im 1),(37,.any),(38,.any),(39,.any)],[(1,.any),(29,.any)]⟩ ⟨[],[]⟩ (fun q1=>([(1,.pt 1 [] 0 0),(6,.pt 29 [] 0 0),(36,.im 1 x.Sign_),(37,I_ (x.Sign_.length:Int)),(38,I_ q1.1)],[(1,.lit 4 [[.im 1 x.Sign_,.im 2 x.Regs_,.im 3 x.Slots_,.im 4 x.List_]]),(29,.lit 1 [[.ow false 0 q1.2]])])) (fun p=>([(1,.pt 1 [] 0 0),(6,.pt 29 [] 0 0),(36,.im 1 x.Sign_),(37,I_ (x.Sign_.length:Int)),(38,I_ p.1),(39,B_ false)],[(1,.lit 4 [[.im 1 x.Sign_,.im 2 x.Regs_,.im 3 x.Slots_,.im 4 x.List_]]),(29,.lit 1 [[.ow false 0 p.2]])])) (fun p=>nomatch p) n (zp7 n x v1)
noncomputable def zp8 (n:Nat) (x:Xe) (v2:Unit) (q2:Yab):Pt P_ Ty_ [] (Bo (Yab) (Yab) Empty):=.ite (decide (q2.1<(x.Regs_.length:Int))) (.bnd (idx x.Regs_ q2.1) fun y8=>.call (k218 n) (q2.2,y8) fun (y9:(List Int))=>.leaf (.go ((IntKind.i64.wrap (q2.1+(1:Int))),y9))) (.leaf (.out (q2.1,q2.2)))
noncomputable def zhh (n:Nat) (x:Xe) (v2:Unit):LCon P_ Ty_ []:=lcon (X:=Yab) (Y:=Yab) (Z:=Empty) (z8n n) (subC [1,1,1,1,1,1,0,1,0,0] (fnC P_ 11 z8o)) (fun q2=>.no) 2 false ⟨[(1,.ref 1),(6,.ref 29),(80,.im 2),(81,.any),(82,.any)],[(1,.any),(29,.any)]⟩ ⟨[(1,.ref 1),(6,.ref 29),(80,.im 2),(81,.any),(82,.any),(83,.any)],[(1,.any),(29,.any)]⟩ ⟨[],[]⟩ (fun q2=>([(1,.pt 1 [] 0 0),(6,.pt 29 [] 0 0),(80,.im 2 x.Regs_),(81,I_ (x.Regs_.length:Int)),(82,I_ q2.1)],[(1,.lit 4 [[.im 1 x.Sign_,.im 2 x.Regs_,.im 3 x.Slots_,.im 4 x.List_]]),(29,.lit 1 [[.ow false 0 q2.2]])])) (fun p=>([(1,.pt 1 [] 0 0),(6,.pt 29 [] 0 0),(80,.im 2 x.Regs_),(81,I_ (x.Regs_.length:Int)),(82,I_ p.1),(83,B_ false)],[(1,.lit 4 [[.im 1 x.Sign_,.im 2 x.Regs_,.im 3 x.Slots_,.im 4 x.List_]]),(29,.lit 1 [[.ow false 0 p.2]])])) (fun p=>nomatch p) n (zp8 n x v2)
noncomputable def zp9 (n:Nat) (x:Xe) (v3:Unit) (q3:Yab):Pt P_ Ty_ [] (Bo (Yab) (Yab) Empty):=.ite (decide (q3.1<(x.Slots_.length:Int))) (.bnd (idx x.Slots_ q3.1) fun y12=>.join (S:=Ybs) (zhl x v3 q3) (.ite y12.Keep_ (.leaf (.inl ((1:Int),y12.Type_.Kind_,y12.Type_.Param_,y12.Keep_,y12.Bits_,y12.Int_))) (.leaf (.inl ((0:Int),y12.Type_.Kind_,y12.Type_.Param_,y12.Keep_,y12.Bits_,y12.Int_)))) fun s1=>.need ((q3.2.length+([s1.1]:List Int).length) * 1≤140737488355328) (.call (k218 n) ((q3.2++([s1.1]:List Int)),(⟨s1.2.1,s1.2.2.1⟩:Xb)) fun (y13:(List Int))=>.ite (s1.2.1==2) (.call (k217 n) (y13,s1.2.2.2.2.2) fun (y14:(List Int))=>.leaf (.go ((IntKind.i64.wrap (q3.1+(1:Int))),y14))) (.call (k219 n) (y13,(IntKind.u64.wrap s1.2.2.2.2.1),(4:Int)) fun (y15:(List Int))=>.leaf (.go ((IntKind.i64.wrap (q3.1+(1:Int))),y15))))) (.leaf (.out (q3.1,q3.2)))
noncomputable def zhi (n:Nat) (x:Xe) (v3:Unit):LCon P_ Ty_ []:=lcon (X:=Yab) (Y:=Yab) (Z:=Empty) (z8n n) (subC [1,1,1,1,1,1,1,1,0,1,0,0] (fnC P_ 11 z8o)) (fun q3=>.two .no (.two .no (.two (.two (.two .no (.two .no (.join (Ybs) (zhl x v3 q3) ⟨[(1,.ref 1),(6,.ref 29),(12,.ref 12),(13,.any),(96,.im 3),(97,.any),(98,.any)],[(1,.any),(29,.any),(12,.any)]⟩ .no .no))) .no) .no))) 4 false ⟨[(1,.ref 1),(6,.ref 29),(96,.im 3),(97,.any),(98,.any)],[(1,.any),(29,.any)]⟩ ⟨[(1,.ref 1),(6,.ref 29),(96,.im 3),(97,.any),(98,.any),(99,.any)],[(1,.any),(29,.any)]⟩ ⟨[],[]⟩ (fun q3=>([(1,.pt 1 [] 0 0),(6,.pt 29 [] 0 0),(96,.im 3 x.Slots_),(97,I_ (x.Slots_.length:Int)),(98,I_ q3.1)],[(1,.lit 4 [[.im 1 x.Sign_,.im 2 x.Regs_,.im 3 x.Slots_,.im 4 x.List_]]),(29,.lit 1 [[.ow false 0 q3.2]])])) (fun p=>([(1,.pt 1 [] 0 0),(6,.pt 29 [] 0 0),(96,.im 3 x.Slots_),(97,I_ (x.Slots_.length:Int)),(98,I_ p.1),(99,B_ false)],[(1,.lit 4 [[.im 1 x.Sign_,.im 2 x.Regs_,.im 3 x.Slots_,.im 4 x.List_]]),(29,.lit 1 [[.ow false 0 p.2]])])) (fun p=>nomatch p) n (zp9 n x v3)
noncomputable def zpb (n:Nat) (x:Xe) (v4:Unit) (q4:Yab) (v5:Ybh) (q5:Yab):Pt P_ Ty_ [] (Bo (Yab) (Yab) Empty):=.ite (decide (q5.1<v5.2.1)) (.need (0≤q5.1∧q5.1<(v5.1.length:Int)) (.bnd (v5.1[q5.1.toNat]?) fun y20=>.bnd (z3c [some v5.2.2.1,some v5.2.2.2.1,some v5.2.2.2.2.1,some v5.2.2.2.2.2.1,some v5.2.2.2.2.2.2.1,some v5.2.2.2.2.2.2.2.1,none] y20) fun y21=>.call (k217 n) (q5.2,y21) fun (y22:(List Int))=>.leaf (.go ((IntKind.i64.wrap (q5.1+(1:Int))),y22)))) (.leaf (.out (q5.1,q5.2)))
noncomputable def zhk (n:Nat) (x:Xe) (v4:Unit) (q4:Yab) (v5:Ybh):LCon P_ Ty_ []:=lcon (X:=Yab) (Y:=Yab) (Z:=Empty) (z8n n) (subC [1,1,1,1,1,1,1,1,1,1,0,1,0,0,1,1,0,0,1,1,0,1,0,0] (fnC P_ 11 z8o)) (fun q5=>.no) 8 false ⟨[(6,.ref 29),(15,.ref 15),(138,.im 4),(139,.any),(140,.any),(156,.ref 15),(157,.any),(158,.any)],[(29,.any),(15,.any)]⟩ ⟨[(6,.ref 29),(15,.ref 15),(138,.im 4),(139,.any),(140,.any),(156,.ref 15),(157,.any),(158,.any),(159,.any)],[(29,.any),(15,.any)]⟩ ⟨[],[]⟩ (fun q5=>([(6,.pt 29 [] 0 0),(15,.pt 15 [] 0 0),(138,.im 4 x.List_),(139,I_ (x.List_.length:Int)),(140,I_ q4.1),(156,.pp (.fs 15 v5.1)),(157,I_ v5.2.1),(158,I_ q5.1)],[(29,.lit 1 [[.ow false 0 q5.2]]),(15,.lit 7 [[I_ v5.2.2.1,I_ v5.2.2.2.1,I_ v5.2.2.2.2.1,I_ v5.2.2.2.2.2.1,I_ v5.2.2.2.2.2.2.1,I_ v5.2.2.2.2.2.2.2.1,.sc (.int .u32 v5.2.2.2.2.2.2.2.2)]])])) (fun p=>([(6,.pt 29 [] 0 0),(15,.pt 15 [] 0 0),(138,.im 4 x.List_),(139,I_ (x.List_.length:Int)),(140,I_ q4.1),(156,.pp (.fs 15 v5.1)),(157,I_ v5.2.1),(158,I_ p.1),(159,B_ false)],[(29,.lit 1 [[.ow false 0 p.2]]),(15,.lit 7 [[I_ v5.2.2.1,I_ v5.2.2.2.1,I_ v5.2.2.2.2.1,I_ v5.2.2.2.2.2.1,I_ v5.2.2.2.2.2.2.1,I_ v5.2.2.2.2.2.2.2.1,.sc (.int .u32 v5.2.2.2.2.2.2.2.2)]])])) (fun p=>nomatch p) n (zpb n x v4 q4 v5)
noncomputable def zpa (n:Nat) (x:Xe) (v4:Unit) (q4:Yab):Pt P_ Ty_ [] (Bo (Yab) (Yab) Empty):=.ite (decide (q4.1<(x.List_.length:Int))) (.bnd (idx x.List_ q4.1) fun y18=>.need ((q4.2.length+([(IntKind.u8.wrap y18.Op_)]:List Int).length) * 1≤140737488355328) (.call (k220 n) (y18.Op_,y18.D_,y18.A_,y18.B_,y18.C_,y18.N_,y18.Bits_) fun (y19:Ycb)=>.loop (V:=Ybh) (zhk n x v4 q4) (y19.1,(y19.1.length:Int),y19.2.1,y19.2.2.1,y19.2.2.2.1,y19.2.2.2.2.1,y19.2.2.2.2.2.1,y19.2.2.2.2.2.2.1,y19.2.2.2.2.2.2.2) ((0:Int),(q4.2++([(IntKind.u8.wrap y18.Op_)]:List Int))) fun (v5:Ybh) (y23:Yab)=>.ite (v5.2.2.1==1) (.call (k219 n) (y23.2,(IntKind.u64.wrap v5.2.2.2.2.2.2.2.2),(4:Int)) fun (y24:(List Int))=>.leaf (.go ((IntKind.i64.wrap (q4.1+(1:Int))),y24))) (.leaf (.go ((IntKind.i64.wrap (q4.1+(1:Int))),y23.2))))) (.leaf (.out (q4.1,q4.2)))
noncomputable def zhj (n:Nat) (x:Xe) (v4:Unit):LCon P_ Ty_ []:=lcon (X:=Yab) (Y:=Yab) (Z:=Empty) (z8n n) (subC [1,1,1,1,1,1,1,1,1,1,0,1,0,0] (fnC P_ 11 z8o)) (fun q4=>.two .no (.two .no (.two (.two (.two .no (.two .no (.two (.two .no (.two (.loop (Ybh) (zhk n x v4 q4) false ⟨[(6,.ref 29),(15,.ref 15),(138,.im 4),(139,.any),(140,.any),(156,.ref 15),(157,.any),(158,.any)],[(29,.any),(15,.any)]⟩) .no)) .no))) .no) .no))) 6 false ⟨[(6,.ref 29),(138,.im 4),(139,.any),(140,.any)],[(29,.any)]⟩ ⟨[(6,.ref 29),(138,.im 4),(139,.any),(140,.any),(141,.any)],[(29,.any)]⟩ ⟨[],[]⟩ (fun q4=>([(6,.pt 29 [] 0 0),(138,.im 4 x.List_),(139,I_ (x.List_.length:Int)),(140,I_ q4.1)],[(29,.lit 1 [[.ow false 0 q4.2]])])) (fun p=>([(6,.pt 29 [] 0 0),(138,.im 4 x.List_),(139,I_ (x.List_.length:Int)),(140,I_ p.1),(141,B_ false)],[(29,.lit 1 [[.ow false 0 p.2]])])) (fun p=>nomatch p) n (zpa n x v4)
noncomputable def zqj (n:Nat) (x:Xe):Pt P_ Ty_ [] (Yad):=.call (k16 n) x fun (y1:Yaa)=>.ite (y1.1 != (0:Int)) (.leaf ((⟨#[]⟩:ByteArray),y1.1)) (.call (k217 n) (([(108:Int),(116:Int),(104:Int),(49:Int)]:List Int),(x.Sign_.length:Int)) fun (y2:(List Int))=>.loop (V:=Unit) (zhg n x) () ((0:Int),y2) fun (v1:Unit) (y6:Yab)=>.call (k217 n) (y6.2,(x.Regs_.length:Int)) fun (y7:(List Int))=>.loop (V:=Unit) (zhh n x) () ((0:Int),y7) fun (v2:Unit) (y10:Yab)=>.call (k217 n) (y10.2,(x.Slots_.length:Int)) fun (y11:(List Int))=>.loop (V:=Unit) (zhi n x) () ((0:Int),y11) fun (v3:Unit) (y16:Yab)=>.call (k217 n) (y16.2,(x.List_.length:Int)) fun (y17:(List Int))=>.loop (V:=Unit) (zhj n x) () ((0:Int),y17) fun (v4:Unit) (y25:Yab)=>.call (k199 n) (z2o y25.2) fun (y26:Int)=>.call (k219 n) (y25.2,y26,(8:Int)) fun (y27:(List Int))=>.leaf ((z2o y27),(0:Int)))
noncomputable def k216 (n:Nat):Con P_ Ty_:=z1f (X:=Xe) (R:=Yad) (pro:=[]) (z8n n) 11 z8o (fun x=>.two .no (.two .no (.two .no (.two .no (.two (.two .no (.two (.loop Unit (zhg n x) false ⟨[(1,.ref 1),(6,.ref 29),(36,.im 1),(37,.any),(38,.any)],[(1,.any),(29,.any)]⟩) .no)) (.two .no (.two (.two .no (.two (.loop Unit (zhh n x) false ⟨[(1,.ref 1),(6,.ref 29),(80,.im 2),(81,.any),(82,.any)],[(1,.any),(29,.any)]⟩) .no)) (.two .no (.two (.two .no (.two (.loop Unit (zhi n x) false ⟨[(1,.ref 1),(6,.ref 29),(96,.im 3),(97,.any),(98,.any)],[(1,.any),(29,.any)]⟩) .no)) (.two .no (.two (.two .no (.two (.loop Unit (zhj n x) false ⟨[(6,.ref 29),(138,.im 4),(139,.any),(140,.any)],[(29,.any)]⟩) .no)) .no))))))))))) [.ag [.im 1,.im 2,.im 3,.im 4]] [] [] ⟨[(2,.any),(3,.any)],[]⟩ [] true (fun x=>[.ag [.im 1 x.Sign_,.im 2 x.Regs_,.im 3 x.Slots_,.im 4 x.List_]]) (fun x=>[]) (fun y=>([(2,.sc (.string y.1)),(3,I_ y.2)],[])) (fun y=>.tu [.sc (.string y.1),I_ y.2]) (fun y=>[]) (zqj n)
noncomputable def zqp (n:Nat):Cx P_ Ty_:=⟨[],[],[],[]⟩
abbrev zqq:List (List Nat):=[[0,1],[0,1,17],[0,1],[0,1,5],[5],[4]]
noncomputable def zqr (n:Nat) (x:Yal):Pt P_ Ty_ [200000] ((Ybd)⊕(Yaa)):=.ite (decide ((IntKind.i64.wrap ((x.1.size:Int) - x.2.1))<x.2.2)) (.leaf (.inr ((242:Int),x.2.1))) (.need (0≤x.2.1∧x.2.1≤(IntKind.i64.wrap (x.2.1+x.2.2))∧(IntKind.i64.wrap (x.2.1+x.2.2))≤(x.1.size:Int)) (.leaf (.inl ((x.1.extract x.2.1.toNat ((IntKind.i64.wrap (x.2.1+x.2.2)).toNat)),x.1,(IntKind.i64.wrap (x.2.1+x.2.2))))))
noncomputable def k222 (n:Nat):Con P_ Ty_:=conX (X:=Yal) (R:=Ybd) (Z:=Yaa) (pro:=[200000]) (zqp n) 56 zqq (fun x=>.no) [.pt 200000,.any] [] [] ⟨[(4,.any)],[(200000,.any)]⟩ [200000] (fun x=>[.pt 200000 [] 0 0,I_ x.2.2]) (fun x=>[(200000,.lit 2 [[.sc (.string x.1),I_ x.2.1]])]) (fun y=>([(4,.sc (.string y.1))],[(200000,.lit 2 [[.sc (.string y.2.1),I_ y.2.2]])])) (fun y=>.sc (.string y.1)) (fun y=>[(200000,.lit 2 [[.sc (.string y.2.1),I_ y.2.2]])]) (fun z=>.iface 81 (.agg (List.toArray [.int .i64 z.1,.int .i64 z.2]))) (zqr n)
noncomputable def zkm (n:Nat):Cx P_ Ty_:=⟨[],[],[],[]⟩
abbrev zkn:List (List Nat):=[[0,1],[0,1,5],[0,1,5,6],[0,1,5,6,7],[0,1,5,6,7,24],[0,1,5,6,7],[0,1,5,6,7,8],[0,1,5,6,7,8],[0,1,5,6,7,8,53],[0,1,5,6,7,8],[0,1,5,6,7,8],[0,1,5,6,7,65],[0,1,5,6,7],[5,6,69],[6],[4]]
noncomputable def zhp (x:Yal) (v1:Unit) (q1:Yak) (p:Bool):EH Ty_:=([(0,.pt 200000 [] 0 0),(1,I_ x.2.2),(5,I_ x.2.1),(6,.sc (.int .u64 q1.1)),(7,I_ q1.2.1),(8,.sc (.int .u8 (z2l x.1 q1.2.2))),(53,B_ p)],[(200000,.lit 2 [[.sc (.string x.1),I_ (IntKind.i64.wrap (q1.2.2+(1:Int)))]])])
noncomputable def zpe (n:Nat) (x:Yal) (v1:Unit) (q1:Yak):Pt P_ Ty_ [200000] (Bo (Yak) (Yak) (Yaa)):=.ite (q1.2.2==(x.1.size:Int)) (.leaf (.ret ((242:Int),x.2.1))) (.need (0≤q1.2.2∧q1.2.2<(x.1.size:Int)) (.join (S:=Bool) (zhp x v1 q1) (.ite (decide (q1.2.1 > (56:Int))) (.leaf (.inl true)) (.ite (decide (q1.2.1 > (0:Int))) (.leaf (.inl ((z2l x.1 q1.2.2)==0))) (.leaf (.inl false)))) fun s1=>.ite s1 (.leaf (.ret ((243:Int),x.2.1))) (.need (0≤q1.2.1) (.ite (decide ((z2l x.1 q1.2.2)<(128:Int))) (.leaf (.out ((IntKind.u64.wrap (BitVec.ofInt IntKind.u64.bits q1.1 ||| BitVec.ofInt IntKind.u64.bits (IntKind.u64.wrap ((IntKind.u64.wrap (IntKind.u8.wrap (BitVec.ofInt IntKind.u8.bits (z2l x.1 q1.2.2) &&& BitVec.ofInt IntKind.u8.bits (127:Int)).toNat)) * 2 ^ min q1.2.1.toNat IntKind.u64.bits))).toNat),q1.2.1,(IntKind.i64.wrap (q1.2.2+(1:Int)))))) (.leaf (.go ((IntKind.u64.wrap (BitVec.ofInt IntKind.u64.bits q1.1 ||| BitVec.ofInt IntKind.u64.bits (IntKind.u64.wrap ((IntKind.u64.wrap (IntKind.u8.wrap (BitVec.ofInt IntKind.u8.bits (z2l x.1 q1.2.2) &&& BitVec.ofInt IntKind.u8.bits (127:Int)).toNat)) * 2 ^ min q1.2.1.toNat IntKind.u64.bits))).toNat),(IntKind.i64.wrap (q1.2.1+(7:Int))),(IntKind.i64.wrap (q1.2.2+(1:Int))))))))))
noncomputable def zho (n:Nat) (x:Yal) (v1:Unit):LCon P_ Ty_ [200000]:=lcon (X:=Yak) (Y:=Yak) (Z:=Yaa) (zkm n) (subC [1,1,1,0,1,0,0] (fnC P_ 80 zkn)) (fun q1=>.two (.two (.two .no (.two .no (.two .no (.two (.join Bool (zhp x v1 q1) ⟨[(0,.ref 200000),(1,.any),(5,.any),(6,.any),(7,.any),(8,.any),(53,.any)],[(200000,.any)]⟩ .no .no) .no)))) .no) .no) 0 true ⟨[(0,.ref 200000),(1,.any),(5,.any),(6,.any),(7,.any)],[(200000,.any)]⟩ ⟨[(0,.ref 200000),(1,.any),(5,.any),(6,.any),(7,.any),(65,.any)],[(200000,.any)]⟩ ⟨[],[]⟩ (fun q1=>([(0,.pt 200000 [] 0 0),(1,I_ x.2.2),(5,I_ x.2.1),(6,.sc (.int .u64 q1.1)),(7,I_ q1.2.1)],[(200000,.lit 2 [[.sc (.string x.1),I_ q1.2.2]])])) (fun p=>([(0,.pt 200000 [] 0 0),(1,I_ x.2.2),(5,I_ x.2.1),(6,.sc (.int .u64 p.1)),(7,I_ p.2.1),(65,B_ true)],[(200000,.lit 2 [[.sc (.string x.1),I_ p.2.2]])])) (fun p=>ofX (.iface 81 (.agg (List.toArray [.int .i64 p.1,.int .i64 p.2])))) n (zpe n x v1)
noncomputable def zqs (n:Nat) (x:Yal):Pt P_ Ty_ [200000] ((Yaf)⊕(Yaa)):=.loopR (V:=Unit) (zho n x) () ((0:Int),(0:Int),x.2.1) (fun (v1:Unit) (y1:Yak)=>.ite (decide (y1.1 > (IntKind.u64.wrap x.2.2))) (.leaf (.inr ((2:Int),x.2.1))) (.leaf (.inl ((IntKind.i64.wrap y1.1),x.1,y1.2.2)))) fun (v1:Unit) (z1:Yaa)=>.leaf (.inr (z1.1,z1.2))
noncomputable def k223 (n:Nat):Con P_ Ty_:=conX (X:=Yal) (R:=Yaf) (Z:=Yaa) (pro:=[200000]) (zkm n) 80 zkn (fun x=>.two .no (.two .no (.two .no (.two (.two .no (.two (.loop Unit (zho n x) true ⟨[(0,.ref 200000),(1,.any),(5,.any),(6,.any),(7,.any)],[(200000,.any)]⟩) .no)) .no)))) [.pt 200000,.any] [] [] ⟨[(4,.any)],[(200000,.any)]⟩ [200000] (fun x=>[.pt 200000 [] 0 0,I_ x.2.2]) (fun x=>[(200000,.lit 2 [[.sc (.string x.1),I_ x.2.1]])]) (fun y=>([(4,I_ y.1)],[(200000,.lit 2 [[.sc (.string y.2.1),I_ y.2.2]])])) (fun y=>I_ y.1) (fun y=>[(200000,.lit 2 [[.sc (.string y.2.1),I_ y.2.2]])]) (fun z=>.iface 81 (.agg (List.toArray [.int .i64 z.1,.int .i64 z.2]))) (zqs n)
noncomputable def zqt (n:Nat):Cx P_ Ty_:=⟨[k222 n],[],[],[]⟩
abbrev zqu:List (List Nat):=[[0,1,2],[0,1,2,7],[1,2,7,8],[7,8,23],[8],[6]]
noncomputable def zhq (x:Yah) (p:Ybt):EH Ty_:=([(7,I_ x.2.1),(8,.sc (.int .u8 p.1)),(23,B_ p.2.1)],[(200000,.lit 2 [[.sc (.string p.2.2.1),I_ p.2.2.2]])])
noncomputable def zqv (n:Nat) (x:Yah):Pt P_ Ty_ [200000] ((Yaf)⊕(Yaa)):=.callX (k222 n) (x.1,x.2.1,(1:Int)) (fun (y1:Ybd)=>.need (0≤(0:Int)∧(0:Int)<(y1.1.size:Int)) (.join (S:=Ybt) (zhq x) (.ite (decide ((z2l y1.1 (0:Int))<x.2.2.1)) (.leaf (.inl ((z2l y1.1 (0:Int)),true,y1.2.1,y1.2.2))) (.leaf (.inl ((z2l y1.1 (0:Int)),(decide ((z2l y1.1 (0:Int)) > x.2.2.2)),y1.2.1,y1.2.2)))) fun s1=>.ite s1.2.1 (.leaf (.inr ((243:Int),x.2.1))) (.leaf (.inl ((IntKind.i64.wrap s1.1),s1.2.2.1,s1.2.2.2))))) (fun (z1:Yaa)=>.leaf (.inr (z1.1,z1.2)))
noncomputable def k224 (n:Nat):Con P_ Ty_:=conX (X:=Yah) (R:=Yaf) (Z:=Yaa) (pro:=[200000]) (zqt n) 81 zqu (fun x=>.two .no (.two .no (.two .no (.two (.join (Ybt) (zhq x) ⟨[(7,.any),(8,.any),(23,.any)],[(200000,.any)]⟩ .no .no) .no)))) [.pt 200000,.any,.any] [] [] ⟨[(6,.any)],[(200000,.any)]⟩ [200000] (fun x=>[.pt 200000 [] 0 0,.sc (.int .u8 x.2.2.1),.sc (.int .u8 x.2.2.2)]) (fun x=>[(200000,.lit 2 [[.sc (.string x.1),I_ x.2.1]])]) (fun y=>([(6,I_ y.1)],[(200000,.lit 2 [[.sc (.string y.2.1),I_ y.2.2]])])) (fun y=>I_ y.1) (fun y=>[(200000,.lit 2 [[.sc (.string y.2.1),I_ y.2.2]])]) (fun z=>.iface 81 (.agg (List.toArray [.int .i64 z.1,.int .i64 z.2]))) (zqv n)
noncomputable def zqx (n:Nat):Cx P_ Ty_:=⟨[k224 n,k223 n],[],[],[]⟩
abbrev zqy:List (List Nat):=[[0,2],[0,2,3],[0,2,3,9],[2,3],[2]]
noncomputable def zhs (x:Yad) (p:Yah):EH Ty_:=([(2,.pt 2 [] 0 0),(3,.pt 3 [] 0 0)],[(200000,.lit 2 [[.sc (.string p.1),I_ p.2.1]]),(2,.lit 2 [[I_ (0:Int),I_ (0:Int)]]),(3,.lit 2 [[I_ p.2.2.1,I_ p.2.2.2]])])
noncomputable def zqz (n:Nat) (x:Yad):Pt P_ Ty_ [200000] ((Yah)⊕(Yaa)):=.callX (k224 n) (x.1,x.2,(1:Int),(3:Int)) (fun (y1:Yaf)=>.join (S:=Yah) (zhs x) (.ite (y1.1==3) (.callX (k223 n) (y1.2.1,y1.2.2,(9223372036854775807:Int)) (fun (y2:Yaf)=>.leaf (.inl (y2.2.1,y2.2.2,y1.1,y2.1))) (fun (z2:Yaa)=>.leaf (.inr (.inr (z2.1,z2.2))))) (.leaf (.inl (y1.2.1,y1.2.2,y1.1,(0:Int))))) fun s1=>.leaf (.inl (s1.1,s1.2.1,s1.2.2.1,s1.2.2.2))) (fun (z1:Yaa)=>.leaf (.inr (z1.1,z1.2)))
noncomputable def k226 (n:Nat):Con P_ Ty_:=conX (X:=Yad) (R:=Yah) (Z:=Yaa) (pro:=[200000]) (zqx n) 82 zqy (fun x=>.two .no (.two .no (.join (Yah) (zhs x) ⟨[(2,.ref 2),(3,.ref 3)],[(200000,.any),(2,.any),(3,.any)]⟩ .no .no))) [.pt 200000] [] [] ⟨[(2,.ref 100000)],[(200000,.any),(100000,.any)]⟩ [200000] (fun x=>[.pt 200000 [] 0 0]) (fun x=>[(200000,.lit 2 [[.sc (.string x.1),I_ x.2]])]) (fun y=>([(2,.pt 100000 [] 0 0)],[(200000,.lit 2 [[.sc (.string y.1),I_ y.2.1]]),(100000,.lit 2 [[I_ y.2.2.1,I_ y.2.2.2]])])) (fun y=>.ag [I_ y.2.2.1,I_ y.2.2.2]) (fun y=>[(200000,.lit 2 [[.sc (.string y.1),I_ y.2.1]])]) (fun z=>.iface 81 (.agg (List.toArray [.int .i64 z.1,.int .i64 z.2]))) (zqz n)
noncomputable def zko (n:Nat):Cx P_ Ty_:=⟨[k222 n],[],[],[]⟩
abbrev zkp:List (List Nat):=[[0,1],[0,1,5],[5,11,12,13],[5,11,12,13,14],[5,6,7,11,12,13],[5,11,12,13],[5,11,12,13],[4]]
noncomputable def zpf (n:Nat) (x:Yal) (v1:Ybi) (q1:Yaa):Pt P_ Ty_ [200000] (Bo (Yaa) (Yaa) Empty):=.ite (decide (q1.2<v1.2.1)) (.bnd (idx v1.1 q1.2) fun y2=>.need (0≤(IntKind.i64.wrap ((8:Int) * q1.2))) (.leaf (.go ((IntKind.u64.wrap (BitVec.ofInt IntKind.u64.bits q1.1 ||| BitVec.ofInt IntKind.u64.bits (IntKind.u64.wrap ((IntKind.u64.wrap y2) * 2 ^ min (IntKind.i64.wrap ((8:Int) * q1.2)).toNat IntKind.u64.bits))).toNat),(IntKind.i64.wrap (q1.2+(1:Int))))))) (.leaf (.out (q1.1,q1.2)))
noncomputable def zhr (n:Nat) (x:Yal) (v1:Ybi):LCon P_ Ty_ [200000]:=lcon (X:=Yaa) (Y:=Yaa) (Z:=Empty) (zko n) (subC [1,1,0,1,0,0] (fnC P_ 58 zkp)) (fun q1=>.no) 0 false ⟨[(5,.any),(11,.im 0),(12,.any),(13,.any)],[(200000,.any)]⟩ ⟨[(5,.any),(11,.im 0),(12,.any),(13,.any),(14,.any)],[(200000,.any)]⟩ ⟨[],[]⟩ (fun q1=>([(5,.sc (.int .u64 q1.1)),(11,.im 0 v1.1),(12,I_ v1.2.1),(13,I_ q1.2)],[(200000,.lit 2 [[.sc (.string v1.2.2.1),I_ v1.2.2.2]])])) (fun p=>([(5,.sc (.int .u64 p.1)),(11,.im 0 v1.1),(12,I_ v1.2.1),(13,I_ p.2),(14,B_ false)],[(200000,.lit 2 [[.sc (.string v1.2.2.1),I_ v1.2.2.2]])])) (fun p=>nomatch p) n (zpf n x v1)
noncomputable def zqw (n:Nat) (x:Yal):Pt P_ Ty_ [200000] ((Yaf)⊕(Yaa)):=.callX (k222 n) (x.1,x.2.1,x.2.2) (fun (y1:Ybd)=>.loop (V:=Ybi) (zhr n x) ((bytesOf y1.1),((bytesOf y1.1).length:Int),y1.2.1,y1.2.2) ((0:Int),(0:Int)) fun (v1:Ybi) (y3:Yaa)=>.leaf (.inl (y3.1,v1.2.2.1,v1.2.2.2))) (fun (z1:Yaa)=>.leaf (.inr (z1.1,z1.2)))
noncomputable def k225 (n:Nat):Con P_ Ty_:=conX (X:=Yal) (R:=Yaf) (Z:=Yaa) (pro:=[200000]) (zko n) 58 zkp (fun x=>.two .no (.two .no (.two (.two .no (.two (.loop (Ybi) (zhr n x) false ⟨[(5,.any),(11,.im 0),(12,.any),(13,.any)],[(200000,.any)]⟩) .no)) .no))) [.pt 200000,.any] [] [] ⟨[(4,.any)],[(200000,.any)]⟩ [200000] (fun x=>[.pt 200000 [] 0 0,I_ x.2.2]) (fun x=>[(200000,.lit 2 [[.sc (.string x.1),I_ x.2.1]])]) (fun y=>([(4,.sc (.int .u64 y.1))],[(200000,.lit 2 [[.sc (.string y.2.1),I_ y.2.2]])])) (fun y=>.sc (.int .u64 y.1)) (fun y=>[(200000,.lit 2 [[.sc (.string y.2.1),I_ y.2.2]])]) (fun z=>.iface 81 (.agg (List.toArray [.int .i64 z.1,.int .i64 z.2]))) (zqw n)
noncomputable def z8p (n:Nat):Cx P_ Ty_:=⟨[k223 n,k224 n,k222 n,k226 n,k225 n,k220 n],[(27,false,1),(28,false,1),(39,false,2),(40,false,2),(67,false,3),(68,false,3),(99,false,4),(100,false,4)],[],[]⟩
abbrev z8q:List (List Nat):=[[0,2],[0,2,3],[0,2,3,10,11],[0,2,3,10,11,12],[0,2,3,4,10,11],[0,2,3,4,10,11],[0,2,3,4,10,11],[0,2,3,10,11],[0,2,3,10,11],[0,2,3,32,33],[0,2,3,32,33,34],[0,2,3,32,33],[0,2,3,32,33],[0,2,3,44,45],[0,2,3,44,45,46],[0,2,3,5,44,45],[0,2,3,5,44,45,56],[0,2,3,5,44,45],[0,2,3,5,44,45],[0,2,3,44,45],[0,2,3,44,45],[0,2,3,72,73],[0,2,3,72,73,74],[0,2,3,6,72,73],[0,2,3,6,72,73,78,79,80],[0,2,3,6,72,73,78,79,80,81],[0,2,3,6,8,72,73,78,79,80],[0,2,3,6,72,73,78,79,80],[0,2,3,6,72,73,78,79,80],[0,2,3,6,72,73,91],[0,2,3,6,72,73],[0,2,3,72,73],[0,2,3,72,73],[2]]
noncomputable def zhy (x:Yad) (v2:Yat) (q2:Yau) (p:Ybu):EH Ty_:=([(0,.pt 200000 [] 0 0),(2,.pt 2 [] 0 0),(3,.pt 3 [] 0 0),(32,I_ v2.1),(33,I_ q2.1),(34,B_ true),(35,.pt 3 [] 0 1),(36,.sw 3 [(0,1)]),(37,.pt 200000 [] 0 0),(38,.ag [I_ p.1,I_ p.2.1]),(39,.sw 39 [])],[(200000,.lit 2 [[.sc (.string p.2.2.1),I_ p.2.2.2.1]]),(2,.lit 4 [[.zs,.zs,.zs,.zs]]),(3,.lit 4 [[.ow false 1 v2.2,.ow false 2 q2.2.2.2,.zs,.zs]]),(39,.typ false 2 p.2.2.2.2)])
noncomputable def zhz (x:Yad) (v3:Yav) (q3:Yaw) (p:Ybv):EH Ty_:=([(0,.pt 200000 [] 0 0),(2,.pt 2 [] 0 0),(3,.pt 3 [] 0 0),(5,.pt 5 [] 0 0),(44,I_ v3.1),(45,I_ q3.1)],[(200000,.lit 2 [[.sc (.string p.1),I_ p.2.1]]),(2,.lit 4 [[.zs,.zs,.zs,.zs]]),(3,.lit 4 [[.ow false 1 v3.2.1,.ow false 2 v3.2.2,.ow false 3 q3.2.2.2,.zs]]),(5,.lit 5 [[I_ p.2.2.1,I_ p.2.2.2.1,B_ p.2.2.2.2.1,.sc (.int .u32 p.2.2.2.2.2.1),I_ p.2.2.2.2.2.2]])])
noncomputable def zi0 (x:Yad) (v4:Yan) (q4:Yao) (p:Ybw):EH Ty_:=([(0,.pt 200000 [] 0 0),(2,.pt 2 [] 0 0),(3,.pt 3 [] 0 0),(6,.pt 6 [] 0 0),(72,I_ v4.1),(73,I_ q4.1)],[(200000,.lit 2 [[.sc (.string p.1),I_ p.2.1]]),(2,.lit 4 [[.zs,.zs,.zs,.zs]]),(3,.lit 4 [[.ow false 1 v4.2.1,.ow false 2 v4.2.2.1,.ow false 3 v4.2.2.2,.ow false 4 q4.2.2.2]]),(6,.lit 7 [[I_ p.2.2.1,I_ p.2.2.2.1,I_ p.2.2.2.2.1,I_ p.2.2.2.2.2.1,I_ p.2.2.2.2.2.2.1,I_ p.2.2.2.2.2.2.2.1,.sc (.int .u32 p.2.2.2.2.2.2.2.2)]])])
noncomputable def zpg (n:Nat) (x:Yad) (v1:Int) (q1:Ybe):Pt P_ Ty_ [200000] (Bo (Ybe) (Ybe) (Yaa)):=.ite (decide (q1.1<v1)) (.callX (k224 n) (q1.2.1,q1.2.2.1,(1:Int),(2:Int)) (fun (y2:Yaf)=>.callX (k223 n) (y2.2.1,y2.2.2,(64:Int)) (fun (y3:Yaf)=>.callX (k222 n) (y3.2.1,y3.2.2,y3.1) (fun (y4:Ybd)=>.callX (k223 n) (y4.2.1,y4.2.2,(9223372036854775807:Int)) (fun (y5:Yaf)=>.need ((q1.2.2.2.length+([(⟨y4.1,y2.1,y5.1⟩:Xa)]:List Xa).length) * 32≤140737488355328) (.leaf (.go ((IntKind.i64.wrap (q1.1+(1:Int))),y5.2.1,y5.2.2,(q1.2.2.2++([(⟨y4.1,y2.1,y5.1⟩:Xa)]:List Xa)))))) (fun (z5:Yaa)=>.leaf (.ret (z5.1,z5.2)))) (fun (z4:Yaa)=>.leaf (.ret (z4.1,z4.2)))) (fun (z3:Yaa)=>.leaf (.ret (z3.1,z3.2)))) (fun (z2:Yaa)=>.leaf (.ret (z2.1,z2.2)))) (.leaf (.out (q1.1,q1.2.1,q1.2.2.1,q1.2.2.2)))
noncomputable def zht (n:Nat) (x:Yad) (v1:Int):LCon P_ Ty_ [200000]:=lcon (X:=Ybe) (Y:=Ybe) (Z:=Yaa) (z8p n) (subC [1,1,0,1,0,0] (fnC P_ 57 z8q)) (fun q1=>.no) 0 true ⟨[(0,.ref 200000),(2,.ref 2),(3,.ref 3),(10,.any),(11,.any)],[(200000,.any),(2,.any),(3,.fix [.ow false 1,.no,.no,.no])]⟩ ⟨[(0,.ref 200000),(2,.ref 2),(3,.ref 3),(10,.any),(11,.any),(12,.any)],[(200000,.any),(2,.any),(3,.any)]⟩ ⟨[],[]⟩ (fun q1=>([(0,.pt 200000 [] 0 0),(2,.pt 2 [] 0 0),(3,.pt 3 [] 0 0),(10,I_ v1),(11,I_ q1.1)],[(200000,.lit 2 [[.sc (.string q1.2.1),I_ q1.2.2.1]]),(2,.lit 4 [[.zs,.zs,.zs,.zs]]),(3,.lit 4 [[.ow false 1 q1.2.2.2,.zs,.zs,.zs]])])) (fun p=>([(0,.pt 200000 [] 0 0),(2,.pt 2 [] 0 0),(3,.pt 3 [] 0 0),(10,I_ v1),(11,I_ p.1),(12,B_ false)],[(200000,.lit 2 [[.sc (.string p.2.1),I_ p.2.2.1]]),(2,.lit 4 [[.zs,.zs,.zs,.zs]]),(3,.lit 4 [[.ow false 1 p.2.2.2,.zs,.zs,.zs]])])) (fun p=>ofX (.iface 81 (.agg (List.toArray [.int .i64 p.1,.int .i64 p.2])))) n (zpg n x v1)
noncomputable def zph (n:Nat) (x:Yad) (v2:Yat) (q2:Yau):Pt P_ Ty_ [200000] (Bo (Yau) (Yau) (Yaa)):=.ite (decide (q2.1<v2.1)) (.alls (S:=Ybu) (Z:=Yaa) (zhy x v2 q2) (fun z=>.iface 81 (.agg (List.toArray [.int .i64 z.1,.int .i64 z.2]))) (.both (.both (.callX (k226 n) (q2.2.1,q2.2.2.1) (fun (y8:Yah)=>.leaf (.inl (y8.2.2.1,y8.2.2.2,y8.1,y8.2.1,([(⟨y8.2.2.1,y8.2.2.2⟩:Xb)]:List Xb)))) (fun (z8:Yaa)=>.leaf (.inr (z8.1,z8.2)))) (.both (.callX (k226 n) (q2.2.1,q2.2.2.1) (fun (y9:Yah)=>.leaf (.inl (y9.2.2.1,y9.2.2.2,y9.1,y9.2.1,([(⟨y9.2.2.1,y9.2.2.2⟩:Xb)]:List Xb)))) (fun (z9:Yaa)=>.leaf (.inr (z9.1,z9.2)))) (.callX (k226 n) (q2.2.1,q2.2.2.1) (fun (y10:Yah)=>.both (.leaf (.inl (y10.2.2.1,y10.2.2.2,y10.1,y10.2.1,([(⟨y10.2.2.1,y10.2.2.2⟩:Xb)]:List Xb)))) (.leaf (.inl (y10.2.2.1,y10.2.2.2,y10.1,y10.2.1,([(⟨y10.2.2.1,y10.2.2.2⟩:Xb)]:List Xb))))) (fun (z10:Yaa)=>.leaf (.inr (z10.1,z10.2)))))) (.both (.both (.callX (k226 n) (q2.2.1,q2.2.2.1) (fun (y11:Yah)=>.leaf (.inl (y11.2.2.1,y11.2.2.2,y11.1,y11.2.1,([(⟨y11.2.2.1,y11.2.2.2⟩:Xb)]:List Xb)))) (fun (z11:Yaa)=>.leaf (.inr (z11.1,z11.2)))) (.callX (k226 n) (q2.2.1,q2.2.2.1) (fun (y12:Yah)=>.both (.leaf (.inl (y12.2.2.1,y12.2.2.2,y12.1,y12.2.1,([(⟨y12.2.2.1,y12.2.2.2⟩:Xb)]:List Xb)))) (.leaf (.inl (y12.2.2.1,y12.2.2.2,y12.1,y12.2.1,([(⟨y12.2.2.1,y12.2.2.2⟩:Xb)]:List Xb))))) (fun (z12:Yaa)=>.leaf (.inr (z12.1,z12.2))))) (.callX (k226 n) (q2.2.1,q2.2.2.1) (fun (y13:Yah)=>.both (.both (.leaf (.inl (y13.2.2.1,y13.2.2.2,y13.1,y13.2.1,([(⟨y13.2.2.1,y13.2.2.2⟩:Xb)]:List Xb)))) (.leaf (.inl (y13.2.2.1,y13.2.2.2,y13.1,y13.2.1,([(⟨y13.2.2.1,y13.2.2.2⟩:Xb)]:List Xb))))) (.leaf (.inl (y13.2.2.1,y13.2.2.2,y13.1,y13.2.1,([(⟨y13.2.2.1,y13.2.2.2⟩:Xb)]:List Xb))))) (fun (z13:Yaa)=>.leaf (.inr (z13.1,z13.2)))))) (fun s1=>.need ((q2.2.2.2.length+s1.2.2.2.2.length) * 16≤140737488355328) (.leaf (.go ((IntKind.i64.wrap (q2.1+(1:Int))),s1.2.2.1,s1.2.2.2.1,(q2.2.2.2++s1.2.2.2.2))))) (fun z14=>.leaf (.ret (z14.1,z14.2)))) (.leaf (.out (q2.1,q2.2.1,q2.2.2.1,q2.2.2.2)))
noncomputable def zhu (n:Nat) (x:Yad) (v2:Yat):LCon P_ Ty_ [200000]:=lcon (X:=Yau) (Y:=Yau) (Z:=Yaa) (z8p n) (subC [1,1,1,0,1,0,0] (fnC P_ 57 z8q)) (fun q2=>.two .no (.two .no (.two (.two (.alls (Ybu) (Yaa) (zhy x v2 q2) (fun z=>.iface 81 (.agg (List.toArray [.int .i64 z.1,.int .i64 z.2]))) ⟨[(0,.ref 200000),(2,.ref 2),(3,.ref 3),(32,.any),(33,.any),(34,.any),(35,.ref 3),(36,.ref 3),(37,.ref 200000),(38,.any),(39,.ref 39)],[(200000,.any),(2,.any),(3,.any),(39,.any)]⟩) .no) .no))) 2 true ⟨[(0,.ref 200000),(2,.ref 2),(3,.ref 3),(32,.any),(33,.any)],[(200000,.any),(2,.any),(3,.fix [.no,.ow false 2,.no,.no])]⟩ ⟨[(0,.ref 200000),(2,.ref 2),(3,.ref 3),(32,.any),(33,.any),(34,.any)],[(200000,.any),(2,.any),(3,.any)]⟩ ⟨[],[]⟩ (fun q2=>([(0,.pt 200000 [] 0 0),(2,.pt 2 [] 0 0),(3,.pt 3 [] 0 0),(32,I_ v2.1),(33,I_ q2.1)],[(200000,.lit 2 [[.sc (.string q2.2.1),I_ q2.2.2.1]]),(2,.lit 4 [[.zs,.zs,.zs,.zs]]),(3,.lit 4 [[.ow false 1 v2.2,.ow false 2 q2.2.2.2,.zs,.zs]])])) (fun p=>([(0,.pt 200000 [] 0 0),(2,.pt 2 [] 0 0),(3,.pt 3 [] 0 0),(32,I_ v2.1),(33,I_ p.1),(34,B_ false)],[(200000,.lit 2 [[.sc (.string p.2.1),I_ p.2.2.1]]),(2,.lit 4 [[.zs,.zs,.zs,.zs]]),(3,.lit 4 [[.ow false 1 v2.2,.ow false 2 p.2.2.2,.zs,.zs]])])) (fun p=>ofX (.iface 81 (.agg (List.toArray [.int .i64 p.1,.int .i64 p.2])))) n (zph n x v2)
noncomputable def zpi (n:Nat) (x:Yad) (v3:Yav) (q3:Yaw):Pt P_ Ty_ [200000] (Bo (Yaw) (Yaw) (Yaa)):=.ite (decide (q3.1<v3.1)) (.callX (k224 n) (q3.2.1,q3.2.2.1,(0:Int),(1:Int)) (fun (y16:Yaf)=>.callX (k226 n) (y16.2.1,y16.2.2) (fun (y17:Yah)=>.join (S:=Ybv) (zhz x v3 q3) (.ite (y17.2.2.1==2) (.callX (k223 n) (y17.1,y17.2.1,(9223372036854775807:Int)) (fun (y18:Yaf)=>.leaf (.inl (y18.2.1,y18.2.2,y17.2.2.1,y17.2.2.2,(y16.1==1),(0:Int),y18.1))) (fun (z19:Yaa)=>.leaf (.inr (.ret (z19.1,z19.2))))) (.callX (k225 n) (y17.1,y17.2.1,(4:Int)) (fun (y19:Yaf)=>.leaf (.inl (y19.2.1,y19.2.2,y17.2.2.1,y17.2.2.2,(y16.1==1),(IntKind.u32.wrap y19.1),(0:Int)))) (fun (z20:Yaa)=>.leaf (.inr (.ret (z20.1,z20.2)))))) fun s2=>.need ((q3.2.2.2.length+([(⟨(⟨s2.2.2.1,s2.2.2.2.1⟩:Xb),s2.2.2.2.2.1,s2.2.2.2.2.2.1,s2.2.2.2.2.2.2⟩:Xc)]:List Xc).length) * 32≤140737488355328) (.leaf (.go ((IntKind.i64.wrap (q3.1+(1:Int))),s2.1,s2.2.1,(q3.2.2.2++([(⟨(⟨s2.2.2.1,s2.2.2.2.1⟩:Xb),s2.2.2.2.2.1,s2.2.2.2.2.2.1,s2.2.2.2.2.2.2⟩:Xc)]:List Xc)))))) (fun (z18:Yaa)=>.leaf (.ret (z18.1,z18.2)))) (fun (z17:Yaa)=>.leaf (.ret (z17.1,z17.2)))) (.leaf (.out (q3.1,q3.2.1,q3.2.2.1,q3.2.2.2)))
noncomputable def zhv (n:Nat) (x:Yad) (v3:Yav):LCon P_ Ty_ [200000]:=lcon (X:=Yaw) (Y:=Yaw) (Z:=Yaa) (z8p n) (subC [1,1,1,1,0,1,0,0] (fnC P_ 57 z8q)) (fun q3=>.two .no (.two .no (.two (.two (.two .no (.join (Ybv) (zhz x v3 q3) ⟨[(0,.ref 200000),(2,.ref 2),(3,.ref 3),(5,.ref 5),(44,.any),(45,.any)],[(200000,.any),(2,.any),(3,.any),(5,.any)]⟩ .no .no)) .no) .no))) 4 true ⟨[(0,.ref 200000),(2,.ref 2),(3,.ref 3),(44,.any),(45,.any)],[(200000,.any),(2,.any),(3,.fix [.no,.no,.ow false 3,.no])]⟩ ⟨[(0,.ref 200000),(2,.ref 2),(3,.ref 3),(44,.any),(45,.any),(46,.any)],[(200000,.any),(2,.any),(3,.any)]⟩ ⟨[],[]⟩ (fun q3=>([(0,.pt 200000 [] 0 0),(2,.pt 2 [] 0 0),(3,.pt 3 [] 0 0),(44,I_ v3.1),(45,I_ q3.1)],[(200000,.lit 2 [[.sc (.string q3.2.1),I_ q3.2.2.1]]),(2,.lit 4 [[.zs,.zs,.zs,.zs]]),(3,.lit 4 [[.ow false 1 v3.2.1,.ow false 2 v3.2.2,.ow false 3 q3.2.2.2,.zs]])])) (fun p=>([(0,.pt 200000 [] 0 0),(2,.pt 2 [] 0 0),(3,.pt 3 [] 0 0),(44,I_ v3.1),(45,I_ p.1),(46,B_ false)],[(200000,.lit 2 [[.sc (.string p.2.1),I_ p.2.2.1]]),(2,.lit 4 [[.zs,.zs,.zs,.zs]]),(3,.lit 4 [[.ow false 1 v3.2.1,.ow false 2 v3.2.2,.ow false 3 p.2.2.2,.zs]])])) (fun p=>ofX (.iface 81 (.agg (List.toArray [.int .i64 p.1,.int .i64 p.2])))) n (zpi n x v3)
noncomputable def zpk (n:Nat) (x:Yad) (v4:Yan) (q4:Yao) (v5:Ybf) (q5:Ybg):Pt P_ Ty_ [200000] (Bo (Ybg) (Ybg) (Yaa)):=.ite (decide (q5.1<v5.2.1)) (.need (0≤q5.1∧q5.1<(v5.1.length:Int)) (.bnd (v5.1[q5.1.toNat]?) fun y24=>.callX (k223 n) (q5.2.1,q5.2.2.1,(9223372036854775807:Int)) (fun (y25:Yaf)=>.bnd (z3c [some q5.2.2.2.1,some q5.2.2.2.2.1,some q5.2.2.2.2.2.1,some q5.2.2.2.2.2.2.1,some q5.2.2.2.2.2.2.2.1,some q5.2.2.2.2.2.2.2.2,none] y24) fun y26=>.leaf (.go ((IntKind.i64.wrap (q5.1+(1:Int))),y25.2.1,y25.2.2,(bif Nat.beq y24 0 then y25.1 else q5.2.2.2.1),(bif Nat.beq y24 1 then y25.1 else q5.2.2.2.2.1),(bif Nat.beq y24 2 then y25.1 else q5.2.2.2.2.2.1),(bif Nat.beq y24 3 then y25.1 else q5.2.2.2.2.2.2.1),(bif Nat.beq y24 4 then y25.1 else q5.2.2.2.2.2.2.2.1),(bif Nat.beq y24 5 then y25.1 else q5.2.2.2.2.2.2.2.2)))) (fun (z24:Yaa)=>.leaf (.ret (z24.1,z24.2))))) (.leaf (.out (q5.1,q5.2.1,q5.2.2.1,q5.2.2.2.1,q5.2.2.2.2.1,q5.2.2.2.2.2.1,q5.2.2.2.2.2.2.1,q5.2.2.2.2.2.2.2.1,q5.2.2.2.2.2.2.2.2)))
noncomputable def zhx (n:Nat) (x:Yad) (v4:Yan) (q4:Yao) (v5:Ybf):LCon P_ Ty_ [200000]:=lcon (X:=Ybg) (Y:=Ybg) (Z:=Yaa) (z8p n) (subC [1,1,1,1,1,0,1,0,0,1,1,0,0,1,0,1,0,0] (fnC P_ 57 z8q)) (fun q5=>.no) 8 true ⟨[(0,.ref 200000),(2,.ref 2),(3,.ref 3),(6,.ref 6),(72,.any),(73,.any),(78,.ref 6),(79,.any),(80,.any)],[(200000,.any),(2,.any),(3,.any),(6,.any)]⟩ ⟨[(0,.ref 200000),(2,.ref 2),(3,.ref 3),(6,.ref 6),(72,.any),(73,.any),(78,.ref 6),(79,.any),(80,.any),(81,.any)],[(200000,.any),(2,.any),(3,.any),(6,.any)]⟩ ⟨[],[]⟩ (fun q5=>([(0,.pt 200000 [] 0 0),(2,.pt 2 [] 0 0),(3,.pt 3 [] 0 0),(6,.pt 6 [] 0 0),(72,I_ v4.1),(73,I_ q4.1),(78,.pp (.fs 6 v5.1)),(79,I_ v5.2.1),(80,I_ q5.1)],[(200000,.lit 2 [[.sc (.string q5.2.1),I_ q5.2.2.1]]),(2,.lit 4 [[.zs,.zs,.zs,.zs]]),(3,.lit 4 [[.ow false 1 v4.2.1,.ow false 2 v4.2.2.1,.ow false 3 v4.2.2.2,.ow false 4 q4.2.2.2]]),(6,.lit 7 [[I_ q5.2.2.2.1,I_ q5.2.2.2.2.1,I_ q5.2.2.2.2.2.1,I_ q5.2.2.2.2.2.2.1,I_ q5.2.2.2.2.2.2.2.1,I_ q5.2.2.2.2.2.2.2.2,.sc (.int .u32 v5.2.2)]])])) (fun p=>([(0,.pt 200000 [] 0 0),(2,.pt 2 [] 0 0),(3,.pt 3 [] 0 0),(6,.pt 6 [] 0 0),(72,I_ v4.1),(73,I_ q4.1),(78,.pp (.fs 6 v5.1)),(79,I_ v5.2.1),(80,I_ p.1),(81,B_ false)],[(200000,.lit 2 [[.sc (.string p.2.1),I_ p.2.2.1]]),(2,.lit 4 [[.zs,.zs,.zs,.zs]]),(3,.lit 4 [[.ow false 1 v4.2.1,.ow false 2 v4.2.2.1,.ow false 3 v4.2.2.2,.ow false 4 q4.2.2.2]]),(6,.lit 7 [[I_ p.2.2.2.1,I_ p.2.2.2.2.1,I_ p.2.2.2.2.2.1,I_ p.2.2.2.2.2.2.1,I_ p.2.2.2.2.2.2.2.1,I_ p.2.2.2.2.2.2.2.2,.sc (.int .u32 v5.2.2)]])])) (fun p=>ofX (.iface 81 (.agg (List.toArray [.int .i64 p.1,.int .i64 p.2])))) n (zpk n x v4 q4 v5)
noncomputable def zpj (n:Nat) (x:Yad) (v4:Yan) (q4:Yao):Pt P_ Ty_ [200000] (Bo (Yao) (Yao) (Yaa)):=.ite (decide (q4.1<v4.1)) (.callX (k224 n) (q4.2.1,q4.2.2.1,(1:Int),(37:Int)) (fun (y22:Yaf)=>.call (k220 n) (y22.1,(0:Int),(0:Int),(0:Int),(0:Int),(0:Int),(0:Int)) fun (y23:Ycb)=>.loopR (V:=Ybf) (zhx n x v4 q4) (y23.1,(y23.1.length:Int),y23.2.2.2.2.2.2.2) ((0:Int),y22.2.1,y22.2.2,y23.2.1,y23.2.2.1,y23.2.2.2.1,y23.2.2.2.2.1,y23.2.2.2.2.2.1,y23.2.2.2.2.2.2.1) (fun (v5:Ybf) (y27:Ybg)=>.join (S:=Ybw) (zi0 x v4 q4) (.ite (y27.2.2.2.1==1) (.callX (k225 n) (y27.2.1,y27.2.2.1,(4:Int)) (fun (y28:Yaf)=>.leaf (.inl (y28.2.1,y28.2.2,y27.2.2.2.1,y27.2.2.2.2.1,y27.2.2.2.2.2.1,y27.2.2.2.2.2.2.1,y27.2.2.2.2.2.2.2.1,y27.2.2.2.2.2.2.2.2,(IntKind.u32.wrap y28.1)))) (fun (z26:Yaa)=>.leaf (.inr (.ret (z26.1,z26.2))))) (.leaf (.inl (y27.2.1,y27.2.2.1,y27.2.2.2.1,y27.2.2.2.2.1,y27.2.2.2.2.2.1,y27.2.2.2.2.2.2.1,y27.2.2.2.2.2.2.2.1,y27.2.2.2.2.2.2.2.2,v5.2.2)))) fun s3=>.need ((q4.2.2.2.length+([(⟨s3.2.2.1,s3.2.2.2.1,s3.2.2.2.2.1,s3.2.2.2.2.2.1,s3.2.2.2.2.2.2.1,s3.2.2.2.2.2.2.2.1,s3.2.2.2.2.2.2.2.2⟩:Xd)]:List Xd).length) * 56≤140737488355328) (.leaf (.go ((IntKind.i64.wrap (q4.1+(1:Int))),s3.1,s3.2.1,(q4.2.2.2++([(⟨s3.2.2.1,s3.2.2.2.1,s3.2.2.2.2.1,s3.2.2.2.2.2.1,s3.2.2.2.2.2.2.1,s3.2.2.2.2.2.2.2.1,s3.2.2.2.2.2.2.2.2⟩:Xd)]:List Xd)))))) fun (v5:Ybf) (z25:Yaa)=>.leaf (.ret (z25.1,z25.2))) (fun (z23:Yaa)=>.leaf (.ret (z23.1,z23.2)))) (.leaf (.out (q4.1,q4.2.1,q4.2.2.1,q4.2.2.2)))
noncomputable def zhw (n:Nat) (x:Yad) (v4:Yan):LCon P_ Ty_ [200000]:=lcon (X:=Yao) (Y:=Yao) (Z:=Yaa) (z8p n) (subC [1,1,1,1,1,0,1,0,0] (fnC P_ 57 z8q)) (fun q4=>.two .no (.two .no (.two (.two (.two .no (.two (.two .no (.two (.loop (Ybf) (zhx n x v4 q4) true ⟨[(0,.ref 200000),(2,.ref 2),(3,.ref 3),(6,.ref 6),(72,.any),(73,.any),(78,.ref 6),(79,.any),(80,.any)],[(200000,.any),(2,.any),(3,.any),(6,.any)]⟩) .no)) (.join (Ybw) (zi0 x v4 q4) ⟨[(0,.ref 200000),(2,.ref 2),(3,.ref 3),(6,.ref 6),(72,.any),(73,.any)],[(200000,.any),(2,.any),(3,.any),(6,.any)]⟩ .no .no))) .no) .no))) 6 true ⟨[(0,.ref 200000),(2,.ref 2),(3,.ref 3),(72,.any),(73,.any)],[(200000,.any),(2,.any),(3,.fix [.no,.no,.no,.ow false 4])]⟩ ⟨[(0,.ref 200000),(2,.ref 2),(3,.ref 3),(72,.any),(73,.any),(74,.any)],[(200000,.any),(2,.any),(3,.any)]⟩ ⟨[],[]⟩ (fun q4=>([(0,.pt 200000 [] 0 0),(2,.pt 2 [] 0 0),(3,.pt 3 [] 0 0),(72,I_ v4.1),(73,I_ q4.1)],[(200000,.lit 2 [[.sc (.string q4.2.1),I_ q4.2.2.1]]),(2,.lit 4 [[.zs,.zs,.zs,.zs]]),(3,.lit 4 [[.ow false 1 v4.2.1,.ow false 2 v4.2.2.1,.ow false 3 v4.2.2.2,.ow false 4 q4.2.2.2]])])) (fun p=>([(0,.pt 200000 [] 0 0),(2,.pt 2 [] 0 0),(3,.pt 3 [] 0 0),(72,I_ v4.1),(73,I_ p.1),(74,B_ false)],[(200000,.lit 2 [[.sc (.string p.2.1),I_ p.2.2.1]]),(2,.lit 4 [[.zs,.zs,.zs,.zs]]),(3,.lit 4 [[.ow false 1 v4.2.1,.ow false 2 v4.2.2.1,.ow false 3 v4.2.2.2,.ow false 4 p.2.2.2]])])) (fun p=>ofX (.iface 81 (.agg (List.toArray [.int .i64 p.1,.int .i64 p.2])))) n (zpj n x v4)
noncomputable def zr0 (n:Nat) (x:Yad):Pt P_ Ty_ [200000] ((Ybx)⊕(Yaa)):=.callX (k223 n) (x.1,x.2,(64:Int)) (fun (y1:Yaf)=>.loopR (V:=Int) (zht n x) y1.1 ((0:Int),y1.2.1,y1.2.2,([]:List Xa)) (fun (v1:Int) (y6:Ybe)=>.callX (k223 n) (y6.2.1,y6.2.2.1,(16384:Int)) (fun (y7:Yaf)=>.loopR (V:=Yat) (zhu n x) (y7.1,y6.2.2.2) ((0:Int),y7.2.1,y7.2.2,([]:List Xb)) (fun (v2:Yat) (y14:Yau)=>.callX (k223 n) (y14.2.1,y14.2.2.1,(4096:Int)) (fun (y15:Yaf)=>.loopR (V:=Yav) (zhv n x) (y15.1,v2.2,y14.2.2.2) ((0:Int),y15.2.1,y15.2.2,([]:List Xc)) (fun (v3:Yav) (y20:Yaw)=>.callX (k223 n) (y20.2.1,y20.2.2.1,(32768:Int)) (fun (y21:Yaf)=>.loopR (V:=Yan) (zhw n x) (y21.1,v3.2.1,v3.2.2,y20.2.2.2) ((0:Int),y21.2.1,y21.2.2,([]:List Xd)) (fun (v4:Yan) (y29:Yao)=>.leaf (.inl (y29.2.1,y29.2.2.1,v4.2.1,v4.2.2.1,v4.2.2.2,y29.2.2.2))) fun (v4:Yan) (z27:Yaa)=>.leaf (.inr (z27.1,z27.2))) (fun (z22:Yaa)=>.leaf (.inr (z22.1,z22.2)))) fun (v3:Yav) (z21:Yaa)=>.leaf (.inr (z21.1,z21.2))) (fun (z16:Yaa)=>.leaf (.inr (z16.1,z16.2)))) fun (v2:Yat) (z15:Yaa)=>.leaf (.inr (z15.1,z15.2))) (fun (z7:Yaa)=>.leaf (.inr (z7.1,z7.2)))) fun (v1:Int) (z6:Yaa)=>.leaf (.inr (z6.1,z6.2))) (fun (z1:Yaa)=>.leaf (.inr (z1.1,z1.2)))
noncomputable def k227 (n:Nat):Con P_ Ty_:=conX (X:=Yad) (R:=Ybx) (Z:=Yaa) (pro:=[200000]) (z8p n) 57 z8q (fun x=>.two .no (.two .no (.two (.two .no (.two (.loop Int (zht n x) true ⟨[(0,.ref 200000),(2,.ref 2),(3,.ref 3),(10,.any),(11,.any)],[(200000,.any),(2,.any),(3,.fix [.ow false 1,.no,.no,.no])]⟩) .no)) (.two (.two .no (.two (.loop (Yat) (zhu n x) true ⟨[(0,.ref 200000),(2,.ref 2),(3,.ref 3),(32,.any),(33,.any)],[(200000,.any),(2,.any),(3,.fix [.no,.ow false 2,.no,.no])]⟩) .no)) (.two (.two .no (.two (.loop (Yav) (zhv n x) true ⟨[(0,.ref 200000),(2,.ref 2),(3,.ref 3),(44,.any),(45,.any)],[(200000,.any),(2,.any),(3,.fix [.no,.no,.ow false 3,.no])]⟩) .no)) (.two (.two .no (.two (.loop (Yan) (zhw n x) true ⟨[(0,.ref 200000),(2,.ref 2),(3,.ref 3),(72,.any),(73,.any)],[(200000,.any),(2,.any),(3,.fix [.no,.no,.no,.ow false 4])]⟩) .no)) .no)))))) [.pt 200000] [] [100000] ⟨[(2,.ref 100000)],[(200000,.any),(100000,.any)]⟩ [200000,100000] (fun x=>[.pt 200000 [] 0 0]) (fun x=>[(200000,.lit 2 [[.sc (.string x.1),I_ x.2]])]) (fun y=>([(2,.pt 100000 [] 0 0)],[(200000,.lit 2 [[.sc (.string y.1),I_ y.2.1]]),(100000,.lit 4 [[.ow false 1 y.2.2.1,.ow false 2 y.2.2.2.1,.ow false 3 y.2.2.2.2.1,.ow false 4 y.2.2.2.2.2]])])) (fun y=>.ag [.sw 100000 [(0,0)],.sw 100000 [(0,1)],.sw 100000 [(0,2)],.sw 100000 [(0,3)]]) (fun y=>[(200000,.lit 2 [[.sc (.string y.1),I_ y.2.1]]),(100000,.lit 4 [[.ow false 1 y.2.2.1,.ow false 2 y.2.2.2.1,.ow false 3 y.2.2.2.2.1,.ow false 4 y.2.2.2.2.2]])]) (fun z=>.iface 81 (.agg (List.toArray [.int .i64 z.1,.int .i64 z.2]))) (zr0 n)
theorem zry (p q:Addr) (w:World) :
  CallsD Go.Proofs.Try.prog 55 #[.pointer (some p),.pointer (some q)] .returning w fun e u' w'=>e = .returned (.tuple #[])∧u' = .returning∧w'=w:=by
 refine callsD_of_wpS Go.Proofs.Try.func55 rfl fun c₀ cs hu=>?_
 apply wpS_seq
 apply wpS_region
 simp [wpOpsS,go_sem,recoverD,hu,Go.Proofs.Try.ntmps55,Exit.thenS]
 apply wpS_seq
 apply wpS_region
 simp [wpOpsS,go_sem,Exit.thenS]
 refine wpS_cond (t:=false) (by simp [Act.eval,Array.replicate]) ?_
 simp only [Bool.false_eq_true,if_false]
 refine wpS_of_wp (wp_skip ?_)
 cases c₀
 simp_all [bodyPostS,results,Go.Proofs.Try.results55]

theorem Ex.wpS {P:Program} {N:Nat} [Dfs N] {pro:List Nat} {code:Code} {c:IC} {e e':Env} {h h':H} {o:Out} (hx:Ex P pro c e h o e' h') (hc:IsC P N code c) {I:Nat→Prop} {σ:Pl} {a:Act} {w:World} (R:Rel I N σ e h a w) {cs:List Frame} {Q:Exit→Act→List Frame→World→Prop}
  (hQ:∀ a' w',Step P I N pro σ h w e' h' a' w'→Q o.ex a' cs w'):code.wpS P Q a cs w:=wpS_of_wp (hx.owes code hc I σ a w R _ hQ).1
def z1z (P:Program) (f:Nat):Code:=match P.funcs[f]? with | some fn=>(match fn.body with | some c=>c | none=>.skip) | none=>.skip
def rdE (u:TypeId) (v:Value):Env:=fun t=>if t=0 then .pt 900002 [] 0 0 else if t=1 then .pt 900003 [] 0 0 else if t=2 then .sc (.iface u v) else .un
attribute [local instance] Dfs.none
theorem zpq {I:Nat→Prop} {σ:Pl} {h h':H} {w:World} {L2 L3:Loc} (h2:σ 900002 []=some L2) (h3:σ 900003 []=some L3) (hh:HRel I σ h w) {u:TypeId} {v:Value} {c1:IC} {E:Env} (hc:IsC Go.Proofs.Try.prog 18 (rt (z1z Go.Proofs.Try.prog 55)) c1)
  (hx:Ex Go.Proofs.Try.prog [900002,900003] c1 (rdE u v) h .normal E h') :
  CallsD Go.Proofs.Try.prog 55 #[.pointer (some ⟨L2.b,0,none⟩),.pointer (some ⟨L3.b,0,none⟩)] (.panicking [{ v:=.iface u v,recovered:=false }]) w fun e u' w'=>e = .returned (.tuple #[])∧u' = .panicking [{ v:=.iface u v,recovered:=true }]∧∃ a',Step Go.Proofs.Try.prog I 18 [900002,900003] σ h w E h' a' w':=by
 refine callsD_of_wpS Go.Proofs.Try.func55 rfl fun c₀ cs hu=>?_
 apply wpS_seq
 apply wpS_region
 simp [wpOpsS,go_sem,recoverD,hu,Go.Proofs.Try.ntmps55,Exit.thenS]
 refine hx.wpS hc ⟨hh,?_,fun t=>?_,?_⟩ fun a' w' S=>?_
 ·simp [Act.put]
 ·unfold rdE
  split
  ·rename_i ht; subst ht; exact ⟨L2,h2,by simp [Array.replicate]⟩
  ·split
   ·rename_i ht; subst ht; exact ⟨L3,h3,by simp [Array.replicate]⟩
   ·split
    ·rename_i ht; subst ht
     show _=_
     simp [Array.replicate]
    ·trivial
 ·rfl
 ·obtain ⟨σ',I',i1,i2,R',p1,p2,p3,p4⟩:=S.out
  have hd:a'.defers=[]:=R'.defers
  simp only [Out.ex,bodyPostS,results,Go.Proofs.Try.results55]
  refine ⟨hd,.panicking [{ v:=.iface u v,recovered:=true }],by cases c₀; simp_all,.tuple #[],by simp,rfl,rfl,a',S⟩
def zok (r:AV) (hout:H) (ts:List RS) (E:Env) (h':H):Out→Prop
 | .normal=>z2z E h' ts=some r∧hout=h'
 | .ret=>z2z E h' ts=some r∧hout=h'
 | .panic (.iface u v)=>E 2 = .pt 900002 [] 0 0∧E 3 = .pt 900003 [] 0 0∧∃ c1 E2,IsC Go.Proofs.Try.prog 18 (rt (z1z Go.Proofs.Try.prog 55)) c1∧Ex Go.Proofs.Try.prog [900002,900003] c1 (rdE u v) h' .normal E2 hout∧z2z (fun t=>if t=2 then .pt 900002 [] 0 0 else if t=3 then .pt 900003 [] 0 0 else .un) hout ts=some r
 | _=>False
theorem zrz {s:ByteArray} {c0 cR:IC} {e1 E:Env} {h1 h' hout:H} {o:Out} {r:AV} {ts:List RS} {fn:Func} (hfn:Go.Proofs.Try.prog.funcs[30]? = some fn) (hN:fn.ntmps=57) (hts:z1u Go.Proofs.Try.prog fn.results.toList=some ts) (hb:fn.body=some (z1z Go.Proofs.Try.prog 30))
  (hc0:IsC Go.Proofs.Try.prog 57 (lf (z1z Go.Proofs.Try.prog 30)) c0) (hx0:Ex Go.Proofs.Try.prog [] c0 (argE 0 [.sc (.string s)]) [] .normal e1 h1)
  (he2:e1 2 = .pt 900002 [] 0 0) (he3:e1 3 = .pt 900003 [] 0 0)
  (hcR:IsC Go.Proofs.Try.prog 57 (rt (rt (z1z Go.Proofs.Try.prog 30))) cR) (hxR:Ex Go.Proofs.Try.prog [900002,900003] cR (upd e1 8 .un) h1 o E h')
  (fin:zok r hout ts E h' o):CallG Go.Proofs.Try.prog 30 [.sc (.string s)] [] r hout:=by
 intro I σ w vs hh hv
 refine calls_of_wp_defers hfn hb ?_
 have hsh:∃ ops,z1z Go.Proofs.Try.prog 30 = .seq (lf (z1z Go.Proofs.Try.prog 30)) (.seq (.region 1 ops false) (rt (rt (z1z Go.Proofs.Try.prog 30))))∧∃ o0 o1,ops = #[o0,o1]∧o0.dst=some 8∧o0.guard=none∧o0.op = .makeFunc (.func 55) #[] #[.tmp 2,.tmp 3]∧o1.dst=none∧o1.guard=none∧(∃ d,o1.op = .defer d∧d.callee = .value (.tmp 8)∧d.args = #[]):=by
  refine ⟨_,rfl,_,_,rfl,rfl,rfl,rfl,rfl,rfl,_,rfl,rfl,rfl⟩
 obtain ⟨ops,hsh,o0,o1,rfl,d0,g0,q0,d1,g1,dd,q1,dc,da⟩:=hsh
 rw [hsh]
 have R:Rel I 57 σ (argE 0 [.sc (.string s)]) [] { tmps:=vs.toArray++Array.replicate (fn.ntmps - vs.toArray.size) undef,defers:=[] } w:=by
  refine ⟨hh,?_,fun t=>?_,rfl⟩
  ·simp only [Array.size_append,Array.size_replicate,List.size_toArray]
   omega
  ·have:=z73 (I:=I) (σ:=σ) (B:=bl w) [.sc (.string s)] 0 [] vs (List.replicate (fn.ntmps - vs.toArray.size) undef) rfl hv t
   have e2:(vs.toArray++Array.replicate (fn.ntmps - vs.toArray.size) undef)=(vs++List.replicate (fn.ntmps - vs.toArray.size) undef).toArray:=by
    apply Array.ext'
    simp
   simp only [e2]
   simpa [Array.getD_eq_getD_getElem?,List.getD_eq_getElem?_getD] using this
 refine wp_seq (hx0.owes _ hc0 I σ _ w R _ fun a1 w1 S=>?_).1
 obtain ⟨σ1,I1,i1,i2,R1,p1,p2,p3,p4⟩:=S.out
 have hd1:a1.defers=[]:=R1.defers
 have sz1:57≤a1.tmps.size:=R1.size
 have hp1:=R1.heap
 have vl1:=R1.vals
 obtain ⟨L2,hL2,hv2⟩:∃ L,σ1 900002 []=some L∧a1.eval (.tmp 2) = .pointer (some ⟨L.b,0,none⟩):=by
  have:=R1.vals 2
  rw [he2] at this
  obtain ⟨L,h1,h2⟩:=this
  refine ⟨L,h1,?_⟩
  rw [show 0 * L.s+0=0 by omega] at h2
  exact h2
 obtain ⟨L3,hL3,hv3⟩:∃ L,σ1 900003 []=some L∧a1.eval (.tmp 3) = .pointer (some ⟨L.b,0,none⟩):=by
  have:=R1.vals 3
  rw [he3] at this
  obtain ⟨L,h1,h2⟩:=this
  refine ⟨L,h1,?_⟩
  rw [show 0 * L.s+0=0 by omega] at h2
  exact h2
 let d:Deferred:={ target:=.fn (.func 55) #[.pointer (some ⟨L2.b,0,none⟩),.pointer (some ⟨L3.b,0,none⟩)],args:=#[] }
 let a3:Act:={ a1.put (some 8) (.func (.func 55) #[] #[.pointer (some ⟨L2.b,0,none⟩),.pointer (some ⟨L3.b,0,none⟩)]) with defers:=[d] }
 apply wp_seq
 apply wp_region
 have key:(rt (rt (z1z Go.Proofs.Try.prog 30))).wp Go.Proofs.Try.prog (bodyPostD Go.Proofs.Try.prog fn fun en w'=>∃ v σ' I',en = .returned v∧(∀ b,I b→I' b)∧(∀ b,I' b→I b∨b ∈ fpH σ []∨w.heap.size≤b)∧HRel I' σ' hout w'∧Va I' σ' (bl w') r v∧(∀ k ∈ ([]:H).map Prod.fst,σ' k []=σ k [])∧Le w w' ∧
   (∀ b,b<w.heap.size→b ∉ fpH σ []→bl w' b=bl w b)∧(∀ b ∈ fpH σ' hout,b ∈ fpH σ []∨w.heap.size≤b)) a3 w1:=by
  letI inst:Dfs 57:=⟨[d]⟩
  have R3 : @Rel I1 57 inst σ1 (upd e1 8 .un) h1 a3 w1:=by
   refine ⟨hp1,?_,fun t=>?_,rfl⟩
   ·show 57≤(a1.put (some 8) _).tmps.size
    rw [Act.size_put]; exact sz1
   ·unfold upd
    split
    ·trivial
    ·rename_i hne
     have hg:a3.tmps.getD t undef=a1.tmps.getD t undef:=by
      show (a1.put (some 8) _).tmps.getD t undef=_
      rw [Act.getD_put (Nat.lt_of_lt_of_le (by decide:8<57) sz1),if_neg hne]
     rw [hg]
     exact vl1 t
  refine (hxR.owes (N:=57) _ hcR I1 σ1 a3 w1 R3 _ fun a' w' S'=>?_).1
  obtain ⟨σ2,I2,j1,j2,R2,r1,r2,r3,r4⟩:=S'.out
  have hd':a'.defers=[d]:=R2.defers
  have ls:=p2.size
  have ls2:=r2.size
  have A0:∀ b ∈ fpH σ1 h1,w.heap.size≤b:=fun b hb=>(p4 b hb).resolve_left (fun h=>by cases h)
  have A1:∀ b,I b→I2 b:=fun b hb=>j1 b (i1 b hb)
  have A2:∀ b,I2 b→I b∨b ∈ fpH σ []∨w.heap.size≤b:=fun b hb=>by
   rcases j2 b hb with h | h | h
   ·exact i2 b h
   ·exact .inr (.inr (A0 b h))
   ·exact .inr (.inr (by omega))
  have A3:Le w w':=p2.trans r2
  have A4:∀ b,b<w.heap.size→b ∉ fpH σ []→bl w' b=bl w b:=fun b hb hn=>by
   rw [r3 b (by omega) (fun hm=>by have:=A0 b hm; omega),p3 b hb hn]
  have A5:∀ b ∈ fpH σ2 h',w.heap.size≤b:=fun b hb=>by
   rcases r4 b hb with h | h
   ·exact A0 b h
   ·omega
  have hinv:∀ w,(invoke (.fn (.func 55) #[.pointer (some ⟨L2.b,0,none⟩),.pointer (some ⟨L3.b,0,none⟩)]) #[]).run Go.Proofs.Try.prog w = .ok (.enter 55 #[.pointer (some ⟨L2.b,0,none⟩),.pointer (some ⟨L3.b,0,none⟩)]) w:=fun w=>by
   simp only [invoke,Array.empty_append]
   exact z3d rfl _ w
  have done:z2z E h' ts=some r∧hout=h'→Leaves Go.Proofs.Try.prog fn a'.tmps (fun en w'=>∃ v σ' I',en = .returned v∧(∀ b,I b→I' b)∧(∀ b,I' b→I b∨b ∈ fpH σ []∨w.heap.size≤b)∧HRel I' σ' hout w'∧Va I' σ' (bl w') r v∧(∀ k ∈ ([]:H).map Prod.fst,σ' k []=σ k [])∧Le w w' ∧
   (∀ b,b<w.heap.size→b ∉ fpH σ []→bl w' b=bl w b)∧(∀ b ∈ fpH σ' hout,b ∈ fpH σ []∨w.heap.size≤b)) a'.defers .returning w':=fun ⟨hr,ho⟩=>by
   subst ho
   rw [hd']
   refine leaves_cons (by simp) (hinv w') ((zry _ _ w').mono ?_)
   rintro en u' w'' ⟨rfl,rfl,rfl⟩
   obtain ⟨v,q1,q2⟩:=z3t R2 fn hts hr
   exact ⟨v,q1,v,σ2,I2,rfl,A1,A2,R2.heap,q2,fun k hk=>(nomatch hk),A3,A4,fun b hb=>.inr (A5 b hb)⟩
  cases o with
  | normal=>exact done fin
  | ret=>exact done fin
  | exit id=>exact fin.elim
  | panic u =>
   cases u with
   | iface t v =>
    obtain ⟨f2,f3,c1,E2,hc1,hx1,hr⟩:=fin
    show Leaves _ _ _ _ a'.defers _ _
    rw [hd']
    have g2:σ2 900002 []=some L2:=(r1 900002 (by simp)).trans hL2
    have g3:σ2 900003 []=some L3:=(r1 900003 (by simp)).trans hL3
    refine leaves_cons (by simp) (hinv w') ((zpq g2 g3 R2.heap hc1 hx1).mono ?_)
    rintro en u' w'' ⟨rfl,rfl,aC,SC⟩
    obtain ⟨σ3,I3,k1,k2,R4,s1,s2,s3,s4⟩:=SC.out
    have ls3:=s2.size
    have R5 : @Rel I3 57 inst σ3 (fun t=>if t=2 then .pt 900002 [] 0 0 else if t=3 then .pt 900003 [] 0 0 else .un) hout a' w'':=by
     refine ⟨R4.heap,R2.size,fun t=>?_,R2.defers⟩
     have v2:=R2.vals 2
     have v3:=R2.vals 3
     rw [f2] at v2
     rw [f3] at v3
     obtain ⟨M2,m1,m2⟩:=v2
     obtain ⟨M3,m3,m4⟩:=v3
     split
     ·rename_i ht; subst ht; exact ⟨M2,(s1 900002 (by simp)).trans m1,m2⟩
     ·split
      ·rename_i ht; subst ht; exact ⟨M3,(s1 900003 (by simp)).trans m3,m4⟩
      ·trivial
    obtain ⟨v',q1,q2⟩:=z3t R5 fn hts hr
    refine ⟨v',q1,v',σ3,I3,rfl,fun b hb=>k1 b (A1 b hb),fun b hb=>?_,R4.heap,q2,fun k hk=>(nomatch hk),A3.trans s2,fun b hb hn=>?_,fun b hb=>.inr ?_⟩
    ·rcases k2 b hb with h | h | h
     ·exact A2 b h
     ·exact .inr (.inr (A5 b h))
     ·exact .inr (.inr (by omega))
    ·rw [s3 b (by omega) (fun hm=>by have:=A5 b hm; omega),A4 b hb hn]
    ·rcases s4 b hb with h | h
     ·exact A5 b h
     ·omega
   | _=>exact fin.elim
 have x0:(execOp a1.eval o0).run Go.Proofs.Try.prog w1 = .ok (.value (.func (.func 55) #[] #[.pointer (some ⟨L2.b,0,none⟩),.pointer (some ⟨L3.b,0,none⟩)])) w1:=by
  simp only [execOp,q0,List.map_toArray,List.map_cons,List.map_nil,hv2,hv3]
  rfl
 show wpOps _ _ _ [0,1] a1 w1
 rw [wpOps_cons]
 unfold wpOp
 have e0:(#[o0,o1]:Array Oper)[0]? = some o0:=rfl
 have e1':(#[o0,o1]:Array Oper)[1]? = some o1:=rfl
 have hw0:∀ a,Region.wanted o0 (yielded #[o0,o1] a)=true:=fun a=>by simp [Region.wanted,g0]
 have hw1:∀ a,Region.wanted o1 (yielded #[o0,o1] a)=true:=fun a=>by simp [Region.wanted,g1]
 simp only [e0,hw0,if_true]
 refine .inl ?_
 unfold Oper.wp
 rw [x0,Oper.upon_value,d0,wpOps_cons]
 unfold wpOp
 simp only [e1',hw1,if_true]
 refine .inl ?_
 unfold Oper.wp
 have h8:(a1.put (some 8) (.func (.func 55) #[] #[.pointer (some ⟨L2.b,0,none⟩),.pointer (some ⟨L3.b,0,none⟩)])).eval (.tmp 8) = .func (.func 55) #[] #[.pointer (some ⟨L2.b,0,none⟩),.pointer (some ⟨L3.b,0,none⟩)]:=by
  show (a1.put (some 8) _).tmps.getD 8 undef=_
  rw [Act.getD_put (Nat.lt_of_lt_of_le (by decide) R1.size),if_pos rfl]
 have x1:(execOp (a1.put (some 8) (.func (.func 55) #[] #[.pointer (some ⟨L2.b,0,none⟩),.pointer (some ⟨L3.b,0,none⟩)])).eval o1).run Go.Proofs.Try.prog w1 = .ok (.defer d) w1:=by
  obtain ⟨cl,as',ty⟩:=dd
  simp only at dc da
  subst dc da
  simp only [execOp,q1,resolve,h8,Deferred.ofValue,Sem.run_bind,Sem.run_pure,Result.andThen_ok,List.map_toArray,List.map_nil]
  rfl
 rw [x1,Oper.upon_defer,d1]
 have ha3:({ a1.put (some 8) (.func (.func 55) #[] #[.pointer (some ⟨L2.b,0,none⟩),.pointer (some ⟨L3.b,0,none⟩)]) with defers:=d::(a1.put (some 8) (.func (.func 55) #[] #[.pointer (some ⟨L2.b,0,none⟩),.pointer (some ⟨L3.b,0,none⟩)])).defers }:Act).put none undef=a3:=by
  rw [Act.defers_put,hd1]
  rfl
 rw [ha3]
 exact key

def icOf (P:Program) (N:Nat) (c:Code) (ks:List (List Nat)):IC:=match z2x P N c ks with | some (c,_)=>c | none=>.skip
theorem zfv {P:Program} {N:Nat} {c:Code} {ks:List (List Nat)} (h:(z2x P N c ks).isSome=true):IsC P N c (icOf P N c ks):=by
 obtain ⟨⟨c',ks'⟩,h⟩:=Option.isSome_iff_exists.1 h
 exact ⟨ks,ks',by simp [icOf,h]⟩
theorem zaa {a b:Nat} (h:¬b=a):Nat.beq a b=false:=by
 cases hb:Nat.beq a b with
 | false=>rfl
 | true=>exact absurd (Nat.eq_of_beq_eq_true hb).symm h
section
variable {T:TT}
def zje (ts:List RS) (eh:EH T):Option (VT T×TH T.toTT0) :=
 match rsTs eh.1 eh.2 ts,z5h eh.2 [(100000,900002)] with
 | some l,some (ho,_)=>match z2t [(100000,900002)] (.tu l) with
  | some r=>some (r,ho)
  | none=>none
 | _,_=>none
theorem znd {ts:List RS} (ht:ts.length=2) {eh:EH T} {r:VT T} {ho:TH T.toTT0} (h:zje ts eh=some (r,ho)) :
  ∃ l left,z2z (denE T.toTT0 (denH T.toTT0 eh.2) eh.1) (denH T.toTT0 eh.2) ts=some l∧z1h (denH T.toTT0 eh.2) [(100000,900002)]=some (denH T.toTT0 ho,left)∧back [(100000,900002)] l=some (den T.toTT0 (denH T.toTT0 ho) r):=by
 unfold zje at h
 split at h
 ·rename_i l ho' left h1 h2
  split at h
  ·rename_i r' hb
   cases h
   obtain ⟨s1,s2,s3⟩:=z3h _ _ _ _ h2
   refine ⟨.tu (denL T.toTT0 (denH T.toTT0 eh.2) l),_,?_,s1,z5j (Ho:=denH T.toTT0 eh.2) (H1:=denH T.toTT0 ho) (fun k n q hk=>?_) _ _ hb⟩
   ·have h3:=ze3 _ _ h1
    unfold z2z
    rw [h3]
    have hl:∀ (ts:List RS) (l:List AV) (e:Env) (h:H),z4p e h ts=some l→l.length=ts.length:=by
     intro ts
     induction ts with
     | nil=>intro l e h hl; cases hl; rfl
     | cons a ts ih =>
      intro l e h hl
      simp only [z4p] at hl
      split at hl
      ·rename_i h1 h2
       cases hl
       simp [ih _ _ _ h2]
      ·cases hl
    have h4:=hl _ _ _ _ h3
    rw [ht] at h4
    match denL T.toTT0 (denH T.toTT0 eh.2) l,h4 with
    | [a,b],_=>rfl
   ·have hm:=z44 _ hk
    have:=s3 n k (by rfl) (by rfl) hm
    unfold zd res
    rw [this]
  ·cases h
 ·cases h
noncomputable def rdK (cx:Cx Go.Proofs.Try.prog T) (c1:IC) (D:Dr):Out→TE T.toTT0→TH T.toTT0→Raw Go.Proofs.Try.prog T [900002,900003] (EH T)
 | .normal,e,h=>Raw.ofRs .leaf (cnv [900002,900003] D e h)
 | .ret,e,h=>Raw.ofRs .leaf (cnv [900002,900003] D e h)
 | .panic (.iface u v),e,h =>
  match getE e 2,getE e 3 with
  | .pt 900002 [] 0 0,.pt 900003 [] 0 0=>evC cx c1 .no [(0,.pt 900002 [] 0 0),(1,.pt 900003 [] 0 0),(2,.sc (.iface u v))] h fun o e' h' =>
   match o with
   | .normal=>Raw.ofRs (fun eh=>.leaf ([(2,.pt 900002 [] 0 0),(3,.pt 900003 [] 0 0)],eh.2)) (cnv [900002,900003] ⟨[],D.R⟩ e' h')
   | _=>.no
  | _,_=>.no
 | _,_,_=>.no
noncomputable def zu2 {R:Type} (cx:Cx Go.Proofs.Try.prog T) (ks0 ksR ks1:List (List Nat)) (an:ByteArray→An Go.Proofs.Try.prog T [900002,900003]) (D0 D:Dr) (e1:ByteArray→TE T.toTT0) (h1:TH T.toTT0) (strong:Bool) (encE:R→EH T) (encR:R→VT T) (encO:R→TH T.toTT0) (t:ByteArray→Pt Go.Proofs.Try.prog T [900002,900003] R)
  (k0:(z2x Go.Proofs.Try.prog 57 (lf (z1z Go.Proofs.Try.prog 30)) ks0).isSome=true:=by kernel_rfl)
  (kR:(z2x Go.Proofs.Try.prog 57 (rt (rt (z1z Go.Proofs.Try.prog 30))) ksR).isSome=true:=by kernel_rfl)
  (k1:(z2x Go.Proofs.Try.prog 18 (rt (z1z Go.Proofs.Try.prog 55)) ks1).isSome=true:=by kernel_rfl)
  (hts:(∃ fn,Go.Proofs.Try.prog.funcs[30]? = some fn∧fn.ntmps=57∧z1u Go.Proofs.Try.prog fn.results.toList=some (fnTs Go.Proofs.Try.prog 30)∧fn.body=some (z1z Go.Proofs.Try.prog 30)):=by exact ⟨_,rfl,rfl,rfl,rfl⟩)
  (hl:(fnTs Go.Proofs.Try.prog 30).length=2:=by kernel_rfl)
  (h0:∀ x,(evC cx (icOf Go.Proofs.Try.prog 57 (lf (z1z Go.Proofs.Try.prog 30)) ks0) .no (argT 0 [.sc (.string x)]) [] (fun o e h=>match o with | .normal=>Raw.ofRs .leaf (cnv [] D0 e h) | _=>.no):Raw Go.Proofs.Try.prog T [] (EH T)) = .leaf (e1 x,h1):=by intro x; kernel_rfl)
  (g2:∀ x,getE (e1 x) 2 = .pt 900002 [] 0 0:=by intro x; kernel_rfl) (g3:∀ x,getE (e1 x) 3 = .pt 900003 [] 0 0:=by intro x; kernel_rfl)
  (hR:∀ x,evC cx (icOf Go.Proofs.Try.prog 57 (rt (rt (z1z Go.Proofs.Try.prog 30))) ksR) (an x) (putE (e1 x) 8 .un) h1 (rdK cx (icOf Go.Proofs.Try.prog 18 (rt (z1z Go.Proofs.Try.prog 55)) ks1) D)=(t x).raw encE:=by intro x; kernel_rfl)
  (hE:∀ y,(encE y).1=[(2,.pt 900002 [] 0 0),(3,.pt 900003 [] 0 0)]:=by intro y; kernel_rfl)
  (hr:∀ y,zje (fnTs Go.Proofs.Try.prog 30) (encE y)=some (encR y,encO y):=by intro y; kernel_rfl)
  (hs:strong=true→∀ y,(z6w (encR y) && z67 (encO y))=true:=by first | (intro h; cases h; done) | (intro _ y; kernel_rfl)):Con Go.Proofs.Try.prog T where
 f:=30
 X:=ByteArray
 Y:=R
 A:=[.any]
 H:=[]
 N:=[100000]
 encA:=fun x=>[.sc (.string x)]
 encH:=fun _=>[]
 G:=fun x=>(t x).run
 encR:=encR
 encO:=encO
 strong:=strong
 ok:=fun x y hx=>by
  have hG:CallG Go.Proofs.Try.prog 30 [.sc (.string x)] [] (den T.toTT0 (denH T.toTT0 (encO y)) (encR y)) (denH T.toTT0 (encO y)):=by
   obtain ⟨fn,f1,f2,f3,f4⟩:=hts
   have a1:=z1o encE (t x) y hx
   rw [← hR x] at a1
   have a2:=z2r _ (an x) _ _ _ _ a1
   have b1:Sat (evC cx (icOf Go.Proofs.Try.prog 57 (lf (z1z Go.Proofs.Try.prog 30)) ks0) .no (argT 0 [.sc (.string x)]) [] (fun o e h=>match o with | .normal=>Raw.ofRs .leaf (cnv [] D0 e h) | _=>.no):Raw Go.Proofs.Try.prog T [] (EH T)) (fun l=>l=(e1 x,h1)):=by
    rw [h0 x]; exact rfl
   have b2:=z2r _ _ _ _ _ _ b1
   rw [z93] at b2
   obtain ⟨o0,E0,H0,hx0,e0,h0',rfl,rfl,hK0⟩:=b2
   have hx0:Ex Go.Proofs.Try.prog [] (icOf Go.Proofs.Try.prog 57 (lf (z1z Go.Proofs.Try.prog 30)) ks0) (argE 0 (denL T.toTT0 (denH T.toTT0 []) [.sc (.string x)])) (denH T.toTT0 []) .normal (denE T.toTT0 (denH T.toTT0 h1) (e1 x)) (denH T.toTT0 h1):=by
    cases o0 with
    | normal =>
     obtain ⟨eh,c1,c2⟩:=Sat.ofRs _ hK0
     have c2:eh=(e1 x,h1):=c2
     subst c2
     exact .after hx0 (z2w c1)
    | _=>exact hK0.elim
   obtain ⟨o,E,H0,hex,e,h,rfl,rfl,hK⟩:=a2
   rw [zr] at hex
   obtain ⟨l,left,q1,q2,q3⟩:=znd hl (hr y)
   have hEE:denE T.toTT0 (denH T.toTT0 (encE y).2) (encE y).1=(fun t=>if t=2 then .pt 900002 [] 0 0 else if t=3 then .pt 900003 [] 0 0 else .un):=by
    rw [hE y]
    funext t
    simp only [denE,getE]
    by_cases h2:t=2
    ·subst h2; rfl
    ·by_cases h3:t=3
     ·subst h3; rfl
     ·have e2:Nat.beq t 2=false:=zaa fun h=>h2 h.symm
      have e3:Nat.beq t 3=false:=zaa fun h=>h3 h.symm
      simp [h2,h3,e2,e3,den]
   have key:∃ o E' h',Ex Go.Proofs.Try.prog [900002,900003] (icOf Go.Proofs.Try.prog 57 (rt (rt (z1z Go.Proofs.Try.prog 30))) ksR) (upd (denE T.toTT0 (denH T.toTT0 h1) (e1 x)) 8 .un) (denH T.toTT0 h1) o E' h'∧zok l (denH T.toTT0 (encE y).2) (fnTs Go.Proofs.Try.prog 30) E' h' o:=by
    cases o with
    | exit id=>exact hK.elim
    | normal =>
     obtain ⟨eh,c1,c2⟩:=Sat.ofRs _ hK
     cases c2
     exact ⟨_,_,_,.after hex (z2w c1),q1,rfl⟩
    | ret =>
     obtain ⟨eh,c1,c2⟩:=Sat.ofRs _ hK
     cases c2
     exact ⟨_,_,_,.after hex (z2w c1),q1,rfl⟩
    | panic u =>
     cases u with
     | iface u v =>
      simp only [rdK] at hK
      split at hK
      ·rename_i p2 p3
       have d:=z2r _ _ _ _ _ _ hK
       obtain ⟨o2,E2,H2,hx2,e2,h2,rfl,rfl,hK2⟩:=d
       refine ⟨_,_,_,hex,by simp only [denE,p2,den],by simp only [denE,p3,den],icOf Go.Proofs.Try.prog 18 (rt (z1z Go.Proofs.Try.prog 55)) ks1,?_⟩
       cases o2 with
       | normal =>
        obtain ⟨eh,c1,c2⟩:=Sat.ofRs _ hK2
        have c2:(([(2,.pt 900002 [] 0 0),(3,.pt 900003 [] 0 0)],eh.2):EH T)=encE y:=c2
        have c3:(encE y).2=eh.2:=by rw [← c2]
        have hx3:=Ex.after hx2 (z2w c1)
        rw [← c3] at hx3
        refine ⟨denE T.toTT0 (denH T.toTT0 (encE y).2) eh.1,zfv k1,?_,by rw [← hEE]; exact q1⟩
        have hE0:denE T.toTT0 (denH T.toTT0 h) [(0,.pt 900002 [] 0 0),(1,.pt 900003 [] 0 0),(2,.sc (.iface u v))]=rdE u v:=by
         funext t
         simp only [denE,getE,rdE]
         by_cases t0:t=0
         ·subst t0; rfl
         ·by_cases t1:t=1
          ·subst t1; rfl
          ·by_cases t2:t=2
           ·subst t2; rfl
           ·have e0:Nat.beq t 0=false:=zaa fun h=>t0 h.symm
            have e1:Nat.beq t 1=false:=zaa fun h=>t1 h.symm
            have e2:Nat.beq t 2=false:=zaa fun h=>t2 h.symm
            simp [t0,t1,t2,e0,e1,e2,den]
        rw [hE0] at hx3
        exact hx3
       | _=>exact hK2.elim
      ·exact hK.elim
     | _=>exact hK.elim
   obtain ⟨o,E',h',hx',fin⟩:=key
   have he2:denE T.toTT0 (denH T.toTT0 h1) (e1 x) 2 = .pt 900002 [] 0 0:=by simp only [denE,g2 x,den]
   have he3:denE T.toTT0 (denH T.toTT0 h1) (e1 x) 3 = .pt 900003 [] 0 0:=by simp only [denE,g3 x,den]
   exact (zrz f1 f2 f3 f4 (zfv k0) hx0 he2 he3 (zfv kR) hx' fin).norm [(100000,900002)] q2 rfl q3 rfl
  refine ⟨fun hst=>?_,hG⟩
  have:=hs hst y
  simp only [Bool.and_eq_true] at this
  exact CallG.narrow hG (z7f _ this.1) (z68 _ this.2)
end
attribute [-instance] Dfs.none
noncomputable def zr4 (n:Nat):Cx Go.Proofs.Try.prog Ty_:=⟨[k222 n,k227 n,k225 n,k199 n],[],[],[]⟩
noncomputable def zr5 (n:Nat) (x:ByteArray):Pt Go.Proofs.Try.prog Ty_ [900002,900003] (Yby):=.need (0≤(if (4:Int)<(x.size:Int) then (4:Int) else (x.size:Int))∧(if (4:Int)<(x.size:Int) then (4:Int) else (x.size:Int))≤(x.size:Int)) (.need (0≤(if (4:Int)<(x.size:Int) then (4:Int) else (x.size:Int))∧(if (4:Int)<(x.size:Int) then (4:Int) else (x.size:Int))≤((⟨#[108,116,104,49]⟩:ByteArray).size:Int)) (.ite (!((x.extract 0 ((if (4:Int)<(x.size:Int) then (4:Int) else (x.size:Int)).toNat))==((⟨#[108,116,104,49]⟩:ByteArray).extract 0 ((if (4:Int)<(x.size:Int) then (4:Int) else (x.size:Int)).toNat)))) (.leaf (([]:List Xa),([]:List Xb),([]:List Xc),([]:List Xd),(240:Int),(0:Int))) (.callX (k222 n) (x,(0:Int),(4:Int)) (fun (y1:Ybd)=>.callX (k227 n) (y1.2.1,y1.2.2) (fun (y2:Ybx)=>.callX (k225 n) (y2.1,y2.2.1,(8:Int)) (fun (y3:Yaf)=>.need (0≤y2.2.1∧y2.2.1≤(x.size:Int)) (.call (k199 n) (x.extract 0 y2.2.1.toNat) fun (y4:Int)=>.ite (y3.1 != y4) (.leaf (([]:List Xa),([]:List Xb),([]:List Xc),([]:List Xd),(241:Int),y2.2.1)) (.ite (decide (y3.2.2<(x.size:Int))) (.leaf (([]:List Xa),([]:List Xb),([]:List Xc),([]:List Xd),(244:Int),y3.2.2)) (.leaf (y2.2.2.1,y2.2.2.2.1,y2.2.2.2.2.1,y2.2.2.2.2.2,(0:Int),(0:Int)))))) (fun (z3:Yaa)=>.leaf (([]:List Xa),([]:List Xb),([]:List Xc),([]:List Xd),z3.1,z3.2))) (fun (z2:Yaa)=>.leaf (([]:List Xa),([]:List Xb),([]:List Xc),([]:List Xd),z2.1,z2.2))) (fun (z1:Yaa)=>.leaf (([]:List Xa),([]:List Xb),([]:List Xc),([]:List Xd),z1.1,z1.2)))))
noncomputable def k229 (n:Nat):Con Go.Proofs.Try.prog Ty_:=zu2 (R:=Yby) (zr4 n) [[0,2,3]] [[0,2,3,4],[0,2,3,4,5],[0,2,3,4,20],[0,2,3,4],[0,2,3,4],[0,2,3,4],[0,2,3,4,6],[0,2,3,4,6,7],[0,2,3,4,6,38],[0,2,3,4],[2,3,4,48],[2,3],[2,3]] [[0,1,2,7],[0,1,2,3,4],[0,1,2,3,14],[0,1,3],[]] (fun x=>.no) ⟨[(0,.any),(2,.ref 900002),(3,.ref 900003)],[(900002,.any),(900003,.any)]⟩ ⟨[(2,.ref 900002),(3,.ref 900003)],[(900002,.fix [.ow false 1,.ow false 2,.ow false 3,.ow false 4]),(900003,.any)]⟩ (fun x=>[(0,.sc (.string x)),(2,.pt 900002 [] 0 0),(3,.pt 900003 [] 0 0)]) [(900002,.lit 4 [[.zs,.zs,.zs,.zs]]),(900003,.lit 2 [[.sc (.int .i64 (0:Int)),.sc (.int .i64 (0:Int))]])] true (fun y=>([(2,.pt 900002 [] 0 0),(3,.pt 900003 [] 0 0)],[(900002,.lit 4 [[.ow false 1 y.1,.ow false 2 y.2.1,.ow false 3 y.2.2.1,.ow false 4 y.2.2.2.1]]),(900003,.lit 2 [[.sc (.int .i64 y.2.2.2.2.1),.sc (.int .i64 y.2.2.2.2.2)]])])) (fun y=>.tu [.ag [.sw 100000 [(0,0)],.sw 100000 [(0,1)],.sw 100000 [(0,2)],.sw 100000 [(0,3)]],.ag [.sc (.int .i64 y.2.2.2.2.1),.sc (.int .i64 y.2.2.2.2.2)]]) (fun y=>[(100000,.lit 4 [[.ow false 1 y.1,.ow false 2 y.2.1,.ow false 3 y.2.2.1,.ow false 4 y.2.2.2.1]])]) (zr5 n)
noncomputable def zr1 (n:Nat):Cx P_ Ty_:=⟨[k229 n,k16 n],[],[],[]⟩
abbrev zr2:List (List Nat):=[[0,2],[2,5,6],[2,5,6,16],[2,3,4],[2,5,7],[2,5,7,28],[2,3,4],[2,3,4]]
noncomputable def zr3 (n:Nat) (x:ByteArray):Pt P_ Ty_ [] (Ybm):=.call (k229 n) x fun (y1:Yby)=>.ite (y1.2.2.2.2.1 != (0:Int)) (.leaf (y1.2.2.2.2.1,y1.2.2.2.2.2,([]:List Xa),([]:List Xb),([]:List Xc),([]:List Xd))) (.call (k16 n) (⟨y1.1,y1.2.1,y1.2.2.1,y1.2.2.2.1⟩:Xe) fun (y2:Yaa)=>.ite (y2.1 != (0:Int)) (.leaf (y2.1,(0:Int),([]:List Xa),([]:List Xb),([]:List Xc),([]:List Xd))) (.leaf ((0:Int),(0:Int),y1.1,y1.2.1,y1.2.2.1,y1.2.2.2.1)))
noncomputable def k228 (n:Nat):Con P_ Ty_:=z1f (X:=ByteArray) (R:=Ybm) (pro:=[]) (zr1 n) 17 zr2 (fun x=>.no) [.any] [] [100000] ⟨[(2,.ref 100000),(3,.any),(4,.any)],[(100000,.fix [.ow false 1,.ow false 2,.ow false 3,.ow false 4])]⟩ [100000] true (fun x=>[.sc (.string x)]) (fun x=>[]) (fun y=>([(2,.pt 100000 [] 0 0),(3,I_ y.1),(4,I_ y.2.1)],[(100000,.lit 4 [[.ow false 1 y.2.2.1,.ow false 2 y.2.2.2.1,.ow false 3 y.2.2.2.2.1,.ow false 4 y.2.2.2.2.2]])])) (fun y=>.tu [.ag [.sw 100000 [(0,0)],.sw 100000 [(0,1)],.sw 100000 [(0,2)],.sw 100000 [(0,3)]],I_ y.1,I_ y.2.1]) (fun y=>[(100000,.lit 4 [[.ow false 1 y.2.2.1,.ow false 2 y.2.2.2.1,.ow false 3 y.2.2.2.2.1,.ow false 4 y.2.2.2.2.2]])]) (zr3 n)
noncomputable def zcz (n:Nat):Cx P_ Ty_:=⟨[],[],[],[]⟩
abbrev zd0:List (List Nat):=[[2,3],[2,3,42],[4],[2,3,5],[2,3,5,47],[2,3,5,60],[4],[2,3,5],[2,3,6],[2,3,6,65],[2,3,6,78],[4],[2,3,6],[2,3,7],[2,3,7,83],[2,3,7,96],[4],[2,3,7],[2,3,8],[2,3,8,101],[2,3,8,114],[4],[2,3,8],[4]]
noncomputable def zkw (x:Yam) (p:Bool):EH Ty_:=([(2,.pt 2 [] 0 0),(3,.pt 3 [] 0 0),(42,B_ p)],[(2,.lit 4 [[.im 1 x.1.Sign_,.im 2 x.1.Regs_,.im 3 x.1.Slots_,.im 4 x.1.List_]]),(3,.lit 4 [[.im 1 x.2.Sign_,.im 2 x.2.Regs_,.im 3 x.2.Slots_,.im 4 x.2.List_]])])
noncomputable def zra (n:Nat) (x:Yam) (v1:Unit) (q1:Int):Pt P_ Ty_ [] (Bo Int Int Unit):=.ite (decide (q1<(x.1.Sign_.length:Int))) (.bnd (idx x.1.Sign_ q1) fun y1=>.bnd (idx x.2.Sign_ q1) fun y2=>.ite (!(y1.Name_==y2.Name_ && (y1.Kind_==y2.Kind_ && (y1.Len_==y2.Len_ && true)))) (.leaf (.ret ())) (.leaf (.go (IntKind.i64.wrap (q1+(1:Int)))))) (.leaf (.out q1))
noncomputable def zks (n:Nat) (x:Yam) (v1:Unit):LCon P_ Ty_ []:=lcon (X:=Int) (Y:=Int) (Z:=Unit) (zcz n) (subC [1,1,0,1,0,0] (fnC P_ 13 zd0)) (fun q1=>.no) 0 true ⟨[(2,.ref 2),(3,.ref 3),(5,.any)],[(2,.any),(3,.any)]⟩ ⟨[(2,.ref 2),(3,.ref 3),(5,.any),(47,.any)],[(2,.any),(3,.any)]⟩ ⟨[(4,.any)],[]⟩ (fun q1=>([(2,.pt 2 [] 0 0),(3,.pt 3 [] 0 0),(5,I_ q1)],[(2,.lit 4 [[.im 1 x.1.Sign_,.im 2 x.1.Regs_,.im 3 x.1.Slots_,.im 4 x.1.List_]]),(3,.lit 4 [[.im 1 x.2.Sign_,.im 2 x.2.Regs_,.im 3 x.2.Slots_,.im 4 x.2.List_]])])) (fun p=>([(2,.pt 2 [] 0 0),(3,.pt 3 [] 0 0),(5,I_ p),(47,B_ false)],[(2,.lit 4 [[.im 1 x.1.Sign_,.im 2 x.1.Regs_,.im 3 x.1.Slots_,.im 4 x.1.List_]]),(3,.lit 4 [[.im 1 x.2.Sign_,.im 2 x.2.Regs_,.im 3 x.2.Slots_,.im 4 x.2.List_]])])) (fun p=>([(4,B_ false)],[])) n (zra n x v1)
noncomputable def zrb (n:Nat) (x:Yam) (v2:Unit) (q2:Int):Pt P_ Ty_ [] (Bo Int Int Unit):=.ite (decide (q2<(x.1.Regs_.length:Int))) (.bnd (idx x.1.Regs_ q2) fun y4=>.bnd (idx x.2.Regs_ q2) fun y5=>.ite (!(y4.Kind_==y5.Kind_ && (y4.Param_==y5.Param_ && true))) (.leaf (.ret ())) (.leaf (.go (IntKind.i64.wrap (q2+(1:Int)))))) (.leaf (.out q2))
noncomputable def zkt (n:Nat) (x:Yam) (v2:Unit):LCon P_ Ty_ []:=lcon (X:=Int) (Y:=Int) (Z:=Unit) (zcz n) (subC [1,1,1,0,1,0,0] (fnC P_ 13 zd0)) (fun q2=>.no) 2 true ⟨[(2,.ref 2),(3,.ref 3),(6,.any)],[(2,.any),(3,.any)]⟩ ⟨[(2,.ref 2),(3,.ref 3),(6,.any),(65,.any)],[(2,.any),(3,.any)]⟩ ⟨[(4,.any)],[]⟩ (fun q2=>([(2,.pt 2 [] 0 0),(3,.pt 3 [] 0 0),(6,I_ q2)],[(2,.lit 4 [[.im 1 x.1.Sign_,.im 2 x.1.Regs_,.im 3 x.1.Slots_,.im 4 x.1.List_]]),(3,.lit 4 [[.im 1 x.2.Sign_,.im 2 x.2.Regs_,.im 3 x.2.Slots_,.im 4 x.2.List_]])])) (fun p=>([(2,.pt 2 [] 0 0),(3,.pt 3 [] 0 0),(6,I_ p),(65,B_ false)],[(2,.lit 4 [[.im 1 x.1.Sign_,.im 2 x.1.Regs_,.im 3 x.1.Slots_,.im 4 x.1.List_]]),(3,.lit 4 [[.im 1 x.2.Sign_,.im 2 x.2.Regs_,.im 3 x.2.Slots_,.im 4 x.2.List_]])])) (fun p=>([(4,B_ false)],[])) n (zrb n x v2)
noncomputable def zrc (n:Nat) (x:Yam) (v3:Unit) (q3:Int):Pt P_ Ty_ [] (Bo Int Int Unit):=.ite (decide (q3<(x.1.Slots_.length:Int))) (.bnd (idx x.1.Slots_ q3) fun y7=>.bnd (idx x.2.Slots_ q3) fun y8=>.ite (!(y7.Type_.Kind_==y8.Type_.Kind_ && (y7.Type_.Param_==y8.Type_.Param_ && (y7.Keep_==y8.Keep_ && (y7.Bits_==y8.Bits_ && (y7.Int_==y8.Int_ && true)))))) (.leaf (.ret ())) (.leaf (.go (IntKind.i64.wrap (q3+(1:Int)))))) (.leaf (.out q3))
noncomputable def zku (n:Nat) (x:Yam) (v3:Unit):LCon P_ Ty_ []:=lcon (X:=Int) (Y:=Int) (Z:=Unit) (zcz n) (subC [1,1,1,1,0,1,0,0] (fnC P_ 13 zd0)) (fun q3=>.no) 4 true ⟨[(2,.ref 2),(3,.ref 3),(7,.any)],[(2,.any),(3,.any)]⟩ ⟨[(2,.ref 2),(3,.ref 3),(7,.any),(83,.any)],[(2,.any),(3,.any)]⟩ ⟨[(4,.any)],[]⟩ (fun q3=>([(2,.pt 2 [] 0 0),(3,.pt 3 [] 0 0),(7,I_ q3)],[(2,.lit 4 [[.im 1 x.1.Sign_,.im 2 x.1.Regs_,.im 3 x.1.Slots_,.im 4 x.1.List_]]),(3,.lit 4 [[.im 1 x.2.Sign_,.im 2 x.2.Regs_,.im 3 x.2.Slots_,.im 4 x.2.List_]])])) (fun p=>([(2,.pt 2 [] 0 0),(3,.pt 3 [] 0 0),(7,I_ p),(83,B_ false)],[(2,.lit 4 [[.im 1 x.1.Sign_,.im 2 x.1.Regs_,.im 3 x.1.Slots_,.im 4 x.1.List_]]),(3,.lit 4 [[.im 1 x.2.Sign_,.im 2 x.2.Regs_,.im 3 x.2.Slots_,.im 4 x.2.List_]])])) (fun p=>([(4,B_ false)],[])) n (zrc n x v3)
noncomputable def zrd (n:Nat) (x:Yam) (v4:Unit) (q4:Int):Pt P_ Ty_ [] (Bo Int Int Unit):=.ite (decide (q4<(x.1.List_.length:Int))) (.bnd (idx x.1.List_ q4) fun y10=>.bnd (idx x.2.List_ q4) fun y11=>.ite (!(y10.Op_==y11.Op_ && (y10.D_==y11.D_ && (y10.A_==y11.A_ && (y10.B_==y11.B_ && (y10.C_==y11.C_ && (y10.N_==y11.N_ && (y10.Bits_==y11.Bits_ && true)))))))) (.leaf (.ret ())) (.leaf (.go (IntKind.i64.wrap (q4+(1:Int)))))) (.leaf (.out q4))
noncomputable def zkv (n:Nat) (x:Yam) (v4:Unit):LCon P_ Ty_ []:=lcon (X:=Int) (Y:=Int) (Z:=Unit) (zcz n) (subC [1,1,1,1,1,0,1,0,0] (fnC P_ 13 zd0)) (fun q4=>.no) 6 true ⟨[(2,.ref 2),(3,.ref 3),(8,.any)],[(2,.any),(3,.any)]⟩ ⟨[(2,.ref 2),(3,.ref 3),(8,.any),(101,.any)],[(2,.any),(3,.any)]⟩ ⟨[(4,.any)],[]⟩ (fun q4=>([(2,.pt 2 [] 0 0),(3,.pt 3 [] 0 0),(8,I_ q4)],[(2,.lit 4 [[.im 1 x.1.Sign_,.im 2 x.1.Regs_,.im 3 x.1.Slots_,.im 4 x.1.List_]]),(3,.lit 4 [[.im 1 x.2.Sign_,.im 2 x.2.Regs_,.im 3 x.2.Slots_,.im 4 x.2.List_]])])) (fun p=>([(2,.pt 2 [] 0 0),(3,.pt 3 [] 0 0),(8,I_ p),(101,B_ false)],[(2,.lit 4 [[.im 1 x.1.Sign_,.im 2 x.1.Regs_,.im 3 x.1.Slots_,.im 4 x.1.List_]]),(3,.lit 4 [[.im 1 x.2.Sign_,.im 2 x.2.Regs_,.im 3 x.2.Slots_,.im 4 x.2.List_]])])) (fun p=>([(4,B_ false)],[])) n (zrd n x v4)
noncomputable def zsn (n:Nat) (x:Yam):Pt P_ Ty_ [] Bool:=.join (S:=Bool) (zkw x) (.ite ((x.1.Sign_.length:Int) != (x.2.Sign_.length:Int)) (.leaf (.inl true)) (.ite ((x.1.Regs_.length:Int) != (x.2.Regs_.length:Int)) (.leaf (.inl true)) (.ite ((x.1.Slots_.length:Int) != (x.2.Slots_.length:Int)) (.leaf (.inl true)) (.leaf (.inl ((x.1.List_.length:Int) != (x.2.List_.length:Int))))))) fun s1=>.ite s1 (.leaf false) (.loopR (V:=Unit) (zks n x) () (0:Int) (fun (v1:Unit) (y3:Int)=>.loopR (V:=Unit) (zkt n x) () (0:Int) (fun (v2:Unit) (y6:Int)=>.loopR (V:=Unit) (zku n x) () (0:Int) (fun (v3:Unit) (y9:Int)=>.loopR (V:=Unit) (zkv n x) () (0:Int) (fun (v4:Unit) (y12:Int)=>.leaf true) fun (v4:Unit) (z4:Unit)=>.leaf false) fun (v3:Unit) (z3:Unit)=>.leaf false) fun (v2:Unit) (z2:Unit)=>.leaf false) fun (v1:Unit) (z1:Unit)=>.leaf false)
noncomputable def k23 (n:Nat):Con P_ Ty_:=z1f (X:=Yam) (R:=Bool) (pro:=[]) (zcz n) 13 zd0 (fun x=>.two .no (.two (.join Bool (zkw x) ⟨[(2,.ref 2),(3,.ref 3),(42,.any)],[(2,.any),(3,.any)]⟩ .no .no) (.two (.two .no (.two (.loop Unit (zks n x) true ⟨[(2,.ref 2),(3,.ref 3),(5,.any)],[(2,.any),(3,.any)]⟩) .no)) (.two (.two .no (.two (.loop Unit (zkt n x) true ⟨[(2,.ref 2),(3,.ref 3),(6,.any)],[(2,.any),(3,.any)]⟩) .no)) (.two (.two .no (.two (.loop Unit (zku n x) true ⟨[(2,.ref 2),(3,.ref 3),(7,.any)],[(2,.any),(3,.any)]⟩) .no)) (.two (.two .no (.two (.loop Unit (zkv n x) true ⟨[(2,.ref 2),(3,.ref 3),(8,.any)],[(2,.any),(3,.any)]⟩) .no)) .no)))))) [.ag [.im 1,.im 2,.im 3,.im 4],.ag [.im 1,.im 2,.im 3,.im 4]] [] [] ⟨[(4,.any)],[]⟩ [] true (fun x=>[.ag [.im 1 x.1.Sign_,.im 2 x.1.Regs_,.im 3 x.1.Slots_,.im 4 x.1.List_],.ag [.im 1 x.2.Sign_,.im 2 x.2.Regs_,.im 3 x.2.Slots_,.im 4 x.2.List_]]) (fun x=>[]) (fun y=>([(4,B_ y)],[])) (fun y=>B_ y) (fun y=>[]) (zsn n)
noncomputable def zr6 (n:Nat):Cx P_ Ty_:=⟨[k216 n,k228 n,k23 n,k199 n],[],[],[]⟩
abbrev zr7:List (List Nat):=[[],[1,2],[1,2,3,4,5],[1,2,3,4,5,7,8],[0]]
noncomputable def zkq (n:Nat) (x:Unit):Pt P_ Ty_ [] Bool:=.call (k216 n) (⟨([]:List Xa),([]:List Xb),([]:List Xc),([]:List Xd)⟩:Xe) fun (y1:Yad)=>.call (k228 n) y1.1 fun (y2:Ybm)=>.call (k228 n) (⟨#[108,116,104,49,0,0]⟩:ByteArray) fun (y3:Ybm)=>.ite (y1.2==0) (.ite ((y1.1.size:Int)==16) (.need (0≤(8:Int)∧(8:Int)≤(y1.1.size:Int)) (.ite ((y1.1.extract 0 ((8:Int).toNat))==(⟨#[108,116,104,49,0,0,0,0]⟩:ByteArray)) (.ite (y2.1==0) (.ite (y2.2.1==0) (.call (k23 n) ((⟨y2.2.2.1,y2.2.2.2.1,y2.2.2.2.2.1,y2.2.2.2.2.2⟩:Xe),(⟨([]:List Xa),([]:List Xb),([]:List Xc),([]:List Xd)⟩:Xe)) fun (y4:Bool)=>.ite y4 (.ite (y3.1==242) (.ite (y3.2.1==6) (.call (k199 n) (⟨#[49,50,51,52,53,54,55,56,57]⟩:ByteArray) fun (y5:Int)=>.leaf (y5==11051210869376104954)) (.leaf false)) (.leaf false)) (.leaf false)) (.leaf false)) (.leaf false)) (.leaf false))) (.leaf false)) (.leaf false)
noncomputable def k231 (n:Nat):Con P_ Ty_:=z1f (X:=Unit) (R:=Bool) (pro:=[]) (zr6 n) 14 zr7 (fun x=>.no) [] [] [] ⟨[(0,.any)],[]⟩ [] true (fun x=>[]) (fun x=>[]) (fun y=>([(0,B_ y)],[])) (fun y=>B_ y) (fun y=>[]) (zkq n)
noncomputable def zr8 (n:Nat):Cx P_ Ty_:=⟨[k199 n,k198 n,k231 n],[],[],[]⟩
abbrev zr9:List (List Nat):=[[0],[2]]
noncomputable def zkr (n:Nat) (x:ByteArray):Pt P_ Ty_ [] Bool:=.call (k199 n) x fun (y1:Int)=>.call (k198 n) x fun (y2:Int)=>.ite (y1==y2) (.call (k231 n) () fun (y3:Bool)=>.leaf y3) (.leaf false)
noncomputable def k232 (n:Nat):Con P_ Ty_:=z1f (X:=ByteArray) (R:=Bool) (pro:=[]) (zr8 n) 4 zr9 (fun x=>.no) [.any] [] [] ⟨[(2,.any)],[]⟩ [] true (fun x=>[.sc (.string x)]) (fun x=>[]) (fun y=>([(2,B_ y)],[])) (fun y=>B_ y) (fun y=>[]) (zkr n)
noncomputable def zay (n:Nat) (x:ByteArray) (v1:Unit) (q1:Yaa) (v2:Unit) (q2:Yaa):Option (Bo (Yaa) (Yaa) Empty):=(zhe n x v1 q1 v2 q2).run
noncomputable def zdz (n:Nat) (x:ByteArray) (v1:Unit) (q1:Yaa):Option (Bo (Yaa) (Yaa) Empty):=(zhd n x v1 q1).run
noncomputable def f199 (n:Nat) (x:ByteArray):Option Int:=(zkh n x).run
theorem zcy (n:Nat) (x:ByteArray) (v1:Unit) (q1:Yaa) (v2:Unit) (q2:Yaa):zay n x v1 q1 v2 q2=bif (decide (q2.2<(8:Int))) then (bif ((IntKind.u64.wrap (BitVec.ofInt IntKind.u64.bits q2.1 &&& BitVec.ofInt IntKind.u64.bits (1:Int)).toNat)==1) then (some (.go ((IntKind.u64.wrap (BitVec.ofInt IntKind.u64.bits (q2.1.fdiv (2 ^ min (1:Int).toNat IntKind.u64.bits)) ^^^ BitVec.ofInt IntKind.u64.bits (14514072000185962306:Int)).toNat),(IntKind.i64.wrap (q2.2+(1:Int)))))) else (some (.go ((q2.1.fdiv (2 ^ min (1:Int).toNat IntKind.u64.bits)),(IntKind.i64.wrap (q2.2+(1:Int))))))) else (some (.out (q2.1,q2.2))):=by kernel_rfl
theorem zcx (n:Nat) (x:ByteArray) (v1:Unit) (q1:Yaa):zdz n x v1 q1=bif (decide (q1.2<((bytesOf x).length:Int))) then ((idx (bytesOf x) q1.2).bind fun y1=>(iter (zay n x v1 q1 ()) n ((IntKind.u64.wrap (BitVec.ofInt IntKind.u64.bits q1.1 ^^^ BitVec.ofInt IntKind.u64.bits (IntKind.u64.wrap y1)).toNat),(0:Int))).bind (Bo.then (fun y2=>some (.go (y2.1,(IntKind.i64.wrap (q1.2+(1:Int)))))) (fun _=>none))) else (some (.out (q1.1,q1.2))):=by kernel_rfl
theorem zp2 (n:Nat) (x:ByteArray):f199 n x=(iter (zdz n x ()) n ((18446744073709551615:Int),(0:Int))).bind (Bo.then (fun y3=>some (cmpl .u64 y3.1)) (fun _=>none)):=by kernel_rfl
noncomputable def zax (n:Nat) (x:ByteArray) (v1:Unit) (q1:Yaa) (v2:Unit) (q2:Yaa):Option (Bo (Yaa) (Yaa) Empty):=(zha n x v1 q1 v2 q2).run
noncomputable def zdy (n:Nat) (x:ByteArray) (v1:Unit) (q1:Yaa):Option (Bo (Yaa) (Yaa) Empty):=(zh9 n x v1 q1).run
noncomputable def f198 (n:Nat) (x:ByteArray):Option Int:=(zkg n x).run
theorem zcw (n:Nat) (x:ByteArray) (v1:Unit) (q1:Yaa) (v2:Unit) (q2:Yaa):zax n x v1 q1 v2 q2=bif (decide (q2.2<(8:Int))) then (bif ((q2.1.tmod (2:Int))==1) then (some (.go ((IntKind.u64.wrap (BitVec.ofInt IntKind.u64.bits (q2.1.fdiv (2 ^ min (1:Int).toNat IntKind.u64.bits)) ^^^ BitVec.ofInt IntKind.u64.bits (14514072000185962306:Int)).toNat),(IntKind.i64.wrap (q2.2+(1:Int)))))) else (some (.go ((q2.1.fdiv (2 ^ min (1:Int).toNat IntKind.u64.bits)),(IntKind.i64.wrap (q2.2+(1:Int))))))) else (some (.out (q2.1,q2.2))):=by kernel_rfl
theorem zcv (n:Nat) (x:ByteArray) (v1:Unit) (q1:Yaa):zdy n x v1 q1=bif (decide (q1.2<(x.size:Int))) then (need (0≤q1.2∧q1.2<(x.size:Int)) ((iter (zax n x v1 q1 ()) n ((IntKind.u64.wrap (BitVec.ofInt IntKind.u64.bits q1.1 ^^^ BitVec.ofInt IntKind.u64.bits (IntKind.u64.wrap (z2l x q1.2))).toNat),(0:Int))).bind (Bo.then (fun y1=>some (.go (y1.1,(IntKind.i64.wrap (q1.2+(1:Int)))))) (fun _=>none)))) else (some (.out (q1.1,q1.2))):=by kernel_rfl
theorem zp0 (n:Nat) (x:ByteArray):f198 n x=(iter (zdy n x ()) n ((18446744073709551615:Int),(0:Int))).bind (Bo.then (fun y2=>some (cmpl .u64 y2.1)) (fun _=>none)):=by kernel_rfl
noncomputable def f31 (n:Nat) (x:Xe×Xb):Option Bool:=(znw n x).run
theorem zq9 (n:Nat) (x:Xe×Xb):f31 n x=(bif (x.2.Kind_==1) then (some (.inl true)) else (some (.inl (x.2.Kind_==2))):Option (Bool⊕_)).bind (z3b fun s1=>bif s1 then (some (x.2.Param_==0)) else (bif (x.2.Kind_==3) then (bif (decide (x.2.Param_≥(0:Int))) then (some (decide (x.2.Param_<(x.1.Sign_.length:Int)))) else (some false)) else (some false))):=by kernel_rfl
noncomputable def f52 (n:Nat) (x:Int):Option Bool:=(zoa n x).run
theorem zqc (n:Nat) (x:Int):f52 n x=bif (decide ((IntKind.u32.wrap (BitVec.ofInt IntKind.u32.bits x &&& ~~~BitVec.ofInt IntKind.u32.bits (2147483648:Int)).toNat)≤(2139095040:Int))) then (some true) else (some (x==2143289344)):=by kernel_rfl
noncomputable def f34 (n:Nat) (x:Xe×Xc):Option Bool:=(znx n x).run
theorem zqb (n:Nat) (x:Xe×Xc):f34 n x=(f31 n (x.1,x.2.Type_)).bind fun y1=>bif (!y1) then (some false) else (bif (x.2.Type_.Kind_==2) then (bif (x.2.Bits_==0) then (bif (decide (x.2.Int_≥(0:Int))) then (some (decide (x.2.Int_≤(2147483647:Int)))) else (some false)) else (some false)) else (bif (x.2.Int_==0) then ((f52 n x.2.Bits_).bind fun y2=>some y2) else (some false))):=by kernel_rfl
noncomputable def f26 (n:Nat) (x:Int):Option (Yaz):=(znv n x).run
theorem zq8 (n:Nat) (x:Int):f26 n x=bif (x==1) then (some (true,(1:Int),(0:Int),(0:Int),(0:Int),(0:Int))) else (bif (x==2) then (some (true,(2:Int),(0:Int),(0:Int),(0:Int),(1:Int))) else (bif (x==3) then (some (true,(8:Int),(7:Int),(0:Int),(0:Int),(0:Int))) else ((bif (x==4) then (some (.inl true)) else (bif (x==5) then (some (.inl true)) else (bif (x==6) then (some (.inl true)) else (bif (x==7) then (some (.inl true)) else (bif (x==8) then (some (.inl true)) else (bif (x==9) then (some (.inl true)) else (some (.inl (x==10)))))))):Option (Bool⊕_)).bind (z3b fun s1=>bif s1 then (some (true,(4:Int),(5:Int),(5:Int),(0:Int),(0:Int))) else ((bif (x==11) then (some (.inl true)) else (bif (x==12) then (some (.inl true)) else (bif (x==13) then (some (.inl true)) else (some (.inl (x==14))))):Option (Bool⊕_)).bind (z3b fun s2=>bif s2 then (some (true,(4:Int),(5:Int),(0:Int),(0:Int),(0:Int))) else (bif (x==15) then (some (true,(4:Int),(5:Int),(5:Int),(5:Int),(0:Int))) else (bif (x==16) then (some (true,(1:Int),(1:Int),(2:Int),(0:Int),(0:Int))) else (bif (x==17) then (some (true,(1:Int),(2:Int),(0:Int),(0:Int),(0:Int))) else (bif (x==18) then (some (true,(2:Int),(1:Int),(0:Int),(0:Int),(0:Int))) else ((bif (x==19) then (some (.inl true)) else (some (.inl (x==20))):Option (Bool⊕_)).bind (z3b fun s3=>bif s3 then (some (true,(1:Int),(3:Int),(0:Int),(0:Int),(0:Int))) else ((bif (x==21) then (some (.inl true)) else (some (.inl (x==25))):Option (Bool⊕_)).bind (z3b fun s4=>bif s4 then (some (true,(2:Int),(2:Int),(0:Int),(0:Int),(0:Int))) else ((bif (x==22) then (some (.inl true)) else (bif (x==23) then (some (.inl true)) else (bif (x==24) then (some (.inl true)) else (bif (x==27) then (some (.inl true)) else (some (.inl (x==28)))))):Option (Bool⊕_)).bind (z3b fun s5=>bif s5 then (some (true,(2:Int),(2:Int),(2:Int),(0:Int),(0:Int))) else (bif (x==26) then (some (true,(2:Int),(2:Int),(2:Int),(2:Int),(0:Int))) else ((bif (x==29) then (some (.inl true)) else (some (.inl (x==30))):Option (Bool⊕_)).bind (z3b fun s6=>bif s6 then (some (true,(3:Int),(0:Int),(0:Int),(0:Int),(2:Int))) else (bif (x==31) then (some (true,(0:Int),(3:Int),(0:Int),(0:Int),(2:Int))) else (bif (x==32) then (some (true,(8:Int),(0:Int),(0:Int),(0:Int),(3:Int))) else (bif (x==33) then (some (true,(0:Int),(8:Int),(0:Int),(0:Int),(3:Int))) else (bif (x==34) then (some (true,(0:Int),(2:Int),(0:Int),(0:Int),(0:Int))) else (bif (x==36) then (some (true,(0:Int),(0:Int),(0:Int),(0:Int),(4:Int))) else ((bif (x==35) then (some (.inl true)) else (some (.inl (x==37))):Option (Bool⊕_)).bind (z3b fun s7=>bif s7 then (some (true,(0:Int),(0:Int),(0:Int),(0:Int),(0:Int))) else (some (false,(0:Int),(0:Int),(0:Int),(0:Int),(0:Int))))))))))))))))))))))))))))):=by kernel_rfl
noncomputable def f231 (n:Nat) (x:Unit):Option Bool:=(zkq n x).run
noncomputable def f232 (n:Nat) (x:ByteArray):Option Bool:=(zkr n x).run
theorem zp4 (n:Nat) (x:ByteArray):f232 n x=(f199 n x).bind fun y1=>(f198 n x).bind fun y2=>bif (y1==y2) then ((f231 n ()).bind fun y3=>some y3) else (some false):=by kernel_rfl
end Loom
