/- The plain law of FuseMeans: what it answers is true,whatever it is handed (part 2 of 2). -/
import Derived.Test.YtkdodmdcmakdgaaGreatFuseMeansPureA
set_option linter.unusedVariables false
set_option linter.unusedSimpArgs false
set_option maxRecDepth 100000
namespace Loom
open Go
theorem y2s {c:Xe} (h:(chk c).1=0):Fine c:=by
 obtain ⟨q0,q1,q2,q3,q4,q5,r,q6,q7⟩:=z85 h
 simp only [decide_eq_false_iff_not] at q1 q2 q3
 have hs:sgn c.Sign_=0:=by simpa using q0
 have hsg:c.Sign_.length≤64∧∀ p ∈ c.Sign_,mayP p=true:=by
  unfold sgn at hs
  cases h1:decide ((c.Sign_.length:Int) > 64) with
  | true=>rw [h1] at hs; cases hs
  | false =>
   rw [h1] at hs
   simp only [decide_eq_false_iff_not] at h1
   cases h2:c.Sign_.all mayP with
   | false=>rw [h2] at hs; cases hs
   | true=>exact ⟨by omega,List.all_eq_true.1 h2⟩
 refine ⟨hsg.2,List.all_eq_true.1 q4,fun z hz=>?_,by omega,by omega,hsg.1⟩
 have:=List.all_eq_true.1 q5 z hz
 unfold mayS at this
 simp only [Bool.and_eq_true] at this
 exact this.1
section
variable {n:Nat} {c:Xe}
abbrev zrl:Type:=Int×(List Xa)×(List Xb)×(List Xc)×(List Xd)×(List Xh)×(List Xa)×(List Xb)×(List Xc)×(List Xd)×(List Xh)
theorem zya (hn:100000<n) (F:Fine c) {A B:List Xd} (hA:A.length≤40000) (hB:B.length≤40000) (hAB:bare B=bare A) (cA:(chk (zx c A)).1=0) (cB:(chk (zx c B)).1=0) (uA:U32s (zx c A)) (uB:U32s (zx c B))
  {rA rB:List Bool×List Xg} (gA:goR c A 0 (z29 c) [] = .inr rA) (gB:goR c B 0 (z29 c) [] = .inr rB) (steps:List Xf) {K:Nat} (hK:K≤5000) :
  (k131 n).G (zx c A,zx c B,steps,(K:Int))=some true:=by
 obtain ⟨S0,hS0,hnew⟩:=y8p hn F (c:=c)
 have:Ans (zfq n (zx c A,zx c B,steps,(K:Int))) (fun (b:Bool)=>b=true):=by
  unfold zfq
  refine z8 (fun (y:Ybi)=>y=((0:Int),c.Sign_,c.Regs_,c.Slots_,A,S0)) ⟨_,hnew A cA uA,rfl⟩ (fun (y1:Ybi) h1=>?_)
  subst h1
  refine z8 (fun (y:Ybi)=>y=((0:Int),c.Sign_,c.Regs_,c.Slots_,B,S0)) ⟨_,hnew B cB uB,rfl⟩ (fun (y2:Ybi) h2=>?_)
  subst h2
  refine zcf (z6 (fun h=>by cases h) (fun _=>z0 ?_))
  show Ans _ _
  refine z6 (fun h=>by cases h) (fun _=>?_)
  refine z6q (fun _=>True) (fun _=>False) ?_ (fun _ _=>z0 rfl) (fun _ h=>h.elim)
  refine z56 (fun k (q:zrl)=>∃ (i:Nat) (S:List Xh),q=((i:Int),c.Sign_,c.Regs_,c.Slots_,A,S,c.Sign_,c.Regs_,c.Slots_,B,S)∧z1x c S∧i+k=20) (fun k (q:zrl) hq=>?_) 20 n ((0:Int),c.Sign_,c.Regs_,c.Slots_,A,S0,c.Sign_,c.Regs_,c.Slots_,B,S0) ⟨0,S0,rfl,hS0,rfl⟩ (by omega)
  obtain ⟨i,S,hq,hS,hik⟩:=hq
  subst hq
  show Ans (zh1 n (zx c A,zx c B,steps,(K:Int)) () ((i:Int),c.Sign_,c.Regs_,c.Slots_,A,S,c.Sign_,c.Regs_,c.Slots_,B,S)) _
  unfold zh1
  refine zi (fun (s:Bool)=>s=true→i<steps.length∧i<20) ?_ (fun (s2:Bool) hs2=>?_)
  ·refine z6 (fun h=>z0 fun h'=>?_) (fun _=>z0 fun h=>by cases h)
   have h:(i:Int)<(steps.length:Int):=of_decide_eq_true h
   have h':(i:Int)<20:=of_decide_eq_true h'
   omega
  refine z6 (fun h=>?_) (fun _=>z0 True.intro)
  obtain ⟨hi,hi20⟩:=hs2 h
  have e1:idx steps (i:Int)=some steps[i]:=zy hi
  obtain ⟨u,e,S',hu,hS',hst⟩:=y3k hn F hS steps[i].Grads_ steps[i].Params_ gA
  refine zg e1 (zg e1 ?_)
  refine z8 (fun (y:z9r)=>y=(u,e,c.Sign_,c.Regs_,c.Slots_,A,S')) (hst A hA rfl ⟨_,gA⟩) (fun (y5:z9r) h5=>?_)
  subst h5
  refine zg e1 (zg e1 ?_)
  refine z8 (fun (y:z9r)=>y=(u,e,c.Sign_,c.Regs_,c.Slots_,B,S')) (hst B hB hAB ⟨_,gB⟩) (fun (y8:z9r) h8=>?_)
  subst h8
  have ew:IntKind.i64.wrap ((i:Int)+1)=((i+1:Nat):Int):=z11 (by omega)
  refine zi (fun (s:Ybl)=>s=(false,c.Sign_,c.Regs_,c.Slots_,A,S',c.Sign_,c.Regs_,c.Slots_,B,S')) ?_ (fun (s3:Ybl) h3=>?_)
  ·refine z6 (fun h=>?_) (fun _=>?_)
   ·have h:(e != e)=true:=h
    simp at h
   refine z8 (fun (b:Bool)=>b=true) (t150 hn hu) (fun (y9:Bool) h9=>?_)
   subst h9
   refine z6 (fun h=>by cases h) (fun _=>?_)
   obtain ⟨w,ew1,hw⟩:=t151 hn F hS' (zx c A) hK
   have ew2:(k151 n).G ((⟨zx c B,S'⟩:Xi),(K:Int))=(k151 n).G ((⟨zx c A,S'⟩:Xi),(K:Int)):=by kernel_rfl
   refine z8 (fun (y:List (List Int))=>y=w) ⟨w,ew1,rfl⟩ (fun (y10:List (List Int)) h10=>?_)
   refine z8 (fun (y:List (List Int))=>y=w) ⟨w,ew2.trans ew1,rfl⟩ (fun (y11:List (List Int)) h11=>?_)
   subst h10 h11
   refine z8 (fun (b:Bool)=>b=true) (t150 hn ⟨by have:=hw.1; omega,fun l hl=>by have:=hw.2 l hl; omega⟩) (fun (y12:Bool) h12=>z0 ?_)
   subst h12; rfl
  ·subst h3
   refine z6 (fun h=>by cases h) (fun _=>z0 ⟨k - 1,by omega,i+1,S',?_,hS',by omega⟩)
   show (IntKind.i64.wrap ((i:Int)+1),_)=_
   rw [ew]
 obtain ⟨b,e1,e2⟩:=this
 rw [← e2]; exact e1
def z22:List Xd→List Bool→Bool
 | [],_=>true
 | i::l,s=>bif sets i then (bif (s[i.D_.toNat]?).getD false then false else z22 l (s.set i.D_.toNat true)) else z22 l s
theorem z4t:∀ (l:List Xd) (s:List Bool),z22 (bare l) s=z22 l s
 | [],s=>rfl
 | i::l,s=>by
  cases h:mark i with
  | true =>
   have eb:bare (i::l)=bare l:=by unfold bare; rw [List.filter_cons,h]; rfl
   rw [eb,z4t l s]
   unfold mark at h
   simp only [Bool.or_eq_true,beq_iff_eq] at h
   have hs:sets i=false:=by unfold sets; rcases h with h | h <;> rw [h] <;> rfl
   show _=bif sets i then _ else z22 l s
   rw [hs]; rfl
  | false =>
   have eb:bare (i::l)=i::bare l:=by unfold bare; rw [List.filter_cons,h]; rfl
   rw [eb]
   show (bif sets i then (bif (s[i.D_.toNat]?).getD false then false else z22 (bare l) (s.set i.D_.toNat true)) else z22 (bare l) s)=_
   rw [z4t l,z4t l]; rfl
theorem z9p {d:Xe} (hL:d.List_.length≤1000000) (hf:∀ i ∈ d.List_,fits d i=true):∀ (j k f:Nat) (s:List Bool),k+j=d.List_.length→j<f→s.length=d.Regs_.length →
  ∃ b,iter (zdh n d ()) f ((k:Int),s)=some b∧(match b with | .go _=>False | .out _=>z22 (d.List_.drop k) s=true | .ret _=>z22 (d.List_.drop k) s=false)
 | 0,k,f+1,s,hk,_,hs=>by
  obtain rfl:k=d.List_.length:=by omega
  rw [List.drop_length]
  unfold iter
  rw [zfl]
  simp only [show decide ((d.List_.length:Int)<(d.List_.length:Int))=false by simp,cond_false]
  exact ⟨_,rfl,rfl⟩
 | j+1,k,f+1,s,hk,hj,hs=>by
  have hkl:k<d.List_.length:=by omega
  have e1:decide ((k:Int)<(d.List_.length:Int))=true:=by simp; omega
  rw [List.drop_eq_getElem_cons hkl]
  unfold iter
  rw [zfl]
  unfold z22
  simp only [e1,cond_true,zy hkl,Option.bind_some,zs3,z11 (show k<4611686018427387904 by omega)]
  cases hse:sets d.List_[k] with
  | false =>
   simp only [Bool.not_false,cond_true,cond_false]
   exact z9p hL hf j (k+1) f s (by omega) (by omega) hs
  | true =>
   obtain ⟨t,ht,_⟩:=z8z (hf _ (List.getElem_mem hkl)) hse
   obtain ⟨a,b,_⟩:=z3k ht
   have hD:d.List_[k].D_.toNat<s.length:=by omega
   have eD:s[d.List_[k].D_.toNat]? = some (s[d.List_[k].D_.toNat]'hD):=List.getElem?_eq_getElem hD
   simp only [Bool.not_true,cond_false,cond_true,eD,Option.bind_some,Option.getD_some]
   rw [zo (by omega),zo (by omega)]
   cases s[d.List_[k].D_.toNat]'hD with
   | true=>exact ⟨_,rfl,rfl⟩
   | false =>
    simp only [cond_false]
    exact z9p hL hf j (k+1) f _ (by omega) (by omega) (by rw [List.length_set]; exact hs)
theorem zii {d:Xe} (hn:100000<n) (hR:d.Regs_.length≤20000) (hL:d.List_.length≤40000) (hf:∀ i ∈ d.List_,fits d i=true):f138 n d=some (z22 d.List_ (z29 d)):=by
 rw [y2k]
 have i1:=z70 (L:=d.Regs_.length) (body:=zdg n d ()) (fun k=>((k:Int),List.replicate k false)) (fun k hk=>?_) (y:=((d.Regs_.length:Int),List.replicate d.Regs_.length false)) ?_ d.Regs_.length 0 n (by omega) (by omega)
 ·have i1:iter (zdg n d ()) n (0,[])=_:=i1
  rw [i1]
  simp only [Option.bind_some,Bo.then]
  obtain ⟨b,e1,e2⟩:=z9p (n:=n) (d:=d) (by omega) hf d.List_.length 0 n (z29 d) (by omega) (by omega) (by simp)
  have e1:iter (zdh n d ()) n (0,List.replicate d.Regs_.length false)=_:=e1
  rw [e1]
  rw [List.drop_zero] at e2
  cases b with
  | go s=>exact e2.elim
  | out y =>
   have e2:z22 d.List_ (z29 d)=true:=e2
   rw [e2]; rfl
  | ret z =>
   have e2:z22 d.List_ (z29 d)=false:=e2
   rw [e2]; rfl
 ·rw [zfk]
  have e1:decide ((k:Int)<(d.Regs_.length:Int))=true:=by simp; omega
  simp only [e1,cond_true]
  rw [zo (by simp; omega),z11 (by omega),List.replicate_succ']
 ·rw [zfk]; simp
end
abbrev y1w:Ty:=.str
def y1v (R:Nat→Nat→Prop) (x:ByteArray):Prop:=R x.size 1
theorem yb6 {R:Nat→Nat→Prop} {cs:List AV} (h:OfTy R y1w cs):∃ x:ByteArray,y1v R x∧[.sc (.string x)]=cs:=by
 obtain ⟨b,rfl,h⟩:=h
 exact ⟨b,h,rfl⟩
abbrev z51:Ty:=.int .i64
def z50 (_:Nat→Nat→Prop) (x:Int):Prop:=(Lit.int .i64 x).wf=true
theorem z5x {R:Nat→Nat→Prop} {cs:List AV} (h:OfTy R z51 cs):∃ x:Int,z50 R x∧[.sc (.int .i64 x)]=cs:=by
 obtain ⟨n,rfl,h⟩:=h
 exact ⟨n,h,rfl⟩
abbrev zca:Ty:=.st (.cons y1w (.cons z51 (.cons z51 (.nil))))
structure zc6 (R:Nat→Nat→Prop) (x:Xa):Prop where
 Name_:y1v R x.Name_
 Kind_:z50 R x.Kind_
 Len_:z50 R x.Len_
theorem zis {R:Nat→Nat→Prop} {cs:List AV} (h:OfTy R zca cs):∃ x:Xa,zc6 R x∧(c1 false) x=cs:=by
 obtain ⟨_,_,rfl,h0,h⟩:=h
 obtain ⟨_,_,rfl,h1,h⟩:=h
 obtain ⟨_,_,rfl,h2,h⟩:=h
 obtain rfl:=h
 obtain ⟨x0,w0,rfl⟩:=yb6 h0
 obtain ⟨x1,w1,rfl⟩:=z5x h1
 obtain ⟨x2,w2,rfl⟩:=z5x h2
 exact ⟨⟨x0,x1,x2⟩,⟨w0,w1,w2⟩,rfl⟩
abbrev zas:Ty:=.sl 3 32 zca
def zar (R:Nat→Nat→Prop) (x:List Xa):Prop:=R x.length 32∧∀ y ∈ x,zc6 R y
theorem zh7 {R:Nat→Nat→Prop} {cs:List AV} (h:OfTy R zas cs):∃ x:List Xa,zar R x∧[.im 3 (x.map (c1 false))]=cs:=by
 obtain ⟨xs,rfl,h1,h2⟩:=h
 obtain ⟨ys,h3,rfl⟩:=z48 (c:=(c1 false)) (fun _ h=>zis h) h1
 exact ⟨ys,⟨by simpa using h2,h3⟩,rfl⟩
abbrev z8o:Ty:=.st (.cons z51 (.cons z51 (.nil)))
structure z8n (R:Nat→Nat→Prop) (x:Xb):Prop where
 Kind_:z50 R x.Kind_
 Param_:z50 R x.Param_
theorem zcz {R:Nat→Nat→Prop} {cs:List AV} (h:OfTy R z8o cs):∃ x:Xb,z8n R x∧(c2 false) x=cs:=by
 obtain ⟨_,_,rfl,h0,h⟩:=h
 obtain ⟨_,_,rfl,h1,h⟩:=h
 obtain rfl:=h
 obtain ⟨x0,w0,rfl⟩:=z5x h0
 obtain ⟨x1,w1,rfl⟩:=z5x h1
 exact ⟨⟨x0,x1⟩,⟨w0,w1⟩,rfl⟩
abbrev zc9:Ty:=.sl 2 16 z8o
def zc5 (R:Nat→Nat→Prop) (x:List Xb):Prop:=R x.length 16∧∀ y ∈ x,z8n R y
theorem zir {R:Nat→Nat→Prop} {cs:List AV} (h:OfTy R zc9 cs):∃ x:List Xb,zc5 R x∧[.im 2 (x.map (c2 false))]=cs:=by
 obtain ⟨xs,rfl,h1,h2⟩:=h
 obtain ⟨ys,h3,rfl⟩:=z48 (c:=(c2 false)) (fun _ h=>zcz h) h1
 exact ⟨ys,⟨by simpa using h2,h3⟩,rfl⟩
abbrev zx6:Ty:=.bool
def zx4 (_:Nat→Nat→Prop) (x:Bool):Prop:=True
theorem y8u {R:Nat→Nat→Prop} {cs:List AV} (h:OfTy R zx6 cs):∃ x:Bool,zx4 R x∧[.sc (.bool x)]=cs:=by
 obtain ⟨b,rfl⟩:=h
 exact ⟨b,trivial,rfl⟩
abbrev zj3:Ty:=.int .u32
def zgq (_:Nat→Nat→Prop) (x:Int):Prop:=(Lit.int .u32 x).wf=true
theorem zr6 {R:Nat→Nat→Prop} {cs:List AV} (h:OfTy R zj3 cs):∃ x:Int,zgq R x∧[.sc (.int .u32 x)]=cs:=by
 obtain ⟨n,rfl,h⟩:=h
 exact ⟨n,h,rfl⟩
abbrev zd9:Ty:=.st (.cons z8o (.cons zx6 (.cons zj3 (.cons z51 (.nil)))))
structure zd7 (R:Nat→Nat→Prop) (x:Xc):Prop where
 Type_:z8n R x.Type_
 Keep_:zx4 R x.Keep_
 Bits_:zgq R x.Bits_
 Int_:z50 R x.Int_
theorem zmf {R:Nat→Nat→Prop} {cs:List AV} (h:OfTy R zd9 cs):∃ x:Xc,zd7 R x∧(c3 false) x=cs:=by
 obtain ⟨_,_,rfl,h0,h⟩:=h
 obtain ⟨_,_,rfl,h1,h⟩:=h
 obtain ⟨_,_,rfl,h2,h⟩:=h
 obtain ⟨_,_,rfl,h3,h⟩:=h
 obtain rfl:=h
 obtain ⟨x0,w0,rfl⟩:=zcz h0
 obtain ⟨x1,w1,rfl⟩:=y8u h1
 obtain ⟨x2,w2,rfl⟩:=zr6 h2
 obtain ⟨x3,w3,rfl⟩:=z5x h3
 exact ⟨⟨x0,x1,x2,x3⟩,⟨w0,w1,w2,w3⟩,rfl⟩
abbrev zc8:Ty:=.sl 5 32 zd9
def zc4 (R:Nat→Nat→Prop) (x:List Xc):Prop:=R x.length 32∧∀ y ∈ x,zd7 R y
theorem ziq {R:Nat→Nat→Prop} {cs:List AV} (h:OfTy R zc8 cs):∃ x:List Xc,zc4 R x∧[.im 5 (x.map (c3 false))]=cs:=by
 obtain ⟨xs,rfl,h1,h2⟩:=h
 obtain ⟨ys,h3,rfl⟩:=z48 (c:=(c3 false)) (fun _ h=>zmf h) h1
 exact ⟨ys,⟨by simpa using h2,h3⟩,rfl⟩
abbrev zd8:Ty:=.st (.cons z51 (.cons z51 (.cons z51 (.cons z51 (.cons z51 (.cons z51 (.cons zj3 (.nil))))))))
structure zd6 (R:Nat→Nat→Prop) (x:Xd):Prop where
 Op_:z50 R x.Op_
 D_:z50 R x.D_
 A_:z50 R x.A_
 B_:z50 R x.B_
 C_:z50 R x.C_
 N_:z50 R x.N_
 Bits_:zgq R x.Bits_
theorem zme {R:Nat→Nat→Prop} {cs:List AV} (h:OfTy R zd8 cs):∃ x:Xd,zd6 R x∧(c4 false) x=cs:=by
 obtain ⟨_,_,rfl,h0,h⟩:=h
 obtain ⟨_,_,rfl,h1,h⟩:=h
 obtain ⟨_,_,rfl,h2,h⟩:=h
 obtain ⟨_,_,rfl,h3,h⟩:=h
 obtain ⟨_,_,rfl,h4,h⟩:=h
 obtain ⟨_,_,rfl,h5,h⟩:=h
 obtain ⟨_,_,rfl,h6,h⟩:=h
 obtain rfl:=h
 obtain ⟨x0,w0,rfl⟩:=z5x h0
 obtain ⟨x1,w1,rfl⟩:=z5x h1
 obtain ⟨x2,w2,rfl⟩:=z5x h2
 obtain ⟨x3,w3,rfl⟩:=z5x h3
 obtain ⟨x4,w4,rfl⟩:=z5x h4
 obtain ⟨x5,w5,rfl⟩:=z5x h5
 obtain ⟨x6,w6,rfl⟩:=zr6 h6
 exact ⟨⟨x0,x1,x2,x3,x4,x5,x6⟩,⟨w0,w1,w2,w3,w4,w5,w6⟩,rfl⟩
abbrev zc7:Ty:=.sl 7 56 zd8
def zc3 (R:Nat→Nat→Prop) (x:List Xd):Prop:=R x.length 56∧∀ y ∈ x,zd6 R y
theorem zip {R:Nat→Nat→Prop} {cs:List AV} (h:OfTy R zc7 cs):∃ x:List Xd,zc3 R x∧[.im 7 (x.map (c4 false))]=cs:=by
 obtain ⟨xs,rfl,h1,h2⟩:=h
 obtain ⟨ys,h3,rfl⟩:=z48 (c:=(c4 false)) (fun _ h=>zme h) h1
 exact ⟨ys,⟨by simpa using h2,h3⟩,rfl⟩
abbrev y_T_api_Code:Ty:=.st (.cons zas (.cons zc9 (.cons zc8 (.cons zc7 (.nil)))))
structure z8m (R:Nat→Nat→Prop) (x:Xe):Prop where
 Sign_:zar R x.Sign_
 Regs_:zc5 R x.Regs_
 Slots_:zc4 R x.Slots_
 List_:zc3 R x.List_
theorem r_T_api_Code {R:Nat→Nat→Prop} {cs:List AV} (h:OfTy R y_T_api_Code cs):∃ x:Xe,z8m R x∧(c13 false) x=cs:=by
 obtain ⟨_,_,rfl,h0,h⟩:=h
 obtain ⟨_,_,rfl,h1,h⟩:=h
 obtain ⟨_,_,rfl,h2,h⟩:=h
 obtain ⟨_,_,rfl,h3,h⟩:=h
 obtain rfl:=h
 obtain ⟨x0,w0,rfl⟩:=zh7 h0
 obtain ⟨x1,w1,rfl⟩:=zir h1
 obtain ⟨x2,w2,rfl⟩:=ziq h2
 obtain ⟨x3,w3,rfl⟩:=zip h3
 exact ⟨⟨x0,x1,x2,x3⟩,⟨w0,w1,w2,w3⟩,rfl⟩
abbrev zx5:Ty:=.sl 1 4 zj3
def zx3 (R:Nat→Nat→Prop) (x:List Int):Prop:=R x.length 4∧∀ y ∈ x,zgq R y
theorem y8t {R:Nat→Nat→Prop} {cs:List AV} (h:OfTy R zx5 cs):∃ x:List Int,zx3 R x∧[.im 1 (x.map (c5 false))]=cs:=by
 obtain ⟨xs,rfl,h1,h2⟩:=h
 obtain ⟨ys,h3,rfl⟩:=z48 (c:=(c5 false)) (fun _ h=>zr6 h) h1
 exact ⟨ys,⟨by simpa using h2,h3⟩,rfl⟩
abbrev zhc:Ty:=.sl 1 24 zx5
def zhb (R:Nat→Nat→Prop) (x:List (List Int)):Prop:=R x.length 24∧∀ y ∈ x,zx3 R y
theorem zq4 {R:Nat→Nat→Prop} {cs:List AV} (h:OfTy R zhc cs):∃ x:List (List Int),zhb R x∧[.im 1 (x.map (c6 false))]=cs:=by
 obtain ⟨xs,rfl,h1,h2⟩:=h
 obtain ⟨ys,h3,rfl⟩:=z48 (c:=(c6 false)) (fun _ h=>y8t h) h1
 exact ⟨ys,⟨by simpa using h2,h3⟩,rfl⟩
abbrev z61:Ty:=.st (.cons zhc (.cons zhc (.nil)))
structure z60 (R:Nat→Nat→Prop) (x:Xf):Prop where
 Grads_:zhb R x.Grads_
 Params_:zhb R x.Params_
theorem zcb {R:Nat→Nat→Prop} {cs:List AV} (h:OfTy R z61 cs):∃ x:Xf,z60 R x∧(c7 false) x=cs:=by
 obtain ⟨_,_,rfl,h0,h⟩:=h
 obtain ⟨_,_,rfl,h1,h⟩:=h
 obtain rfl:=h
 obtain ⟨x0,w0,rfl⟩:=zq4 h0
 obtain ⟨x1,w1,rfl⟩:=zq4 h1
 exact ⟨⟨x0,x1⟩,⟨w0,w1⟩,rfl⟩
abbrev y_LT_latheref20_Step:Ty:=.sl 2 48 z61
def z5z (R:Nat→Nat→Prop) (x:List Xf):Prop:=R x.length 48∧∀ y ∈ x,z60 R y
theorem r_LT_latheref20_Step {R:Nat→Nat→Prop} {cs:List AV} (h:OfTy R y_LT_latheref20_Step cs):∃ x:List Xf,z5z R x∧[.im 2 (x.map (c7 false))]=cs:=by
 obtain ⟨xs,rfl,h1,h2⟩:=h
 obtain ⟨ys,h3,rfl⟩:=z48 (c:=(c7 false)) (fun _ h=>zcb h) h1
 exact ⟨ys,⟨by simpa using h2,h3⟩,rfl⟩
theorem y3c (c:Xe) (steps:List Xf) (hs:z7d c) (hu:U32s c):f121 (za0 c) (c,steps)=some true:=by
 have hn:100000<za0 c:=by unfold za0; omega
 have e:(⟨c.Sign_,c.Regs_,c.Slots_,c.List_⟩:Xe)=c:=rfl
 have hw:f126 (za0 c) ()=some true:=y3n (by omega)
 rw [y2i]
 dsimp only
 rw [y3l hs]
 simp only [Option.bind_some,e]
 rw [y2w hn hs hu,zna hn hu]
 simp only [Option.bind_some]
 by_cases h:(chk c).1=0
 ·obtain ⟨s1,s2⟩:=zws hs h
  have F:=y2s h
  rw [zsm h,h]
  have e1:f125 (za0 c) (fusC c)=some true:=by rw [zna hn (zqe hu),zgt h]; rfl
  obtain ⟨_,q1,q2,q3,q4,q5,rA,q6,q7⟩:=z85 h
  obtain ⟨_,p1,p2,p3,p4,p5,rB,p6,p7⟩:=z85 (zgt h)
  simp only [decide_eq_false_iff_not] at q1 q2 q3
  have gB:goR c (fzR c) 0 (z29 c) [] = .inr rB:=by rw [← zen c (fzR c)]; exact p6
  have eM:f131 (za0 c) (c,fusC c,steps,(c.Slots_.length:Int))=some true :=
   zya (c:=c) (A:=c.List_) (B:=fzR c) hn F (by omega) (by omega) (zjc c) h (zgt h) hu (zqe hu) q6 gB steps F.nslo
  have eA:=zii (d:=c) hn F.nreg (by omega) (z8b c _ _ _ _ _ q6)
  have eB:=zii (d:=fusC c) hn F.nreg (by show (fzR c).length≤_; omega) (z8b (fusC c) _ _ _ _ _ p6)
  have eS:z22 (fusC c).List_ (z29 (fusC c))=z22 c.List_ (z29 c):=by
   show z22 (fzR c) (z29 c)=_
   rw [← z4t,zjc,z4t]
  rw [eS] at eB
  simp only [y1y,Bool.not_true,cond_false,cond_true,e1,Option.bind_some,eM,eA,eB,hw]
  cases z22 c.List_ (z29 c) <;> rfl
 ·have h1:((chk c).1 != 0)=true:=by simpa using h
  have h2:((chk c).1==0)=false:=by simpa using h
  have hf:zdm c=(160,[],[],[],[]):=by unfold zdm; rw [h1]; rfl
  rw [h2,hf]
  simp only [Bool.not_false,cond_true,show ((160:Int) != 0)=true from rfl,Option.bind_some,hw]
theorem zx2 {R:Nat→Nat→Prop} {x:Int} (h:zgq R x):0≤x∧x<4294967296:=by
 have h:(Lit.int .u32 x).wf=true:=h
 simp [Lit.wf] at h
 have e1:IntKind.u32.min=0:=by decide
 have e2:IntKind.u32.max=4294967295:=by decide
 omega
theorem zmn {a:Xe} (h:z8m RSaid a):z7d a∧U32s a :=
 ⟨⟨Nat.le_trans h.Sign_.1 (by decide),Nat.le_trans h.Regs_.1 (by decide),Nat.le_trans h.Slots_.1 (by decide),Nat.le_trans h.List_.1 (by decide)⟩,(fun s hs=>zx2 (h.Slots_.2 s hs).Bits_),fun i hi=>zx2 (h.List_.2 i hi).Bits_⟩
theorem pureFuseMeans (a:Xe) (b:List Xf) (h:z8m RSaid a) (_:z5z RSaid b):∃ n,f121 n (a,b)=some true:=⟨_,y3c a b (zmn h).1 (zmn h).2⟩
end Loom
