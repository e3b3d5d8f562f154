/- Loom,an abstract machine over the kit's calculus: rows,z13,stores,calls,regions,what they owe;and its evaluator (part 3 of 4). -/
import Derived.Test.YtdnodicbedhdfaaGreatLoomB
import Derived.SizedLaws
import Derived.ChangeOld
import Derived.Carry
import Derived.WalkKit
import Derived.OpenShut
import Derived.Deep.CondSized
import Derived.Maps.Own
set_option linter.unusedVariables false
set_option linter.unusedSimpArgs false
set_option linter.unusedSectionVars false
open Bool (and_eq_true false_eq_true not_eq_true' or_eq_false_iff or_eq_true)
open List (all_cons all_eq_true any_cons append_nil cons_append contains_cons drop_drop drop_zero ext_getElem? getElem?_append_left getElem?_append_right getElem?_cons_zero getElem?_drop getElem?_eq_none getElem?_map getElem?_set getElem?_set_self length length_append length_cons length_map length_take map_append map_congr_left map_cons map_drop map_id map_map map_nil map_set map_take mem_append mem_cons mem_map mem_of_getElem? nil_append nodup_append nodup_cons nodup_nil replicate set_cons_succ set_cons_zero set_set take_length take_of_length_le take_zero)
open Nat (eq_of_beq_eq_true le_of_ble_eq_true zero_le)
open Option (bind_eq_some_iff getD_none getD_some map_eq_some_iff map_none map_some)
namespace Loom
open Go
def isRd:IK->Bool
 | .rd _=>true
 | _=>false
def y78 (e:Env)(h:H)(x:Ins)(av:AV):Prop:=(zx e x.guard=some false/\av=z4k x.op)\/(zx e x.guard=some true/\∃ b av',x.op = .rd b/\zi (ev e) (res h) b=some av'/\zb av' av)
def zig (dep:List Nat)(φ:AV->AV)(e:Env)(h:H):List (Ins×List Nat)->Nat->Prop
 | [],_=>True
 | (x,_)::l,i=>(dep.contains i=true\/y78 (λt=>φ (e t)) h x (φ (e x.dst)))/\zig dep φ e h l (i+1)
def zb4 (dep:List Nat):List (Ins×List Nat)->Nat->Bool
 | [],_=>true
 | (x,_)::l,i=>(dep.contains i||isRd x.op)&&zb4 dep l (i+1)
def zbe (P:Program)(hN:H)(K:Env->Prop):List (Ins×List Nat)->Env->Prop
 | [],e=>K e
 | (x,D)::l,e=>∃ av,DOk P e hN ⟨x,D,av,[]⟩/\zbe P hN K l (upd e x.dst av)
theorem zbe.run {P:Program}{hN:H}{K:Env->Prop}:∀ (l:List (Ins×List Nat)) (e:Env),zbe P hN K l e ->
  ∃ lp:List DOp,lp.map (λx=>(x.ins,x.dep))=l/\(∀ x∈lp,x.rows=[])/\(∀ (m:Nat) (x:DOp),lp[m]?=some x->DOk P (chE e (lp.take m)) hN x)/\K (chE e lp)
 | [],e,h=>⟨[],rfl,λx hx=>(by cases hx),λm x hx=>by simp at hx,h⟩
 | (x,D)::l,e,⟨av,h1,h2⟩=>by
  obtain ⟨lp,q1,q2,q3,q4⟩:=zbe.run l _ h2;refine ⟨⟨x,D,av,[]⟩::lp,by simp [q1],λy hy=>?_,λm y hy=>?_,q4⟩
  ·rcases mem_cons.1 hy with rfl | hy
   ·rfl
   ·exact q2 y hy
  ·cases m with
   | zero =>simp only [getElem?_cons_zero,Option.some.injEq] at hy;subst hy;exact h1
   | succ m=>exact q3 m y (by simpa using hy)
def KT (P:Program)(pro keep ds:List Nat)(Q:Out->Env->H->Prop)(pre0:List (Ins×List Nat))(xj:Ins)(dep:List Nat)(post:List (Ins×List Nat))(tail:List Ins)(h0:H)(e1:Env)(hA:H):Prop :=
 ∃ (φ:AV->AV) (av:AV) (hN:H),zjn ds h0 hA=true/\zu (hN.map Prod.fst)=true/\zik P pro xj e1 hA φ av hN/\zig dep φ e1 hN pre0 0/\zbe P hN (λe2=>RG P pro keep Q tail e2 hN) post (upd (λt=>φ (e1 t)) xj.dst av)
section
variable {P:Program}{pro keep:List Nat}{e e1:Env}{h h1:H}{Q:Out->Env->H->Prop}{pre0:List (Ins×List Nat)}{tail:List Ins}{xj:Ins}{dep:List Nat}
theorem zhj:∀ (l:List (Ins×List Nat)) (i:Nat),zb4 dep l i=true->∀ (n:Nat) (x:Ins×List Nat),l[n]?=some x->i+n∈dep\/isRd x.1.op=true
 | [],_,_,_,_,h=>by simp at h
 | y::l,i,h,0,x,hx=>by simp only [getElem?_cons_zero,Option.some.injEq] at hx;subst hx;simp only [zb4,and_eq_true,or_eq_true] at h;simpa using h.1
 | y::l,i,h,n+1,x,hx=>by
  simp only [zb4,and_eq_true] at h;have:=zhj l (i+1) h.2 n x (by simpa using hx)
  rwa [show i+1+n=i+(n+1) by omega] at this
theorem zh9 {φ:AV->AV}:∀ (l:List (Ins×List Nat)) (i:Nat),zig dep φ e h l i->∀ (n:Nat) (x:Ins×List Nat),l[n]?=some x->i+n∉dep->y78 (λt=>φ (e t)) h x.1 (φ (e x.1.dst))
 | [],_,_,_,_,h,_=>by simp at h
 | y::l,i,h,0,x,hx,hn=>by
  simp only [getElem?_cons_zero,Option.some.injEq] at hx;subst hx;rcases h.1 with h | h
  ·exact absurd (by simpa using h) hn
  ·exact h
 | y::l,i,h,n+1,x,hx,hn=>zh9 l (i+1) h.2 n x (by simpa using hx) (by rwa [show i+1+n=i+(n+1) by omega])
theorem zng {E0:Env}:∀ (l:List DOp) (i n:Nat) (x:DOp),(z42 l).Nodup->l[n]?=some x->EX i l (λ_=>true) E0 x.ins.dst=x.av
 | [],_,_,_,_,h=>by simp at h
 | y::l,i,0,x,_,h=>by simp only [getElem?_cons_zero,Option.some.injEq] at h;subst h;simp [EX,upd]
 | y::l,i,n+1,x,hn,h=>by
  simp only [z42,map_cons,nodup_cons] at hn;have hx:l[n]?=some x:=by simpa using h
  have hne:x.ins.dst≠y.ins.dst:=λe=>hn.1 (by rw [<- e];exact mem_map.2 ⟨x,mem_of_getElem? hx,rfl⟩);simp only [EX,if_true,upd,if_neg hne];exact zng l (i+1) n x hn.2 hx
theorem zlb {E0:Env}{X:Nat->Bool}{s:Nat}:∀ (l:List DOp) (i:Nat),(∀ n x,l[n]?=some x->X (i+n)=false->x.ins.dst≠s)->EX i l X E0 s=EX i l (λ_=>true) E0 s
 | [],_,_=>rfl
 | x::l,i,h=>by
  have ih:=zlb (E0:=E0) l (i+1) (λn y hy hX=>h (n+1) y (by simpa using hy) (by rwa [show i+(n+1)=i+1+n by omega]));simp only [EX,if_true];cases hX:X i with
  | true=>simp only [if_true,upd];rw [ih]
  | false =>have:=h 0 x rfl (by simpa using hX);simp only [false_eq_true,if_false,upd,if_neg (Ne.symm this)];exact ih
theorem W.turn (post:List (Ins×List Nat))(ds:List Nat)(hds:(pre0++(xj,dep)::post).map (·.1.dst)=ds)(ck:(zu ds&&zb2 ds 0 (pre0++(xj,dep)::post)&&pro.all (λk=>!ds.contains k)&&pre0.all (λx=>!z3w x.1.op)&&zb4 dep pre0 0&&!dep.contains pre0.length&&dep.all (λi=>decide (i<pre0.length))&&pre0.all (λx=>!x.2.contains pre0.length)&&post.all (λy=>isRd y.1.op&&y.2.contains pre0.length))=true)
  (hw:WD P pre0 0 (zci ds e) [] (z1r h ds) (KT P pro keep ds Q pre0 xj dep post tail (z1r h ds))):W P pro (.draw keep (pre0++(xj,dep)::post) tail) Q e h:=by
 subst hds;simp only [and_eq_true] at ck;obtain ⟨⟨⟨⟨⟨⟨⟨⟨k1,k2⟩,k3⟩,k4⟩,k5⟩,k6⟩,k7⟩,k8⟩,k9⟩:=ck;have hnd:=z11 _ k1;rw [map_append] at hnd;have huse:=zhi _ 0 k2;have hnd0:(pre0.map (·.1.dst)).Nodup:=(nodup_append.1 hnd).1
 obtain ⟨l,q1,q2,q3,φ,av,hN,q4,q5,q6,q7,q8⟩:=WD.sound (E0:=zci ((pre0++(xj,dep)::post).map (·.1.dst)) e) pre0 [] hw (by simpa using hnd0) (λj x hx i hi=>by have:=huse j x (by rw [getElem?_append_left (List.getElem?_eq_some_iff.1 hx).1];exact hx);simp only [Nat.zero_add,zn9,and_eq_true,all_eq_true,decide_eq_true_eq] at this;have:=this.1 i hi;simpa using this)
 simp only [nil_append,List.length_nil,Nat.zero_add] at q2 q3 q4 q6 q7 q8;obtain ⟨lp,p1,p2,p3,e',h',r1,r2⟩:=zbe.run _ _ q8
 let lpd:List DOp:=post.map (λx=>⟨x.1,x.2,.un,[]⟩)
 have p9:∀ x∈post,isRd x.1.op=true/\x.2.contains pre0.length=true:=λx hx=>by have:=all_eq_true.1 k9 x hx;simpa only [and_eq_true] using this
 have hl:l.length=pre0.length:=by rw [<- q1];simp
 have hdl:(z42 l).Nodup:=by
  have:z42 l=pre0.map (·.1.dst):=by rw [<- q1];simp [z42]
  rw [this];exact hnd0
 let E0:=zci ((pre0++(xj,dep)::post).map (·.1.dst)) e
 let eA:=EX 0 l (λ_=>true) E0
 let lj:DOp:=⟨xj,dep,.un,[]⟩
 let l':List DOp:=l.map (λx=>⟨x.ins,x.dep,φ x.av,[]⟩)
 let lj':DOp:=⟨xj,dep,av,[]⟩
 let E0':Env:=λt=>φ (E0 t)
 have hlpd:∀ x∈lpd,l.length∈x.dep/\x.rows=[]:=λx hx=>by obtain ⟨z,hz,rfl⟩:=mem_map.1 hx;have:=(p9 z hz).2;rw [<- hl] at this;exact ⟨by simpa using this,rfl⟩
 have hgl:∀ (i:Nat) (x:DOp),i≠l.length->(l++lj::lpd)[i]?=some x->l[i]?=some x\/x∈lpd:=λi x hi hx=>by
  rcases Nat.lt_or_ge i l.length with h | h
  ·rw [getElem?_append_left h] at hx;exact .inl hx
  ·rw [getElem?_append_right h,show i - l.length=(i - l.length - 1)+1 by omega,List.getElem?_cons_succ] at hx;exact .inr (mem_of_getElem? hx)
 have hl'l:l'.length=l.length:=by simp [l']
 have hgl':∀ (i:Nat) (x:DOp),i≠l.length->(l'++lj'::lp)[i]?=some x->(∃ y,l[i]?=some y/\x=⟨y.ins,y.dep,φ y.av,[]⟩)\/∃ m,i=l.length+1+m/\lp[m]?=some x:=λi x hi hx=>by
  rcases Nat.lt_or_ge i l.length with h | h
  ·rw [getElem?_append_left (by rw [hl'l];exact h)] at hx;simp only [l',getElem?_map] at hx;obtain ⟨y,hy,rfl⟩:=map_eq_some_iff.1 hx;exact .inl ⟨y,hy,rfl⟩
  ·rw [getElem?_append_right (by rw [hl'l];exact h),hl'l,show i - l.length=(i - l.length - 1)+1 by omega,List.getElem?_cons_succ] at hx;exact .inr ⟨i - l.length - 1,by omega,hx⟩
 have hp0:∀ (i:Nat) (x:DOp),l[i]?=some x->pre0[i]?=some (x.ins,x.dep):=λi x hx=>by rw [<- q1];simp [hx]
 have hEXapp:∀ (l1 l2:List DOp) (i:Nat) (X:Nat->Bool) (E:Env),EX i (l1++l2) X E=EX i l1 X (EX (i+l1.length) l2 X E):=by
  intro l1
  induction l1 with | nil=>intro l2 i X E;simp [EX] | cons y l1 ih=>intro l2 i X E;simp only [cons_append,EX,ih,length_cons];rw [show i+1+l1.length=i+(l1.length+1) by omega]
 have hHXapp:∀ (l1 l2:List DOp) (i:Nat) (X:Nat->Bool),HX i (l1++l2) X=HX i l1 X++HX (i+l1.length) l2 X:=by
  intro l1
  induction l1 with
  | nil=>intro l2 i X;simp [HX]
  | cons y l1 ih =>intro l2 i X;simp only [cons_append,HX,ih,length_cons];rw [show i+1+l1.length=i+(l1.length+1) by omega];split<;>simp
 have hnone:∀ (l2:List DOp) (i:Nat) (X:Nat->Bool) (E:Env),(∀ n,i<=n->X n=false)->EX i l2 X E=E:=by
  intro l2
  induction l2 with
  | nil=>intro i X E _;rfl
  | cons y l2 ih=>intro i X E hX;simp only [EX,hX i (Nat.le_refl _),false_eq_true,if_false];exact ih (i+1) X E λn hn=>hX n (by omega)
 have hrs:∀ x∈lj::lpd,x.rows=[]:=λx hx=>by
  rcases mem_cons.1 hx with rfl | hx
  ·rfl
  ·exact (hlpd x hx).2
 have hrs':∀ x∈l'++lj'::lp,x.rows=[]:=λx hx=>by
  rcases mem_append.1 hx with hx | hx
  ·obtain ⟨z',_,rfl⟩:=mem_map.1 hx;rfl
  ·rcases mem_cons.1 hx with rfl | hx
   ·rfl
   ·exact p2 x hx
 have hrows:∀ (i:Nat) (x:DOp),l[i]?=some x->x.rows≠[]->i∈dep:=λi x hx hr=>by
  rcases zhj pre0 0 k5 i _ (hp0 i x hx) with h | h
  ·simpa using h
  ·exfalso;have:=q2 i x hx;cases this with
   | skip _ _ h2=>exact hr h2
   | rd _ _ _ _ h2=>exact hr h2
   | mk _ _ h2 _ _=>simp only at h;rw [h2] at h;cases h
   | call _ h2 =>simp only at h;generalize x.ins.op=op at h2 h;cases h2<;>cases h
 have hH:HX 0 l (λk=>dep.contains k)=HX 0 l (λ_=>true):=zki l 0 _ _ (λn y hy hr=>by simpa using hrows n y hy hr);have hjj:l.length∉dep:=by rw [hl];simpa using k6
 have hd':z42 (l'++lj'::lp)=(pre0++(xj,dep)::post).map (·.1.dst):=by rw [<- q1,<- p1];simp [z42,l',lj',Function.comp_def]
 have hnd':(z42 (l'++lj'::lp)).Nodup:=by rw [hd'];exact z11 _ k1
 have hcut:chE E0' (l'++[lj'])=upd (λt=>φ (eA t)) xj.dst av:=by
  rw [z9o];congr 1;have hfr:=zaj (E0:=E0') l' (lj'::lp) hnd';rw [<- hfr,hEXapp,hnone (lj'::lp) (0+l'.length) _ E0' (λn hn=>by simp;omega)];funext t;rw [(za9 (E0:=E0') l' 0 (λi=>decide (i<l'.length)) (λ_=>true) (λn _ hn=>by simp;omega)).1]
  exact zii (φ:=φ) (E0:=E0) (λ_=>rfl) l l' 0 (by simp [l']) (λn z z' hz hz' _=>by simp only [l',getElem?_map,hz,map_some,Option.some.injEq] at hz';subst hz';exact ⟨rfl,rfl⟩) t
 have hch:∀ (a b:List DOp) (E:Env),chE E (a++b)=chE (chE E a) b:=by
  intro a
  induction a with | nil=>intro b E;rfl | cons y a ih=>intro b E;simp only [cons_append,chE,ih]
 refine ⟨.normal,z6s keep e',h',.turn ⟨l++lj::lpd,l'++lj'::lp,l.length,lj,lj',φ,E0',hN,?_,?_,?_,z11 _ q5,by simp,by simp [hl'l],?_,?_,?_,?_,hrs',λ_=>rfl,?_,?_,?_⟩ (λk hk=>?_),r2⟩
 ·rw [map_append,q1];simp [lj,lpd,Function.comp_def]
 ·rw [hHXapp,z5f _ _ _ hrs,append_nil];exact z11 _ q3
 ·have:l'.map (λx=>(x.ins,x.dep))=l.map (λx=>(x.ins,x.dep)):=by simp [l']
  rw [map_append,this,q1,map_cons,p1]
 ·intro i x hi hjd hx;rcases hgl i x hi hx with hx' | hx'
  ·have hil:=(List.getElem?_eq_some_iff.1 hx').1;refine ⟨?_,?_⟩
   ·rw [hEXapp,hnone (lj::lpd) (0+l.length) _ _ (λn hn=>by simp;omega),hHXapp,z5f _ _ _ hrs,append_nil];exact q2 i x hx'
   ·have:=all_eq_true.1 k4 _ (mem_of_getElem? (hp0 i x hx'));simpa using this
  ·exact absurd (hlpd x hx').1 hjd
 ·intro i x hi hid hx;rcases hgl' i x hi hx with ⟨y,hy,rfl⟩ | ⟨m,rfl,hm⟩
  ·have hil:=(List.getElem?_eq_some_iff.1 hy).1;have hst:=all_eq_true.1 k4 _ (mem_of_getElem? (hp0 i y hy));refine ⟨?_,by simpa using hst⟩;have hag:=zh9 pre0 0 q7 i _ (hp0 i y hy) (by simpa using hid);simp only at hag;rw [z5f _ _ _ hrs',nil_append];have hav:eA y.ins.dst=y.av:=zng l 0 i y hdl hy
   have hsl:∀ s∈z3r y.ins,EX 0 (l'++lj'::lp) (λk=>decide (k<i)) E0' s=φ (eA s):=λs hs=>by
    rw [hEXapp,hnone (lj'::lp) (0+l'.length) _ E0' (λn hn=>by simp;omega),zii (φ:=φ) (E0:=E0) (λ_=>rfl) l l' 0 (by simp [l']) (λn z z' hz hz' _=>by simp only [l',getElem?_map,hz,map_some,Option.some.injEq] at hz';subst hz';exact ⟨rfl,rfl⟩) s]
    congr 1;refine zlb l 0 (λn z hz hX=>?_);rintro rfl;have hu:=huse i (y.ins,y.dep) (by rw [getElem?_append_left (by omega)];exact hp0 i y hy);simp only [Nat.zero_add,zn9,and_eq_true,all_eq_true,decide_eq_true_eq,or_eq_true,not_eq_true'] at hu;have h3:=hu.2 _ hs;have hzp:=hp0 n z hz;rcases h3 with h3 | h3
    ·have:((pre0++(xj,dep)::post).map (·.1.dst)).contains z.ins.dst=true:=by simp only [List.contains_eq_mem,decide_eq_true_eq];exact mem_map.2 ⟨(z.ins,z.dep),List.mem_append_left _ (mem_of_getElem? hzp),rfl⟩
     rw [this] at h3;cases h3
    ·simp only [List.any_eq_true,beq_iff_eq] at h3;obtain ⟨m,hm,hms⟩:=h3;have hmi:=hu.1 m hm
     have hnm:n=m:=by
      have e1:((pre0++(xj,dep)::post).map (·.1.dst))[n]?=some z.ins.dst:=by rw [getElem?_map,getElem?_append_left (by have:=(List.getElem?_eq_some_iff.1 hzp).1;omega),hzp];rfl
      exact (List.getElem?_inj (List.getElem?_eq_some_iff.1 e1).1 (z11 _ k1)).1 (by rw [e1,hms])
     simp only [Nat.zero_add,decide_eq_false_iff_not] at hX;omega
   have hw:zx (EX 0 (l'++lj'::lp) (λk=>decide (k<i)) E0') y.ins.guard=zx (λt=>φ (eA t)) y.ins.guard:=by
    cases hg:y.ins.guard with
    | none=>rfl
    | some sw =>obtain ⟨s,want⟩:=sw;simp only [zx];rw [hsl s (by simp [z3r,hg])]
   rcases hag with ⟨g1,g2⟩ | ⟨g1,b,av',g2,g3,g4⟩
   ·exact .skip (by rw [hw];exact g1) (by rw [<- hav];exact g2) rfl
   ·refine .rd (b:=b) (av:=av') (by rw [hw];exact g1) g2 ?_ (by rw [<- hav];exact g4) rfl;rw [<- g3]
    exact z57 b (λo ho=>by
     cases o with
     | tmp t=>exact hsl t (List.mem_append_right _ (zc8 (by rw [g2];exact ho)))
     | _=>rfl)
  ·have hml:=(List.getElem?_eq_some_iff.1 hm).1;refine ⟨?_,?_⟩
   ·rw [z5f _ _ _ hrs',nil_append]
    have e1:l'++lj'::lp=((l'++[lj'])++lp.take m)++lp.drop m:=by rw [List.append_assoc,List.take_append_drop];simp
    have e2:((l'++[lj'])++lp.take m).length=l.length+1+m:=by simp [hl'l];omega
    have:=zaj (E0:=E0') ((l'++[lj'])++lp.take m) (lp.drop m) (by rw [<- e1];exact hnd');rw [e2] at this;rw [e1,this,hch,hcut];exact p3 m x hm
   ·have hx':(x.ins,x.dep)∈post:=by rw [<- p1];exact mem_map.2 ⟨x,mem_of_getElem? hm,rfl⟩
    have:=(p9 _ hx').1;simp only at this;cases hop:x.ins.op<;>rw [hop] at this<;>first | rfl | (simp [isRd] at this)
 ·intro i x x' hi hjd hx hx';rcases hgl i x hi hx with h1 | h1
  ·rcases hgl' i x' hi hx' with ⟨y,hy,rfl⟩ | ⟨m,rfl,hm⟩
   ·rw [h1] at hy;cases hy;rfl
   ·have:=(List.getElem?_eq_some_iff.1 h1).1;omega
  ·exact absurd (hlpd x h1).1 hjd
 ·intro i x hx hr;by_cases hi:i=l.length
  ·subst hi;simp only [getElem?_append_right (Nat.le_refl _),Nat.sub_self,getElem?_cons_zero,Option.some.injEq] at hx;subst hx;exact absurd rfl hr
  ·rcases hgl i x hi hx with h1 | h1
   ·exact .inl (hrows i x h1 hr)
   ·exact absurd (hlpd x h1).2 hr
 ·have h1:EX 0 (l++lj::lpd) (λk=>decide (k<l.length)) E0=eA:=by rw [hEXapp,hnone (lj::lpd) (0+l.length) _ _ (λn hn=>by simp;omega)];exact (za9 l 0 _ _ (λn _ hn=>by simp;omega)).1
  have h2:HX 0 (l++lj::lpd) (λk=>dep.contains k)=HX 0 l (λ_=>true):=by rw [hHXapp,hH,z5f _ _ _ hrs,append_nil]
  rw [h1,h2];exact q6
 ·intro k hk;obtain ⟨x,hx,hkx⟩:=List.mem_flatMap.1 hk;rcases mem_append.1 hx with hx | hx
  ·obtain ⟨z,hz,rfl⟩:=mem_map.1 hkx;obtain ⟨j,hj⟩:=List.getElem?_of_mem hx;have hz2:z∈HX 0 l (λ_=>true):=(z7i l 0 _).2 ⟨j,x,hj,rfl,hz⟩;have:=all_eq_true.1 q4 z.1 (mem_map.2 ⟨z,List.mem_append_left _ hz2,rfl⟩);rw [or_eq_true] at this;rcases this with h | h
   ·simpa using h
   ·exfalso;have hnd2:=z11 _ q3;rw [map_append,nodup_append] at hnd2;exact hnd2.2.2 z.1 (mem_map.2 ⟨z,hz2,rfl⟩) z.1 (by simpa using h) rfl
  ·rw [hrs x hx] at hkx;cases hkx
 ·have h1:EX 0 (l'++lj'::lp) (λ_=>true) E0'=chE (upd (λt=>φ (eA t)) xj.dst av) lp:=by
   have:=zaj (E0:=E0') (l'++lj'::lp) [] (by simpa using hnd');rw [append_nil] at this;rw [(za9 (E0:=E0') (l'++lj'::lp) 0 (λ_=>true) (λi=>decide (i<(l'++lj'::lp).length)) (λn _ hn=>by rw [Nat.zero_add] at hn;simp only [decide_eq_true hn])).1,this];have e1:l'++lj'::lp=(l'++[lj'])++lp:=by simp
   rw [e1,hch,hcut]
  rw [h1,z5f _ _ _ hrs',nil_append];exact r1
 ·have:=all_eq_true.1 k3 k hk;simpa using this
theorem zkd {f g:Operand->AV}{hp:H}{n:Nat}{a x:Operand}(h1:f a=g a)(h2:f x=g x):z9k f hp n a x=z9k g hp n a x:=by simp only [z9k,h1,h2]
theorem zvl {f g:Operand->AV}{hp:H}{d s bytes:Nat}{x y:Operand}(h1:f x=g x)(h2:f y=g y):zc9 f hp d s bytes x y=zc9 g hp d s bytes x y:=by simp only [zc9,h1,h2]
theorem z3y {x:Ins}{e EA:Env}(he:∀ s∈z3r x,e s=EA s){o:Operand}(ho:o∈z5x x.op):ev e o=ev EA o:=by cases o with | tmp t=>exact he t (List.mem_append_right _ (zc8 ho)) | _=>rfl
theorem zez {x:Ins}{e EA:Env}(he:∀ s∈z3r x,e s=EA s):zx e x.guard=zx EA x.guard:=by
 cases hg:x.guard with
 | none=>rfl
 | some sw =>obtain ⟨s,want⟩:=sw;simp only [zx];rw [he s (by simp [z3r,hg])]
theorem zcj:∀ (p:Path) (s:Nat) (xs:Els) (q:Path) (s':Nat) (ys:Els),zp s xs p=some (s',ys)->zp s xs (p++q)=zp s' ys q
 | [],s,xs,q,s',ys,h=>by simp only [zp,Option.some.injEq,Prod.mk.injEq] at h;obtain ⟨rfl,rfl⟩:=h;rfl
 | (i,c)::p,s,xs,q,s',ys,h=>by
  simp only [zp,cons_append] at h ⊢;split at h
  ·cases h
  ·rename_i x hx;split at h
   ·rename_i s2 zs hz;exact zcj p s2 zs q s' ys h
   ·cases h
end
section
variable {P:Program}{I:Nat->Prop}{N:Nat}[Dfs N]{σ σ':Pl}{w w':World}{h h' h1:H}{e e' e1:Env}{a a':Act}{pro:List Nat}
theorem zk.place_nodup {k:Nat}{r:Row}{p:Path}{s:Nat}{ys:Els}(hh:zk I σ h w)(hg:z6 h k=some r)(hres:zp r.s r.xs p=some (s,ys)):(fpP σ k p ys).Nodup:=by
 obtain ⟨d1,d2,d3,d4,d5,d6⟩:=hh.del hg;by_cases hp0:p=[]
 ·subst hp0;simp only [zp,Option.some.injEq,Prod.mk.injEq] at hres;obtain ⟨rfl,rfl⟩:=hres;exact d4
 ·unfold zy at d2;unfold fpR at d4;cases hs:σ k [] with
  | none =>simp only [hs] at d2;rw [d2.1] at hres;cases p with | nil=>exact absurd rfl hp0 | cons q p=>obtain ⟨i',c'⟩:=q;simp [zp] at hres
  | some L0 =>simp only [hs] at d2 d4;obtain ⟨_,_,cur,E,_,_,f5⟩:=d2;have:=(z5e p [] (esz r.s) r.xs _ s ys f5 hp0 ((z3z hp0).symm.trans hres)).2;rw [nil_append] at this;exact this.nodup (nodup_cons.1 d4).2
theorem zk.cellAt {k i c:Nat}{r:Row}{p:Path}{s:Nat}{ys:Els}{x:List AV}{y y':AV}(hh:zk I σ h w)(hg:z6 h k=some r)(hr:zp r.s r.xs p=some (s,ys))(hx:ys[i]?=some x)(hy:x[c]?=some y)
  (hσ:∀ k' q,¬ (k'=k/\∃ q',q=p++(i,c)::q')->σ' k' q=σ k' q) (hC:∀ v,Ce I σ (bl w) k p i c y v->Ce I σ' (bl w) k p i c y' v) (hfp:fpA σ' k p i c y'=[]) :
  zk I σ' ((k,⟨r.s,z1l r.xs p (λys=>ys.set i (x.set c y'))⟩)::zc h k) w/\(∀ b∈fpH σ' ((k,⟨r.s,z1l r.xs p (λys=>ys.set i (x.set c y'))⟩)::zc h k),b∈fpH σ h) /\
   (∀ b∈fpA σ k p i c y,b∈fpH σ h/\b∉fpH σ' ((k,⟨r.s,z1l r.xs p (λys=>ys.set i (x.set c y'))⟩)::zc h k))/\(fpA σ k p i c y).Nodup/\∃ v,Ce I σ (bl w) k p i c y v:=by
 obtain ⟨d1,d2,d3,d4,d5,d6⟩:=hh.del hg;obtain ⟨hp,hpf⟩:=hh.placeA (k:=k) (p:=p) (s:=s) (ys:=ys) (by unfold z1j;rw [hg];exact hr);have hpnd:=hh.place_nodup hg hr
 have hne:∀ q',p≠p++(i,c)::q':=λq' e=>by have:=congrArg length e;simp at this
 have hσp:σ' k p=σ k p:=hσ k p (λ⟨_,q',e⟩=>hne q' e);unfold z39 at hp;unfold fpP at hpf hpnd;cases hL:σ k p with
 | none =>simp only [hL] at hp;rw [hp.1] at hx;simp at hx
 | some L =>
  simp only [hL] at hp hpf hpnd;obtain ⟨f1,f2,cur,E,f3,f4,f5⟩:=hp;obtain ⟨hxl,hCx⟩:=CeE.get ys 0 _ f5 i x hx;simp only [Nat.zero_add] at hCx;obtain ⟨v,hv,hCe⟩:=CeC.get x 0 _ hCx c y hy;simp only [Nat.zero_add] at hCe
  have hC1:=CeC.setAt (σ':=σ') (B':=bl w) x 0 c _ y y' v hCx hy (by simpa using hC v hCe) (λc' a'' v' hne2 _ hce=>Ce.ren (λq=>hσ k _ (λ⟨_,q',hq⟩=>by have:=List.append_cancel_left hq;simp only [List.cons.injEq,Prod.mk.injEq] at this;exact hne2 (by omega))) a'' v' hce)
  rw [zqg hv] at hC1;have hnl:((cur.toList.drop (i * esz s)).take (esz s)).length=esz s:=by rw [CeC.length x 0 _ hCx,hxl]
  have hE1:=CeE.setAt (σ':=σ') (B':=bl w) ys 0 i _ x (x.set c y') _ f5 hx (by simp [hxl]) hnl (by simpa using hC1) (λi' c' a'' v' hne2 _ hce=>Ce.ren (λq=>hσ k _ (λ⟨_,q',hq⟩=>by have:=List.append_cancel_left hq;simp only [List.cons.injEq,Prod.mk.injEq] at this;exact hne2 (by omega))) a'' v' hce)
  rw [zid] at hE1;obtain ⟨m1,m2,hm,hm'⟩:=z6b (σ:=σ) (k:=k) (p:=p) ys 0 i x hx;obtain ⟨n1,n2,hn,hn'⟩:=z8e (σ:=σ) (k:=k) (p:=p) (i:=i) x 0 c y hy;simp only [Nat.zero_add] at hm hn hm' hn'
  have e1:=hm' σ' (x.set c y') (λi' c' a'' hne2=>fpA.ren (λq=>hσ k _ (λ⟨_,q',hq⟩=>by have:=List.append_cancel_left hq;simp only [List.cons.injEq,Prod.mk.injEq] at this;exact hne2 (by omega))) a'')
  have e2:=hn' σ' y' (λc' a'' hne2=>fpA.ren (λq=>hσ k _ (λ⟨_,q',hq⟩=>by have:=List.append_cancel_left hq;simp only [List.cons.injEq,Prod.mk.injEq] at this;exact hne2 (by omega))) a'')
  rw [hfp] at e2;rw [e2] at e1
  have hfP:fpP σ k p ys=L.b::(m1++(n1++fpA σ k p i c y++n2)++m2):=by unfold fpP;rw [hL];simp only;rw [hm,hn]
  have hfP':fpP σ' k p (ys.set i (x.set c y'))=L.b::(m1++(n1++[]++n2)++m2):=by unfold fpP;rw [hσp,hL];simp only;rw [e1]
  have hpnd2:(L.b::(m1++(n1++fpA σ k p i c y++n2)++m2)).Nodup:=by rw [<- hn,<- hm];exact hpnd
  have hsub:(L.b::(m1++(n1++[]++n2)++m2)).Sublist (L.b::(m1++(n1++fpA σ k p i c y++n2)++m2)):=by refine List.Sublist.cons_cons _ (List.Sublist.append (List.Sublist.append (List.Sublist.refl _) (List.Sublist.append (List.Sublist.append (List.Sublist.refl _) (List.nil_sublist _)) (List.Sublist.refl _))) (List.Sublist.refl _))
  obtain ⟨u1,u2,l1,l2,k2,k3⟩:=hh.updPlace (σ':=σ') (w':=w) (h1:=zc h k) hg hr (λys=>ys.set i (x.set c y')) (by simp) d1 d3 (λb hb=>hb) (Nat.le_refl _)
   (by unfold z39;rw [hσp,hL];exact ⟨f1,by simpa using f2,cur,E,f3,by rw [z76 (ys:=ys) (by simp)];exact f4,hE1⟩) hσp (λk' q hn=>hσ k' q (λ⟨e1,q',e2⟩=>hn ⟨e1,_,List.cons_ne_nil _ _,e2⟩)) (λ_ _ _=>rfl) (by rw [hfP'];exact hsub.nodup hpnd2) (λb hb=>.inl (by rw [hfP];rw [hfP'] at hb;exact hsub.subset hb))
  refine ⟨u1,u2,λb hb=>⟨hpf b (by rw [hm,hn];simp [hb]),λhm2=>?_⟩,?_,v,hCe⟩
  ·rw [z1o,k3,hfP',fpH.ren _ (λk' hk' q=>hσ k' q (λ⟨e,_⟩=>by subst e;exact d3 hk'))] at hm2;rw [k2,hfP] at d4 d5;rcases mem_append.1 hm2 with hm2 | hm2
   ·have hA:b∈L.b::(m1++(n1++fpA σ k p i c y++n2)++m2):=by simp [hb]
    rw [nodup_append,nodup_append] at d4;rcases mem_append.1 hm2 with hm2 | hm2
    ·rcases mem_append.1 hm2 with hm2 | hm2
     ·exact d4.1.2.2 b hm2 b hA rfl
     ·simp only [append_nil,nodup_cons,mem_append,nodup_append,not_or] at hpnd2 hm2;simp only [mem_cons,mem_append] at hm2;obtain ⟨⟨⟨p1,⟨p2a,p2b⟩,p2c⟩,p3⟩,⟨q1,⟨⟨⟨q2,q3,q4⟩,q5,q6⟩,q7⟩⟩,q8,q9⟩:=hpnd2;rcases hm2 with hm2 | (hm2 | hm2 | hm2) | hm2
      ·subst hm2;exact p2b hb
      ·exact q7 b hm2 b (.inl (.inr hb)) rfl
      ·exact q4 b hm2 b hb rfl
      ·exact q6 b (.inr hb) b hm2 rfl
      ·exact q9 b (.inr (.inl (.inr hb))) b hm2 rfl
    ·exact d4.2.2 b (List.mem_append_right _ hA) b hm2 rfl
   ·exact (d5 b (by simp [hb])).1 hm2
  ·simp only [nodup_cons,nodup_append] at hpnd2;exact hpnd2.2.1.2.1.1.2.1
theorem z9.detachAt {t k i c s s0:Nat}(j:Nat){r:Row}{p:Path}{ys:Els}{x:List AV}{xs:Els}(ht:e t = .sl k (p++[(i,c)]) 0 xs.length)(hg:z6 h k=some r)(hr:zp r.s r.xs p=some (s0,ys))(hx:ys[i]?=some x)(hy:x[c]?=some (.ow s xs))(hj:(h.map Prod.fst).contains j=false)(hp:pro.all (λk=>k != j)=true) :
  z9 P pro e h (upd (z1e (λk' q=>k'==j||under k p c 1 k' q) e) t (.sl j [] 0 xs.length)) ((j,⟨s,xs⟩)::(k,⟨r.s,z1l r.xs p (λys=>ys.set i (x.set c .un))⟩)::zc h k):=by
 intro I N _ σ a w R
 have hj':j∉h.map Prod.fst:=λhm=>by
  have:(h.map Prod.fst).contains j=true:=by simpa using hm
  rw [this] at hj;cases hj
 obtain ⟨c1,c2,c3,c4,v,c5⟩:=R.heap.cellAt (σ':=σ) (y':=.un) hg hr hx hy (λ_ _ _=>rfl) (λv hv=>by
   simp only [Ce] at hv ⊢;split at hv
   ·obtain ⟨_,_,a,rfl⟩:=hv;rfl
   ·obtain ⟨_,_,rfl,_⟩:=hv;unfold hdr;split<;>rfl) rfl
 let σ1:Pl:=λk' q=>if k'=j then σ k (p++(i,c)::q) else σ k' q
 have hne:∀ k',k'≠j->∀ q,σ1 k' q=σ k' q:=λk' hk q=>if_neg hk
 have hkey:j∉(((k,⟨r.s,z1l r.xs p (λys=>ys.set i (x.set c .un))⟩)::zc h k:H)).map Prod.fst:=by simp only [map_cons,mem_cons,not_or];refine ⟨λe=>hj' ?_,λhm=>hj' ((z4d R.heap k).2.2.2 j hm)⟩;rw [e];exact ((z3x hg).map Prod.fst).mem_iff.2 (by simp)
 have hrow:zy I σ1 (bl w) j ⟨s,xs⟩/\fpR σ1 j ⟨s,xs⟩=fpA σ k p i c (.ow s xs):=by
  unfold zy fpR;simp only [fpA];have h0:σ1 j []=σ k (p++[(i,c)]):=if_pos rfl;rw [h0];simp only [Ce] at c5;cases hs:σ k (p++[(i,c)]) with
  | none=>simp only [hs] at c5 ⊢;exact ⟨⟨c5.1,c5.2.1⟩,trivial⟩
  | some L =>
   simp only [hs] at c5 ⊢;obtain ⟨g1,g2,g3,cur,E,g4,g5,g6⟩:=c5
   have hq:∀ i' c' q,σ1 j ([]++(i',c')::q)=σ k ((p++[(i,c)])++(i',c')::q):=λi' c' q=>by show σ1 j ((i',c')::q)=_;simp [σ1]
   exact ⟨⟨g1,g2,cur,E,g4,g5,CeE.ren (k:=k) (p:=p++[(i,c)]) (p':=[]) 0 (esz s) hq xs _ g6⟩,by rw [fpE.ren (k:=k) (p:=p++[(i,c)]) (p':=[]) 0 hq xs]⟩
 have hadd:=c1.add (σ':=σ1) (w':=w) (k:=j) (r:=⟨s,xs⟩) hkey hne (λ_ _ _=>rfl) (Nat.le_refl _) hrow.1 (by rw [hrow.2];exact c4) (λb hb=>by rw [hrow.2] at hb;exact ⟨(c3 b hb).2,R.heap.apart b (c3 b hb).1⟩)
 refine ⟨σ1,I,λ_ h=>h,λ_ h=>.inl h,⟨hadd,R.size,λt'=>?_,R.defers⟩,λk' hk'=>?_,Le.refl _,λ_ _ _=>rfl,λb hb=>.inl ?_⟩
 ·unfold upd;split
  ·rename_i htt;subst htt;have hv:=R.vals t';rw [ht] at hv;have h0:σ1 j []=σ k (p++[(i,c)]):=if_pos rfl;simp only [Va,h0] at hv ⊢;exact hv
  ·exact Va.kill (λk' q hb=>hne k' (λe=>by rw [e] at hb;simp at hb) q) _ _ (R.vals t')
 ·have:=all_eq_true.1 hp k' hk';exact hne k' (by simpa using this) []
 ·rw [z1o,hrow.2,fpH.ren _ (λk' hk' q=>hne k' (λe=>hkey (e ▸ hk')) q)] at hb;rcases mem_append.1 hb with hb | hb
  ·exact (c3 b hb).1
  ·exact c2 b hb
theorem zbw {b1 b2:Nat->Path->Bool}:(∀ x:AV,kill b1 (kill b2 x)=kill (λk q=>b2 k q||b1 k q) x)/\(∀ l:List AV,z2x b1 (z2x b2 l)=z2x (λk q=>b2 k q||b1 k q) l):=by
 have key:∀ n,(∀ x:AV,sizeOf x<=n->kill b1 (kill b2 x)=kill (λk q=>b2 k q||b1 k q) x)/\(∀ l:List AV,sizeOf l<=n->z2x b1 (z2x b2 l)=z2x (λk q=>b2 k q||b1 k q) l):=by
  intro n
  induction n with
  | zero=>exact ⟨λx hx=>by cases x<;>simp at hx,λl hl=>by cases l<;>simp at hl⟩
  | succ n ih =>
   refine ⟨λx hx=>?_,λl hl=>?_⟩
   ·cases x with
    | sl k p o l=>simp only [kill];by_cases hb:b2 k p=true<;>simp [kill,hb]
    | pt k p i c=>simp only [kill];by_cases hb:b2 k p=true<;>simp [kill,hb]
    | pp q =>
     cases q with
     | xp b x c=>rfl
     | fs k cs=>simp only [kill,z3k];by_cases hb:b2 k []=true<;>simp [kill,z3k,hb]
     | fp k cs i=>simp only [kill,z3k];by_cases hb:b2 k []=true<;>simp [kill,z3k,hb]
     | mr k p=>simp only [kill,z3k];by_cases hb:b2 k p=true<;>simp [kill,z3k,hb]
    | ag cs=>simp only [kill];rw [ih.2 cs (by simp at hx;omega)]
    | tu cs=>simp only [kill];rw [ih.2 cs (by simp at hx;omega)]
    | fn f cs=>simp only [kill];rw [ih.2 cs (by simp at hx;omega)]
    | _=>rfl
   ·cases l with | nil=>rfl | cons x l=>simp only [z2x];rw [ih.1 x (by simp at hl;omega),ih.2 l (by simp at hl;omega)]
 exact ⟨λx=>(key _).1 x (Nat.le_refl _),λl=>(key _).2 l (Nat.le_refl _)⟩
end
section
variable {P:Program}{pro keep:List Nat}{e e1:Env}{h h1:H}{Q:Out->Env->H->Prop}{l:List Ins}{R:Type}{r:R}{g:Option (Nat×Bool)}{d:Nat}
end
mutual
inductive Ty where
 | int (k:IntKind)
 | bool
 | str
 | sl (s by':Nat) (e:Ty)
 | st (fs:Tys)
inductive Tys where
 | nil
 | cons (t:Ty) (ts:Tys)
end
mutual
def z52 (R:Nat->Nat->Prop):Ty->List AV->Prop
 | .int k,cs=>∃ n,cs=[.sc (.int k n)]/\(Lit.int k n).wf=true
 | .bool,cs=>∃ b,cs=[.sc (.bool b)]
 | .str,cs=>∃ s:ByteArray,cs=[.sc (.string s)]/\R s.size 1
 | .sl s by' e,cs=>∃ xs:List (List AV),cs=[.im s xs]/\(∀ x∈xs,z52 R e x)/\R xs.length by'
 | .st fs,cs=>zvh R fs cs
def zvh (R:Nat->Nat->Prop):Tys->List AV->Prop
 | .nil,cs=>cs=[]
 | .cons t ts,cs=>∃ a b,cs=a++b/\z52 R t a/\zvh R ts b
end
mutual
def z77 (P:Program)(t:TypeId):Ty->Bool
 | .int k=>P.cellsOf t==1&&(match P.underlying t with | some (.int k')=>k==k' | _=>false)
 | .bool=>P.cellsOf t==1&&(match P.underlying t with | some .bool=>true | _=>false)
 | .str=>P.cellsOf t==1&&(match P.underlying t with | some .string=>true | _=>false)
 | .sl s by' e=>P.cellsOf t==1&&(match P.underlying t with | some (.slice u)=>decide (0<s)&&P.cellsOf u==s&&P.bytesOf u==by'&&z77 P u e | _=>false)
 | .st fs=>match P.underlying t with | some (.struct fds)=>zke P fds.toList 0 (P.cellsOf t) fs | _=>false
def zke (P:Program)(fds:List Field)(off total:Nat):Tys->Bool
 | .nil=>fds.isEmpty&&off==total
 | .cons t ts=>match fds with
  | []=>false
  | f::r=>f.offset==off&&z77 P f.type t&&zke P r (off+P.cellsOf f.type) total ts
end
section
variable {H:Type}{enc:TypeId×Value->H}{P:Program}{w:World}{sp:Nat->Bool}{held:Bool}{R:Nat->Nat->Prop}
abbrev Old (w:World):Nat->Prop:=λb=>b<w.heap.size
theorem ImC.append {I:Nat->Prop}{B:zm}:∀ {a b:List AV} {cs ds:List Value},ImC I B a cs->ImC I B b ds->ImC I B (a++b) (cs++ds)
 | [],_,_,_,h,h'=>by obtain rfl:_=[]:=h;exact h'
 | _::as,_,_,_,h,h'=>by obtain ⟨v,cs',rfl,h1,h2⟩:=h;exact ⟨v,cs'++_,rfl,h1,h2.append h'⟩
theorem zxm {I:Nat->Prop}{B:zm}{s:Nat}:∀ {xs:Els} {l:List Value},(∀ i x,xs[i]?=some x->x.length=s/\ImC I B x ((l.drop (i * s)).take s))->ImE I B s xs l
 | [],_,_=>trivial
 | x::xs,l,h=>by have h0:=h 0 x rfl;simp only [Nat.zero_mul,drop_zero] at h0;refine ⟨h0.1,h0.2,zxm λi y hy=>?_⟩;have h1:=h (i+1) y hy;rw [drop_drop,show s+i * s=(i+1) * s by rw [Nat.add_mul];omega];exact h1
theorem y3i {α:Type}{Q:Nat->α->Prop}:∀ {n:Nat},(∀ i,i<n->∃ x,Q i x)->∃ xs:List α,xs.length=n/\∀ i x,xs[i]?=some x->Q i x:=by
 intro n
 induction n with
 | zero=>intro _;exact ⟨[],rfl,λi x h=>by simp at h⟩
 | succ n ih =>
  intro h;obtain ⟨xs,h1,h2⟩:=ih λi hi=>h i (by omega);obtain ⟨x,hx⟩:=h n (by omega);refine ⟨xs++[x],by simp [h1],λi y hy=>?_⟩;by_cases hi:i<n
  ·exact h2 i y (by rw [getElem?_append_left (by omega)] at hy;exact hy)
  ·rw [getElem?_append_right (by omega)] at hy;by_cases e:i - xs.length=0
   ·rw [e] at hy;obtain rfl:=Option.some.inj hy;obtain rfl:i=n:=by omega
    exact hx
   ·rw [getElem?_eq_none (by simp;omega)] at hy;cases hy
theorem zvq {a:Addr}{v:Value}(h:w.cell? a=some v):∃ c E fr,w.heap[a.block]?=some (.cells c E fr)/\a.spot=none/\c[a.off]?=some v:=by
 unfold World.cell? at h;split at h
 ·rename_i c E fr hc;split at h
  ·cases h
  ·rename_i hs;refine ⟨c,E,fr,hc,?_,h⟩;cases hsp:a.spot<;>simp_all
 ·cases h
theorem zhm {e:TypeId}:∀ {l:List (DataW H)} {n:Nat} {d:DataW H},d∈l->n∈d.weights P e->n∈DataW.weightsAll P e l
 | _::_,_,_,h,h'=>by simp only [DataW.weightsAll,mem_append];cases h with | head=>exact .inl h' | tail _ h=>exact .inr (zhm h h')
structure Fit (R:Nat->Nat->Prop) (P:Program) (H:Type) where
 F:TypeId->DataW H->Prop
 E:List TypeId->List (DataW H)->Prop
 str:∀ {t:TypeId} {l:List UInt8},F t (.lit (.string l))->R l.length 1
 nil:∀ b,R 0 b
 sl:∀ {t u:TypeId} {e s:List (DataW H)},P.underlying t=some (.slice u)->F t (.slice e s)->R e.length (P.bytesOf u)/\∀ x∈e,F u x
 st:∀ {t:TypeId} {fds:Array Field} {ps:List (DataW H)},P.underlying t=some (.struct fds)->F t (.agg ps)->E (fds.toList.map (·.type)) ps
 cons:∀ {t:TypeId} {ts:List TypeId} {d:DataW H} {ds:List (DataW H)},E (t::ts) (d::ds)->F t d/\E ts ds
def z54 (P:Program)(H:Type):Fit (λn b=>n * b<=reachBytes) P H where
 F t d:=∀ n∈d.weights P t,n<=reachBytes
 E ts ds:=∀ n∈DataW.weightsEach P ts ds,n<=reachBytes
 str {t l} h:=by have:=h l.length (by simp [DataW.weights]);simpa using this
 nil b:=by simp
 sl hu h:=by
  refine ⟨?_,λx hx m hm=>h m ?_⟩
  ·have:=h _ (by simp only [DataW.weights,hu];exact List.mem_cons_self ..);exact Nat.le_trans (Nat.mul_le_mul_right _ (Nat.le_add_right _ _)) this
  ·simp only [DataW.weights,hu,mem_cons,mem_append];exact .inr (.inl (zhm hx hm))
 st hu h:=by intro n hn;exact h n (by simp only [DataW.weights,hu];exact hn)
 cons h:=⟨λn hn=>h n (by simp only [DataW.weightsEach,mem_append];exact .inl hn),λn hn=>h n (by simp only [DataW.weightsEach,mem_append];exact .inr hn)⟩
def ynp (P:Program)(H:Type)(N:Nat)(B:DataW H->Nat)(BA:List (DataW H)->Nat)(h1:∀ d,1<=B d)(hs:∀ l,B (.lit (.string l))=l.length+1)(hsl:∀ e s,B (.slice e s)=BA e+BA s+1)(ha:∀ l,B (.agg l)=BA l+1)(hc:∀ d r,BA (d::r)=B d+BA r) :
  Fit (λn b=>n * b<=reachBytes/\n<=N) P H where
 F t d:=(z54 P H).F t d/\B d<=N
 E ts ds:=(z54 P H).E ts ds/\BA ds<=N
 str h:=⟨(z54 P H).str h.1,by have:=h.2;rw [hs] at this;omega⟩
 nil b:=⟨by simp,zero_le _⟩
 sl {t u e s} hu h:=by
  obtain ⟨a,b⟩:=(z54 P H).sl hu h.1;have hN:=h.2;rw [hsl] at hN
  have hl:∀ l:List (DataW H),l.length<=BA l:=by
   intro l
   induction l with | nil=>exact zero_le _ | cons x r ih=>rw [hc];have:=h1 x;simp only [length_cons];omega
  have hm:∀ (l:List (DataW H)),∀ x∈l,B x<=BA l:=by
   intro l
   induction l with
   | nil=>intro x hx;cases hx
   | cons y r ih =>
    intro x hx;rw [hc];rcases mem_cons.1 hx with rfl | hx
    ·omega
    ·have:=ih x hx;omega
  exact ⟨⟨a,by have:=hl e;omega⟩,λx hx=>⟨b x hx,by have:=hm e x hx;omega⟩⟩
 st hu h:=⟨(z54 P H).st hu h.1,by have:=h.2;rw [ha] at this;omega⟩
 cons h:=⟨⟨((z54 P H).cons h.1).1,by have:=h.2;rw [hc] at this;omega⟩,((z54 P H).cons h.1).2,by have:=h.2;rw [hc] at this;omega⟩
mutual
theorem y6f (Φ:Fit R P H):∀ (T:Ty) {t:TypeId} {fuel:Nat} {cs:List Value} {x:DataW H×List MemPlace},z77 P t T=true->DataW.trod enc P w 0 sp held fuel t cs=some x->Φ.F t x.1 ->
  ∃ as,z52 R T as/\ImC (Old w) (bl w) as cs/\as.length=P.cellsOf t
 | .int k,t,fuel,cs,x,ok,h,hw=>by
  simp only [z77,and_eq_true,beq_iff_eq] at ok;obtain ⟨o1,o2⟩:=ok;split at o2
  ·rename_i k' hu;obtain rfl:k=k':=by simpa using o2
   obtain ⟨n,rfl,rfl,hwf⟩:=DataW.trod_int hu h;exact ⟨_,⟨n,rfl,hwf⟩,⟨_,[],rfl,⟨rfl,rfl⟩,rfl⟩,o1.symm⟩
  ·cases o2
 | .bool,t,fuel,cs,x,ok,h,hw=>by
  simp only [z77,and_eq_true,beq_iff_eq] at ok;obtain ⟨o1,o2⟩:=ok;split at o2
  ·rename_i hu;obtain ⟨b,rfl,rfl⟩:=DataW.trod_bool hu h;exact ⟨_,⟨b,rfl⟩,⟨_,[],rfl,⟨rfl,rfl⟩,rfl⟩,o1.symm⟩
  ·cases o2
 | .str,t,fuel,cs,x,ok,h,hw=>by
  simp only [z77,and_eq_true,beq_iff_eq] at ok;obtain ⟨o1,o2⟩:=ok;split at o2
  ·rename_i hu;obtain ⟨s,rfl,rfl,hs⟩:=DataW.trod_string hu h;refine ⟨_,⟨s,rfl,?_⟩,⟨_,[],rfl,⟨rfl,rfl⟩,rfl⟩,o1.symm⟩;have:=Φ.str hw;simpa using this
  ·cases o2
 | .sl s b e,t,fuel,cs,x,ok,h,hw=>by
  simp only [z77,and_eq_true,beq_iff_eq] at ok;obtain ⟨o1,o2⟩:=ok;split at o2
  ·rename_i u hu;simp only [and_eq_true,beq_iff_eq,decide_eq_true_eq] at o2;obtain ⟨⟨⟨hs,rfl⟩,rfl⟩,oe⟩:=o2;rcases DataW.trod_slice hu h with ⟨rfl,rfl⟩ | ⟨a,len,cap,elems,rest,n,rfl,rfl,rfl,-,hlc,-,hlen,hel,-,-⟩
   ·exact ⟨[.im _ []],⟨[],rfl,(λx hx=>by cases hx),Φ.nil _⟩,⟨_,[],rfl,⟨none,0,rfl,Nat.le_refl _,λh=>(h rfl).elim⟩,rfl⟩,o1.symm⟩
   ·obtain ⟨hwe,hww⟩:=Φ.sl hu hw
    have step:∀ i,i<len->∃ as,(z52 R e as/\as.length=P.cellsOf u)/\∃ cs',w.cells? 0 (a.add (i * P.cellsOf u)) (P.cellsOf u)=some cs'/\ImC (Old w) (bl w) as cs':=by intro i hi;have h1:=hel i hi;rw [List.getElem?_eq_getElem (by omega)] at h1;obtain ⟨cs',h2,h3⟩:=bind_eq_some_iff.1 h1;obtain ⟨as,a1,a2,a3⟩:=y6f Φ e oe h3 (hww _ (List.mem_map_of_mem (List.getElem_mem (by omega))));exact ⟨as,⟨a1,a3⟩,cs',h2,a2⟩
    obtain ⟨xs,x1,x2⟩:=y3i step;refine ⟨[.im _ xs],⟨xs,rfl,λx hx=>?_,?_⟩,⟨_,[],rfl,⟨some a,cap,by rw [x1],by omega,λhne=>?_⟩,rfl⟩,o1.symm⟩
    ·obtain ⟨i,hi,rfl⟩:=List.getElem_of_mem hx;exact (x2 i _ (List.getElem?_eq_getElem hi)).1.1
    ·rw [x1,<- hlen];simpa using hwe
    ·have h0:0<xs.length:=List.length_pos_iff.2 hne;obtain ⟨-,cs0,c1,-⟩:=x2 0 _ (List.getElem?_eq_getElem h0);have c2:=(World.cells?_some c1).2.2 0 hs;rw [List.getElem?_eq_getElem (by have:=(World.cells?_some c1).2.1;omega)] at c2;obtain ⟨c,E,fr,hc,hsp,-⟩:=zvq c2
     have hsn:a.spot=none:=by rcases a with ⟨b0,o0,s0⟩;cases s0 with | none=>rfl | some z=>simp [Addr.add] at hsp
     obtain ⟨b0,o0,s0⟩:=a;obtain rfl:s0=none:=hsn
     have hadd:∀ o k,Addr.add ⟨b0,o,none⟩ k=⟨b0,o+k,none⟩:=λo k=>by
      unfold Addr.add;split
      ·subst_vars;rfl
      ·rfl
     simp only [hadd] at hc;refine ⟨⟨b0,o0,none⟩,c,E,fr,rfl,rfl,?_,hc,zxm λi x hx=>?_⟩
     ·show b0<w.heap.size;by_cases hl:b0<w.heap.size
      ·exact hl
      ·rw [Array.getElem?_eq_none (by omega)] at hc;cases hc
     ·obtain ⟨⟨-,q1⟩,cs',q2,q3⟩:=x2 i x hx;refine ⟨q1,?_⟩;obtain ⟨-,l1,l2⟩:=World.cells?_some q2
      have:((c.toList.drop o0).drop (i * P.cellsOf u)).take (P.cellsOf u)=cs':=by
       apply ext_getElem?;intro j;by_cases hj:j<P.cellsOf u
       ·rw [<- l2 j hj,List.getElem?_take_of_lt hj,drop_drop,getElem?_drop];simp only [World.cell?,hadd,hc];simp [Nat.add_assoc]
       ·rw [getElem?_eq_none (by simp;omega),getElem?_eq_none (by omega)]
      rw [this];exact q3
  ·cases o2
 | .st fs,t,fuel,cs,x,ok,h,hw=>by
  simp only [z77] at ok;split at ok
  ·rename_i fds hu;obtain ⟨xs,n,rfl,rfl,hl,hx,hf⟩:=DataW.trod_struct hu h;obtain ⟨as,a1,a2,a3⟩:=y9k Φ fs (fds:=fds.toList) (off:=0) (cs:=cs) (total:=P.cellsOf t) (xs:=xs) (n:=n) ok hl (by simpa using hx) (λi f hi=>hf i f (by simpa using hi)) (Φ.st hu hw);exact ⟨as,a1,by simpa using a2,by simpa using a3⟩
  ·cases ok
theorem y9k (Φ:Fit R P H):∀ (T:Tys) {fds:List Field} {off total:Nat} {cs:List Value} {xs:List (DataW H×List MemPlace)} {n:Nat},zke P fds off total T=true->cs.length=total->xs.length=fds.length ->
  (∀ (i:Nat) (f:Field),fds[i]?=some f->DataW.trod enc P w 0 sp held n f.type ((cs.drop f.offset).take (P.cellsOf f.type))=xs[i]?) ->
  Φ.E (fds.map (·.type)) (xs.map (·.1)) ->
  ∃ as,zvh R T as/\ImC (Old w) (bl w) as (cs.drop off)/\as.length=total - off
 | .nil,fds,off,total,cs,xs,n,ok,hl,hx,hf,hw=>by simp only [zke,and_eq_true,beq_iff_eq] at ok;obtain ⟨-,rfl⟩:=ok;refine ⟨[],rfl,?_,by simp⟩;rw [List.drop_eq_nil_of_le (by omega)];exact rfl
 | .cons t ts,fds,off,total,cs,xs,n,ok,hl,hx,hf,hw=>by
  simp only [zke] at ok;split at ok
  ·cases ok
  ·rename_i f r;simp only [and_eq_true,beq_iff_eq] at ok;obtain ⟨⟨rfl,o1⟩,o2⟩:=ok;cases xs with
   | nil=>simp at hx
   | cons x xs =>
    have h0:=hf 0 f rfl;obtain ⟨as,a1,a2,a3⟩:=y6f Φ t o1 h0 (Φ.cons hw).1;obtain ⟨bs,b1,b2,b3⟩:=y9k Φ ts (fds:=r) (off:=f.offset+P.cellsOf f.type) (total:=total) (cs:=cs) (xs:=xs) (n:=n) o2 hl (by simpa using hx) (λi g hg=>hf (i+1) g hg) (Φ.cons hw).2
    have e:cs.drop f.offset=(cs.drop f.offset).take (P.cellsOf f.type)++cs.drop (f.offset+P.cellsOf f.type):=by rw [<- drop_drop,List.take_append_drop]
    refine ⟨as++bs,⟨as,bs,rfl,a1,b1⟩,?_,?_⟩
    ·rw [e];exact a2.append b2
    ·have q:∀ {I:Nat->Prop} {B:zm} (l:List AV) (c:List Value),ImC I B l c->l.length=c.length:=by
      intro I B l
      induction l with | nil=>intro c h;obtain rfl:c=[]:=h;rfl | cons a l ih=>intro c h;obtain ⟨v,c',rfl,-,h'⟩:=h;simp [ih c' h']
     have e1:=q as _ a2;have e2:=q bs _ b2;simp only [length_append,length_take,List.length_drop] at *;omega
end
end
theorem zaw {α:Type}{c:α->List AV}{W:α->Prop}{Q:List AV->Prop}(hq:∀ x,Q x->∃ y,W y/\c y=x):∀ {xs:Els},(∀ x∈xs,Q x)->∃ ys:List α,(∀ y∈ys,W y)/\ys.map c=xs
 | [],_=>⟨[],(λy hy=>by cases hy),rfl⟩
 | x::xs,h=>by obtain ⟨y,h1,h2⟩:=hq x (h x (List.mem_cons_self ..));obtain ⟨ys,h3,h4⟩:=zaw hq (xs:=xs) λz hz=>h z (List.mem_cons_of_mem _ hz);exact ⟨y::ys,(λz hz=>by cases hz with | head=>exact h1 | tail _ hz=>exact h3 z hz),by simp [h2,h4]⟩
end Loom
namespace Loom
open Go Go.ChangeShapes Go.WideShapes Go.RowKit
def y7a:Ty->List AV->AV
 | .st _,cs=>.ag cs
 | _,cs=>cs.headD .un
def OfArgs (R:Nat->Nat->Prop):List Ty->List (List AV)->Prop
 | [],as=>as=[]
 | T::Ts,as=>∃ a r,as=a::r/\z52 R T a/\OfArgs R Ts r
def argsOf:List Ty->List (List AV)->List AV
 | T::Ts,a::as=>y7a T a::argsOf Ts as
 | _,_=>[]
def zg6 (P:Program):List TypeId->List Ty->Bool
 | [],[]=>true
 | t::ts,T::Ts=>z77 P t T&&P.readableRec t&&decide (t<P.types.size)&&zg6 P ts Ts
 | _,_=>false
section
variable {H:Type}{enc:TypeId×Value->H}{P:Program}{W:World}{σ:Pl}{R:Nat->Nat->Prop}
theorem y4v (Φ:Fit R P H){T:Ty}{t:TypeId}{v:Value}{d:DataW H}{p:List MemPlace}{r:Reach}{b0:Nat}(ok:z77 P t T=true)(hval:Value.okWide P W r b0 t v)
  (h:DataW.Trod enc P W 0 (λ_=>true) true t v d p) (hw:Φ.F t d):∃ as,z52 R T as/\Va (Old W) σ (bl W) (y7a T as) v:=by
 obtain ⟨fuel,h⟩:=h;obtain ⟨as,a1,a2,-⟩:=y6f Φ T ok h hw;refine ⟨as,a1,?_⟩
 have one:∀ {x:AV},as=[x]->v.cells = #[v]->Va (Old W) σ (bl W) x v:=by rintro x rfl hc;rw [hc] at a2;obtain ⟨u,cs',e,h1,-⟩:=a2;obtain ⟨rfl,-⟩:=List.cons.inj e;exact (Im.va _ _ h1).1
 cases T with
 | int k =>
  simp only [z77,and_eq_true] at ok;have ok:=ok.2;split at ok
  ·rename_i hu;obtain ⟨n,rfl⟩:=okWide_int hu hval;obtain ⟨m,rfl,-⟩:=a1;exact one rfl rfl
  ·cases ok
 | bool =>
  simp only [z77,and_eq_true] at ok;have ok:=ok.2;split at ok
  ·rename_i hu;obtain ⟨n,rfl⟩:=okWide_bool hu hval;obtain ⟨m,rfl⟩:=a1;exact one rfl rfl
  ·cases ok
 | str =>
  simp only [z77,and_eq_true] at ok;have ok:=ok.2;split at ok
  ·rename_i hu;obtain ⟨n,rfl⟩:=okWide_string hu hval;obtain ⟨m,rfl,-⟩:=a1;exact one rfl rfl
  ·cases ok
 | sl s b e =>
  simp only [z77,and_eq_true] at ok;have ok:=ok.2;split at ok
  ·rename_i hu;obtain ⟨a,l,c,rfl⟩:=okWide_slice hu hval;obtain ⟨m,rfl,-⟩:=a1;exact one rfl rfl
  ·cases ok
 | st fs =>
  simp only [z77] at ok;split at ok
  ·rename_i hu;obtain ⟨cs,rfl,-⟩:=okWide_struct hu hval;exact ⟨cs,rfl,ImC.va _ _ a2⟩
  ·cases ok
theorem zfd (Φ:Fit R P H)(hl:laidOutB P=true):∀ {ts:List TypeId} {Ts:List Ty} {vs:List Value} {ds:List (DataW H)} {ps:List MemPlace},zg6 P ts Ts=true->(∀ (j:Nat) t v,ts[j]?=some t->vs[j]?=some v->Value.okWide P W .any 0 t v) ->
  DataW.TrodAll enc P W 0 (λ_=>true) true ts vs ds ps->Φ.E ts ds ->
  (∃ as,OfArgs R Ts as/\VaL (Old W) σ (bl W) (argsOf Ts as) vs)/\ds.length=Ts.length/\∀ W',Below W.heap.size W W'->DataW.TrodAll enc P W' 0 (λb=>decide (b<W.heap.size)) true ts vs ds ps
 | [],[],vs,ds,ps,_,_,h,_=>by obtain ⟨rfl,rfl,rfl⟩:=trodAll_nil h;exact ⟨⟨[],rfl,rfl⟩,rfl,λ_ _=>rfl⟩
 | t::ts,T::Ts,vs,ds,ps,ok,hval,h,hw=>by simp only [zg6,and_eq_true,decide_eq_true_eq] at ok;obtain ⟨⟨⟨o1,o2⟩,o3⟩,o4⟩:=ok;obtain ⟨v,vs,d,ds,p,q,rfl,rfl,rfl,h1,h2⟩:=trodAll_cons h;obtain ⟨a,a1,a2⟩:=y4v Φ (σ:=σ) o1 (hval 0 _ _ rfl rfl) h1 (Φ.cons hw).1;obtain ⟨⟨as,b1,b2⟩,b3,b4⟩:=zfd Φ hl o4 (λj t v e1 e2=>hval (j+1) t v e1 e2) h2 (Φ.cons hw).2;refine ⟨⟨a::as,⟨a,as,rfl,a1,b1⟩,v,vs,rfl,a2,b2⟩,by simp [b3],λW' hb=>⟨p,q,?_,b4 W' hb,rfl⟩⟩;have h1':=h1;obtain ⟨n,hn⟩:=h1;exact RowKit.Below.trod hl o2 o3 h1' hb (DataW.trod_lt n _ _ _ hn)
 | [],_::_,_,_,_,ok,_,_,_=>by cases ok
 | _::_,[],_,_,_,ok,_,_,_=>by cases ok
theorem zmi {f:Nat}{as:List AV}{vs:List Value}(hc:CallG P f as [] (Bl true) [])(hv:VaL (Old W) (λ_ _=>none) (bl W) as vs) :
  Calls P f vs.toArray W λe W'=>e = .returned (.bool true)/\Below W.heap.size W W':=by
 refine (hc (Old W) (λ_ _=>none) W vs ⟨trivial,nodup_nil,nodup_nil,(λb hb=>by cases hb),λb hb=>hb⟩ hv).mono ?_;rintro e W' ⟨v,σ',I',rfl,-,-,-,hr,-,hle,hb,-⟩;obtain rfl:v = .bool true:=hr;exact ⟨rfl,hle.os,hle.tape,hle.output,hle.size,λk hk=>hb k hk (by intro h;cases h)⟩
end
abbrev RSaid:Nat->Nat->Prop:=λn b=>n * b<=reachBytes
abbrev ynq (N:Nat):Nat->Nat->Prop:=λn b=>n * b<=reachBytes/\n<=N
theorem row_of {C:Checked}{os:Os}{H:Type}{enc:TypeId×Value->H}{f:Nat}{fn:Func}{s:ChangeSpec}{ts:List TypeId}(Ts:List Ty)(tb:TypeId)(started:os.Started)(own:ownKnob C.prog.godebug=none)
  (noInit:C.prog.inits.idxOf? f=none) (hfn:C.prog.funcs[f]?=some fn)
  (witness:∃ (w:World) (tape:Tape) (i:Input),w.os=os/\(w.forCall tape i).Shaped C.prog/\i.vars=[]/\Input.okWide C.prog (w.forCall tape i) .any w.heap.size f i /\
   s.pre6 enc C.prog fn [] false (w.forCall tape i).memory i.args/\({}:Assume).holds C.prog (lone (Frame.enter C.prog f i.args .normal) [] (w.forCall tape i)))
  (hl:laidOutB C.prog=true) (hps:fn.params=ts.toArray) (hrs:fn.resultTypes = #[tb]) (htb:C.prog.underlying tb=some .bool) (hts:zg6 C.prog ts Ts=true)
  (hvars:s.vars=[]) (hs:∀ ds:List (DataW H),ds.length=Ts.length->s.fn H ds = { results:=[.lit (.bool true)],args:=ds })
  (hc:∀ as,OfArgs RSaid Ts as->CallG C.prog f (argsOf Ts as) [] (Bl true) []) :
  ReturnsInHanded {} C os f .any (s.pre6 enc C.prog fn [] false) (s.post enc C.prog fn false true false false):=by
 refine returnsInHanded_of_change_sized (C:=C) own started noInit hfn witness ?_;intro W z2y args ds gs before hval hW _ hsz _;have hW':=hW;obtain ⟨p,q,hA,hV,rfl,hfz,hnd⟩:=hW;rw [hvars] at hV;obtain ⟨rfl,rfl⟩:=trodVars_none hV
 have hvt:s.plain.varTypes C.prog=[]:=by have:s.plain.vars=[]:=hvars;simp [DataSpec.varTypes,this]
 rw [hvt,append_nil,append_nil] at hsz;rw [hps] at hA hsz
 obtain ⟨⟨as,a1,a2⟩,a3,a4⟩:=zfd (z54 C.prog H) (W:=W) (σ:=λ_ _=>none) hl hts (λj t v h1 h2=>hval j t v (by rw [hps];simpa using h1) (by simpa using h2)) hA λn hn=>by have:=all_eq_true.1 hsz n hn;simpa using this
 have:=zmi (hc as a1) a2;rw [Array.toArray_toList] at this;refine this.mono λe W' ⟨he,bel⟩=>?_;subst he;refine ⟨_,rfl,_,_,_,[],p,[],hW',?_⟩;have e:s.fn H (ds++[]) = { results:=[.lit (.bool true)],args:=ds }:=by rw [append_nil];exact hs ds a3
 rw [e,hvars,hrs,hps];exact ⟨trodAll_mk1 (shut_bool htb _),a4 W' bel,rfl,bel.frame _,λh=>by cases h⟩
theorem yno {C:Checked}{os:Os}{H:Type}{enc:TypeId×Value->H}{f:Nat}{fn:Func}{s:OpenSpec}{k:(H:Type)->List (DataW H)->Bool}(hk:s.cond=some k){F:Stop.Interp}{ts:List TypeId}(Ts:List Ty)(tb:TypeId){R:Nat->Nat->Prop}(Φ:Fit R C.prog H)(started:os.Started)(own:ownKnob C.prog.godebug=none)
  (noInit:C.prog.inits.idxOf? f=none) (hfn:C.prog.funcs[f]?=some fn)
  (witness:∃ (w:World) (tape:Tape) (i:Input),w.os=os/\(w.forCall tape i).Shaped C.prog/\i.vars=[]/\Input.okWide C.prog (w.forCall tape i) .any w.heap.size f i /\
   s.pre6 enc C.prog fn [] false (w.forCall tape i).memory i.args/\({}:Assume).holds C.prog (lone (Frame.enter C.prog f i.args .normal) [] (w.forCall tape i)))
  (hl:laidOutB C.prog=true) (hps:fn.params=ts.toArray) (hrs:fn.resultTypes = #[tb]) (htb:C.prog.underlying tb=some .bool) (hts:zg6 C.prog ts Ts=true)
  (hvars:s.vars=[]) (hs:∀ ds:List (DataW H),ds.length=Ts.length->(s.at F).fn H ds = { results:=[.lit (.bool true)],args:=ds })
  (hΦ:∀ ds,k H ds=true->(z54 C.prog H).E ts ds->Φ.E ts ds)
  (hc:∀ as,OfArgs R Ts as->CallG C.prog f (argsOf Ts as) [] (Bl true) []) :
  ReturnsInHanded {} C os f .any (s.pre6 enc C.prog fn [] false) ((s.at F).post enc C.prog fn false true false false):=by
 refine returnsInHanded_of_cond_sized (C:=C) hk own started noInit hfn witness ?_;intro W z2y args ds gs before hval hW _ hkk hsz _;have hW':=hW;obtain ⟨p,q,hA,hV,rfl,hfz,hnd⟩:=hW;rw [hvars] at hV;obtain ⟨rfl,rfl⟩:=trodVars_none hV
 have hvt:s.bare.plain.varTypes C.prog=[]:=by have:s.bare.plain.vars=[]:=hvars;simp [DataSpec.varTypes,this]
 rw [hvt,append_nil,append_nil] at hsz;rw [append_nil] at hkk;rw [hps] at hA hsz
 obtain ⟨⟨as,a1,a2⟩,a3,a4⟩:=zfd Φ (W:=W) (σ:=λ_ _=>none) hl hts (λj t v h1 h2=>hval j t v (by rw [hps];simpa using h1) (by simpa using h2)) hA (hΦ ds hkk λn hn=>by have:=all_eq_true.1 hsz n hn;simpa using this)
 have:=zmi (hc as a1) a2;rw [Array.toArray_toList] at this;refine this.mono λe W' ⟨he,bel⟩=>?_;subst he;refine ⟨_,rfl,_,_,_,[],p,[],hW',?_⟩;have e:(s.at F).fn H (ds++[]) = { results:=[.lit (.bool true)],args:=ds }:=by rw [append_nil];exact hs ds a3
 have hvars':(s.at F).vars=[]:=hvars;rw [e,hvars',hrs,hps];exact ⟨trodAll_mk1 (shut_bool htb _),a4 W' bel,rfl,bel.frame _,λh=>by cases h⟩
end Loom
namespace Loom
attribute [local instance] Dfs.none
open Go Go.ChangeMaps
def KM (w:World)(b:Nat)(ks:List ByteArray):Prop :=
 ∃ es cl,w.heap[b]?=some (.map es cl)/\es.toList.map (·.key)=ks.map Value.string/\∀ x∈es.toList,∃ n,x.val = .int .i64 n
section
variable {P:Program}{w:World}{b:Nat}{ks:List ByteArray}{t k e:TypeId}
def has (s:ByteArray)(ks:List ByteArray):Bool:=ks.any (· == s)
theorem zhv (s:ByteArray):∀ (l:List MapEntry) (ks:List ByteArray) (i:Nat),l.map (·.key)=ks.map Value.string ->
  (has s ks=false/\Instr.findNow .string (.string s) l i=some none)\/∃ j e,has s ks=true/\Instr.findNow .string (.string s) l i=some (some (i+j,e.val))/\l[j]?=some e/\e.key = .string s
 | [],[],i,_=>.inl ⟨rfl,rfl⟩
 | x::l,k::ks,i,h=>by
  simp only [map_cons,List.cons.injEq] at h;obtain ⟨h1,h2⟩:=h;cases e:k==s
  ·have e':(s==k)=false:=by
    cases q:s==k
    ·rfl
    ·rw [(MapKept.bytes_beq s k).1 q,(MapKept.bytes_beq k k).2 rfl] at e;cases e
   have hn:Instr.findNow .string (.string s) (x::l) i=Instr.findNow .string (.string s) l (i+1):=by simp only [Instr.findNow,Instr.sameNow,h1,e']
   rw [hn];rcases zhv s l ks (i+1) h2 with ⟨g1,g2⟩ | ⟨j,e',g0,g1,g2,g3⟩
   ·exact .inl ⟨by simp only [has,any_cons,e,Bool.false_or];exact g1,g2⟩
   ·exact .inr ⟨j+1,e',by simp only [has,any_cons,e,Bool.false_or];exact g0,by rw [g1,show i+1+j=i+(j+1) by omega],by simpa using g2,g3⟩
  ·obtain rfl:=(MapKept.bytes_beq k s).1 e;refine .inr ⟨0,x,by simp only [has,any_cons,e,Bool.true_or],?_,rfl,h1⟩;simp only [Instr.findNow,Instr.sameNow,h1,e];rfl
 | [],_::_,_,h=>by cases h
 | _::_,[],_,h=>by cases h
theorem ze0 (hk:P.underlying k=some .string)(s:ByteArray)(l:List MapEntry){r:Option (Nat×Value)}(h:Instr.findNow .string (.string s) l 0=some r):(Instr.findKey k (.string s) l).run P w = .ok r w:=MapKept.run_findKey hk h
theorem zbi (em:Bool)(hk:P.underlying k=some .string)(s:ByteArray):(Instr.checkKey em 10000 k (.string s)).run P w = .ok () w:=MapKept.run_checkKey hk (by simp [MapKept.IsKey]) em 9999
theorem KM.lookup (h:KM w b ks)(ht:P.underlying t=some (.map k e))(hk:P.underlying k=some .string)(hz:(zeroValue e).run P w = .ok (.int .i64 0) w)(s:ByteArray) :
  ∃ n,(Instr.lookup t (.map (some b)) (.string s) false).run P w = .ok (.int .i64 n) w:=by
 obtain ⟨es,cl,hb,h1,h2⟩:=h;rcases zhv s es.toList ks 0 h1 with ⟨g1,g2⟩ | ⟨j,e',g0,g1,g2,g3⟩
 ·exact ⟨0,by simp [Instr.lookup,run_underlying ht,MapKept.run_getObj_map hb,zbi _ hk,ze0 hk _ _ g2,hz,Result.andThen]⟩
 ·obtain ⟨n,hn⟩:=h2 e' (mem_of_getElem? g2);exact ⟨n,by simp [Instr.lookup,run_underlying ht,MapKept.run_getObj_map hb,zbi _ hk,ze0 hk _ _ g1,Result.andThen,hn]⟩
theorem KM.update (h:KM w b ks)(ht:P.underlying t=some (.map k e))(hk:P.underlying k=some .string)(s:ByteArray)(n:Int) :
  ∃ w',(Instr.mapUpdate t (.map (some b)) (.string s) (.int .i64 n)).run P w = .ok () w'/\KM w' b (bif has s ks then ks else ks++[s])/\Le w w'/\∀ i,i≠b->bl w' i=bl w i:=by
 obtain ⟨es,cl,hb,h1,h2⟩:=h;have le:∀ o,Le w (setBlock w b o):=λo=>⟨by simp [setBlock],rfl,rfl,rfl⟩
 have oth:∀ o i,i≠b->bl (setBlock w b o) i=bl w i:=λo i hi=>heap_setBlock_other hb o hi;rcases zhv s es.toList ks 0 h1 with ⟨g1,g2⟩ | ⟨j,e',g0,g1,g2,g3⟩
 ·refine ⟨setBlock w b (.map (es.push ⟨.string s,.int .i64 n,cl⟩) (cl+1)),?_,⟨_,_,heap_setBlock_same hb _,?_,?_⟩,le _,oth _⟩
  ·simp [Instr.mapUpdate,run_underlying ht,MapKept.run_getObj_map hb,zbi _ hk,ze0 hk _ _ g2,MapKept.run_setObj_map _ hb,Result.andThen,setBlock]
  ·simp [g1,h1]
  ·intro x hx;simp only [Array.toList_push,mem_append,List.mem_singleton] at hx;rcases hx with hx | rfl
   ·exact h2 x hx
   ·exact ⟨n,rfl⟩
 ·have hj:es[j]?=some e':=by simpa using g2
  have hj':j<es.size:=(Array.getElem?_eq_some_iff.1 hj).1;refine ⟨setBlock w b (.map (es.modify j λe=>{ e with key:=.string s,val:=.int .i64 n }) cl),?_,⟨_,_,heap_setBlock_same hb _,?_,?_⟩,le _,oth _⟩
  ·simp [Instr.mapUpdate,run_underlying ht,MapKept.run_getObj_map hb,zbi _ hk,ze0 hk _ _ g1,MapKept.run_setObj_map _ hb,Result.andThen,setBlock,Instr.keyThatStays,Instr.sameBits,hj,g3,(MapKept.bytes_beq s s).2 rfl]
  ·simp only [g0,cond_true,<- h1];apply ext_getElem?;intro i;simp only [getElem?_map,Array.getElem?_toList,Array.getElem?_modify];split
   ·rename_i hi;subst hi;simp [hj,g3]
   ·rfl
  ·intro x hx;obtain ⟨i,hi⟩:=List.getElem?_of_mem hx;simp only [Array.getElem?_toList,Array.getElem?_modify] at hi;split at hi
   ·obtain ⟨y,hy,rfl⟩:=map_eq_some_iff.1 hi;exact ⟨n,rfl⟩
   ·exact h2 x (mem_of_getElem? (by simpa using hi))
theorem KM.len (h:KM w b ks)(ht:P.underlying t=some (.map k e))(ty:TypeId):(Builtin.len_ #[t] ty #[.map (some b)]).run P w = .ok (.int .i64 ks.length) w:=by
 obtain ⟨es,cl,hb,h1,h2⟩:=h;have:es.size=ks.length:=by simpa using congrArg length h1
 simp [Builtin.len_,run_underlying ht,MapKept.run_getObj_map hb,this,Builtin.lenOf,goInt]
end
structure Now (N:Nat) (w0:World) (m:Option (Nat×List ByteArray)) (e:Env) (h:H) (a:Act) (w:World):Prop where
 rel:∃ I σ,Rel I N σ e h a w/\(∀ x∈fpH σ h,w0.heap.size<=x)/\∀ b ks,m=some (b,ks)->b∉fpH σ h/\¬ I b
 km:∀ b ks,m=some (b,ks)->KM w b ks/\w0.heap.size<=b
 le:Le w0 w
 old:∀ i,i<w0.heap.size->bl w i=bl w0 i
section
variable {P:Program}{N:Nat}{w0 w w':World}{m:Option (Nat×List ByteArray)}{e e1:Env}{h h1:H}{a:Act}{Q:Exit->Act->World->Prop}{ops:Array Oper}
theorem KM.lt {b:Nat}{ks:List ByteArray}(h:KM w b ks):b<w.heap.size:=by obtain ⟨es,cl,hb,-⟩:=h;exact (Array.getElem?_eq_some_iff.1 hb).1
theorem KM.same {b:Nat}{ks:List ByteArray}(h:KM w b ks)(e:bl w' b=bl w b):KM w' b ks:=by obtain ⟨es,cl,hb,h2⟩:=h;exact ⟨es,cl,e.trans hb,h2⟩
theorem Now.step {I:Nat->Prop}{σ:Pl}{e':Env}{h':H}{a':Act}(hf:∀ x∈fpH σ h,w0.heap.size<=x)(hm:∀ b ks,m=some (b,ks)->b∉fpH σ h/\¬ I b)
  (km:∀ b ks,m=some (b,ks)->KM w b ks/\w0.heap.size<=b) (le:Le w0 w) (old:∀ i,i<w0.heap.size->bl w i=bl w0 i) (S:zv P I N [] σ h w e' h' a' w'):Now N w0 m e' h' a' w':=by
 obtain ⟨σ',I',i1,i2,R,p1,p2,p3,p4⟩:=S.out;have ps:=p2.size;have ls:=le.size;refine ⟨⟨I',σ',R,λx hx=>?_,λb ks hb=>?_⟩,λb ks hb=>?_,le.trans p2,λi hi=>?_⟩
 ·rcases p4 x hx with h | h
  ·exact hf x h
  ·omega
 ·have lt:=(km b ks hb).1.lt;refine ⟨λhx=>?_,λhx=>?_⟩
  ·rcases p4 b hx with h | h
   ·exact (hm b ks hb).1 h
   ·omega
  ·rcases i2 b hx with h | h | h
   ·exact (hm b ks hb).2 h
   ·exact (hm b ks hb).1 h
   ·omega
 ·exact ⟨(km b ks hb).1.same (p3 b (km b ks hb).1.lt (hm b ks hb).1),(km b ks hb).2⟩
 ·rw [p3 i (by omega) λhx=>by have:=hf i hx;omega];exact old i hi
theorem Now.ex {R:Out->Env->H->Prop}{code:Code}{c:IC}(n:Now N w0 m e h a w)(hc:IsC P N code c)(hw:W P [] c R e h)(hQ:∀ o e' h' a' w',R o e' h'->Now N w0 m e' h' a' w'->Q o.ex a' w'):code.wp P Q a w:=by obtain ⟨⟨I,σ,R',hf,hm⟩,km,le,old⟩:=n;obtain ⟨o,e',h',hx,hr⟩:=hw;exact (hx.owes code hc I σ a w R' Q λa' w' S=>hQ _ _ _ _ _ hr (Now.step hf hm km le old S)).1
theorem Now.loom {i:Nat}{is:List Nat}{o:Oper}{x:Ins}(n:Now N w0 m e h a w)(ho:ops[i]?=some o)(hco:comp P N ops o=some x)(hg:x.guard=none)(hs:z2m P [] e h x.dst x.op e1 h1)
  (hK:∀ a' w',Now N w0 m e1 h1 a' w'->wpOps P ops Q is a' w'):wpOps P ops Q (i::is) a w:=by
 obtain ⟨⟨I,σ,R,hf,hm⟩,km,le,old⟩:=n;obtain ⟨g1,g2,g3⟩:=z3j hco;have hw:zx e x.guard=some true:=by rw [hg];rfl
 rw [wpOps_cons];unfold wpOp;simp only [ho,z26 R g1 hw,if_true];exact .inl (z2m.sound R g2 g3 hs λa1 w1 S=>hK _ _ (Now.step hf hm km le old S))
theorem Rel.away {I:Nat->Prop}{σ:Pl}{b:Nat}(R:Rel I N σ e h a w)(le:Le w w')(hb:∀ i,i≠b->bl w' i=bl w i)(h1:b∉fpH σ h)(h2:¬ I b):Rel I N σ e h a w':=by
 have hI:∀ i,I i->bl w' i=bl w i:=λi hi=>hb i λe=>h2 (e ▸ hi);have ls:=le.size
 exact ⟨⟨zr.mono hI h (λi hi=>hb i λe=>h1 (e ▸ hi)) R.heap.ok,R.heap.keys,R.heap.nodup,λi hi=>⟨(R.heap.apart i hi).1,by have:=(R.heap.apart i hi).2;omega⟩,λi hi=>by have:=R.heap.low i hi;omega⟩,
  R.size,λt=>Va.mono hI _ _ (R.vals t),R.defers⟩
theorem zie {i:Nat}{is:List Nat}{o:Oper}(ho:ops[i]?=some o)(hg:o.guard=none)(h:o.wp P a w (wpOps P ops Q is) Q):wpOps P ops Q (i::is) a w:=by
 rw [wpOps_cons];unfold wpOp;have:Region.wanted o (yielded ops a.tmps)=true:=by simp [Region.wanted,hg]
 simp only [ho,this,if_true];exact .inl h
theorem Now.val {i d:Nat}{is:List Nat}{o:Oper}{v:Value}(n:Now N w0 m e h a w)(ho:ops[i]?=some o)(hg:o.guard=none)(hd:o.dst=some d)(hN:d<N)
  (hrun:(execOp a.eval o).run P w = .ok (.value v) w) (hK:∀ a',Now N w0 m (upd e d (.sc v)) h a' w->wpOps P ops Q is a' w):wpOps P ops Q (i::is) a w:=by
 refine zie ho hg ?_;unfold Oper.wp;rw [hrun,Oper.upon_value,hd];obtain ⟨⟨I,σ,R,hf,hm⟩,km,le,old⟩:=n;exact hK _ ⟨⟨I,σ,Rel.put R.heap R.size R.vals R.defers hN rfl,hf,hm⟩,km,le,old⟩
theorem Now.eval {v:Value}{x:Operand}(n:Now N w0 m e h a w)(hx:ev e x = .sc v):a.eval x=v:=by obtain ⟨⟨I,σ,R,-,-⟩,-,-,-⟩:=n;have:=zw R x;rw [hx] at this;exact this
theorem Now.make {i d:Nat}{is:List Nat}{o:Oper}{t:TypeId}(n:Now N w0 none e h a w)(ho:ops[i]?=some o)(hg:o.guard=none)(hd:o.dst=some d)(hN:d<N)(hop:o.op = .makeMap t none)
  (hK:∀ b a' w',Now N w0 (some (b,[])) (upd e d (.sc (.map (some b)))) h a' w'->wpOps P ops Q is a' w'):wpOps P ops Q (i::is) a w:=by
 refine zie ho hg ?_
 have hrun:(execOp a.eval o).run P w = .ok (.value (.map (some w.heap.size))) (w.alloc (.map #[] 0)):=by simp [execOp,hop,RowKit.run_makeMap,Result.andThen]
 unfold Oper.wp;rw [hrun,Oper.upon_value,hd];obtain ⟨⟨I,σ,R,hf,hm⟩,km,le,old⟩:=n;have e1:(w.alloc (.map #[] 0)).heap[w.heap.size]?=some (.map #[] 0):=(MapKept.heap_alloc w _).1;have l1:Le w (w.alloc (.map #[] 0)):=⟨by show w.heap.size<=(w.heap.push _).size;simp,rfl,rfl,rfl⟩
 have nb:w.heap.size∉fpH σ h:=λhx=>by have:=(R.heap.apart _ hx).2;omega
 have ni:¬ I w.heap.size:=λhx=>by have:=R.heap.low _ hx;omega
 have oth:∀ i,i≠w.heap.size->bl (w.alloc (.map #[] 0)) i=bl w i:=λi hi=>by
  rcases Nat.lt_or_ge i w.heap.size with h | h
  ·exact z4o w _ i h
  ·have e2:bl (w.alloc (.map #[] 0)) i=none:=by simp only [bl];exact Array.getElem?_eq_none (by show (w.heap.push _).size<=i;simp;omega)
   have e3:bl w i=none:=by simp only [bl];exact Array.getElem?_eq_none (by omega)
   rw [e2,e3]
 have R':=R.away l1 oth nb ni;refine hK w.heap.size _ _ ⟨⟨I,σ,Rel.put R'.heap R'.size R'.vals R'.defers hN rfl,hf,λb ks hb=>?_⟩,λb ks hb=>?_,le.trans l1,λi hi=>?_⟩
 ·cases hb;exact ⟨nb,ni⟩
 ·cases hb;exact ⟨⟨#[],0,e1,rfl,λx hx=>by simp at hx⟩,le.size⟩
 ·have:=le.size;rw [oth i (by omega)];exact old i hi
theorem Now.upd {i b:Nat}{ks:List ByteArray}{is:List Nat}{o:Oper}{t k et:TypeId}{xm xk xv:Operand}{s:ByteArray}{v:Int}(n:Now N w0 (some (b,ks)) e h a w)(ho:ops[i]?=some o)(hg:o.guard=none)(hd:o.dst=none)(hop:o.op = .mapUpdate t xm xk xv)
  (ht:P.underlying t=some (.map k et)) (hk:P.underlying k=some .string) (hm:ev e xm = .sc (.map (some b))) (hs:ev e xk = .sc (.string s)) (hv:ev e xv = .sc (.int .i64 v))
  (hK:∀ a' w',Now N w0 (some (b,bif has s ks then ks else ks++[s])) e h a' w'->wpOps P ops Q is a' w'):wpOps P ops Q (i::is) a w:=by
 have q1:=n.eval hm;have q2:=n.eval hs;have q3:=n.eval hv;obtain ⟨⟨I,σ,R,hf,hm⟩,km,le,old⟩:=n;obtain ⟨w',r1,r2,r3,r4⟩:=(km b ks rfl).1.update (P:=P) ht hk s v;refine zie ho hg ?_;unfold Oper.wp;simp only [execOp,hop,q1,q2,q3,Sem.run_bind,r1,Result.andThen];have lt:=(km b ks rfl).2;have R':=R.away r3 r4 (hm b ks rfl).1 (hm b ks rfl).2;refine hK _ _ ⟨⟨I,σ,?_,hf,λb' ks' hb=>?_⟩,λb' ks' hb=>?_,le.trans r3,λi hi=>?_⟩
 ·rw [hd];exact R'
 ·cases hb;exact hm b ks rfl
 ·cases hb;exact ⟨r2,lt⟩
 ·rw [r4 i (by omega)];exact old i hi
end
end Loom
namespace Loom
attribute [local instance] Dfs.none
open Go Go.ChangeMaps
section
def lf:Code->Code
 | .seq a _=>a
 | .cond _ a _=>a
 | .loop a=>a
 | .block _ a=>a
 | c=>c
def rt:Code->Code
 | .seq _ b=>b
 | .cond _ _ b=>b
 | c=>c
def z8l:Code->Array Oper
 | .region _ ops _=>ops
 | _=>#[]
def rid:Code->Nat
 | .region n _ _=>n
 | _=>0
theorem zk3 {ops:Array Oper}{i:Nat}{g:Option (Nat×Bool)}{d:Option Nat}{op:Op}(h:(ops[i]?).map (λo=>(o.guard,o.dst,o.op))=some (g,d,op)):∃ o,ops[i]?=some o/\o.guard=g/\o.dst=d/\o.op=op:=by obtain ⟨o,h1,h2⟩:=map_eq_some_iff.1 h;simp only [Prod.mk.injEq] at h2;exact ⟨o,h1,h2.1,h2.2.1,h2.2.2⟩
variable {P:Program}{N:Nat}{w0 w w':World}{m:Option (Nat×List ByteArray)}{e e1:Env}{h h1:H}{a:Act}{Q:Exit->Act->World->Prop}{ops:Array Oper}
theorem Now.rd {i:Nat}{is:List Nat}{x:Ins}(n:Now N w0 m e h a w)(ho:(ops[i]?).bind (comp P N ops)=some x)(hs:x.guard=none/\z2w [] e h x.dst x.op=some (e1,h1))
  (hK:∀ a' w',Now N w0 m e1 h1 a' w'->wpOps P ops Q is a' w'):wpOps P ops Q (i::is) a w:=by
 obtain ⟨o,h1,h2⟩:=bind_eq_some_iff.1 ho;exact n.loom h1 h2 hs.1 (.plain hs.2) hK
theorem Now.rda {i d:Nat}{is:List Nat}{b:IB}(av:AV)(n:Now N w0 m e h a w)(ho:(ops[i]?).bind (comp P N ops)=some ⟨d,none,.rd b⟩)(hs:zi (ev e) (res h) b=some av)
  (hK:∀ a' w',Now N w0 m (Loom.upd e d av) h a' w'->wpOps P ops Q is a' w'):wpOps P ops Q (i::is) a w :=
 n.rd ho ⟨rfl,by simp only [z2w,hs]⟩ hK
theorem Now.gh (n:Now N w0 m e h a w)(g:z9 P [] e h e1 h1):Now N w0 m e1 h1 a w:=by obtain ⟨⟨I,σ,R,hf,hm⟩,km,le,old⟩:=n;exact Now.step hf hm km le old (g I N σ a w R)
theorem Now.call {f:Nat}{fn:Func}{code:Code}{ts:List RS}{args:List AV}{v:Value}(h1:P.funcs[f]?=some fn)(h2:fn.body=some code)(h3:fn.ntmps=N)(h4:z3i P fn.results.toList=some ts)
  (hw:∀ (a:Act) (w0:World) (Q:Exit->Act->World->Prop),Now N w0 none (z89 0 args) [] a w0->(∀ m e' h' a' w',z81 e' h' ts=some (.sc v)->Now N w0 m e' h' a' w'->Q .ret a' w')->code.wp P Q a w0):z1q P f args [] (.sc v) []:=by
 intro I σ w vs hh hv;apply calls_of_wp h1 h2
 have R:Rel I N σ (z89 0 args) [] { tmps:=vs.toArray++Array.replicate (fn.ntmps - vs.toArray.size) undef,defers:=[] } w:=by
  refine ⟨hh,?_,λt=>?_,rfl⟩
  ·simp only [Array.size_append,Array.size_replicate,List.size_toArray];omega
  ·have:=zgg (I:=I) (σ:=σ) (B:=bl w) args 0 [] vs (replicate (fn.ntmps - vs.toArray.size) undef) rfl hv t
   have e2:(vs.toArray++Array.replicate (fn.ntmps - vs.toArray.size) undef)=(vs++replicate (fn.ntmps - vs.toArray.size) undef).toArray:=by apply Array.ext';simp
   simp only [e2];simpa [Array.getD_eq_getD_getElem?,List.getD_eq_getElem?_getD] using this
 refine hw _ w _ ⟨⟨I,σ,R,(λx hx=>by cases hx),λb ks hb=>by cases hb⟩,(λb ks hb=>by cases hb),Le.refl w,λ_ _=>rfl⟩ λm e' h' a' w' hr n=>?_;obtain ⟨⟨I',σ',R',-,-⟩,-,le,old⟩:=n;obtain ⟨u,q1,q2⟩:=z8x R' fn h4 hr;have ls:=le.size;exact ⟨R'.defers,u,q1,u,σ,rfl,⟨trivial,nodup_nil,nodup_nil,(λb hb=>by cases hb),λb hb=>by have:=hh.low b hb;omega⟩,q2,λ_ _=>rfl,le,λb hb _=>old b hb,λb hb=>by cases hb⟩
end
theorem VaL.scs {I:Nat->Prop}{σ:Pl}{B:zm}:∀ (vs:List Value) {us:List Value},VaL I σ B (vs.map AV.sc) us->us=vs
 | [],_,h=>h
 | v::vs,_,h=>by obtain ⟨u,cs,rfl,h1,h2⟩:=h;obtain rfl:u=v:=h1;rw [VaL.scs vs h2]
theorem z1q.quiet {P:Program}{f:Nat}{vs:List Value}{r:Value}(hc:∀ w,Calls P f vs.toArray w λe w'=>e = .returned r/\w'=w):z1q P f (vs.map AV.sc) [] (.sc r) []:=by intro I σ w us hh hv;obtain rfl:=VaL.scs vs hv;refine (hc w).mono ?_;rintro e w' ⟨rfl,rfl⟩;exact ⟨r,σ,rfl,hh,rfl,λ_ _=>rfl,Le.refl _,λ_ _ _=>rfl,λb hb=>.inl hb⟩
section
variable {P:Program}{pro keep:List Nat}{σ:Pl}{I:Nat->Prop}{B:zm}{e:Env}{h:H}
theorem CeE.takeN {k s:Nat}{p:Path}:∀ (m:Nat) {i:Nat} {xs:Els} {cs:List Value},CeE I σ B k p i s xs cs->CeE I σ B k p i s (xs.take m) cs
 | 0,_,_,_,_=>by simp only [take_zero];trivial
 | _+1,_,[],_,_=>trivial
 | m+1,_,_::_,_,hc=>⟨hc.1,hc.2.1,hc.2.2.takeN m⟩
theorem zmc {k:Nat}{p:Path}:∀ (m i:Nat) (xs:Els),(fpE σ k p i (xs.take m)).Sublist (fpE σ k p i xs)
 | 0,_,_=>by simp only [take_zero,fpE];exact List.nil_sublist _
 | _+1,_,[]=>List.Sublist.refl _
 | m+1,i,x::xs=>by simp only [List.take_succ_cons,fpE];exact (List.Sublist.refl _).append (zmc m (i+1) xs)
theorem zk.take {w:World}{k:Nat}{r:Row}(m:Nat)(hh:zk I σ h w)(hg:z6 h k=some r)(hsm:r.s<MB):zk I σ ((k,⟨r.s,r.xs.take m⟩)::zc h k) w/\∀ b∈fpH σ ((k,⟨r.s,r.xs.take m⟩)::zc h k),b∈fpH σ h:=by
 have hp:=z3x hg;have h1:=hh.perm hp
 have hsub:(fpR σ k ⟨r.s,r.xs.take m⟩).Sublist (fpR σ k r):=by unfold fpR;cases σ k [] with | none=>exact List.Sublist.refl _ | some L=>exact (zmc m 0 r.xs).cons_cons _
 have hsubH:(fpH σ ((k,⟨r.s,r.xs.take m⟩)::zc h k)).Sublist (fpH σ ((k,r)::zc h k)):=by simp only [fpH];exact hsub.append (List.Sublist.refl _)
 obtain ⟨ok,keys,nd,ap,low⟩:=h1;refine ⟨⟨⟨?_,ok.2⟩,keys,hsubH.nodup nd,λb hb=>ap b (hsubH.subset hb),low⟩,λb hb=>((fpH.perm hp).mem_iff).2 (hsubH.subset hb)⟩;have o1:=ok.1;unfold zy at o1 ⊢;cases hs:σ k [] with
 | none=>simp only [hs] at o1 ⊢;exact ⟨by simp [o1.1],o1.2⟩
 | some L =>simp only [hs] at o1 ⊢;obtain ⟨q1,q2,cur,E,q3,q4,q5⟩:=o1;exact ⟨q1,λ_=>by have:=q2 hsm;simp;omega,cur,E,q3,by rw [zaf hsm] at q4 ⊢;exact q4,q5.takeN m⟩
theorem z9.take {k:Nat}{r:Row}(m:Nat)(hg:z6 h k=some r)(hsm:r.s<MB):z9 P pro e h e ((k,⟨r.s,r.xs.take m⟩)::zc h k):=λI N _ σ a w R=>by obtain ⟨c1,c2⟩:=R.heap.take m hg hsm;exact ⟨σ,I,λ_ h=>h,λ_ h=>.inl h,⟨c1,R.size,R.vals,R.defers⟩,λ_ _=>rfl,Le.refl _,λ_ _ _=>rfl,λb hb=>.inl (c2 b hb)⟩
variable {Q:Out->Env->H->Prop}{l:List Ins}{R:Type}{r:R}
end
inductive TP where
 | xp (b:Nat) (x:List Value) (c:Nat)
 | fs (k:Nat) (cs:List Nat)
 | fp (k:Nat) (cs:List Nat) (i:Nat)
 | px (k:Nat) (c:Nat)
 | mr (k:Nat) (p:Path)
def z2j:TP->AV
 | .xp b x c=>.pp (.xp b x c)
 | .fs k cs=>.pp (.fs k cs)
 | .fp k cs i=>.pp (.fp k cs i)
 | .px k c=>.pt k [] 0 c
 | .mr k p=>.pp (.mr k p)
inductive TV (El:Nat->Type):Type where
 | un
 | sc (v:Value)
 | ik (k:IntKind) (n:Int)
 | bk (b:Bool)
 | zs
 | ag (cs:List (TV El))
 | tu (vs:List (TV El))
 | im (t:Nat) (xs:List (El t))
 | ip (s:Nat) (cs:List (TV El)) (c:Nat)
 | sl (k:Nat) (p:Path) (off len:Nat)
 | sw (k:Nat) (p:Path)
 | pt (k:Nat) (p:Path) (i c:Nat)
 | fn (f:Nat) (caps:List (TV El))
 | ow (m:Bool) (t:Nat) (xs:List (El t))
 | oo (m:Bool) (t:Nat) (xs:List (El t)) (i:Nat) (cs:List (TV El))
 | pp (q:TP)
inductive TR (El:Nat->Type):Type where
 | typ (m:Bool) (t:Nat) (xs:List (El t))
 | lit (s:Nat) (xs:List (List (TV El)))
 | opn (m:Bool) (t:Nat) (xs:List (El t)) (i:Nat) (cs:List (TV El))
structure TT0 where
 El:Nat->Type
 sz:Nat->Nat
 ca:Bool->(t:Nat)->El t->List AV
abbrev TE (T:TT0):=List (Nat×TV T.El)
abbrev TH (T:TT0):=List (Nat×TR T.El)
def zh (h:H)(k:Nat)(p:Path):Nat :=
 match z1j h k p with
 | some (_,xs)=>xs.length
 | none=>0
theorem z5u {h:H}{k:Nat}{p:Path}{s:Nat}{xs:Els}(hr:res h k p=some (s,xs)):zh h k p=xs.length:=by unfold zh;rw [(z83 hr).1]
section
variable {T:TT0}
mutual
def den (T:TT0)(h:H):TV T.El->AV
 | .un=>.un
 | .sc v=>.sc v
 | .ik k n=>.sc (.int k n)
 | .bk b=>.sc (.bool b)
 | .zs=>.zs
 | .ag cs=>.ag (z7 T h cs)
 | .tu cs=>.tu (z7 T h cs)
 | .im t xs=>.im (T.sz t) (xs.map (T.ca false t))
 | .ip s cs c=>.ip s [z7 T [] cs] 0 c
 | .sl k p off len=>.sl k p off len
 | .sw k p=>.sl k p 0 (zh h k p)
 | .pt k p i c=>.pt k p i c
 | .fn f caps=>.fn f (z7 T h caps)
 | .ow m t xs=>.ow (T.sz t) (xs.map (T.ca m t))
 | .oo m t xs i cs=>.ow (T.sz t) ((xs.map (T.ca m t)).set i (z7 T [] cs))
 | .pp q=>z2j q
def z7 (T:TT0)(h:H):List (TV T.El)->List AV
 | []=>[]
 | x::l=>den T h x::z7 T h l
end
theorem zq (h:H):∀ (l:List (TV T.El)),z7 T h l=l.map (den T h)
 | []=>rfl
 | x::l=>by simp [z7,zq h l]
mutual
def inR:TV T.El->Bool
 | .un | .sc _ | .ik _ _ | .bk _ | .zs | .im _ _ | .ow _ _ _=>true
 | .oo _ _ _ _ cs=>z4p cs
 | .ag _ | .tu _ | .ip _ _ _ | .sl _ _ _ _ | .sw _ _ | .pt _ _ _ _ | .fn _ _ | .pp _=>false
def z4p:List (TV T.El)->Bool
 | []=>true
 | x::l=>inR x&&z4p l
end
def za (T:TT0):TR T.El->Row
 | .typ m t xs=>⟨T.sz t,xs.map (T.ca m t)⟩
 | .lit s xs=>⟨s,xs.map (z7 T [])⟩
 | .opn m t xs i cs=>⟨T.sz t,(xs.map (T.ca m t)).set i (z7 T [] cs)⟩
def z5 (T:TT0):TH T->H
 | []=>[]
 | (k,r)::h=>(k,za T r)::z5 T h
def z1c:TE T->Nat->TV T.El
 | [],_=>.un
 | (k,v)::l,t=>bif Nat.beq t k then v else z1c l t
def z8 (T:TT0)(h:H)(e:TE T):Env:=λt=>den T h (z1c e t)
def z30:TH T->Nat->Option (TR T.El)
 | [],_=>none
 | (k',r)::h,k=>bif Nat.beq k' k then some r else z30 h k
def z12:TH T->Nat->TH T
 | [],_=>[]
 | (k',r)::h,k=>bif Nat.beq k' k then h else (k',r)::z12 h k
def z1v (e:TE T)(d:Nat)(v:TV T.El):TE T:=(d,v)::e
theorem z1h {a b:Nat}:Nat.beq a b=decide (a=b):=by rw [Bool.eq_iff_iff];simp
theorem z1t:∀ (h:TH T) (k:Nat),z6 (z5 T h) k=(z30 h k).map (za T)
 | [],_=>rfl
 | (k',r)::h,k=>by
  simp only [z5,z6,z30,z1h];by_cases e:k'=k
  ·simp [e]
  ·simp [e,z1t h k]
theorem zz:∀ (h:TH T) (k:Nat),zc (z5 T h) k=z5 T (z12 h k)
 | [],_=>rfl
 | (k',r)::h,k=>by
  simp only [z5,zc,z12,z1h];by_cases e:k'=k
  ·simp [e]
  ·simp [e,z5,zz h k]
theorem z2i:∀ (a b:TH T),z5 T (a++b)=z5 T a++z5 T b
 | [],b=>rfl
 | (k,r)::a,b=>by simp [z5,z2i a b]
theorem z1p:∀ (h:TH T),(z5 T h).map Prod.fst=h.map Prod.fst
 | []=>rfl
 | (k,r)::h=>by simp [z5,z1p h]
theorem z1f {h:H}{e:TE T}{d:Nat}{v:TV T.El}:z8 T h (z1v e d v)=upd (z8 T h e) d (den T h v):=by funext t;simp only [z8,z1v,z1c,upd,z1h];by_cases e:t=d<;>simp [e]
def zbm (v:Value):TV T.El :=
 match cval v with
 | .zs=>.zs
 | .sc (.int k n)=>.ik k n
 | .sc (.bool b)=>.bk b
 | .sc v=>.sc v
 | .ag cs=>.ag (cs.map λ| .zs=>.zs | .sc v=>.sc v | _=>.un)
 | _=>.un
theorem zff (h:H)(v:Value):den T h (zbm v)=cval v:=by
 unfold zbm
 have key:∀ v:Value,cval v = .zs\/(∃ u,cval v = .sc u)\/cval v = .un\/∃ l:List AV,cval v = .ag l/\∀ x∈l,x = .zs\/∃ u,x = .sc u:=by
  intro v;unfold cval;split
  ·exact .inl rfl
  ·split
   ·refine .inr (.inr (.inr ⟨_,rfl,λx hx=>?_⟩));obtain ⟨y,_,rfl⟩:=mem_map.1 hx;split
    ·exact .inl rfl
    ·exact .inr ⟨_,rfl⟩
   ·exact .inr (.inr (.inl rfl))
  ·exact .inr (.inl ⟨_,rfl⟩)
 rcases key v with h1 | ⟨u,h1⟩ | h1 | ⟨l,h1,h2⟩
 ·rw [h1];rfl
 ·rw [h1];cases u<;>rfl
 ·rw [h1];rfl
 ·rw [h1];simp only [den,zq,map_map];congr 1;refine (map_congr_left λx hx=>?_).trans (map_id l);rcases h2 x hx with rfl | ⟨u,rfl⟩<;>rfl
def evT (e:TE T):Operand->TV T.El
 | .tmp t=>z1c e t
 | .const v=>zbm v
 | .func f=>.fn f []
 | .global _=>.un
theorem zg {h:H}{e:TE T}(o:Operand):ev (z8 T h e) o=den T h (evT e o):=by cases o with | tmp t=>rfl | const v=>exact (zff h v).symm | func f=>simp [ev,evT,den,z7] | global _=>rfl
theorem zb.trans {a b c:AV}(h:zb a b)(k:zb b c):zb a c:=λI σ B v x=>k I σ B v (h I σ B v x)
theorem zb.un (a:AV):zb a .un:=λ_ _ _ _ _=>trivial
theorem zb.kill (bad:Nat->Path->Bool)(a:AV):zb a (kill bad a):=λ_ _ _ v h=>Va.kill (λ_ _ _=>rfl) a v h
theorem zb.ip {s i c:Nat}{xs:Els}{x:List AV}(hx:xs[i]?=some x):zb (.ip s xs i c) (.ip s [x] 0 c):=λI σ B v hv=>by
 obtain ⟨A,cur,E,fr,h1,h2,h3,h4,h5⟩:=hv;have h6:=ImE.get xs _ h5 i x hx;refine ⟨⟨A.block,A.off+i * s,none⟩,cur,E,fr,?_,rfl,h3,h4,h6.1,?_,trivial⟩
 ·rw [h1];simp
 ·rw [drop_drop] at h6;exact h6.2
theorem zb.zsIm (s:Nat):zb .zs (.im s []):=λI σ B v ⟨x,hx⟩=>⟨x,0,hx,Nat.le_refl _,λhn=>absurd rfl hn⟩
theorem zb.ag {l l':List AV}(h:∀ (I:Nat->Prop) (σ:Pl) (B:zm) (v:List Value),VaC I σ B l v->VaC I σ B l' v):zb (.ag l) (.ag l'):=λI σ B v ⟨a,h1,h2⟩=>⟨a,h1,h I σ B _ h2⟩
theorem zb.tu {l l':List AV}(h:∀ (I:Nat->Prop) (σ:Pl) (B:zm) (v:List Value),VaL I σ B l v->VaL I σ B l' v):zb (.tu l) (.tu l'):=λI σ B v ⟨a,h1,h2⟩=>⟨a,h1,h I σ B _ h2⟩
theorem zb.fn {f:Nat}{l l':List AV}(h:∀ (I:Nat->Prop) (σ:Pl) (B:zm) (v:List Value),VaL I σ B l v->VaL I σ B l' v):zb (.fn f l) (.fn f l'):=λI σ B v ⟨a,h1,h2⟩=>⟨a,h1,h I σ B _ h2⟩
inductive z2l:List AV->List AV->Prop
 | nil:z2l [] []
 | cons {a b:AV} {l l':List AV}:zb a b->z2l l l'->z2l (a::l) (b::l')
theorem z2l.C {l l':List AV}(h:z2l l l'):∀ (I:Nat->Prop) (σ:Pl) (B:zm) (v:List Value),VaC I σ B l v->VaC I σ B l' v:=by
 induction h with
 | nil=>exact λ_ _ _ _ h=>h
 | cons h1 _ ih=>exact λI σ B v ⟨u,cs,h2,h3,h4,h5⟩=>⟨u,cs,h2,h3,h1 I σ B u h4,ih I σ B cs h5⟩
theorem z2l.L {l l':List AV}(h:z2l l l'):∀ (I:Nat->Prop) (σ:Pl) (B:zm) (v:List Value),VaL I σ B l v->VaL I σ B l' v:=by
 induction h with
 | nil=>exact λ_ _ _ _ h=>h
 | cons h1 _ ih=>exact λI σ B v ⟨u,cs,h2,h4,h5⟩=>⟨u,cs,h2,h1 I σ B u h4,ih I σ B cs h5⟩
theorem z9.le {P:Program}{pro:List Nat}{e e1:Env}{h:H}(he:∀ t,zb (e t) (e1 t)):z9 P pro e h e1 h:=λI N _ σ a w R =>
 zv.of_rel ⟨R.heap,R.size,λt=>he t I σ (bl w) _ (R.vals t),R.defers⟩ rfl
theorem zb.upd {e e':Env}{d:Nat}{a b:AV}(he:∀ t,zb (e t) (e' t))(h:zb a b)(t:Nat):zb (Loom.upd e d a t) (Loom.upd e' d b t):=by
 unfold Loom.upd;split
 ·exact h
 ·exact he t
def zau {El:Nat->Type}(bad:Nat->Path->Bool):TP->TV El
 | .xp b x c=>.pp (.xp b x c)
 | .fs k cs=>bif bad k [] then .un else .pp (.fs k cs)
 | .fp k cs i=>bif bad k [] then .un else .pp (.fp k cs i)
 | .px k c=>bif bad k [] then .un else .pp (.px k c)
 | .mr k p=>bif bad k p then .un else .pp (.mr k p)
theorem zef {T:TT0}{H0:H}{bad:Nat->Path->Bool}(q:TP):den T H0 (zau bad q)=kill bad (z2j q):=by
 cases q with
 | xp b x c=>rfl
 | fs k cs=>simp only [zau,z2j,kill,z3k];cases bad k []<;>rfl
 | fp k cs i=>simp only [zau,z2j,kill,z3k];cases bad k []<;>rfl
 | px k c=>simp only [zau,z2j,kill];cases bad k []<;>rfl
 | mr k p=>simp only [zau,z2j,kill,z3k];cases bad k p<;>rfl
mutual
def z2o (bad bw:Nat->Path->Bool):TV T.El->TV T.El
 | .sl k p off len=>bif bad k p then .un else .sl k p off len
 | .sw k p=>bif bad k p||bw k p then .un else .sw k p
 | .pt k p i c=>bif bad k p then .un else .pt k p i c
 | .ag cs=>.ag (z7s bad bw cs)
 | .tu cs=>.tu (z7s bad bw cs)
 | .fn f caps=>.fn f (z7s bad bw caps)
 | .un=>.un
 | .sc v=>.sc v
 | .ik k n=>.ik k n
 | .bk b=>.bk b
 | .zs=>.zs
 | .im t xs=>.im t xs
 | .ip s cs c=>.ip s cs c
 | .ow m t xs=>.ow m t xs
 | .oo m t xs i cs=>.oo m t xs i cs
 | .pp q=>zau bad q
def z7s (bad bw:Nat->Path->Bool):List (TV T.El)->List (TV T.El)
 | []=>[]
 | a::as=>z2o bad bw a::z7s bad bw as
end
def z5t (bad bw:Nat->Path->Bool):TE T->TE T
 | []=>[]
 | (k,v)::l=>(k,z2o bad bw v)::z5t bad bw l
theorem z3a {bad bw:Nat->Path->Bool}:∀ (e:TE T) (t:Nat),z1c (z5t bad bw e) t=z2o bad bw (z1c e t)
 | [],_=>rfl
 | (k,v)::l,t=>by
  simp only [z5t,z1c];cases Nat.beq t k
  ·simpa using z3a l t
  ·rfl
end
def isZ:AV->Bool
 | .zs=>true
 | _=>false
inductive Kd where
 | no
 | im (t:Nat)
 | ow (m:Bool) (t:Nat)
def smK (sz:Nat->Nat):Kd->Bool
 | .ow _ t=>Nat.blt (sz t) 1000000
 | _=>true
structure TT extends q:TT0 where
 ks:Bool->Nat->List Kd
 ct:Bool->(t:Nat)->El t->List (TV El)
 un:Bool->(t:Nat)->List (TV El)->Option (El t)
 ct_ok:∀ m t x,z7 q [] (ct m t x)=ca m t x
 ct_in:∀ m t x,z4p (T:=q) (ct m t x)=true
 un_ok:∀ m t cs x,un m t cs=some x->z7 q [] cs=ca m t x
 im_ok:∀ m t x,z2q (ca m t x)=ca false t x
 pl:Nat->Bool
 pl_ok:∀ t x,pl t=true->z21 (ca false t x)=true
 u8:Nat
 bs:List Int->List (El u8)
 bs_ok:∀ l,(bs l).map (ca false u8)=l.map λn=>[.sc (.int .u8 n)]
 bs_sz:sz u8=1
 sb:List (El u8)->List Int
 sb_ok:∀ m l,l.map (ca m u8)=(sb l).map λn=>[.sc (.int .u8 n)]
 po:Nat->Bool
 ow_ok:∀ t x,po t=true->z21 (ca true t x)=true
 fl_ok:∀ t x,(ca false t x).all zfo=true
 nz_ok:∀ m t x,∀ a∈ca m t x,isZ a=false
 ks_sm:∀ m t,(ks m t).all (smK sz)=true
 ln_ok:∀ m t x,(ca m t x).length=sz t % 1000000
 kq:Nat->List Nat
 kOk:Nat->List Value->Bool
 kf:(t:Nat)->List Value->El t->Bool
 kf_ok:∀ m t kv x,kOk t kv=true->z17 (kv.map .sc) (ca m t x) (z2p 0 (kq t))=some (kf t kv x)
inductive Rs (X:Type):Type 1 where
 | ok (v:X)
 | no
 | bnd {A:Type} (x:Option A) (K:A->Rs X)
 | need (p:Prop) [Decidable p] (K:Rs X)
 | ite (b:Bool) (x y:Rs X)
def Rs.gives {X:Type}:Rs X->X->Prop
 | .ok v,u=>u=v
 | .no,_=>False
 | .bnd x K,u=>∃ a,x=some a/\(K a).gives u
 | @Rs.need _ p _ K,u=>p/\K.gives u
 | .ite b x y,u=>(b=true/\x.gives u)\/(b=false/\y.gives u)
section
variable {T:TT}
abbrev VT (T:TT):=TV T.El
abbrev RT (T:TT):=Rs (TV T.El)
mutual
theorem ych (h h':H):∀ (x:VT T),inR (T:=T.q) x=true->den T.q h x=den T.q h' x
 | .un,_ | .sc _,_ | .ik _ _,_ | .bk _,_ | .zs,_ | .im _ _,_ | .ow _ _ _,_=>rfl
 | .oo _ _ _ _ cs,hi=>rfl
 | .ag _,hi | .tu _,hi | .ip _ _ _,hi | .sl _ _ _ _,hi | .sw _ _,hi | .pt _ _ _ _,hi | .fn _ _,hi | .pp _,hi=>by simp [inR] at hi
theorem zkn (h h':H):∀ (x:List (VT T)),z4p (T:=T.q) x=true->z7 T.q h x=z7 T.q h' x
 | [],_=>rfl
 | x::l,hi=>by simp only [z4p,and_eq_true] at hi;simp only [z7,ych h h' x hi.1,zkn h h' l hi.2]
end
def z7w {X:Type}(K:TR T.El->Rs X):Path->TR T.El->Rs X
 | [],r=>K r
 | (i,c)::p,.lit s xs =>
  match xs[i]? with
  | some x=>match x[c]? with
   | some (.ow m t ys)=>z7w K p (.typ m t ys)
   | some (.oo m t ys j cs)=>z7w K p (.opn m t ys j cs)
   | _=>.no
  | none=>.no
 | (i,c)::p,.typ m t xs =>
  .bnd (xs[i]?) λy=>match (T.ct m t y)[c]? with
   | some (.ow m t ys)=>z7w K p (.typ m t ys)
   | _=>.no
 | (i,c)::p,.opn m t xs j cs =>
  .need (i=j/\j<xs.length) (match cs[c]? with
   | some (.ow m t ys)=>z7w K p (.typ m t ys)
   | _=>.no)
def atT {X:Type}(h:TH T.q)(k:Nat)(p:Path)(K:TR T.El->Rs X):Rs X :=
 match z30 h k with
 | some r=>z7w (λr'=>bif Nat.blt (za T.q r').s 1000000 then K r' else .no) p r
 | none=>.no
theorem z31 {h:H}{cs:List (VT T)}{c:Nat}:(z7 T.q h cs)[c]?=(cs[c]?).map (den T.q h):=by rw [zq,getElem?_map]
theorem z1w {h:H}(cs:List (VT T)):(z7 T.q h cs).length=cs.length:=by rw [zq,length_map]
theorem zxu {m:Bool}{t:Nat}{x:T.El t}{c:Nat}:(T.ca m t x)[c]?=((T.ct m t x)[c]?).map (den T.q []):=by rw [<- T.ct_ok,z31]
theorem z5y {X:Type}{K:TR T.El->Rs X}{v:X}:∀ (p:Path) (r:TR T.El),(z7w K p r).gives v->∃ r',zp (za T.q r).s (za T.q r).xs p=some ((za T.q r').s,(za T.q r').xs)/\(K r').gives v
 | [],r,hg=>⟨r,rfl,hg⟩
 | (i,c)::p,.lit s xs,hg=>by
  simp only [z7w] at hg;split at hg
  ·rename_i x hx;split at hg
   ·rename_i m t ys hy;obtain ⟨r',h1,h2⟩:=z5y p _ hg;refine ⟨r',?_,h2⟩;simp only [za,zp,getElem?_map,hx,map_some,z31,hy,den];exact h1
   ·rename_i m t ys j cs hy;obtain ⟨r',h1,h2⟩:=z5y p _ hg;refine ⟨r',?_,h2⟩;simp only [za,zp,getElem?_map,hx,map_some,z31,hy,den];exact h1
   ·exact hg.elim
  ·exact hg.elim
 | (i,c)::p,.typ m t xs,hg=>by
  obtain ⟨y,hy,hg⟩:=hg;dsimp only at hg;split at hg
  ·rename_i m' t' ys hc;obtain ⟨r',h1,h2⟩:=z5y p _ hg;refine ⟨r',?_,h2⟩;simp only [za,zp,getElem?_map,hy,map_some,zxu,hc,den];exact h1
  ·exact hg.elim
 | (i,c)::p,.opn m t xs j cs,hg=>by
  obtain ⟨⟨rfl,hj⟩,hg⟩:=hg;split at hg
  ·rename_i m' t' ys hc;obtain ⟨r',h1,h2⟩:=z5y p _ hg;refine ⟨r',?_,h2⟩;simp only [za,zp];rw [getElem?_set_self (by simpa using hj)];simp only [z31,hc,map_some,den];exact h1
  ·exact hg.elim
theorem z5o {X:Type}{h:TH T.q}{k:Nat}{p:Path}{K:TR T.El->Rs X}{v:X}(hg:(atT h k p K).gives v):∃ r',res (z5 T.q h) k p=some ((za T.q r').s,(za T.q r').xs)/\(K r').gives v:=by
 unfold atT at hg;split at hg
 ·rename_i r hr;obtain ⟨r',h1,h2⟩:=z5y p r hg;cases hb:Nat.blt (za T.q r').s 1000000 with
  | false=>simp only [hb,cond_false] at h2;exact h2.elim
  | true =>simp only [hb,cond_true] at h2;refine ⟨r',zd6 ?_ (le_of_ble_eq_true hb),h2⟩;simp only [z1j,z1t,hr,map_some];exact h1
 ·exact hg.elim
def nnT:VT T->RT T
 | .un=>.no
 | v=>.ok v
def asc:VT T->Option Value
 | .sc v=>some v
 | .ik k n=>some (.int k n)
 | .bk b=>some (.bool b)
 | _=>none
theorem z2t {h:H}{v:VT T}{u:Value}(hv:asc v=some u):den T.q h v = .sc u:=by cases v<;>simp [asc] at hv<;>subst hv<;>rfl
def z4g:VT T->Bool
 | .ik _ _ | .bk _=>true
 | _=>false
def isK:Value->VT T
 | .int k n=>.ik k n
 | .bool b=>.bk b
 | v=>.sc v
theorem ybc (h:H)(v:Value):den T.q h (isK v) = .sc v:=by cases v<;>rfl
def scR (kn:Bool)(o:Option Value):RT T :=
 match o with
 | some v=>bif kn then .ok (isK v) else .ok (.sc v)
 | none=>.no
theorem zk6 {kn:Bool}{o:Option Value}{v:VT T}(h:H)(hg:(scR (T:=T) kn o).gives v):∃ u,o=some u/\den T.q h v = .sc u:=by
 unfold scR at hg;split at hg
 ·rename_i u;cases kn
  ·simp only [cond_false] at hg;cases hg;exact ⟨u,rfl,rfl⟩
  ·simp only [cond_true] at hg;cases hg;exact ⟨u,rfl,ybc h u⟩
 ·exact hg.elim
def y4y (op:BinOp)(kn:Bool)(a b:Value):RT T :=
 bif kn then scR true (z8m op a b) else
 match op,a,b with
 | .shl,.int k a,.int k' b=>.need (0<=b) (.ok (.sc (.int k (k.wrap (a * 2 ^ min b.toNat k.bits)))))
 | .shr,.int k a,.int k' b=>.need (0<=b) (.ok (.sc (.int k (a.fdiv (2 ^ min b.toNat k.bits)))))
 | .quo,.int k a,.int k' b=>if k=k' then .need (b≠0) (.ok (.sc (.int k (k.wrap (a.tdiv b))))) else .no
 | .rem,.int k a,.int k' b=>if k=k' then .need (b≠0) (.ok (.sc (.int k (a.tmod b)))) else .no
 | .add,.string a,.string b=>.need (a.size+b.size<=9223372036854775807) (.ok (.sc (.string (a++b))))
 | op,a,b=>scR false (z8m op a b)
theorem ya2 {op:BinOp}{kn:Bool}{a b:Value}{v:VT T}(h:H)(hg:(y4y (T:=T) op kn a b).gives v):∃ u,z8m op a b=some u/\den T.q h v = .sc u:=by
 unfold y4y at hg;cases kn
 ·simp only [cond_false] at hg;split at hg
  ·obtain ⟨h1,rfl⟩:=hg;exact ⟨_,by simp [z8m,h1],rfl⟩
  ·obtain ⟨h1,rfl⟩:=hg;exact ⟨_,by simp [z8m,h1],rfl⟩
  ·split at hg
   ·rename_i hk;obtain ⟨h1,rfl⟩:=hg;subst hk;exact ⟨_,by simp [z8m,h1],rfl⟩
   ·exact hg.elim
  ·split at hg
   ·rename_i hk;obtain ⟨h1,rfl⟩:=hg;subst hk;exact ⟨_,by simp [z8m,h1],rfl⟩
   ·exact hg.elim
  ·obtain ⟨h1,rfl⟩:=hg;exact ⟨_,by simp [z8m,h1],rfl⟩
  ·exact zk6 h hg
 ·exact zk6 h hg
def y9w (k:Nat)(p:Path)(i c:Nat):VT T->VT T
 | .ow _ t _=>bif Nat.blt (T.sz t) 1000000 then .sw k (p++[(i,c)]) else .pp (.mr k (p++[(i,c)]))
 | .oo _ t _ _ _=>bif Nat.blt (T.sz t) 1000000 then .sw k (p++[(i,c)]) else .pp (.mr k (p++[(i,c)]))
 | a=>a
def zdb (k:Nat)(p:Path)(i:Nat):Nat->List (VT T)->List (VT T)
 | _,[]=>[]
 | c,a::as=>y9w k p i c a::zdb k p i (c+1) as
def z8i:Bool->List (VT T)->RT T
 | true,cs=>.ok (.ag cs)
 | false,[a]=>.ok a
 | false,_=>.no
def zb8 (cs:List (VT T))(c n:Nat):Option (List (VT T)):=bif Nat.ble (c+n) cs.length then some ((cs.drop c).take n) else none
theorem z7u {agg:Bool}{cs:List (VT T)}{v:VT T}{h:H}(hg:(z8i agg cs).gives v):z44 agg (z7 T.q h cs)=some (den T.q h v):=by
 unfold z8i at hg;split at hg
 ·cases hg;rfl
 ·cases hg;rfl
 ·exact hg.elim
theorem zc6 {cs ds:List (VT T)}{c n:Nat}{h:H}(hs:zb8 cs c n=some ds):c+n<=(z7 T.q h cs).length/\((z7 T.q h cs).drop c).take n=z7 T.q h ds:=by
 unfold zb8 at hs;cases hb:Nat.ble (c+n) cs.length with
 | false=>rw [hb] at hs;cases hs
 | true =>rw [hb] at hs;simp only [cond_true,Option.some.injEq] at hs;subst hs;refine ⟨by rw [z1w];exact le_of_ble_eq_true hb,?_⟩;simp [zq,map_take,map_drop]
def zgx (agg:Bool)(n k:Nat)(p:Path)(i c:Nat)(cs:List (VT T)):RT T :=
 bif z4p (T:=T.q) cs then match zb8 cs c n with | some ds=>z8i agg (zdb k p i c ds) | none=>.no else .no
theorem zvn {h:H}{n:Nat}{x y:VT T}{a b:AV}(hx:n<MB->den T.q h x=a)(hy:¬ n<MB->den T.q h y=b):den T.q h (bif Nat.blt n 1000000 then x else y)=if n<MB then a else b:=by
 by_cases hm:n<MB
 ·have:Nat.blt n 1000000=true:=Nat.ble_eq_true_of_le hm;rw [this,if_pos hm];exact hx hm
 ·have:Nat.blt n 1000000=false:=by cases hb:Nat.blt n 1000000 with | false=>rfl | true=>exact absurd (le_of_ble_eq_true hb) hm
  rw [this,if_neg hm];exact hy hm
theorem zey {h:TH T.q}{k i s:Nat}{p:Path}{ys:Els}{x:List AV}(hr:z1j (z5 T.q h) k p=some (s,ys))(hx:ys[i]?=some x):∀ (ds:List (VT T)) (c:Nat),z4p (T:=T.q) ds=true->(∀ j a,ds[j]?=some a->x[c+j]?=some (den T.q [] a))->z87 k p i c (z7 T.q [] ds)=z7 T.q (z5 T.q h) (zdb k p i c ds)
 | [],c,_,_=>rfl
 | a::ds,c,hi,hj=>by
  simp only [z4p,and_eq_true] at hi;have ih:=zey hr hx ds (c+1) hi.2 (λj b hb=>by have:=hj (j+1) b (by simpa using hb);rwa [show c+(j+1)=c+1+j by omega] at this);have h0:=hj 0 a rfl;rw [Nat.add_zero] at h0
  have hlen:∀ (s2:Nat) (zs:Els),den T.q [] a = .ow s2 zs->zh (z5 T.q h) k (p++[(i,c)])=zs.length:=λs2 zs hz=>by
   rw [hz] at h0
   have hA:z1j (z5 T.q h) k (p++[(i,c)])=some (s2,zs):=by
    unfold z1j at hr ⊢;split at hr
    ·rename_i r hg;rw [zcj p _ _ _ _ _ hr];simp [zp,hx,h0]
    ·cases hr
   unfold zh;rw [hA]
  simp only [z7,z87,zdb,ih];congr 1;cases a<;>first | rfl | (simp [inR] at hi;done) | skip
  all_goals (
   simp only [y9w,den,zxg];refine Eq.symm (zvn (b:=.pp (.mr k (p++[(i,c)]))) (y:=.pp (.mr k (p++[(i,c)]))) (λ_=>?_) (λ_=>rfl));simp only [den];rw [hlen _ _ rfl])
theorem y4h {h:TH T.q}{k i s:Nat}{p:Path}{ys:Els}{x:List AV}(hr:res (z5 T.q h) k p=some (s,ys))(hx:ys[i]?=some x):∀ (ds:List (VT T)) (c:Nat),z4p (T:=T.q) ds=true->(∀ j a,ds[j]?=some a->x[c+j]?=some (den T.q [] a))->z87 k p i c (z7 T.q [] ds)=z7 T.q (z5 T.q h) (zdb k p i c ds)
 :=zey (z83 hr).1 hx
theorem zej {agg:Bool}{n k i c s:Nat}{p:Path}{cs:List (VT T)}{v:VT T}{h:TH T.q}{ys:Els}(hr:res (z5 T.q h) k p=some (s,ys))(hx:ys[i]?=some (z7 T.q [] cs))(hg:(zgx agg n k p i c cs).gives v) :
  (match z5g ys i c n with | some cs=>z44 agg (z87 k p i c cs) | none=>none)=some (den T.q (z5 T.q h) v):=by
 unfold zgx at hg;cases hi:z4p (T:=T.q) cs with
 | false=>rw [hi] at hg;exact hg.elim
 | true =>
  rw [hi] at hg;simp only [cond_true] at hg;split at hg
  ·rename_i ds hd;obtain ⟨q1,q2⟩:=zc6 (h:=[]) hd;simp only [z5g,hx,if_pos q1,q2]
   have hid:z4p (T:=T.q) ds=true:=by
    have key:∀ (cs:List (VT T)),z4p (T:=T.q) cs=true↔∀ x∈cs,inR (T:=T.q) x=true:=by
     intro cs
     induction cs with | nil=>simp [z4p] | cons a l ih=>simp [z4p,ih]
    rw [key] at hi ⊢;intro x hx2;unfold zb8 at hd;cases hb:Nat.ble (c+n) cs.length with
    | false=>rw [hb] at hd;cases hd
    | true =>rw [hb] at hd;simp only [cond_true,Option.some.injEq] at hd;subst hd;exact hi x (List.mem_of_mem_drop (List.mem_of_mem_take hx2))
   rw [y4h (T:=T) hr hx ds c hid (λj a ha=>by
    have e1:(z7 T.q [] ds)[j]?=some (den T.q [] a):=by rw [z31,ha];rfl
    rw [<- q2,List.getElem?_take] at e1;split at e1
    ·rwa [getElem?_drop] at e1
    ·cases e1)]
   exact z7u hg
  ·exact hg.elim
end
section
variable {T:TT}
def zao (xs ys:List (VT T)):List (Nat×Nat)->Option Bool
 | []=>some true
 | (i,q)::is =>
  match (xs[i]?).bind asc,(ys[i]?).bind asc with
  | some a,some b =>
   match zev q a b,zao xs ys is with
   | some r,some r'=>some (r&&r')
   | _,_=>none
  | _,_=>none
theorem zr7 {h:H}{xs:List (VT T)}{i:Nat}{u:Value}(hx:(xs[i]?).bind asc=some u):(z7 T.q h xs)[i]?=some (.sc u):=by
 rw [z31];cases hi:xs[i]? with
 | none=>rw [hi] at hx;cases hx
 | some x =>rw [hi] at hx;simp only [map_some,z2t (h:=h) hx]
theorem zcd {h:H}{xs ys:List (VT T)}:∀ (l:List (Nat×Nat)) (r:Bool),zao xs ys l=some r->z17 (z7 T.q h xs) (z7 T.q h ys) l=some r
 | [],_,h=>h
 | (i,q)::is,r,hr=>by
  unfold zao at hr;split at hr
  ·rename_i a b ha hb;split at hr
   ·rename_i r1 r2 h1 h2;simp only [z17,zr7 (h:=h) ha,zr7 (h:=h) hb,h1,zcd is r2 h2];exact hr
   ·cases hr
  ·cases hr
def zpw:VT T->Bool
 | .sc u=>u.oneCell'
 | .ik _ _ | .bk _ | .zs | .im _ _ | .ip _ _ _ | .sl _ _ _ _ | .sw _ _ | .pt _ _ _ _ | .fn _ _ | .pp _=>true
 | _=>false
def z6x:VT T->Option (List (VT T))
 | .ag cs=>some cs
 | a=>bif zpw a then some [a] else none
theorem z8p {h:H}{v:VT T}{cs:List (VT T)}(hc:z6x v=some cs):cellsOf (den T.q h v)=some (z7 T.q h cs):=by
 cases v<;>simp [z6x,zpw] at hc
 case ag=>subst hc;rfl
 case sc u =>
  cases hu:u.oneCell' with | true=>rw [hu] at hc;simp at hc;subst hc;simp [den,cellsOf,z46,hu,z7] | false=>rw [hu] at hc;simp at hc
 case ik k n=>subst hc;simp [den,cellsOf,z46,z7,Value.oneCell']
 case bk b=>subst hc;simp [den,cellsOf,z46,z7,Value.oneCell']
 case pp q=>subst hc;cases q<;>simp [den,z2j,cellsOf,z46,z7]
 all_goals (subst hc;simp [den,cellsOf,z46,z7])
def zdw (cells:List (VT T)):List (Nat×Nat×VT T)->Option (List (VT T))
 | []=>some cells
 | (off,size,v)::rest =>
  match z6x v with
  | some cs=>bif Nat.beq cs.length size&&Nat.ble (off+size) cells.length then zdw (cells.take off++cs++cells.drop (off+size)) rest else none
  | none=>none
theorem zdx {h:H}:∀ (parts:List (Nat×Nat×VT T)) (cells cs:List (VT T)),zdw cells parts=some cs->z5a (z7 T.q h cells) (parts.map λ(o,n,x)=>(o,n,den T.q h x))=some (z7 T.q h cs)
 | [],cells,cs,hf=>by simp only [zdw,Option.some.injEq] at hf;subst hf;rfl
 | (off,size,v)::rest,cells,cs,hf=>by
  unfold zdw at hf;split at hf
  ·rename_i ds hd;cases hb:(Nat.beq ds.length size&&Nat.ble (off+size) cells.length) with
   | false=>rw [hb] at hf;cases hf
   | true =>rw [hb] at hf;simp only [cond_true] at hf;simp only [and_eq_true] at hb;have h1:=eq_of_beq_eq_true hb.1;have h2:=le_of_ble_eq_true hb.2;have ih:=zdx (h:=h) rest _ _ hf;simp only [map_cons,z5a,z8p (h:=h) hd,z1w];rw [if_pos ⟨h1,h2⟩];rw [<- ih];congr 1;simp [zq,map_take,map_drop]
  ·cases hf
def z4c (l:List Value):List (VT T):=l.map zbm
theorem z5r (h:H)(l:List Value):z7 T.q h (z4c l)=l.map cval:=by rw [zq,z4c,map_map];exact map_congr_left λx _=>zff h x
def z8v:VT T->Option Int
 | .sc (.int _ n)=>some n
 | .ik _ n=>some n
 | _=>none
theorem z71 {h:H}{v:VT T}{n:Int}(hv:z8v v=some n):∃ k,den T.q h v = .sc (.int k n):=by
 unfold z8v at hv;split at hv
 ·cases hv;exact ⟨_,rfl⟩
 ·cases hv;exact ⟨_,rfl⟩
 ·cases hv
theorem zmf {h:H}{v:VT T}{n:Int}(hv:z8v v=some n):zi7 (den T.q h v)=some n:=by obtain ⟨k,hk⟩:=z71 (h:=h) hv;rw [hk];rfl
def zfr:List (VT T)->Option (IntKind×List Int)
 | []=>none
 | [v]=>match asc v with | some (.int k n)=>some (k,[n]) | _=>none
 | v::l=>match asc v,zfr l with | some (.int k n),some (k',ns)=>if k=k' then some (k,n::ns) else none | _,_=>none
theorem zmg {h:H}:∀ (l:List (VT T)) (k:IntKind) (ns:List Int),zfr l=some (k,ns)->z7 T.q h l=ns.map λn=>.sc (.int k n)
 | [],_,_,hl=>by cases hl
 | [v],k,ns,hl=>by
  simp only [zfr] at hl;split at hl
  ·rename_i k n hv;cases hl;simp [z7,z2t (h:=h) hv]
  ·cases hl
 | v::w::l,k,ns,hl=>by
  simp only [zfr] at hl;split at hl
  ·rename_i k1 n1 k2 ns2 hv hl2;split at hl
   ·rename_i hk;subst hk;cases hl;have ih:=zmg (h:=h) (w::l) _ _ hl2;rw [z7,z2t (h:=h) hv,ih];rfl
   ·cases hl
  ·cases hl
def znb:List (VT T)->Option (Nat×List Nat)
 | []=>none
 | [.pt k [] 0 c]=>some (k,[c])
 | .pt k [] 0 c::l=>match znb l with | some (k',cs)=>bif Nat.beq k k' then some (k,c::cs) else none | none=>none
 | _=>none
theorem zpy {h:H}:∀ (l:List (VT T)) (k:Nat) (cs:List Nat),znb l=some (k,cs)->z7 T.q h l=cs.map λc=>.pt k [] 0 c
 | [],k,cs,hl=>by cases hl
 | x::l,k,cs,hl=>by
  unfold znb at hl;split at hl
  ·cases hl
  ·rename_i h0;cases h0;cases hl;rfl
  ·rename_i k0 c0 l0 _ h0;cases h0;split at hl
   ·rename_i k' cs' h1;cases hb:Nat.beq k0 k' with
    | false=>rw [hb] at hl;cases hl
    | true =>rw [hb] at hl;cases hl;rw [<- eq_of_beq_eq_true hb] at h1;have ih:=zpy (h:=h) l _ _ h1;simp only [z7,den,ih,map_cons]
   ·cases hl
  ·cases hl
def zpu (agg:Bool)(n:Nat)(cs:List (VT T))(j:Nat):RT T:=match zb8 cs (j * n) n with | some ds=>z8i agg ds | none=>.no
def ziu (m:Int)(f:Nat->RT T):Nat->Nat->RT T
 | 0,_=>.no
 | n+1,j=>.ite (m==(j:Int)) (f j) (ziu m f n (j+1))
theorem zdl {m:Int}{f:Nat->RT T}{v:VT T}:∀ (n j:Nat),(ziu m f n j).gives v->∃ i:Nat,j<=i/\i<j+n/\m=(i:Int)/\(f i).gives v
 | 0,_,h=>h.elim
 | n+1,j,h=>by
  rcases h with ⟨h1,h2⟩ | ⟨_,h2⟩
  ·exact ⟨j,Nat.le_refl _,by omega,by simpa using h1,h2⟩
  ·obtain ⟨i,q1,q2,q3,q4⟩:=zdl n (j+1) h2;exact ⟨i,by omega,by omega,q3,q4⟩
def yij (agg:Bool)(len n:Nat)(cs:List (VT T))(kn:Bool)(m:Int):RT T :=
 bif kn then (if 0<=m/\m<len then zpu agg n cs m.toNat else .no) else
 match agg,n,zfr cs with
 | false,1,some (k,ns)=>bif Nat.beq ns.length len then .bnd (idx ns m) λy=>.ok (.sc (.int k y)) else .no
 | false,1,none=>match znb cs with
  | some (k,l)=>bif Nat.beq l.length len then .bnd (idx l m) λc=>.ok (.pp (.px k c)) else .no
  | none=>ziu m (zpu agg n cs) len 0
 | _,_,_=>ziu m (zpu agg n cs) len 0
def z6o (o:Option Operand)(e:TE T.q):Option (Option Int) :=
 match o with
 | none=>some none
 | some x=>match z8v (evT e x) with | some n=>some (some n) | none=>none
def z9i (len:Nat)(lo hi:Option Int)(K:Nat->Nat->RT T)(whole:RT T):RT T :=
 match lo,hi with
 | none,none=>whole
 | none,some b=>.need (0<=b/\b<=(len:Int)) (K 0 b.toNat)
 | some a,none=>.need (0<=a/\a<=(len:Int)) (K a.toNat len)
 | some a,some b=>.need (0<=a/\a<=b/\b<=(len:Int)) (K a.toNat b.toNat)
def part {α:Type}(xs:List α)(a b:Nat):List α:=(xs.take b).drop a
def z9x:List (VT T)->Option (List (Option Int))
 | []=>some []
 | x::l=>match z9x l with
  | some r=>match x with
   | .sc (.int .i64 n)=>some (some n::r)
   | .ik .i64 n=>some (some n::r)
   | _=>some (none::r)
  | none=>none
def z3l (l:List (Option Int))(c:Nat):Option Int:=match l[c]? with | some (some n)=>some n | _=>none
theorem zi0 {H0:H}:∀ (cs:List (VT T)) (l:List (Option Int)) (c:Nat) (n:Int),z9x cs=some l->z3l l c=some n->∃ v,cs[c]?=some v/\den T.q H0 v = .sc (.int .i64 n)
 | [],l,c,n,h,hp=>by cases h;simp [z3l] at hp
 | x::cs,l,c,n,h,hp=>by
  unfold z9x at h;split at h
  ·rename_i r hr;have ih:=λc hp=>zi0 (H0:=H0) cs r c n hr hp;cases c with
   | zero =>
    split at h
    ·cases h;simp only [z3l,getElem?_cons_zero,Option.some.injEq] at hp;subst hp;exact ⟨_,rfl,rfl⟩
    ·cases h;simp only [z3l,getElem?_cons_zero,Option.some.injEq] at hp;subst hp;exact ⟨_,rfl,rfl⟩
    ·cases h;simp [z3l] at hp
   | succ c =>
    have key:z3l r c=some n:=by split at h<;>(cases h;simpa [z3l] using hp)
    obtain ⟨v,h1,h2⟩:=ih c key;exact ⟨v,by simpa using h1,h2⟩
  ·cases h
def zwp:List (List (VT T))->Option (List Int)
 | []=>some []
 | [x]::l=>match asc x,zwp l with | some (.int .u8 n),some ns=>some (n::ns) | _,_=>none
 | _=>none
theorem zcb:∀ ns:List Int,z48 (ns.map λn=>[AV.sc (.int .u8 n)])=some ns
 | []=>rfl
 | n::ns=>by simp only [map_cons,z48,zcb ns]
theorem zuh {H0:H}:∀ (l:List (List (VT T))) (ns:List Int),zwp l=some ns->z48 (l.map (z7 T.q H0))=some ns
 | [],ns,h=>by cases h;rfl
 | []::l,ns,h=>by cases h
 | [x]::l,ns,h=>by
  simp only [zwp] at h;split at h
  ·rename_i n ms h1 h2;cases h;simp only [map_cons,z7,z2t h1,z48,zuh l ms h2]
  ·cases h
 | (_::_::_)::l,ns,h=>by cases h
def z7p:List Kd->List (VT T)->List (VT T)
 | .im t::ks,.zs::l=>.im t []::z7p ks l
 | _::ks,v::l=>v::z7p ks l
 | _,l=>l
def z2v {α:Type}(f:α->Bool):List α->Option (Nat×α)
 | []=>none
 | x::l=>bif f x then some (0,x) else match z2v f l with | some (i,y)=>some (i+1,y) | none=>none
def zwn:List (VT T)->Option (List Value)
 | []=>some []
 | x::l=>match asc x,zwn l with | some v,some vs=>some (v::vs) | _,_=>none
def zfv (n:Nat):VT T->Option (List (VT T))
 | .ag cs=>bif Nat.beq n 1 then none else some cs
 | a=>bif zpw a then some [a] else none
def zwl (n:Nat)(x:VT T):Option (List Value):=match zfv n x with | some cs=>bif Nat.beq cs.length n then zwn cs else none | none=>none
def zko:List Nat->List Nat->Bool
 | [],[]=>true
 | a::l,b::m=>Nat.beq a b&&zko l m
 | _,_=>false
def owK:Kd->Bool
 | .ow _ _=>true
 | _=>false
def zgz:List (VT T)->Bool
 | []=>true
 | .ow _ _ _::_ | .oo _ _ _ _ _::_=>false
 | _::l=>zgz l
def zpn (agg ok:Bool)(b:VT T)(cs:List (VT T)):RT T :=
 match agg,cs with
 | true,cs=>.ok (bif ok then .tu [.ag cs,b] else .ag cs)
 | false,[a]=>.ok (bif ok then .tu [a,b] else a)
 | false,_=>.no
def yjp (agg ok:Bool)(zero:List Value)(k:Nat)(p:Path)(kv:List Value)(ks:List Nat)(m:Bool)(t:Nat)(xs:List (T.El t)):RT T :=
 bif (T.ks m t).any owK then
  .ite (xs.any (T.kf t kv)) (.bnd (z2v (T.kf t kv) xs) λr=>zpn agg ok (.bk true) (zdb k p r.1 ks.length ((T.ct m t r.2).drop ks.length)))
   (zpn agg ok (.bk false) (z4c zero))
 else match T.un m t (kv.map .sc++z7p ((T.ks m t).drop ks.length) (z4c zero)) with
  | some z=>bif zgz (T.ct m t ((xs.find? (T.kf t kv)).getD z)) then zpn agg ok (.sc (.bool (xs.any (T.kf t kv)))) ((T.ct m t ((xs.find? (T.kf t kv)).getD z)).drop ks.length) else .no
  | none=>.no
def atM {X:Type}(h:TH T.q)(k:Nat)(p:Path)(K:TR T.El->Rs X):Rs X :=
 match z30 h k with
 | some r=>z7w (λr'=>bif Nat.blt (za T.q r').s 1000000 then .no else K r') p r
 | none=>.no
def rdT (e:TE T.q)(h:TH T.q):IB->RT T
 | .mov x=>nnT (evT e x)
 | .pick c a b =>
  match evT e c with
  | .bk true=>nnT (evT e a)
  | .bk false=>nnT (evT e b)
  | .sc (.bool t)=>.ite t (nnT (evT e a)) (nnT (evT e b))
  | _=>.no
 | .bin op x y =>
  match asc (evT e x),asc (evT e y) with
  | some a,some b=>bif z4g (evT e y) then scR (z4g (evT e x)) (z8m op a b) else y4y op false a b
  | _,_=>.no
 | .beq neg x y =>
  match asc (evT e x),asc (evT e y) with
  | some (.bool a),some (.bool b)=>scR (z4g (evT e x)&&z4g (evT e y)) (some (.bool (if neg then a != b else a==b)))
  | _,_=>.no
 | .eqs neg n plan x y =>
  match evT e x,evT e y with
  | .ag xs,.ag ys =>
   bif Nat.beq xs.length n&&Nat.beq ys.length n then match zao xs ys plan with | some r=>.ok (.sc (.bool (if neg then !r else r))) | none=>.no else .no
  | _,_=>.no
 | .un1 op x =>
  match op,asc (evT e x) with
  | .not,some (.bool b)=>scR (z4g (evT e x)) (some (.bool (!b)))
  | .neg,some (.int k n)=>scR (z4g (evT e x)) (some (.int k (k.wrap (0 - n))))
  | .xor,some (.int k n)=>scR (z4g (evT e x)) (some (.int k (ycd k n)))
  | _,_=>.no
 | .cvt k x =>
  match asc (evT e x) with
  | some (.int _ n)=>scR (z4g (evT e x)) (some (.int k (k.wrap n)))
  | _=>.no
 | .fad off x =>
  match evT e x with
  | .pt k p i c=>.ok (.pt k p i (c+off))
  | .ip s cs c=>.ok (.ip s cs (c+off))
  | .pp (.xp b x c)=>.ok (.pp (.xp b x (c+off)))
  | _=>.no
 | .aad len n x i =>
  match evT e x,z8v (evT e i) with
  | .pt k p o c,some m=>bif z4g (evT e i) then (if 0<=m/\m<(len:Int) then .ok (.pt k p o (c+m.toNat * n)) else .no) else ziu m (λj=>.ok (.pt k p o (c+j * n))) len 0
  | _,_=>.no
 | .iad s x i =>
  match z8v (evT e i) with
  | none=>.no
  | some n =>
  match evT e x with
  | .im t xs=>bif Nat.beq (T.sz t) s then .bnd (idx xs n) λy=>.ok (.ip s (T.ct false t y) 0) else .no
  | .sw k p=>atT h k p fun
   | .lit s' xs=>bif Nat.beq s' s then bif z4g (evT e i) then (if 0<=n/\n<(xs.length:Int) then .ok (.pt k p n.toNat 0) else .no) else .need (0<=n/\n<(xs.length:Int)) (.ok (.pt k p n.toNat 0)) else .no
   | .typ _ t xs=>bif Nat.beq (T.sz t) s then .need (0<=n/\n<(xs.length:Int)) (.ok (.pt k p n.toNat 0)) else .no
   | .opn _ t xs _ _=>bif Nat.beq (T.sz t) s then .need (0<=n/\n<(xs.length:Int)) (.ok (.pt k p n.toNat 0)) else .no
  | .sl k p off len=>atT h k p λr=>bif Nat.beq (za T.q r).s s then .need (0<=n/\n<(len:Int)) (.ok (.pt k p (off+n.toNat) 0)) else .no
  | .pp (.fs k cs)=>bif Nat.beq s 1 then .need (0<=n/\n<(cs.length:Int)) (.ok (.pp (.fp k cs n.toNat))) else .no
  | _=>.no
 | .load agg n x =>
  match evT e x with
  | .pt k p i c=>atT h k p fun
   | .lit s xs=>match xs[i]? with | some cs=>zgx agg n k p i c cs | none=>.no
   | .typ m t xs=>.bnd (xs[i]?) λy=>zgx agg n k p i c (T.ct m t y)
   | .opn m t xs j cs=>.need (i=j/\j<xs.length) (zgx agg n k p i c cs)
  | .ip s cs c=>bif z4p (T:=T.q) cs then match zb8 cs c n with | some ds=>bif z4p (T:=T.q) ds then z8i agg ds else .no | none=>.no else .no
  | .pp (.xp _ x c)=>bif Nat.ble (c+n) x.length then z8i agg (((x.drop c).take n).map .sc) else .no
  | .pp (.fp k cs i)=>bif Nat.beq n 1&&!agg then .bnd (cs[i]?) λc=>.ok (.pp (.px k c)) else .no
  | .pp (.px k c)=>bif Nat.beq n 1&&!agg then (match z30 h k with
   | some (.lit s (cs::_))=>bif Nat.blt s 1000000 then match z9x cs with | some l=>.bnd (z3l l c) λy=>.ok (.sc (.int .i64 y)) | none=>.no else .no
   | _=>.no) else .no
  | _=>.no
 | .fld agg off n x =>
  match evT e x with
  | .ag cs=>match zb8 cs off n with | some ds=>z8i agg ds | none=>.no
  | _=>.no
 | .ida agg len n x i =>
  match evT e x,z8v (evT e i) with
  | .ag cs,some m=>yij agg len n cs (z4g (evT e i)) m
  | _,_=>.no
 | .ids x i =>
  match evT e x,z8v (evT e i) with
  | .sc (.string s),some m=>.need (0<=m/\m<(s.size:Int)) (.ok (.sc (.int .u8 (zd s m))))
  | _,_=>.no
 | .len x =>
  match evT e x with
  | .sl _ _ _ len=>.ok (.sc (.int .i64 len))
  | .sw k p=>atT h k p fun
   | .lit _ xs=>.ok (.ik .i64 xs.length)
   | .typ _ _ xs=>.ok (.sc (.int .i64 xs.length))
   | .opn _ _ xs _ _=>.ok (.sc (.int .i64 xs.length))
  | .im _ xs=>.ok (.sc (.int .i64 xs.length))
  | .pp (.fs _ cs)=>.ok (.sc (.int .i64 cs.length))
  | .zs=>.ok (.ik .i64 0)
  | _=>.no
 | .lens x =>
  match evT e x with
  | .sc (.string s)=>.ok (.sc (.int .i64 s.size))
  | _=>.no
 | .b2s x =>
  match evT e x with
  | .im t xs=>if hh:t=T.u8 then .ok (.sc (.string (z91 (T.sb (hh ▸ xs))))) else .no
  | .zs=>.ok (.sc (.string (z91 [])))
  | .sw k p=>atT h k p fun
   | .typ _ t xs=>if hh:t=T.u8 then .ok (.sc (.string (z91 (T.sb (hh ▸ xs))))) else .no
   | .lit s xs=>bif Nat.beq s 1 then match zwp xs with | some ns=>.ok (.sc (.string (z91 ns))) | none=>.no else .no
   | _=>.no
  | _=>.no
 | .lku nv ks agg ok zero x key =>
  match evT e x,zwl ks.length (evT e key) with
  | .pp (.mr k p),some kv=>atM h k p fun
   | .typ m t xs=>bif Nat.beq (T.sz t) (z4h ks.length nv)&&(zko (T.kq t) ks&&T.kOk t kv) then yjp agg ok zero k p kv ks m t xs else .no
   | _=>.no
  | _,_=>.no
 | .ext n x =>
  match evT e x with
  | .tu vs=>match vs[n]? with | some a=>nnT a | none=>.no
  | _=>.no
 | .nchk x =>
  match evT e x with
  | .pt k p i c=>.ok (.pt k p i c)
  | .ip s cs c=>.ok (.ip s cs c)
  | .pp (.xp b x c)=>.ok (.pp (.xp b x c))
  | .pp (.px k c)=>.ok (.pp (.px k c))
  | .fn f caps=>.ok (.fn f caps)
  | _=>.no
 | .slc s x lo hi =>
  match z6o lo e,z6o hi e with
  | some lo,some hi =>
   match evT e x with
   | .sl k p off len=>atT h k p λr=>bif Nat.beq (za T.q r).s s then z9i len lo hi (λa b=>.ok (.sl k p (off+a) (b - a))) (.ok (.sl k p off len)) else .no
   | .sw k p=>atT h k p fun
    | .lit s' xs=>bif Nat.beq s' s then z9i xs.length lo hi (λa b=>.ok (.sl k p a (b - a))) (.ok (.sw k p)) else .no
    | .typ _ t xs=>bif Nat.beq (T.sz t) s then z9i xs.length lo hi (λa b=>.ok (.sl k p a (b - a))) (.ok (.sw k p)) else .no
    | .opn _ t xs _ _=>bif Nat.beq (T.sz t) s then z9i xs.length lo hi (λa b=>.ok (.sl k p a (b - a))) (.ok (.sw k p)) else .no
   | .im t xs=>bif Nat.beq (T.sz t) s then z9i xs.length lo hi (λa b=>.ok (.im t (part xs a b))) (.ok (.im t xs)) else .no
   | .zs=>z9i 0 lo hi (λa b=>.ok .zs) (.ok .zs)
   | _=>.no
  | _,_=>.no
 | .slc0 x =>
  match evT e x with
  | .sl _ _ _ _ | .sw _ _ | .im _ _ | .zs=>.ok .zs
  | _=>.no
 | .sls x lo hi =>
  match z6o lo e,z6o hi e,evT e x with
  | some lo,some hi,.sc (.string s)=>z9i s.size lo hi (λa b=>.ok (.sc (.string (s.extract a b)))) (.ok (.sc (.string s)))
  | _,_,_=>.no
 | .build zero parts =>
  match zdw (z4c zero) (parts.map λ(o,n,x)=>(o,n,evT e x)) with
  | some cs=>.ok (.ag cs)
  | none=>.no
 | .mkf f caps=>bif caps.all (λx=>match evT e x with | .un=>false | _=>true) then .ok (.fn f (caps.map (evT e))) else .no
 | .mm isMax x y =>
  match asc (evT e x),asc (evT e y) with
  | some (.int k a),some (.int k' b)=>if k=k' then scR (z4g (evT e x)&&z4g (evT e y)) (some (.int k (if isMax then (if b > a then b else a) else (if b<a then b else a)))) else .no
  | _,_=>.no
 | _=>.no
end
section
variable {T:TT}
theorem zd1 {h:H}{x v:VT T}(hg:(nnT x).gives v):nn (den T.q h x)=some (den T.q h v):=by cases x<;>first | exact hg.elim | (cases hg;rfl) | (rename_i q;cases hg;cases q<;>rfl) | (cases hg;simp [den,nn])
theorem zn {X:Type}{b:Bool}{x:Rs X}{v:X}(hg:(bif b then x else .no).gives v):b=true/\x.gives v:=by
 cases b
 ·exact hg.elim
 ·exact ⟨rfl,hg⟩
theorem zbu {X:Type}{p:Prop}[Decidable p]{x:Rs X}{v:X}(hg:(if p then x else .no).gives v):p/\x.gives v:=by
 split at hg
 ·exact ⟨by assumption,hg⟩
 ·exact hg.elim
theorem z8n {kn:Bool}{u:Value}{v:VT T}(h:H)(hg:(scR (T:=T) kn (some u)).gives v):den T.q h v = .sc u:=by obtain ⟨u',h1,h2⟩:=zk6 h hg;cases h1;exact h2
theorem y4f {h:H}{e:TE T.q}{o:Option Operand}{r:Option Int}(ho:z6o o e=some r):loV (o.map (ev (z8 T.q h e)))=some (r.getD 0):=by
 unfold z6o at ho;cases o with
 | none=>cases ho;rfl
 | some x =>
  simp only at ho;split at ho
  ·rename_i n hn;cases ho;simp only [map_some,loV,zg,zmf hn,getD_some]
  ·cases ho
theorem y4e {h:H}{e:TE T.q}{o:Option Operand}{r:Option Int}{len:Nat}(ho:z6o o e=some r):hiV len (o.map (ev (z8 T.q h e)))=some (r.getD len):=by
 unfold z6o at ho;cases o with
 | none=>cases ho;rfl
 | some x =>
  simp only at ho;split at ho
  ·rename_i n hn;cases ho;simp only [map_some,hiV,zg,zmf hn,getD_some]
  ·cases ho
theorem zgk {h:H}{e:TE T.q}{len:Nat}{lo hi:Option Operand}{a b:Option Int}{K:Nat->Nat->RT T}{whole:RT T}{v:VT T}(ha:z6o lo e=some a)(hb:z6o hi e=some b)(hg:(z9i len a b K whole).gives v) :
  ∃ l m:Nat,z6m len (lo.map (ev (z8 T.q h e))) (hi.map (ev (z8 T.q h e)))=some (l,m)/\l<=m/\m<=len/\((K l m).gives v\/(l=0/\m=len/\whole.gives v)):=by
 have h1:=y4f (h:=h) ha;have h2:=y4e (h:=h) (len:=len) hb;unfold z9i at hg;split at hg
 ·refine ⟨0,len,by simpa using zbg h1 h2 (by simp),zero_le _,Nat.le_refl _,.inr ⟨rfl,rfl,hg⟩⟩
 ·obtain ⟨hc,hg⟩:=hg;exact ⟨_,_,by simpa using zbg h1 h2 (by simp;omega),zero_le _,by omega,.inl hg⟩
 ·obtain ⟨hc,hg⟩:=hg;exact ⟨_,_,by simpa using zbg h1 h2 (by simp;omega),by omega,Nat.le_refl _,.inl hg⟩
 ·obtain ⟨hc,hg⟩:=hg;exact ⟨_,_,by simpa using zbg h1 h2 (by simp;omega),by omega,by omega,.inl hg⟩
theorem y6o {α β:Type}(f:α->β)(xs:List α)(a b:Nat):(part xs a b).map f=((xs.map f).take b).drop a:=by simp [part,map_drop,map_take]
theorem zce {α:Type}{f:α->Bool}{g:α->List AV}{ks:List Nat}{kc:List AV}(hf:∀ x,z17 kc (g x) (z2p 0 ks)=some (f x)):∀ (xs:List α) (i:Nat),z4u ks kc (xs.map g) i=some (match z2v f xs with | some (j,x)=>some (i+j,g x) | none=>none)
 | [],i=>rfl
 | x::l,i=>by
  simp only [map_cons,z4u,hf x,z2v];cases f x with
  | true=>rfl
  | false =>simp only [cond_false];rw [zce hf l (i+1)];cases z2v f l with | none=>rfl | some r=>simp only;rw [show i+1+r.1=i+(r.1+1) by omega]
theorem zfm {α:Type}(f:α->Bool):∀ (xs:List α),xs.any f=(z2v f xs).isSome
 | []=>rfl
 | x::l=>by
  simp only [any_cons,z2v,zfm f l];cases f x with
  | true=>rfl
  | false=>simp only [Bool.false_or,cond_false];cases z2v f l<;>rfl
theorem zjb {α:Type}(f:α->Bool):∀ (xs:List α),xs.find? f=(z2v f xs).map (·.2)
 | []=>rfl
 | x::l=>by
  simp only [List.find?_cons,z2v,zjb f l];cases f x with
  | true=>rfl
  | false=>simp only [cond_false];cases z2v f l<;>rfl
theorem zbp {α:Type}(f:α->Bool):∀ (xs:List α) (j:Nat) (x:α),z2v f xs=some (j,x)->xs[j]?=some x/\f x=true
 | [],j,x,h=>by cases h
 | y::l,j,x,h=>by
  unfold z2v at h;cases hf:f y with
  | true=>rw [hf] at h;cases h;exact ⟨rfl,hf⟩
  | false =>
   rw [hf] at h;simp only [cond_false] at h;split at h
   ·rename_i i z hz;cases h;have:=zbp f l i _ hz;exact ⟨by simpa using this.1,this.2⟩
   ·cases h
theorem zug {h:H}:∀ (l:List (VT T)) (vs:List Value),zwn l=some vs->z7 T.q h l=vs.map .sc
 | [],vs,hs=>by cases hs;rfl
 | x::l,vs,hs=>by
  unfold zwn at hs;split at hs
  ·rename_i v us hv hu;cases hs;simp only [z7,z2t (h:=h) hv,zug l us hu,map_cons]
  ·cases hs
theorem zue {h:H}{n:Nat}{x:VT T}{kv:List Value}(hk:zwl n x=some kv):z35 n (den T.q h x)=some (kv.map .sc)/\kv.length=n:=by
 unfold zwl at hk;split at hk
 ·rename_i cs hc;cases hb:Nat.beq cs.length n with
  | false=>rw [hb] at hk;cases hk
  | true =>
   rw [hb] at hk;have hl:=eq_of_beq_eq_true hb;have h1:=zug (h:=h) cs kv hk
   have h2:kv.length=n:=by have:=congrArg length h1;rw [z1w,length_map] at this;omega
   refine ⟨?_,h2⟩;rw [<- h1];cases x<;>simp [zfv,zpw] at hc
   case ag cs' =>
    cases hn:Nat.beq n 1 with
    | true=>rw [hn] at hc;simp at hc
    | false =>rw [hn] at hc;simp at hc;subst hc;simp only [den,z35];rw [if_neg (λe=>by rw [e] at hn;cases hn)]
   case sc u =>
    cases hu:u.oneCell' with | true=>rw [hu] at hc;simp at hc;subst hc;simp [den,z35,z46,hu,z7] | false=>rw [hu] at hc;simp at hc
   case ik k n=>subst hc;simp [den,z35,z46,z7,Value.oneCell']
   case bk b=>subst hc;simp [den,z35,z46,z7,Value.oneCell']
   case pp q=>subst hc;cases q<;>simp [den,z2j,z35,z46,z7]
   all_goals (subst hc;simp [den,z35,z46,z7])
 ·cases hk
theorem zgn:∀ (a b:List Nat),zko a b=true->a=b
 | [],[],_=>rfl
 | a::l,b::m,h=>by simp only [zko,and_eq_true] at h;rw [eq_of_beq_eq_true h.1,zgn l m h.2]
 | [],_::_,h=>by cases h
 | _::_,[],h=>by cases h
theorem yc2 {X:Type}{h:TH T.q}{k:Nat}{p:Path}{K:TR T.El->Rs X}{v:X}(hg:(atM h k p K).gives v):∃ r',z8k (z5 T.q h) k p=some ((za T.q r').s,(za T.q r').xs)/\(K r').gives v:=by
 unfold atM at hg;split at hg
 ·rename_i r hr;obtain ⟨r',h1,h2⟩:=z5y p r hg;cases hb:Nat.blt (za T.q r').s 1000000 with
  | true=>simp only [hb,cond_true] at h2;exact h2.elim
  | false =>
   simp only [hb,cond_false] at h2;refine ⟨r',ybs ?_ (λhm=>?_),h2⟩
   ·simp only [z1j,z1t,hr,map_some];exact h1
   ·have:Nat.blt (za T.q r').s 1000000=true:=Nat.ble_eq_true_of_le hm;rw [this] at hb;cases hb
 ·exact hg.elim
theorem z2l.refl:∀ l:List AV,z2l l l
 | []=>.nil
 | a::l=>.cons (zb.refl a) (z2l.refl l)
theorem zm9 (h:H):∀ (ks:List Kd) (l:List (VT T)),z2l (z7 T.q h l) (z7 T.q h (z7p ks l))
 | [],[]=>.nil
 | [],x::l=>z2l.refl _
 | k::ks,[]=>by cases k<;>exact .nil
 | k::ks,v::l=>by
  have ih:=zm9 h ks l;cases k with
  | im t=>cases v<;>first | exact .cons (zb.refl _) ih | exact .cons (zb.zsIm _) ih
  | no=>exact .cons (zb.refl _) ih
  | ow m t=>exact .cons (zb.refl _) ih
theorem zgw {agg ok b:Bool}{cs:List (VT T)}{bv v:VT T}{as:List AV}{h:H}(hb:den T.q h bv = .sc (.bool b))(hl:z2l as (z7 T.q h cs))(hg:(zpn agg ok bv cs).gives v):∃ av,zei agg ok b as=some av/\zb av (den T.q h v):=by
 unfold zpn at hg;split at hg
 ·unfold zei;cases ok with | true=>cases hg;exact ⟨_,rfl,by simp only [den,z7,hb,cond_true];exact zb.tu (z2l.cons (zb.ag hl.C) (.cons (zb.refl _) .nil)).L⟩ | false=>cases hg;exact ⟨_,rfl,by simp only [den,cond_false];exact zb.ag hl.C⟩
 ·rename_i a;cases hl with
  | cons h1 h2 =>cases h2;unfold zei;cases ok with | true=>cases hg;exact ⟨_,rfl,by simp only [den,z7,hb,cond_true];exact zb.tu (z2l.cons h1 (.cons (zb.refl _) .nil)).L⟩ | false=>cases hg;exact ⟨_,rfl,h1⟩
 ·exact hg.elim
theorem zjx {H0:H}{k i:Nat}{p:Path}:∀ (cs:List (VT T)) (c:Nat),zgz cs=true->z4p (T:=T.q) cs=true->z87 k p i c (z7 T.q [] cs)=z7 T.q H0 cs
 | [],_,_,_=>rfl
 | x::l,c,hn,hi=>by
  simp only [z4p,and_eq_true] at hi;have hn':zgz l=true:=by cases x<;>first | exact hn | cases hn
  have ih:=zjx (H0:=H0) (k:=k) (i:=i) (p:=p) l (c+1) hn' hi.2;simp only [z7,z87,ih];congr 1;cases x<;>first | rfl | (simp [inR] at hi;done) | (cases hn;done)
theorem zmn:∀ (cs:List (VT T)) (n:Nat),zgz cs=true->zgz (cs.drop n)=true
 | [],n,_=>by cases n<;>rfl
 | x::l,0,h=>h
 | x::l,n+1,h=>zmn l n (by cases x<;>first | exact h | cases h)
theorem zbt:∀ (cs:List (VT T)) (n:Nat),z4p (T:=T.q) cs=true->z4p (T:=T.q) (cs.drop n)=true
 | [],n,_=>by cases n<;>rfl
 | x::l,0,h=>h
 | x::l,n+1,h=>zbt l n (Bool.and_eq_true_iff.1 h).2
theorem zq2 {e:TE T.q}{h:TH T.q}{b:IB}{v:VT T}(hg:(rdT e h b).gives v) :
  ∃ av,zi (ev (z8 T.q (z5 T.q h) e)) (res (z5 T.q h)) b=some av/\zb av (den T.q (z5 T.q h) v):=by
 have fin:∀ {o:Option AV} {w:VT T},o=some (den T.q (z5 T.q h) w)->∃ av,o=some av/\zb av (den T.q (z5 T.q h) w):=λho=>⟨_,ho,zb.refl _⟩
 have sc:∀ {o:Option AV} {w:VT T} {u:Value},o=some (.sc u)->den T.q (z5 T.q h) w = .sc u->∃ av,o=some av/\zb av (den T.q (z5 T.q h) w):=λho hw=>⟨_,ho,by rw [hw];exact zb.refl _⟩
 cases b with
 | mov x=>exact fin (by simp only [zi,zg];exact zd1 hg)
 | pick c a b =>
  simp only [rdT] at hg;split at hg
  ·rename_i hc;exact fin (by simp only [zi,zg,hc,den,if_true];exact zd1 hg)
  ·rename_i hc;exact fin (by simp only [zi,zg,hc,den,false_eq_true,if_false];exact zd1 hg)
  ·rename_i t hc;rcases hg with ⟨rfl,hg⟩ | ⟨rfl,hg⟩
   ·exact fin (by simp only [zi,zg,hc,den,if_true];exact zd1 hg)
   ·exact fin (by simp only [zi,zg,hc,den,false_eq_true,if_false];exact zd1 hg)
  ·exact hg.elim
 | bin op x y =>
  simp only [rdT] at hg;split at hg
  ·rename_i a b ha hb
   have key:∃ u,z8m op a b=some u/\den T.q (z5 T.q h) v = .sc u:=by cases hk:z4g (evT e y) with | true=>rw [hk,cond_true] at hg;exact zk6 _ hg | false=>rw [hk,cond_false] at hg;exact ya2 _ hg
   obtain ⟨u,h1,h2⟩:=key;exact sc (by simp only [zi,zg,z2t ha,z2t hb,h1]) h2
  ·exact hg.elim
 | beq neg x y =>
  simp only [rdT] at hg;split at hg
  ·rename_i a b ha hb;exact sc (by simp only [zi,zg,z2t ha,z2t hb]) (z8n _ hg)
  ·exact hg.elim
 | eqs neg n plan x y =>
  simp only [rdT] at hg;split at hg
  ·rename_i xs ys hx hy;obtain ⟨h1,hg⟩:=zn hg;simp only [and_eq_true] at h1;split at hg
   ·rename_i r hr;cases hg
    exact fin (by simp only [zi,zg,hx,hy,den,z1w];rw [if_pos ⟨eq_of_beq_eq_true h1.1,eq_of_beq_eq_true h1.2⟩,zcd _ _ hr])
   ·exact hg.elim
  ·exact hg.elim
 | un1 op x =>
  simp only [rdT] at hg;split at hg
  ·rename_i b hb;exact sc (by simp only [zi,zg,z2t hb]) (z8n _ hg)
  ·rename_i k n hb;exact sc (by simp only [zi,zg,z2t hb]) (z8n _ hg)
  ·rename_i k n hb;exact sc (by simp only [zi,zg,z2t hb]) (z8n _ hg)
  ·exact hg.elim
 | cvt k x =>
  simp only [rdT] at hg;split at hg
  ·rename_i k' n hb;exact sc (by simp only [zi,zg,z2t hb]) (z8n _ hg)
  ·exact hg.elim
 | fad off x =>
  simp only [rdT] at hg;split at hg
  ·rename_i k p i c hx;cases hg;exact fin (by simp only [zi,zg,hx,den])
  ·rename_i s cs c hx;cases hg;exact fin (by simp only [zi,zg,hx,den])
  ·rename_i b x' c hx;cases hg;exact fin (by simp only [zi,zg,hx,den,z2j])
  ·exact hg.elim
 | iad s x i =>
  simp only [rdT] at hg;split at hg
  ·exact hg.elim
  ·rename_i n hn;obtain ⟨kk,hi⟩:=z71 (h:=z5 T.q h) hn;split at hg
   ·rename_i t xs hx;obtain ⟨hs,hg⟩:=zn hg;obtain ⟨y,hy,hg⟩:=hg;cases hg;obtain ⟨h0,h1,h2⟩:=ze7 hy;have hlt:n<((xs.map (T.ca false t)).length:Int):=by rw [length_map];omega
    refine ⟨.ip s (xs.map (T.ca false t)) n.toNat 0,?_,?_⟩
    ·simp only [zi,zg,hx,hi,den];rw [if_pos ⟨eq_of_beq_eq_true hs,h0,hlt⟩]
    ·have:den T.q (z5 T.q h) (.ip s (T.ct false t y) 0) = .ip s [T.ca false t y] 0 0:=by simp only [den,T.ct_ok]
     rw [this];exact zb.ip (by rw [getElem?_map,h2];rfl)
   ·rename_i k p hx;obtain ⟨r',hr,hg⟩:=z5o hg;have hl:zh (z5 T.q h) k p=(za T.q r').xs.length:=z5u hr
    have key:∀ (s':Nat) (len:Nat),(za T.q r').s=s'->(za T.q r').xs.length=len->s'=s->0<=n/\n<(len:Int)->∃ av,zi (ev (z8 T.q (z5 T.q h) e)) (res (z5 T.q h)) (.iad s x i)=some av/\zb av (den T.q (z5 T.q h) (.pt k p n.toNat 0)):=by intro s' len e1 e2 e3 e4;refine fin ?_;simp only [zi,zg,hx,hi,den,hl,e2];rw [if_pos e4,hr];simp [e1,e3]
    split at hg
    ·rename_i s' xs;obtain ⟨hs,hg⟩:=zn hg
     have:(0<=n/\n<(xs.length:Int))/\v = .pt k p n.toNat 0:=by cases hk:z4g (evT e i) with | true=>rw [hk] at hg;exact zbu hg | false=>rw [hk] at hg;exact hg
     obtain ⟨hc,rfl⟩:=this;exact key s' xs.length rfl (by simp [za]) (eq_of_beq_eq_true hs) hc
    ·rename_i m t xs;obtain ⟨hs,hc,rfl⟩:=zn hg;exact key _ xs.length rfl (by simp [za]) (eq_of_beq_eq_true hs) hc
    ·rename_i m t xs _ _;obtain ⟨hs,hc,rfl⟩:=zn hg;exact key _ xs.length rfl (by simp [za]) (eq_of_beq_eq_true hs) hc
   ·rename_i k p off len hx;obtain ⟨r',hr,hg⟩:=z5o hg;obtain ⟨hs,hc,rfl⟩:=zn hg;refine fin ?_;simp only [zi,zg,hx,hi,den];rw [if_pos hc,hr];simp [eq_of_beq_eq_true hs]
   ·rename_i k cs hx;obtain ⟨hs,hc,rfl⟩:=zn hg;refine fin ?_;simp only [zi,zg,hx,hi,den,z2j];rw [if_pos ⟨eq_of_beq_eq_true hs,hc⟩]
   ·exact hg.elim
 | load agg n x =>
  simp only [rdT] at hg;split at hg
  ·rename_i k p i c hx;obtain ⟨r',hr,hg⟩:=z5o hg;refine fin ?_;simp only [zi,zg,hx,den,hr];split at hg
   ·rename_i s xs;split at hg
    ·rename_i cs hcs;exact zej (T:=T) hr (by simp [za,hcs]) hg
    ·exact hg.elim
   ·rename_i m t xs;obtain ⟨y,hy,hg⟩:=hg;exact zej (T:=T) hr (by simp [za,hy,T.ct_ok]) hg
   ·rename_i m t xs j cs;obtain ⟨⟨rfl,hj⟩,hg⟩:=hg;exact zej (T:=T) hr (by simp only [za];rw [getElem?_set_self (by simpa using hj)]) hg
  ·rename_i s cs c hx;obtain ⟨hi,hg⟩:=zn hg;split at hg
   ·rename_i ds hd;obtain ⟨hid,hg⟩:=zn hg;obtain ⟨q1,q2⟩:=zc6 (h:=[]) hd;refine fin ?_;simp only [zi,zg,hx,den,z5g,getElem?_cons_zero];rw [if_pos q1,q2];have:=z7u (h:=z5 T.q h) hg
    rwa [zkn (z5 T.q h) [] ds hid] at this
   ·exact hg.elim
  ·rename_i b x' c hx;obtain ⟨hl,hg⟩:=zn hg;refine fin ?_;simp only [zi,zg,hx,den,z2j];rw [if_pos (le_of_ble_eq_true hl)];have:=z7u (h:=z5 T.q h) hg;rw [<- this,zq,map_map];rfl
  ·rename_i k cs i hx;obtain ⟨hb,c,hc,hg⟩:=zn hg;cases hg;simp only [and_eq_true,not_eq_true'] at hb;refine fin ?_;simp only [zi,zg,hx,den,z2j,hc];rw [if_pos ⟨eq_of_beq_eq_true hb.1,hb.2⟩]
  ·rename_i k c hx;obtain ⟨hb,hg⟩:=zn hg;simp only [and_eq_true,not_eq_true'] at hb;obtain ⟨hn,hag⟩:=hb;have hn:=eq_of_beq_eq_true hn;subst hn hag;split at hg
   ·rename_i s cs xs hr;obtain ⟨_,hg⟩:=zn hg;obtain ⟨hsm,hg⟩:=zn hg;have hsm:=le_of_ble_eq_true hsm;split at hg
    ·rename_i l hl;obtain ⟨y,hy,hg⟩:=hg;cases hg;obtain ⟨v0,hv,hd⟩:=zi0 (H0:=[]) cs l c y hl hy;have hres:res (z5 T.q h) k []=some (s,(cs::xs).map (z7 T.q [])):=zd6 (by unfold z1j;rw [z1t,hr];rfl) hsm;obtain ⟨hlt,hget⟩:=List.getElem?_eq_some_iff.1 hv;have hlen:c+1<=(z7 T.q [] cs).length:=by rw [z1w];omega
     have hcell:((z7 T.q [] cs).drop c).take 1=[AV.sc (.int .i64 y)]:=by
      have:(z7 T.q [] cs)[c]?=some (.sc (.int .i64 y)):=by rw [z31,hv];simp [hd]
      obtain ⟨h1,h2⟩:=List.getElem?_eq_some_iff.1 this;rw [List.drop_eq_getElem_cons h1,h2];rfl
     refine fin ?_;simp only [zi,zg,hx,den,z2j,hres,z5g,map_cons,getElem?_cons_zero];rw [if_pos hlen,hcell];rfl
    ·exact hg.elim
   ·exact hg.elim
  ·exact hg.elim
 | fld agg off n x =>
  simp only [rdT] at hg;split at hg
  ·rename_i cs hx;split at hg
   ·rename_i ds hd;obtain ⟨q1,q2⟩:=zc6 (h:=z5 T.q h) hd;refine fin ?_;simp only [zi,zg,hx,den];rw [if_pos q1,q2];exact z7u hg
   ·exact hg.elim
  ·exact hg.elim
 | aad len n x i =>
  simp only [rdT] at hg;split at hg
  ·rename_i k p o c m hx hm;obtain ⟨kk,hi⟩:=z71 (h:=z5 T.q h) hm
   have nth:∀ (j:Nat),m=(j:Int)->m<len->v = .pt k p o (c+j * n)->∃ av,zi (ev (z8 T.q (z5 T.q h) e)) (res (z5 T.q h)) (.aad len n x i)=some av/\zb av (den T.q (z5 T.q h) v):=by clear hg;intro j hj hlt hg;subst hj hg;refine fin ?_;simp only [zi,zg,hx,hi,den];rw [if_pos ⟨by omega,hlt⟩];simp only [Int.toNat_natCast]
   cases hk:z4g (evT e i) with
   | true =>rw [hk] at hg;obtain ⟨hc,hg⟩:=zbu hg;exact nth m.toNat (by omega) (by omega) hg
   | false =>rw [hk] at hg;obtain ⟨j,_,q2,q3,q4⟩:=zdl _ _ hg;exact nth j q3 (by omega) q4
  ·exact hg.elim
 | ida agg len n x i =>
  simp only [rdT] at hg;split at hg
  ·rename_i cs m hx hm;obtain ⟨kk,hi⟩:=z71 (h:=z5 T.q h) hm
   have nth:∀ (j:Nat),m=(j:Int)->m<len->(zpu agg n cs j).gives v->∃ av,zi (ev (z8 T.q (z5 T.q h) e)) (res (z5 T.q h)) (.ida agg len n x i)=some av/\zb av (den T.q (z5 T.q h) v):=by
    clear hg;intro j hj hlt hg;subst hj;unfold zpu at hg;split at hg
    ·rename_i ds hd;obtain ⟨q1,q2⟩:=zc6 (h:=z5 T.q h) hd;refine fin ?_;simp only [zi,zg,hx,hi,den];rw [if_pos ⟨by omega,hlt,by simpa using q1⟩];simp only [Int.toNat_natCast,q2];exact z7u hg
    ·exact hg.elim
   unfold yij at hg;cases hk:z4g (evT e i) with
   | true =>rw [hk] at hg;obtain ⟨hc,hg⟩:=zbu hg;exact nth m.toNat (by omega) (by omega) hg
   | false =>
    rw [hk] at hg;simp only [cond_false] at hg;split at hg
    ·rename_i k ns hns;obtain ⟨hl,y,hy,rfl⟩:=zn hg;have hl:=eq_of_beq_eq_true hl;obtain ⟨h0,h1,h2⟩:=ze7 hy;refine fin ?_;have hcs:=zmg (h:=z5 T.q h) cs k ns hns;simp only [zi,zg,hx,hi,den,hcs,Nat.mul_one,length_map];rw [if_pos ⟨h0,by omega,by omega⟩]
     have:(((ns.map λn=>AV.sc (.int k n)).drop m.toNat).take 1)=[.sc (.int k y)]:=by rw [List.take_one];simp [List.head?_drop,h2]
     rw [this];rfl
    ·split at hg
     ·rename_i k l hl0;obtain ⟨hl,y,hy,rfl⟩:=zn hg;have hl:=eq_of_beq_eq_true hl;obtain ⟨h0,h1,h2⟩:=ze7 hy;refine fin ?_;have hcs:=zpy (h:=z5 T.q h) cs k l hl0;simp only [zi,zg,hx,hi,den,z2j,hcs,Nat.mul_one,length_map];rw [if_pos ⟨h0,by omega,by omega⟩]
      have:(((l.map λc=>AV.pt k [] 0 c).drop m.toNat).take 1)=[.pt k [] 0 y]:=by rw [List.take_one];simp [List.head?_drop,h2]
      rw [this];rfl
     ·obtain ⟨j,_,q2,q3,q4⟩:=zdl _ _ hg;exact nth j q3 (by omega) q4
    ·obtain ⟨j,_,q2,q3,q4⟩:=zdl _ _ hg;exact nth j q3 (by omega) q4
  ·exact hg.elim
 | ids x i =>
  simp only [rdT] at hg;split at hg
  ·rename_i s m hx hm;obtain ⟨kk,hi⟩:=z71 (h:=z5 T.q h) hm;obtain ⟨hc,rfl⟩:=hg;exact fin (by simp only [zi,zg,hx,hi,den,zd];rw [if_pos hc])
  ·exact hg.elim
 | len x =>
  simp only [rdT] at hg;split at hg
  ·rename_i k p off len hx;cases hg;exact fin (by simp only [zi,zg,hx,den])
  ·rename_i k p hx;obtain ⟨r',hr,hg⟩:=z5o hg;have hl:zh (z5 T.q h) k p=(za T.q r').xs.length:=z5u hr;split at hg<;>(cases hg;exact fin (by simp [zi,zg,hx,den,hr,hl,za]))
  ·rename_i t xs hx;cases hg;exact fin (by simp [zi,zg,hx,den])
  ·rename_i k cs hx;cases hg;exact fin (by simp [zi,zg,hx,den,z2j])
  ·rename_i hx;cases hg;exact fin (by simp only [zi,zg,hx,den])
  ·exact hg.elim
 | lens x =>
  simp only [rdT] at hg;split at hg
  ·rename_i s hx;cases hg;exact fin (by simp only [zi,zg,hx,den])
  ·exact hg.elim
 | b2s x =>
  simp only [rdT] at hg;split at hg
  ·rename_i t xs hx;split at hg
   ·rename_i hh;subst hh;cases hg;exact fin (by simp only [zi,zg,hx,den,T.bs_sz,if_true,T.sb_ok,zcb])
   ·exact hg.elim
  ·rename_i hx;cases hg;exact fin (by simp only [zi,zg,hx,den])
  ·rename_i k p hx;obtain ⟨r',hr,hg⟩:=z5o hg;have hl:zh (z5 T.q h) k p=(za T.q r').xs.length:=z5u hr;split at hg
   ·rename_i m t xs;split at hg
    ·rename_i hh;subst hh;cases hg;refine fin ?_;simp only [zi,zg,hx,den,hr,hl];rw [if_pos ⟨by simp only [za,T.bs_sz],by omega⟩,drop_zero,take_of_length_le (Nat.le_refl _)];simp only [za,T.sb_ok,zcb]
    ·exact hg.elim
   ·rename_i s xs;cases hb:Nat.beq s 1 with
    | false=>rw [hb] at hg;exact hg.elim
    | true =>
     rw [hb,cond_true] at hg;split at hg
     ·rename_i ns hns;cases hg;refine fin ?_;simp only [zi,zg,hx,den,hr,hl];rw [if_pos ⟨by simp only [za];exact eq_of_beq_eq_true hb,by omega⟩,drop_zero,take_of_length_le (Nat.le_refl _)];simp only [za,zuh _ _ hns]
     ·exact hg.elim
   ·exact hg.elim
  ·exact hg.elim
 | ext n x =>
  simp only [rdT] at hg;split at hg
  ·rename_i vs hx;split at hg
   ·rename_i a ha;exact fin (by simp only [zi,zg,hx,den,z31,ha,map_some];exact zd1 hg)
   ·exact hg.elim
  ·exact hg.elim
 | nchk x =>
  simp only [rdT] at hg;split at hg
  all_goals first
   | (rename_i hx;cases hg;exact fin (by simp only [zi,zg,hx,den,z2j]))
   | exact hg.elim
 | slc s x lo hi =>
  simp only [rdT] at hg;split at hg
  ·rename_i a b ha hb
   have slice:∀ (k:Nat) (p:Path) (off len:Nat) (r':TR T.El) (v1:VT T),den T.q (z5 T.q h) (evT e x) = .sl k p off len->res (z5 T.q h) k p=some ((za T.q r').s,(za T.q r').xs)->(za T.q r').s=s ->
     (z9i len a b (λa b=>.ok (.sl k p (off+a) (b - a))) (.ok v1)).gives v->den T.q (z5 T.q h) v1 = .sl k p off len->∃ av,zi (ev (z8 T.q (z5 T.q h) e)) (res (z5 T.q h)) (.slc s x lo hi)=some av/\zb av (den T.q (z5 T.q h) v):=by
    intro k p off len r' v1 hx hr hs hg h1;obtain ⟨l,m,q1,q2,q3,q4⟩:=zgk (h:=z5 T.q h) ha hb hg
    have:zi (ev (z8 T.q (z5 T.q h) e)) (res (z5 T.q h)) (.slc s x lo hi)=some (.sl k p (off+l) (m - l)):=by simp only [zi,zg,hx,hr,hs,if_true,q1]
    rcases q4 with hv | ⟨rfl,rfl,hv⟩
    ·cases hv;exact ⟨_,this,zb.refl _⟩
    ·cases hv;exact ⟨_,this,by rw [h1,Nat.add_zero,Nat.sub_zero];exact zb.refl _⟩
   split at hg
   ·rename_i k p off len hx;obtain ⟨r',hr,hg⟩:=z5o hg;obtain ⟨hs,hg⟩:=zn hg;exact slice k p off len r' (.sl k p off len) (by rw [hx];rfl) hr (eq_of_beq_eq_true hs) hg rfl
   ·rename_i k p hx;obtain ⟨r',hr,hg⟩:=z5o hg;have hl:zh (z5 T.q h) k p=(za T.q r').xs.length:=z5u hr
    have cut0:∀ {len:Nat} {w:RT T},(z9i len a b (λa b=>.ok (.sl k p a (b - a))) w).gives v->(z9i len a b (λa b=>.ok (.sl k p (0+a) (b - a))) w).gives v:=λhg=>by simpa only [Nat.zero_add] using hg
    split at hg
    all_goals
     obtain ⟨hs,hg⟩:=zn hg;exact slice k p 0 _ _ (.sw k p) (by rw [hx];simp only [den,hl];rfl) hr (eq_of_beq_eq_true hs) (by simpa [za] using cut0 hg) (by simp only [den,hl])
   ·rename_i t xs hx;obtain ⟨hs,hg⟩:=zn hg;obtain ⟨l,m,q1,q2,q3,q4⟩:=zgk (h:=z5 T.q h) ha hb hg
    have:zi (ev (z8 T.q (z5 T.q h) e)) (res (z5 T.q h)) (.slc s x lo hi)=some (.im s (((xs.map (T.ca false t)).take m).drop l)):=by simp only [zi,zg,hx,den,eq_of_beq_eq_true hs,if_true,length_map,q1]
    refine ⟨_,this,?_⟩;rcases q4 with hv | ⟨rfl,rfl,hv⟩
    ·cases hv;simp only [den,y6o,eq_of_beq_eq_true hs];exact zb.refl _
    ·cases hv;simp only [den,eq_of_beq_eq_true hs,drop_zero];rw [take_of_length_le (by simp)];exact zb.refl _
   ·rename_i hx;obtain ⟨l,m,q1,q2,q3,q4⟩:=zgk (h:=z5 T.q h) ha hb hg
    have:v = .zs:=by rcases q4 with hv | ⟨_,_,hv⟩<;>exact hv
    subst this;exact fin (by simp only [zi,zg,hx,den,q1])
   ·exact hg.elim
  ·exact hg.elim
 | slc0 x =>
  simp only [rdT] at hg;split at hg
  all_goals first
   | (rename_i hx;cases hg;exact fin (by simp only [zi,zg,hx,den]))
   | exact hg.elim
 | sls x lo hi =>
  simp only [rdT] at hg;split at hg
  ·rename_i a b s ha hb hx;obtain ⟨l,m,q1,q2,q3,q4⟩:=zgk (h:=z5 T.q h) ha hb hg
   have:zi (ev (z8 T.q (z5 T.q h) e)) (res (z5 T.q h)) (.sls x lo hi)=some (.sc (.string (s.extract l m))):=by simp only [zi,zg,hx,den,q1]
   refine ⟨_,this,?_⟩;rcases q4 with hv | ⟨rfl,rfl,hv⟩
   ·cases hv;exact zb.refl _
   ·cases hv;have:s.extract 0 s.size=s:=by simp
    rw [this];exact zb.refl _
  ·exact hg.elim
 | build zero parts =>
  simp only [rdT] at hg;split at hg
  ·rename_i cs hcs;cases hg;have:=zdx (h:=z5 T.q h) _ _ _ hcs;rw [z5r,map_map] at this;refine fin ?_;simp only [zi,den]
   have e1:(parts.map λ(o,n,x)=>(o,n,ev (z8 T.q (z5 T.q h) e) x))=parts.map ((λ(o,n,x)=>(o,n,den T.q (z5 T.q h) x)) ∘ λ(o,n,x)=>(o,n,evT e x)) :=
    map_congr_left λ⟨o,n,x⟩ _=>by simp only [Function.comp,zg]
   rw [e1,this]
  ·exact hg.elim
 | mkf f caps =>
  simp only [rdT] at hg;obtain ⟨hc,hg⟩:=zn hg;cases hg;refine fin ?_;simp only [zi,den];rw [if_pos,zq,map_map]
  ·congr 2;exact map_congr_left λx _=>zg x
  ·rw [all_eq_true] at hc ⊢;intro x hx;have:=hc x hx;rw [zg];cases hv:evT e x<;>rw [hv] at this<;>first | (rename_i q;cases q<;>rfl) | simp_all [den,nn]
 | mm isMax x y =>
  simp only [rdT] at hg;split at hg
  ·rename_i k a k' b ha hb;obtain ⟨hk,hg⟩:=zbu hg;exact sc (by simp only [zi,zg,z2t ha,z2t hb];rw [if_pos hk]) (z8n _ hg)
  ·exact hg.elim
 | lku nv ks agg ok zero x key =>
  simp only [rdT] at hg;split at hg
  ·rename_i k p kv hx hk;obtain ⟨k1,k2⟩:=zue (h:=z5 T.q h) hk;obtain ⟨r,hr,hg⟩:=yc2 hg;split at hg
   ·rename_i m t xs;obtain ⟨hc,hg⟩:=zn hg;simp only [and_eq_true] at hc;obtain ⟨c1,c2,c3⟩:=hc;have c1:=eq_of_beq_eq_true c1;have c2:=zgn _ _ c2;have hf:∀ x,z17 (kv.map .sc) (T.ca m t x) (z2p 0 ks)=some (T.kf t kv x):=λx=>by rw [<- c2];exact T.kf_ok m t kv x c3
    have e0:zi (ev (z8 T.q (z5 T.q h) e)) (res (z5 T.q h)) (.lku nv ks agg ok zero x key)=match (match z2v (T.kf t kv) xs with | some (j,x)=>some (j,T.ca m t x) | none=>none) with
      | some (i,c)=>zei agg ok true (z87 k p i ks.length (c.drop ks.length))
      | none=>zei agg ok false (zero.map cval):=by
     simp only [zi,zpm,zg,hx,den,z2j,k1];rw [show (res (z5 T.q h)).m k p=z8k (z5 T.q h) k p from rfl,hr];simp only [za,c1,length_map,k2,and_self,if_true];rw [zce hf xs 0];simp only [Nat.zero_add];cases z2v (T.kf t kv) xs<;>rfl
    rw [e0];unfold yjp at hg;cases hm:(T.ks m t).any owK with
    | true =>
     rw [hm] at hg;rcases hg with ⟨h1,h2⟩ | ⟨h1,h2⟩
     ·obtain ⟨⟨j,y⟩,hj,hg⟩:=h2;rw [hj];simp only;have hy:=(zbp _ xs j y hj).1;refine zgw (bv:=.bk true) rfl ?_ hg;rw [<- T.ct_ok,zq [],<- map_drop,<- zq];have hx0:(za T.q (.typ m t xs)).xs[j]?=some (z7 T.q [] (T.ct m t y)):=by simp only [za,getElem?_map,hy,map_some,T.ct_ok]
      rw [zey (y3x hr).1 hx0 _ _ (zbt _ _ (T.ct_in m t y)) (λj' a ha=>by rw [getElem?_drop] at ha;rw [z31,ha];rfl)]
      exact z2l.refl _
     ·rw [zfm] at h1;cases hj:z2v (T.kf t kv) xs with
      | some _=>rw [hj] at h1;cases h1
      | none =>simp only;refine zgw (cs:=z4c zero) (bv:=.bk false) rfl ?_ h2;rw [z5r];exact z2l.refl _
    | false =>
     rw [hm] at hg;simp only [cond_false] at hg;split at hg
     ·rename_i z hz;obtain ⟨hno,hg⟩:=zn hg;rw [zjb] at hno hg;rw [zfm] at hg;cases hj:z2v (T.kf t kv) xs with
      | some jy =>obtain ⟨j,y⟩:=jy;rw [hj] at hg hno;simp only [map_some,getD_some,Option.isSome_some] at hg hno ⊢;have hin:=T.ct_in m t y;refine zgw (bv:=.sc (.bool true)) (h:=z5 T.q h) rfl ?_ hg;rw [<- T.ct_ok,zq [],<- map_drop,<- zq];rw [zjx (H0:=z5 T.q h) _ _ (zmn _ _ hno) (zbt _ _ hin)];exact z2l.refl _
      | none =>
       rw [hj] at hg hno;simp only [map_none,getD_none,Option.isSome_none] at hg hno ⊢;refine zgw (bv:=.sc (.bool false)) (h:=z5 T.q h) rfl ?_ hg;have hu:=T.un_ok m t _ z hz;have hin:=zbt _ ks.length (T.ct_in m t z);rw [zkn (z5 T.q h) [] _ hin]
       have e1:z7 T.q [] ((T.ct m t z).drop ks.length)=z7 T.q [] (z7p ((T.ks m t).drop ks.length) (z4c zero)):=by rw [zq,map_drop,<- zq,T.ct_ok,<- hu,zq,map_append,List.drop_left' (by rw [length_map,length_map];exact k2),<- zq]
       rw [e1,<- z5r (T:=T) []];exact zm9 _ _ _
     ·exact hg.elim
   ·exact hg.elim
  ·exact hg.elim
 | mkm _=>exact hg.elim
 | box _ _=>exact hg.elim
 | bsl _ _ _ _=>exact hg.elim
 | mks _ _ _ _=>exact hg.elim
 | app _ _ _ _=>exact hg.elim
 | store _ _ _=>exact hg.elim
 | call _ _=>exact hg.elim
 | callv _ _=>exact hg.elim
end
section
variable {T:TT}
theorem z1g {h h':H}{k:Nat}{p:Path}(hg:z6 h' k=z6 h k):zh h' k p=zh h k p:=by unfold zh z1j;rw [hg]
mutual
theorem z7c {H0 H1:H}{b1 bad bw:Nat->Path->Bool}(hb:∀ k p,b1 k p=true->bad k p=true)(hl:∀ k p,bad k p=false->bw k p=false->zh H1 k p=zh H0 k p):∀ (v:VT T),zb (kill b1 (den T.q H0 v)) (den T.q H1 (z2o bad bw v))
 | .un | .sc _ | .ik _ _ | .bk _ | .zs | .im _ _ | .ip _ _ _ | .ow _ _ _ | .oo _ _ _ _ _=>zb.refl _
 | .pp q=>by
  simp only [den,z2o];rw [zef];cases q with
  | xp b x c=>exact zb.refl _
  | fs k cs =>
   simp only [z2j,kill,z3k];cases h1:bad k [] with
   | true=>exact zb.un _
   | false =>
    have:b1 k []=false:=by cases h2:b1 k [] with | false=>rfl | true=>rw [hb k [] h2] at h1;cases h1
    rw [this];exact zb.refl _
  | fp k cs i =>
   simp only [z2j,kill,z3k];cases h1:bad k [] with
   | true=>exact zb.un _
   | false =>
    have:b1 k []=false:=by cases h2:b1 k [] with | false=>rfl | true=>rw [hb k [] h2] at h1;cases h1
    rw [this];exact zb.refl _
  | px k c =>
   simp only [z2j,kill];cases h1:bad k [] with
   | true=>exact zb.un _
   | false =>
    have:b1 k []=false:=by cases h2:b1 k [] with | false=>rfl | true=>rw [hb k [] h2] at h1;cases h1
    rw [this];exact zb.refl _
  | mr k p =>
   simp only [z2j,kill,z3k];cases h1:bad k p with
   | true=>exact zb.un _
   | false =>
    have:b1 k p=false:=by cases h2:b1 k p with | false=>rfl | true=>rw [hb k p h2] at h1;cases h1
    rw [this];exact zb.refl _
 | .ag cs=>by simp only [den,kill,z2o];exact zb.ag (zeh hb hl cs).C
 | .tu cs=>by simp only [den,kill,z2o];exact zb.tu (zeh hb hl cs).L
 | .fn f cs=>by simp only [den,kill,z2o];exact zb.fn (zeh hb hl cs).L
 | .sl k p off len=>by
  simp only [den,kill,z2o];cases h1:bad k p with
  | true=>simp only [cond_true,den];exact zb.un _
  | false =>
   have:b1 k p=false:=by cases h2:b1 k p with | false=>rfl | true=>rw [hb k p h2] at h1;cases h1
   simp only [this,false_eq_true,if_false,cond_false,den];exact zb.refl _
 | .pt k p i c=>by
  simp only [den,kill,z2o];cases h1:bad k p with
  | true=>simp only [cond_true,den];exact zb.un _
  | false =>
   have:b1 k p=false:=by cases h2:b1 k p with | false=>rfl | true=>rw [hb k p h2] at h1;cases h1
   simp only [this,false_eq_true,if_false,cond_false,den];exact zb.refl _
 | .sw k p=>by
  simp only [den,kill,z2o];cases h1:bad k p with
  | true=>simp only [Bool.true_or,cond_true,den];exact zb.un _
  | false =>
   have:b1 k p=false:=by cases h2:b1 k p with | false=>rfl | true=>rw [hb k p h2] at h1;cases h1
   simp only [this,false_eq_true,if_false,Bool.false_or];cases h3:bw k p with | true=>simp only [cond_true,den];exact zb.un _ | false=>simp only [cond_false,den,hl k p h1 h3];exact zb.refl _
theorem zeh {H0 H1:H}{b1 bad bw:Nat->Path->Bool}(hb:∀ k p,b1 k p=true->bad k p=true)(hl:∀ k p,bad k p=false->bw k p=false->zh H1 k p=zh H0 k p):∀ (l:List (VT T)),z2l (z2x b1 (z7 T.q H0 l)) (z7 T.q H1 (z7s bad bw l))
 | []=>.nil
 | x::l=>.cons (z7c hb hl x) (zeh hb hl l)
end
theorem zjy (a:AV):kill (λ_ _=>false) a=a:=by
 have key:(∀ a:AV,kill (λ_ _=>false) a=a)/\(∀ l:List AV,z2x (λ_ _=>false) l=l):=by
  constructor
  ·intro a
   induction a using AV.rec (motive_2:=λl=>z2x (λ_ _=>false) l=l) (motive_3:=λ_=>True) with
   | un | sc _ | zs | im _ _ _ | ip _ _ _ _ _ | ow _ _ _=>rfl
   | ag cs ih=>simp only [kill,ih]
   | tu cs ih=>simp only [kill,ih]
   | sl k p off len=>simp [kill]
   | pt k p i c=>simp [kill]
   | pp q=>cases q<;>simp [kill,z3k]
   | fn f cs ih=>simp only [kill,ih]
   | nil=>rfl
   | cons a l h1 h2=>simp only [z2x,h1,h2]
   | _=>trivial
  ·intro l
   induction l with
   | nil=>rfl
   | cons x l ih =>
    simp only [z2x,ih];congr 1
    induction x using AV.rec (motive_2:=λl=>z2x (λ_ _=>false) l=l) (motive_3:=λ_=>True) with
    | un | sc _ | zs | im _ _ _ | ip _ _ _ _ _ | ow _ _ _=>rfl
    | ag cs ih=>simp only [kill,ih]
    | tu cs ih=>simp only [kill,ih]
    | sl k p off len=>simp [kill]
    | pt k p i c=>simp [kill]
    | pp q=>cases q<;>simp [kill,z3k]
    | fn f cs ih=>simp only [kill,ih]
    | nil=>rfl
    | cons a l h1 h2=>simp only [z2x,h1,h2]
    | _=>trivial
 exact key.1 a
structure StT (T:TT) where
 v:VT T
 bad:Nat->Path->Bool
 bw:Nat->Path->Bool
 tch:List Nat
 h:TH T.q
def z88 (P:Program)(pro:List Nat)(T:TT)(e:TE T.q)(h:TH T.q)(x:Ins)(s:StT T):Prop :=
 (∀ (e':Env),(∀ t∈z3r x,e' t=z8 T.q (z5 T.q h) e t)->∃ e0 h0' e1 h1',z9 P pro e' (z5 T.q h) e0 h0'/\(∀ t b,e' t=Bl b->e0 t=Bl b)/\z2m P pro e0 h0' x.dst x.op e1 h1'/\z9 P pro e1 h1' (upd (λt=>kill s.bad (e' t)) x.dst (den T.q (z5 T.q s.h) s.v)) (z5 T.q s.h)) /\
 (∀ k p,s.bad k p=false->s.bw k p=false->zh (z5 T.q s.h) k p=zh (z5 T.q h) k p) /\
 (∀ k,s.tch.contains k=false->z6 (z5 T.q s.h) k=z6 (z5 T.q h) k)
def StT.env (s:StT T)(e:TE T.q)(d:Nat):TE T.q:=z1v (z5t s.bad s.bw e) d s.v
theorem StT.env_ghost {P:Program}{pro:List Nat}{e:TE T.q}{h:TH T.q}{d:Nat}{s:StT T}(hl:∀ k p,s.bad k p=false->s.bw k p=false->zh (z5 T.q s.h) k p=zh (z5 T.q h) k p) :
  z9 P pro (upd (λt=>kill s.bad (z8 T.q (z5 T.q h) e t)) d (den T.q (z5 T.q s.h) s.v)) (z5 T.q s.h) (z8 T.q (z5 T.q s.h) (s.env e d)) (z5 T.q s.h):=by
 refine z9.le λt=>?_;rw [StT.env,z1f];refine zb.upd (λt=>?_) (zb.refl _) t;simp only [z8,z3a];exact z7c (λ_ _ h=>h) hl _
theorem z1b {k k':Nat}(hk:k'≠k):∀ (h:H),z6 (zc h k) k'=z6 h k'
 | []=>rfl
 | (k1,r)::h=>by
  simp only [zc,z6];by_cases e:k1=k
  ·subst e;simp only [if_true];rw [if_neg (λe=>hk e.symm)]
  ·rw [if_neg e];simp only [z6,z1b hk h]
def y4o (h:TH T.q)(g:List Nat):VT T->Option (VT T×List Nat×TH T.q)
 | .sc u=>bif u.oneCell' then some (.sc u,g,h) else none
 | .ik k n=>some (.sc (.int k n),g,h)
 | .bk b=>some (.sc (.bool b),g,h)
 | .zs=>some (.zs,g,h)
 | .im t xs=>some (.im t xs,g,h)
 | .pp (.xp b x c)=>some (.sc (.pointer (some ⟨b,c,none⟩)),g,h)
 | .sw k []=>bif g.contains k then none else
  match z30 h k with
  | some (.typ m t xs)=>some (.ow m t xs,k::g,z12 h k)
  | some (.opn m t xs i cs)=>some (.oo m t xs i cs,k::g,z12 h k)
  | _=>none
 | .pp (.mr k [])=>bif g.contains k then none else
  match z30 h k with
  | some (.typ m t xs)=>bif Nat.ble 1000000 (T.sz t) then some (.ow m t xs,k::g,z12 h k) else none
  | some (.opn m t xs i cs)=>bif Nat.ble 1000000 (T.sz t) then some (.oo m t xs i cs,k::g,z12 h k) else none
  | _=>none
 | _=>none
def zgf (h:TH T.q)(g:List Nat):List (VT T)->Option (List (VT T)×List Nat×TH T.q)
 | []=>some ([],g,h)
 | v::l =>
  match y4o h g v with
  | some (v',g1,h1)=>match zgf h1 g1 l with
   | some (l',g2,h2)=>some (v'::l',g2,h2)
   | none=>none
  | none=>none
def zdg (h:TH T.q)(g:List Nat):List (List (VT T))->Option (List (List (VT T))×List Nat×TH T.q)
 | []=>some ([],g,h)
 | v::l =>
  match zgf h g v with
  | some (v',g1,h1)=>match zdg h1 g1 l with
   | some (l',g2,h2)=>some (v'::l',g2,h2)
   | none=>none
  | none=>none
structure zde (H0:H) (h:TH T.q) (g g':List Nat) (h':TH T.q):Prop where
 sub:∀ k,g.contains k=true->g'.contains k=true
 same:∀ k,g'.contains k=false->z6 (z5 T.q h') k=z6 H0 k
theorem ya0 {H0:H}{h h':TH T.q}{g g':List Nat}{v v':VT T}(hs:∀ k,g.contains k=false->z6 (z5 T.q h) k=z6 H0 k)(ha:y4o h g v=some (v',g',h')) :
  z41 (z5 T.q h) (den T.q H0 v)=some (den T.q [] v',z5 T.q h')/\zde (T:=T) H0 h g g' h':=by
 have triv:zde (T:=T) H0 h g g h:=⟨λ_ h=>h,hs⟩
 unfold y4o at ha;split at ha
 ·rename_i u;cases hu:u.oneCell' with | false=>rw [hu] at ha;cases ha | true=>rw [hu] at ha;cases ha;exact ⟨by simp [den,z41,hu],triv⟩
 ·cases ha;exact ⟨by simp [den,z41,Value.oneCell'],triv⟩
 ·cases ha;exact ⟨by simp [den,z41,Value.oneCell'],triv⟩
 ·cases ha;exact ⟨by simp [den,z41],triv⟩
 ·cases ha;exact ⟨by simp [den,z41],triv⟩
 ·cases ha;exact ⟨by simp [den,z2j,z41],triv⟩
 ·rename_i k;cases hc:g.contains k with
  | true=>rw [hc] at ha;cases ha
  | false =>
   rw [hc] at ha;simp only [cond_false] at ha
   have row:∀ (r:TR T.El) (w:VT T),z30 h k=some r->den T.q [] w = .ow (za T.q r).s (za T.q r).xs->z41 (z5 T.q h) (den T.q H0 (.sw k []))=some (den T.q [] w,z5 T.q (z12 h k))/\zde (T:=T) H0 h g (k::g) (z12 h k):=by
    intro r w hr hw;have h1:z6 (z5 T.q h) k=some (za T.q r):=by rw [z1t,hr];rfl
    have h2:zh H0 k []=(za T.q r).xs.length:=by unfold zh z1j;rw [<- hs k hc,h1];rfl
    refine ⟨?_,?_,λk' hk'=>?_⟩
    ·simp only [den,z41,h1,h2];rw [if_pos ⟨trivial,trivial⟩,if_pos (Nat.le_refl _),take_length,zz,hw]
    ·intro k' hk';simp [hk'];exact .inr (by simpa using hk')
    ·simp only [contains_cons,or_eq_false_iff,beq_eq_false_iff_ne] at hk';rw [<- zz,z1b hk'.1,hs k' hk'.2]
   split at ha
   ·rename_i m t xs hr;cases ha;exact row _ _ hr rfl
   ·rename_i m t xs i cs hr;cases ha;exact row _ _ hr rfl
   ·cases ha
 ·rename_i k;cases hc:g.contains k with
  | true=>rw [hc] at ha;cases ha
  | false =>
   rw [hc] at ha;simp only [cond_false] at ha
   have row:∀ (r:TR T.El) (w:VT T),z30 h k=some r->MB<=(za T.q r).s->den T.q [] w = .ow (za T.q r).s (za T.q r).xs->z41 (z5 T.q h) (den T.q H0 (.pp (.mr k [])))=some (den T.q [] w,z5 T.q (z12 h k))/\zde (T:=T) H0 h g (k::g) (z12 h k):=by
    intro r w hr hbig hw;have h1:z6 (z5 T.q h) k=some (za T.q r):=by rw [z1t,hr];rfl
    refine ⟨?_,?_,λk' hk'=>?_⟩
    ·simp only [den,z2j,z41,h1];rw [if_pos hbig,zz,hw]
    ·intro k' hk';simp [hk'];exact .inr (by simpa using hk')
    ·simp only [contains_cons,or_eq_false_iff,beq_eq_false_iff_ne] at hk';rw [<- zz,z1b hk'.1,hs k' hk'.2]
   split at ha
   ·rename_i m t xs hr;cases hb:Nat.ble 1000000 (T.sz t) with
    | false=>rw [hb] at ha;cases ha
    | true =>rw [hb] at ha;cases ha;exact row _ _ hr (le_of_ble_eq_true hb) rfl
   ·rename_i m t xs i cs hr;cases hb:Nat.ble 1000000 (T.sz t) with
    | false=>rw [hb] at ha;cases ha
    | true =>rw [hb] at ha;cases ha;exact row _ _ hr (le_of_ble_eq_true hb) rfl
   ·cases ha
 ·cases ha
theorem zdh {H0:H}:∀ (l l':List (VT T)) (h h':TH T.q) (g g':List Nat),(∀ k,g.contains k=false->z6 (z5 T.q h) k=z6 H0 k)->zgf h g l=some (l',g',h') ->
  z3s (z5 T.q h) (z7 T.q H0 l)=some (z7 T.q [] l',z5 T.q h')/\zde (T:=T) H0 h g g' h'
 | [],_,h,_,g,_,hs,ha=>by cases ha;exact ⟨rfl,λ_ h=>h,hs⟩
 | v::l,_,h,_,g,_,hs,ha=>by
  unfold zgf at ha;split at ha
  ·rename_i v' g1 h1 hv;split at ha
   ·rename_i l' g2 h2 hl;cases ha;obtain ⟨q1,q2⟩:=ya0 hs hv;obtain ⟨q3,q4⟩:=zdh l l' h1 _ g1 _ q2.same hl;exact ⟨by simp only [z7,z3s,q1,q3],λk hk=>q4.sub k (q2.sub k hk),q4.same⟩
   ·cases ha
  ·cases ha
theorem zak {H0:H}:∀ (l l':List (List (VT T))) (h h':TH T.q) (g g':List Nat),(∀ k,g.contains k=false->z6 (z5 T.q h) k=z6 H0 k)->zdg h g l=some (l',g',h') ->
  z4n (z5 T.q h) (l.map (z7 T.q H0))=some (l'.map (z7 T.q []),z5 T.q h')/\zde (T:=T) H0 h g g' h'/\l'.length=l.length
 | [],_,h,_,g,_,hs,ha=>by cases ha;exact ⟨rfl,⟨λ_ h=>h,hs⟩,rfl⟩
 | v::l,_,h,_,g,_,hs,ha=>by
  unfold zdg at ha;split at ha
  ·rename_i v' g1 h1 hv;split at ha
   ·rename_i l' g2 h2 hl;cases ha;obtain ⟨q1,q2⟩:=zdh _ _ _ _ _ _ hs hv;obtain ⟨q3,q4,q5⟩:=zak l l' h1 _ g1 _ q2.same hl;exact ⟨by simp only [map_cons,z4n,q1,q3],⟨λk hk=>q4.sub k (q2.sub k hk),q4.same⟩,by simp [q5]⟩
   ·cases ha
  ·cases ha
theorem z55 {h:TH T.q}{k:Nat}:∀ k',[k].contains k'=false->z6 (z5 T.q (z12 h k)) k'=z6 (z5 T.q h) k':=λk' hk=>by rw [<- zz,z1b];simpa using hk
end
def zhw (o:Option AV):AV->AV
 | .zs=>o.getD .zs
 | y=>y
def z27 (tg:Nat->Option AV):Nat->List AV->List AV
 | _,[]=>[]
 | c,y::ys=>zhw (tg c) y::z27 tg (c+1) ys
def zew (tg:Nat->Option AV):Prop:=∀ c a,tg c=some a->∃ s,a = .im s []\/(s<MB/\a = .ow s [])
theorem zot (tg:Nat->Option AV):∀ (l:List AV) (c:Nat),(z27 tg c l).length=l.length
 | [],_=>rfl
 | y::l,c=>by simp [z27,zot tg l]
def zxk (tg:Nat->Option AV)(xs:Els)(i c:Nat):Bool :=
 match (xs[i]?).bind (·[c]?) with
 | some y=>isZ y&&(tg c).isSome
 | none=>false
def z4e (tg:Nat->Option AV)(k:Nat)(k':Nat)(q:Path):Bool:=k'==k&&match q with | (_,c)::_=>(tg c).isSome | []=>false
section
variable {I:Nat->Prop}{σ σ1:Pl}{B:zm}{k:Nat}{tg:Nat->Option AV}
theorem CeC.fix (ht:zew tg)(i:Nat):∀ (ys:List AV) (c:Nat) (cs:List Value),
  (∀ j y,ys[j]?=some y->(y = .zs->(tg (c+j)).isSome=true->σ1 k [(i,c+j)]=none)/\((y = .zs->(tg (c+j)).isSome=false)->∀ q,σ1 k ((i,c+j)::q)=σ k ((i,c+j)::q))) ->
  CeC I σ B k [] i c ys cs->CeC I σ1 B k [] i c (z27 tg c ys) cs/\fpC σ1 k [] i c (z27 tg c ys)=fpC σ k [] i c ys
 | [],c,cs,_,h=>⟨h,rfl⟩
 | y::ys,c,_,hj,h=>by
  obtain ⟨v,cs',rfl,h1,h2⟩:=h
  obtain ⟨t1,t2⟩:=CeC.fix ht i ys (c+1) cs' (λj y' hy=>by
   have:=hj (j+1) y' (by simpa using hy)
   rwa [show c+(j+1)=c+1+j by omega] at this) h2
  have h0:=hj 0 y rfl;rw [Nat.add_zero] at h0
  have keep:((y = .zs->(tg c).isSome=false))->Ce I σ1 B k [] i c y v/\fpA σ1 k [] i c y=fpA σ k [] i c y:=λhk =>
   ⟨Ce.ren (p:=[]) (p':=[]) (λq=>h0.2 hk q) y v h1,fpA.ren (p:=[]) (p':=[]) (λq=>h0.2 hk q) y⟩
  have key:Ce I σ1 B k [] i c (zhw (tg c) y) v/\fpA σ1 k [] i c (zhw (tg c) y)=fpA σ k [] i c y:=by
   cases y with
   | zs =>
    simp only [zhw];cases hc:tg c with
    | none=>simp only [getD_none];exact keep (λ_=>by simp [hc])
    | some a =>
     simp only [getD_some];have hn:=h0.1 rfl (by simp [hc]);obtain ⟨s,rfl | ⟨hsm,rfl⟩⟩:=ht c a hc
     ·refine ⟨?_,rfl⟩;obtain ⟨x,hx⟩:=h1;exact ⟨x,0,hx,Nat.le_refl _,λhn=>absurd rfl hn⟩
     ·refine ⟨?_,by simp only [fpA,nil_append,hn]⟩;simp only [Ce,nil_append,hn];exact ⟨trivial,hsm,h1⟩
   | _=>exact keep (λh=>by cases h)
  exact ⟨⟨v,cs',rfl,key.1,t1⟩,by rw [z27,fpC,fpC,t2,key.2]⟩
theorem CeE.fix (ht:zew tg)(s:Nat):∀ (xs:Els) (i:Nat) (cs:List Value),
  (∀ n x j y,xs[n]?=some x->x[j]?=some y->(y = .zs->(tg j).isSome=true->σ1 k [(i+n,j)]=none)/\((y = .zs->(tg j).isSome=false)->∀ q,σ1 k ((i+n,j)::q)=σ k ((i+n,j)::q))) ->
  CeE I σ B k [] i s xs cs->CeE I σ1 B k [] i s (xs.map (z27 tg 0)) cs/\fpE σ1 k [] i (xs.map (z27 tg 0))=fpE σ k [] i xs
 | [],_,_,_,h=>⟨trivial,rfl⟩
 | x::xs,i,cs,hj,h=>by
  obtain ⟨t1,t2⟩:=CeE.fix ht s xs (i+1) _ (λn x' j y hx hy=>by
   have:=hj (n+1) x' j y (by simpa using hx) hy
   rwa [show i+(n+1)=i+1+n by omega] at this) h.2.2
  obtain ⟨u1,u2⟩:=CeC.fix (σ1:=σ1) ht i x 0 _ (λj y hy=>by have:=hj 0 x j y rfl hy;simpa using this) h.2.1
  exact ⟨⟨by rw [zot];exact h.1,u1,t1⟩,by rw [map_cons,fpE,fpE,t2,u2]⟩
end
section
variable {P:Program}{pro:List Nat}{e:Env}{h:H}
theorem z9.fix {k:Nat}{r:Row}(tg:Nat->Option AV)(ht:zew tg)(hg:z6 h k=some r) :
  z9 P pro e h (z1e (z4e tg k) e) ((k,⟨r.s,r.xs.map (z27 tg 0)⟩)::zc h k):=by
 intro I N _ σ a w R
 let σ1:Pl:=λk' q=>match q with | [(i,c)]=>if k'=k/\zxk tg r.xs i c=true then none else σ k' q | q=>σ k' q
 have hne:∀ k',k'≠k->∀ q,σ1 k' q=σ k' q:=λk' hk q=>by
  simp only [σ1];split
  ·rw [if_neg (λh=>hk h.1)]
  ·rfl
 have hσ0:σ1 k []=σ k []:=rfl;obtain ⟨d1,d2,d3,d4,d5,d6⟩:=R.heap.del hg
 have hcell:∀ n x j y,r.xs[n]?=some x->x[j]?=some y->(y = .zs->(tg j).isSome=true->σ1 k [(n,j)]=none)/\((y = .zs->(tg j).isSome=false)->∀ q,σ1 k ((n,j)::q)=σ k ((n,j)::q)):=by
  intro n x j y hx hy
  have hz:zxk tg r.xs n j=(isZ y&&(tg j).isSome):=by unfold zxk;simp only [hx,Option.bind_some,hy]
  refine ⟨λh1 h2=>?_,λh1 q=>?_⟩
  ·simp only [σ1];rw [if_pos ⟨trivial,by rw [hz,h1,h2];rfl⟩]
  ·cases q with
   | nil =>
    simp only [σ1];rw [if_neg];rintro ⟨_,h2⟩;rw [hz,and_eq_true] at h2;have:y = .zs:=by cases y<;>first | rfl | (simp [isZ] at h2)
    have:=h1 this;rw [this] at h2;simp at h2
   | cons _ _=>rfl
 have hrow:zy I σ1 (bl w) k ⟨r.s,r.xs.map (z27 tg 0)⟩/\fpR σ1 k ⟨r.s,r.xs.map (z27 tg 0)⟩=fpR σ k r:=by
  unfold zy at d2 ⊢;unfold fpR;rw [hσ0];cases hL:σ k [] with
  | none =>simp only [hL] at d2 ⊢;exact ⟨⟨by simp [d2.1],d2.2⟩,trivial⟩
  | some L =>simp only [hL] at d2 ⊢;obtain ⟨f1,f2,cur,E,f3,f4,f5⟩:=d2;obtain ⟨t1,t2⟩:=CeE.fix (σ1:=σ1) ht (esz r.s) r.xs 0 _ (λn x j y hx hy=>by simpa using hcell n x j y hx hy) f5;exact ⟨⟨f1,by simpa using f2,cur,E,f3,by rw [z76 (ys:=r.xs) (by simp)];exact f4,t1⟩,by rw [t2]⟩
 have hadd:=d1.add (σ':=σ1) (w':=w) (k:=k) (r:=⟨r.s,r.xs.map (z27 tg 0)⟩) d3 hne (λ_ _ _=>rfl) (Nat.le_refl _) hrow.1 (by rw [hrow.2];exact d4) (λb hb=>by rw [hrow.2] at hb;exact ⟨(d5 b hb).1,R.heap.apart b (d5 b hb).2⟩)
 refine ⟨σ1,I,λ_ h=>h,λ_ h=>.inl h,⟨hadd,R.size,λt=>?_,R.defers⟩,λk' _=>?_,Le.refl _,λ_ _ _=>rfl,λb hb=>.inl ?_⟩
 ·refine Va.kill (λk' q hb=>?_) _ _ (R.vals t);simp only [σ1];split
  ·rename_i i c;rw [if_neg];rintro ⟨e1,e2⟩;subst e1
   have:(tg c).isSome=true:=by
    unfold zxk at e2;split at e2
    ·simp only [and_eq_true] at e2;exact e2.2
    ·cases e2
   simp [z4e,this] at hb
  ·rfl
 ·rfl
 ·rw [z1o,hrow.2,fpH.ren _ (λk' hk' q=>hne k' (λe=>by subst e;exact d3 hk') q)] at hb;rcases mem_append.1 hb with hb | hb
  ·exact (d5 b hb).2
  ·exact d6 b hb
end
section
variable {T:TT}
def yjk (T:TT):Kd->Option AV
 | .no=>none
 | .im t=>some (.im (T.sz t) [])
 | .ow m t=>some (.ow (T.sz t) [])
def z67 (T:TT)(ks:List Kd)(c:Nat):Option AV:=(ks[c]?).bind (yjk T)
theorem zda (ks:List Kd)(hs:ks.all (smK T.sz)=true):zew (z67 T ks):=λc a h=>by
 unfold z67 at h;cases hk:ks[c]? with
 | none=>rw [hk] at h;cases h
 | some k =>
  rw [hk] at h;have:=all_eq_true.1 hs k (mem_of_getElem? hk);cases k<;>cases h
  ·exact ⟨_,.inl rfl⟩
  ·exact ⟨_,.inr ⟨le_of_ble_eq_true this,rfl⟩⟩
def zfn:List Kd->List (VT T)->List (VT T)
 | k::ks,v::vs=>(match v with | .zs=>(match k with | .im t=>.im t [] | .ow m t=>.ow m t [] | .no=>.zs) | v=>v)::zfn ks vs
 | [],vs=>vs
 | _,[]=>[]
theorem z96:∀ (l:List AV) (tg:Nat->Option AV) (c:Nat),(∀ j,tg (c+j)=none)->z27 tg c l=l
 | [],_,_,_=>rfl
 | y::l,tg,c,h=>by have h0:=h 0;rw [Nat.add_zero] at h0;rw [z27,z96 l tg (c+1) (λj=>by rw [show c+1+j=c+(j+1) by omega];exact h _),h0];cases y<;>rfl
theorem yci {h:H}{v:VT T}(hv:v≠.zs)(o:Option AV):zhw o (den T.q h v)=den T.q h v:=by cases v<;>first | exact absurd rfl hv | rfl | (rename_i q;cases q<;>rfl)
theorem zcv {h:H}(ks:List Kd):∀ (vs:List (VT T)) (c:Nat),z7 T.q h (zfn (ks.drop c) vs)=z27 (z67 T ks) c (z7 T.q h vs)
 | [],c=>by cases ks.drop c<;>rfl
 | v::vs,c=>by
  have ih:=zcv (h:=h) ks vs (c+1);cases hd:ks.drop c with
  | nil =>
   have:∀ j,z67 T ks (c+j)=none:=λj=>by
    unfold z67;have hl:ks.length<=c:=by simpa using hd
    rw [getElem?_eq_none (by omega)];rfl
   rw [z96 _ _ _ this];rfl
  | cons k ks' =>
   have hk:ks[c]?=some k:=by have:=congrArg (·[0]?) hd;simpa using this
   have hd':ks.drop (c+1)=ks':=by rw [<- drop_drop,hd];rfl
   rw [hd'] at ih;have htg:z67 T ks c=yjk T k:=by unfold z67;rw [hk];rfl
   simp only [zfn,z7,z27,ih,htg];congr 1;split
   ·cases k<;>rfl
   ·rename_i hv;rw [yci hv]
def unL (m:Bool)(t:Nat):List (List (VT T))->Option (List (T.El t))
 | []=>some []
 | x::l=>match T.un m t x,unL m t l with | some y,some ys=>some (y::ys) | _,_=>none
theorem zkf {m:Bool}{t:Nat}:∀ (l:List (List (VT T))) (ys:List (T.El t)),unL m t l=some ys->l.map (z7 T.q [])=ys.map (T.ca m t)
 | [],ys,h=>by cases h;rfl
 | x::l,ys,h=>by
  unfold unL at h;split at h
  ·rename_i y ys' h1 h2;cases h;rw [map_cons,map_cons,T.un_ok _ _ _ _ h1,zkf l ys' h2]
  ·cases h
def zx3 (ty:Option (Bool×Nat))(s:Nat)(xs:List (List (VT T))):Option (TR T.El) :=
 match ty with
 | none=>some (.lit s xs)
 | some (m,t)=>bif Nat.beq (T.sz t) s then match unL m t (xs.map (zfn (T.ks m t))) with | some ys=>some (.typ m t ys) | none=>none else none
theorem zv0 {ty:Option (Bool×Nat)}{s:Nat}{xs:List (List (VT T))}{r:TR T.El}(hr:zx3 ty s xs=some r):∃ tg,zew tg/\za T.q r=⟨s,(xs.map (z7 T.q [])).map (z27 tg 0)⟩:=by
 unfold zx3 at hr;split at hr
 ·cases hr;refine ⟨λ_=>none,λ_ _ h=>(by cases h),?_⟩;simp only [za,map_map];congr 1;exact map_congr_left λx _=>(z96 _ _ _ (λ_=>rfl)).symm
 ·rename_i m t;cases hb:Nat.beq (T.sz t) s with
  | false=>rw [hb] at hr;cases hr
  | true =>
   rw [hb] at hr;simp only [cond_true] at hr;split at hr
   ·rename_i ys hy;cases hr;have:=zkf _ _ hy;refine ⟨z67 T (T.ks m t),zda _ (T.ks_sm m t),?_⟩;simp only [za,<- this,map_map,eq_of_beq_eq_true hb];congr 1
    exact map_congr_left λx _=>by have:=zcv (h:=[]) (T.ks m t) x 0;simpa using this
   ·cases hr
def z8b {α:Type}(s:Nat):Nat->List α->List (List α)
 | 0,_=>[]
 | n+1,l=>l.take s::z8b s n (l.drop s)
theorem zdo {h:H}{s:Nat}:∀ (n:Nat) (l:List (VT T)),(z8b s n l).map (z7 T.q h)=z4b s n (z7 T.q h l)
 | 0,l=>rfl
 | n+1,l=>by
  rw [z8b,z4b,map_cons,zdo n];congr 1
  ·simp [zq,map_take]
  ·simp [zq,map_drop]
theorem zcc {α:Type}{s:Nat}:∀ (n:Nat) (l:List α),(z8b s n l).length=n
 | 0,_=>rfl
 | n+1,l=>by simp [z8b,zcc n]
def mkT (ty:Option (Bool×Nat))(pro:List Nat)(e:TE T.q)(h:TH T.q)(d:Nat)(b:IB):Rs (StT T) :=
 bif pro.contains d then .no else
 match b with
 | .box s x =>
  match z6x (evT e x) with
  | none=>.no
  | some cs=>bif Nat.beq cs.length s then
   match zdg (z12 h d) [d] [cs] with
   | none=>.no
   | some (xs,g,h')=>match zx3 ty s xs with
    | none=>.no
    | some r=>.ok ⟨.pt d [] 0 0,λk _=>g.contains k,λ_ _=>false,g,(d,r)::h'⟩
   else .no
 | .bsl s len zero parts =>
  match zdw (replicate len (z4c zero)).flatten (parts.map λ(i,x)=>(i * s,s,evT e x)) with
  | none=>.no
  | some cs =>
   match zdg (z12 h d) [d] (z8b s len cs) with
   | none=>.no
   | some (xs,g,h')=>match zx3 ty s xs with
    | none=>.no
    | some r=>.ok ⟨.sw d [],λk _=>g.contains k,λ_ _=>false,g,(d,r)::h'⟩
 | .mks s bytes zero l =>
  match z8v (evT e l),ty with
  | some n,some (m,t)=>bif Nat.beq (T.sz t) s then
   match T.un m t (zfn (T.ks m t) (z4c zero)) with
   | some z=>.need (0<=n/\n * (bytes:Int)<=140737488355328) (.ok ⟨.sw d [],λk _=>[d].contains k,λ_ _=>false,[d],(d,.typ m t (replicate n.toNat z))::z12 h d⟩)
   | none=>.no
   else .no
  | _,_=>.no
 | .mkm s =>
  match ty with
  | some (m,t)=>bif Nat.beq (T.sz t) s&&!(Nat.blt s 1000000) then .ok ⟨.pp (.mr d []),λk _=>[d].contains k,λ_ _=>false,[d],(d,.typ m t [])::z12 h d⟩ else .no
  | none=>.no
 | _=>.no
structure ynb (T:TT) (e:TE T.q) (h:TH T.q) (d:Nat) (b:IB) (s:StT T):Prop where
 ex:∃ (av:AV) (r:Row) (rest:H) (tg:Nat->Option AV),z3e (ev (z8 T.q (z5 T.q h) e)) (z5 T.q h) d b=some (av,(d,r)::rest)/\zew tg/\z5 T.q s.h=(d,⟨r.s,r.xs.map (z27 tg 0)⟩)::rest /\
  av=den T.q (z5 T.q s.h) s.v/\(∀ k,kill (z4e tg k) av=av)/\(∀ k p,k=d->s.bad k p=true)/\(∀ k p,s.bad k p=false->s.bw k p=false->zh (z5 T.q s.h) k p=zh (z5 T.q h) k p)/\∀ k,s.tch.contains k=false->z6 (z5 T.q s.h) k=z6 (z5 T.q h) k
theorem zaz {h h':TH T.q}{d:Nat}{g:List Nat}{r:TR T.El}(hG:zde (T:=T) (z5 T.q h) (z12 h d) [d] g h') :
  (∀ (k:Nat) (p:Path),k=d->g.contains k=true)/\(∀ (k:Nat) (p:Path),g.contains k=false->zh (z5 T.q ((d,r)::h')) k p=zh (z5 T.q h) k p) /\
   ∀ (k:Nat),g.contains k=false->z6 (z5 T.q ((d,r)::h')) k=z6 (z5 T.q h) k:=by
 have h1:∀ (k:Nat) (p:Path),k=d->g.contains k=true:=λk p hk=>hG.sub k (by simp [hk])
 have h2:∀ (k:Nat),g.contains k=false->z6 (z5 T.q ((d,r)::h')) k=z6 (z5 T.q h) k:=λk hk=>by
  have hkd:k≠d:=λe=>by rw [h1 k [] e] at hk;cases hk
  simp only [z5,z6];rw [if_neg (λe=>hkd e.symm)];exact hG.same k hk
 exact ⟨h1,λk p hk=>z1g (h2 k hk),h2⟩
theorem yju {ty:Option (Bool×Nat)}{pro:List Nat}{e:TE T.q}{h:TH T.q}{d:Nat}{b:IB}{s:StT T}(hg:(mkT ty pro e h d b).gives s):pro.contains d=false/\ynb T e h d b s:=by
 unfold mkT at hg;cases hp:pro.contains d with
 | true=>rw [hp] at hg;exact hg.elim
 | false =>
 refine ⟨rfl,?_⟩;rw [hp] at hg;simp only [cond_false] at hg;split at hg
 ·rename_i s' x;split at hg
  ·exact hg.elim
  ·rename_i cs hcs;obtain ⟨hl,hg⟩:=zn hg;split at hg
   ·exact hg.elim
   ·rename_i xs g h' ha;split at hg
    ·exact hg.elim
    ·rename_i r hr;cases hg;obtain ⟨q1,q2,q3⟩:=zak (H0:=z5 T.q h) _ _ _ _ _ _ z55 ha;obtain ⟨tg,t1,t2⟩:=zv0 hr;obtain ⟨l1,l2,l3⟩:=zaz (r:=r) q2;have hc:=z8p (h:=z5 T.q h) hcs;refine ⟨⟨.pt d [] 0 0,⟨s',xs.map (z7 T.q [])⟩,z5 T.q h',tg,?_,t1,?_,rfl,λk=>rfl |>.trans ?_,l1,λk p hk _=>l2 k p hk,l3⟩⟩
     ·simp only [z3e,zg,hc,z1w];rw [if_pos (eq_of_beq_eq_true hl)];simp only [map_cons,map_nil] at q1;rw [zz,q1]
     ·simp only [z5,t2]
     ·simp [kill,z4e]
 ·rename_i s' len zero parts;split at hg
  ·exact hg.elim
  ·rename_i cs hcs;split at hg
   ·exact hg.elim
   ·rename_i xs g h' ha;split at hg
    ·exact hg.elim
    ·rename_i r hr;cases hg;obtain ⟨q1,q2,q3⟩:=zak (H0:=z5 T.q h) _ _ _ _ _ _ z55 ha;obtain ⟨tg,t1,t2⟩:=zv0 hr;obtain ⟨l1,l2,l3⟩:=zaz (r:=r) q2;have hf:=zdx (h:=z5 T.q h) _ _ _ hcs;rw [map_map] at hf;have hxl:xs.length=len:=by rw [q3,zcc]
     have hlen:zh (z5 T.q ((d,r)::h')) d []=len:=by unfold zh z1j;simp only [z5,z6,if_true,zp,t2,length_map,hxl]
     refine ⟨⟨.sl d [] 0 len,⟨s',xs.map (z7 T.q [])⟩,z5 T.q h',tg,?_,t1,?_,?_,λk=>rfl |>.trans ?_,l1,λk p hk _=>l2 k p hk,l3⟩⟩
     ·have e0:z7 T.q (z5 T.q h) (replicate len (z4c zero)).flatten=(replicate len (zero.map cval)).flatten:=by rw [zq,List.map_flatten,List.map_replicate,<- zq,z5r]
      have e1:(parts.map λ(i,x)=>(i * s',s',ev (z8 T.q (z5 T.q h) e) x))=parts.map ((λ(o,n,x)=>(o,n,den T.q (z5 T.q h) x)) ∘ λ(i,x)=>(i * s',s',evT e x)) :=
       map_congr_left λ⟨i,x⟩ _=>by simp only [Function.comp,zg]
      simp only [z3e];rw [e1,<- e0,hf];simp only;rw [zdo] at q1;rw [zz,q1]
     ·simp only [z5,t2]
     ·simp only [den,hlen]
     ·simp [kill,z4e]
 ·rename_i s' bytes zero l;split at hg
  ·rename_i n m t hn;obtain ⟨hs,hg⟩:=zn hg;split at hg
   ·rename_i z hz;obtain ⟨hc,rfl⟩:=hg;obtain ⟨kk,hi⟩:=z71 (h:=z5 T.q h) hn;have hG:zde (T:=T) (z5 T.q h) (z12 h d) [d] [d] (z12 h d):=⟨λ_ h=>h,z55⟩
    obtain ⟨l1,l2,l3⟩:=zaz (r:=.typ m t (replicate n.toNat z)) hG
    have hz2:z27 (z67 T (T.ks m t)) 0 (zero.map cval)=T.ca m t z:=by rw [<- T.un_ok _ _ _ _ hz,<- z5r (T:=T) [] zero];have:=zcv (T:=T) (h:=[]) (T.ks m t) (z4c zero) 0;simpa using this.symm
    refine ⟨⟨.sl d [] 0 n.toNat,⟨s',replicate n.toNat (zero.map cval)⟩,z5 T.q (z12 h d),z67 T (T.ks m t),?_,zda _ (T.ks_sm m t),?_,?_,λk=>rfl |>.trans ?_,l1,λk p hk _=>l2 k p hk,l3⟩⟩
    ·simp only [z3e,zg,hi];rw [if_pos hc,zz]
    ·simp only [z5,za,eq_of_beq_eq_true hs,List.map_replicate,hz2]
    ·simp only [den];congr 1;unfold zh z1j;simp only [z5,z6,if_true,zp,za,length_map,List.length_replicate]
    ·simp [kill,z4e]
   ·exact hg.elim
  ·exact hg.elim
 ·rename_i s';split at hg
  ·rename_i m t;obtain ⟨hs,hg⟩:=zn hg;cases hg;simp only [and_eq_true,not_eq_true'] at hs;have h1:=eq_of_beq_eq_true hs.1
   have h2:¬ s'<MB:=λhm=>by have:Nat.blt s' 1000000=true:=Nat.ble_eq_true_of_le hm;rw [this] at hs;cases hs.2
   have hG:zde (T:=T) (z5 T.q h) (z12 h d) [d] [d] (z12 h d):=⟨λ_ h=>h,z55⟩
   obtain ⟨l1,l2,l3⟩:=zaz (r:=.typ m t []) hG;refine ⟨⟨.pp (.mr d []),⟨s',[]⟩,z5 T.q (z12 h d),λ_=>none,?_,λ_ _ h=>(by cases h),?_,rfl,λk=>?_,l1,λk p hk _=>l2 k p hk,l3⟩⟩
   ·simp only [z3e];rw [if_neg h2,zz]
   ·simp only [z5,za,h1,map_nil]
   ·simp [kill,z3k,z4e]
  ·exact hg.elim
 ·exact hg.elim
theorem z7d {b bad:Nat->Path->Bool}(hb:∀ k p,b k p=true->bad k p=true)(x:AV):zb (kill b x) (kill bad x):=by
 have h1:kill bad (kill b x)=kill bad x:=by rw [zbw.1];congr 1;funext k p;cases h:b k p with | false=>rfl | true=>simp [hb k p h]
 rw [<- h1];exact zb.kill bad _
theorem y3m {P:Program}{ty:Option (Bool×Nat)}{pro:List Nat}{e:TE T.q}{h:TH T.q}{d:Nat}{g:Option (Nat×Bool)}{b:IB}{s:StT T}(hg:(mkT ty pro e h d b).gives s):z88 P pro T e h ⟨d,g,.mk b⟩ s:=by
 obtain ⟨hp,⟨av,r,rest,tg,m1,m2,m3,m4,m5,m6,m7⟩⟩:=yju hg;refine ⟨λe' he=>?_,m7⟩
 have hcg:z3e (ev e') (z5 T.q h) d b=some (av,(d,r)::rest):=by
  rw [<- m1]
  exact zjv b λo ho=>by have:=z3y (x:=⟨d,g,.mk b⟩) (e:=e') (EA:=z8 T.q (z5 T.q h) e) he (o:=o) (by simpa [z5x] using ho);exact this
 refine ⟨e',_,upd (z1e (λk _=>k==d) e') d av,(d,r)::rest,z9.rfl',λ_ _ h=>h,.plain (by simp only [z2w,hp,false_eq_true,if_false,hcg]),?_⟩;refine z9.trans (z9.fix (k:=d) (r:=r) tg m2 (by simp [z6])) ?_;rw [show zc ((d,r)::rest) d=rest by simp [zc],<- m3];refine z9.le λt=>?_;simp only [z1e,upd];split
 ·rw [m5,<- m4];exact zb.refl _
 ·rw [zbw.1];refine z7d (λk p hk=>?_) _;simp only [or_eq_true,beq_iff_eq,z4e,and_eq_true] at hk;exact m6 k p (hk.elim id (·.1))
end
def z5k (s:Nat)(xs:Els)(q:Path):Nat:=match zp s xs q with | some (_,ys)=>ys.length | none=>0
theorem z3c {h:H}{k:Nat}{r:Row}{q:Path}(hg:z6 h k=some r):zh h k q=z5k r.s r.xs q:=by unfold zh z5k z1j;rw [hg];first | done | rfl
theorem z3d {s i c:Nat}{xs:Els}{q:Path}:z5k s xs ((i,c)::q)=match (xs[i]?).bind (·[c]?) with | some (.ow s' ys)=>z5k s' ys q | _=>0:=by
 unfold z5k;simp only [zp];cases h1:xs[i]? with
 | none=>simp
 | some x =>
  simp only [Option.bind_some];cases h2:x[c]? with
  | none=>simp
  | some y=>cases y<;>simp
theorem zos (tg:Nat->Option AV):∀ (l:List AV) (c j:Nat),(z27 tg c l)[j]?=(l[j]?).map (zhw (tg (c+j)))
 | [],_,_=>by simp [z27]
 | y::l,c,0=>by simp [z27]
 | y::l,c,j+1=>by simp only [z27,List.getElem?_cons_succ];rw [zos tg l (c+1) j,show c+1+j=c+(j+1) by omega]
theorem zou {tg:Nat->Option AV}(ht:zew tg){s:Nat}{xs:Els}(q:Path):z5k s (xs.map (z27 tg 0)) q=z5k s xs q:=by
 cases q with
 | nil=>simp [z5k,zp]
 | cons x q =>
  obtain ⟨i,c⟩:=x;rw [z3d,z3d,getElem?_map];cases h1:xs[i]? with
  | none=>rfl
  | some x =>
   simp only [map_some,Option.bind_some,zos,Nat.zero_add];cases h2:x[c]? with
   | none=>rfl
   | some y =>
    simp only [map_some];cases y with
    | zs =>
     simp only [zhw];cases h3:tg c with
     | none=>rfl
     | some a =>
      obtain ⟨s',rfl | ⟨_,rfl⟩⟩:=ht c a h3
      ·rfl
      ·simp only [getD_some];cases q with | nil=>rfl | cons z q=>obtain ⟨i',c'⟩:=z;rfl
    | _=>rfl
theorem zuv {l vs:List AV}{c n c':Nat}(h:c+n<=l.length)(hv:vs.length=n)(hc:¬ (c<=c'/\c'<c+n)):(l.take c++vs++l.drop (c+n))[c']?=l[c']?:=by
 rcases Nat.lt_or_ge c' c with h1 | h1
 ·rw [List.append_assoc,getElem?_append_left (by rw [length_take];omega),List.getElem?_take,if_pos h1]
 ·have h2:c+n<=c':=by omega
  rw [getElem?_append_right (by simp only [length_append,length_take];omega),getElem?_drop];congr 1;simp only [length_append,length_take];omega
theorem zi5 {k i c n:Nat}{vs:List AV}(hv:vs.length=n):∀ (p:Path) (s s1:Nat) (xs ys:Els) (x0:List AV) (q:Path),zp s xs p=some (s1,ys)->ys[i]?=some x0->c+n<=x0.length->under k p c n k q=false ->
  z5k s (z1l xs p (z18 i c n vs)) q=z5k s xs q
 | [],s,s1,xs,ys,x0,q,hr,hx,hl,hu=>by
  simp only [zp,Option.some.injEq,Prod.mk.injEq] at hr;obtain ⟨_,rfl⟩:=hr;simp only [z1l,z18,hx];cases q with
  | nil=>simp [z5k,zp]
  | cons z q =>
   obtain ⟨i',c'⟩:=z;have hc:¬ (c<=c'/\c'<c+n):=λ⟨h1,h2⟩=>by simp [under,h1,h2] at hu
   rw [z3d,z3d,getElem?_set];by_cases hi:i=i'
   ·subst hi;have hlt:=(List.getElem?_eq_some_iff.1 hx).1;rw [if_pos rfl,if_pos hlt,hx];simp only [Option.bind_some,zuv hl hv hc]
   ·rw [if_neg hi]
 | (i0,c0)::p,s,s1,xs,ys,x0,q,hr,hx,hl,hu=>by
  simp only [zp] at hr;split at hr
  ·cases hr
  ·rename_i x hx0;split at hr
   ·rename_i s2 zs hz;simp only [z1l,hx0,hz];cases q with
    | nil=>simp [z5k,zp]
    | cons z q =>
     obtain ⟨i',c'⟩:=z;rw [z3d,z3d,getElem?_set];have hlt:=(List.getElem?_eq_some_iff.1 hx0).1;have hlt2:=(List.getElem?_eq_some_iff.1 hz).1;by_cases hi:i0=i'
     ·subst hi;rw [if_pos rfl,if_pos hlt,hx0];simp only [Option.bind_some,getElem?_set];by_cases hc:c0=c'
      ·subst hc;rw [if_pos rfl,if_pos hlt2,hz];simp only;refine zi5 (k:=k) hv p s2 s1 zs ys x0 q hr hx hl ?_;simp only [under,length_cons,List.take_succ_cons,map_cons,List.drop_succ_cons,beq_self_eq_true,Bool.true_and] at hu ⊢
       have hc:∀ A B:List Nat,(c0::A==c0::B)=(A==B):=λA B=>by rw [Bool.eq_iff_iff];simp
       rw [hc] at hu;exact hu
      ·rw [if_neg hc]
     ·rw [if_neg hi]
   ·cases hr
section
variable {T:TT}
def Rs.bind {X Y:Type}:Rs X->(X->Rs Y)->Rs Y
 | .ok v,f=>f v
 | .no,_=>.no
 | .bnd x K,f=>.bnd x λa=>(K a).bind f
 | @Rs.need _ p _ K,f=>.need p (K.bind f)
 | .ite b x y,f=>.ite b (x.bind f) (y.bind f)
theorem Rs.bind_gives {X Y:Type}{f:X->Rs Y}{y:Y}:∀ (r:Rs X),(r.bind f).gives y->∃ x,r.gives x/\(f x).gives y
 | .ok v,h=>⟨v,rfl,h⟩
 | .no,h=>h.elim
 | .bnd x K,⟨a,h1,h2⟩=>by obtain ⟨x',h3,h4⟩:=Rs.bind_gives (K a) h2;exact ⟨x',⟨a,h1,h3⟩,h4⟩
 | @Rs.need _ p _ K,⟨h1,h2⟩=>by obtain ⟨x',h3,h4⟩:=Rs.bind_gives K h2;exact ⟨x',⟨h1,h3⟩,h4⟩
 | .ite b x y',h=>by
  rcases h with ⟨h1,h2⟩ | ⟨h1,h2⟩
  ·obtain ⟨x',h3,h4⟩:=Rs.bind_gives x h2;exact ⟨x',.inl ⟨h1,h3⟩,h4⟩
  ·obtain ⟨x',h3,h4⟩:=Rs.bind_gives y' h2;exact ⟨x',.inr ⟨h1,h3⟩,h4⟩
def ziv:TR T.El->Option (VT T)
 | .typ m t xs=>some (.ow m t xs)
 | .opn m t xs i cs=>some (.oo m t xs i cs)
 | .lit _ _=>none
theorem zdm {h:H}{r:TR T.El}{v:VT T}(hr:ziv r=some v):den T.q h v = .ow (za T.q r).s (za T.q r).xs:=by cases r<;>cases hr<;>rfl
theorem zhq {h:H}{cs:List (VT T)}{c:Nat}{v:VT T}:z7 T.q h (cs.set c v)=(z7 T.q h cs).set c (den T.q h v):=by simp [zq,map_set]
theorem znx {s:Nat}{xs:List (List (VT T))}:za T.q (.lit s xs)=⟨s,xs.map (z7 T.q [])⟩:=rfl
theorem y58 {m:Bool}{t i:Nat}{xs:List (T.El t)}{cs:List (VT T)}:za T.q (.opn m t xs i cs)=⟨T.sz t,(xs.map (T.ca m t)).set i (z7 T.q [] cs)⟩:=rfl
def zh4:VT T->Option (TR T.El)
 | .ow m t xs=>some (.typ m t xs)
 | .oo m t xs i cs=>some (.opn m t xs i cs)
 | _=>none
theorem z9c {h:H}{r:TR T.El}{v:VT T}(hr:zh4 v=some r):den T.q h v = .ow (za T.q r).s (za T.q r).xs:=by cases v<;>cases hr<;>rfl
def zk7 (m:Bool)(t:Nat)(xs:List (T.El t))(j:Nat)(cs:List (VT T)):TR T.El :=
 match T.un m t cs with
 | some y=>.typ m t (xs.set j y)
 | none=>.opn m t xs j cs
theorem zg2 {m:Bool}{t:Nat}{xs:List (T.El t)}{j:Nat}{cs:List (VT T)}:za T.q (zk7 m t xs j cs)=⟨T.sz t,(xs.map (T.ca m t)).set j (z7 T.q [] cs)⟩:=by
 unfold zk7;split
 ·rename_i y hy;simp only [za,map_set,T.un_ok _ _ _ _ hy]
 ·rfl
def zg7 (f:TR T.El->Rs (TR T.El)):Path->TR T.El->Rs (TR T.El)
 | [],r=>f r
 | (i,c)::p,.lit s xs =>
  match xs[i]? with
  | none=>.no
  | some x=>match (x[c]?).bind zh4 with
   | none=>.no
   | some r0=>(zg7 f p r0).bind λr1=>match ziv r1 with | some v=>.ok (.lit s (xs.set i (x.set c v))) | none=>.no
 | (i,c)::p,.typ m t xs =>
  .bnd (xs[i]?) λy=>match ((T.ct m t y)[c]?).bind zh4 with
   | none=>.no
   | some r0=>(zg7 f p r0).bind λr1=>match ziv r1 with | some v=>.ok (zk7 m t xs i ((T.ct m t y).set c v)) | none=>.no
 | (i,c)::p,.opn m t xs j cs =>
  .need (i=j/\j<xs.length) (match (cs[c]?).bind zh4 with
   | none=>.no
   | some r0=>(zg7 f p r0).bind λr1=>match ziv r1 with | some v=>.ok (zk7 m t xs i (cs.set c v)) | none=>.no)
theorem zag {f:TR T.El->Rs (TR T.El)}{F:Els->Els}{G:Nat->Els->Prop}(hf:∀ r r',(f r).gives r'->G (za T.q r).s (za T.q r).xs/\za T.q r'=⟨(za T.q r).s,F (za T.q r).xs⟩) :
  ∀ (p:Path) (r r':TR T.El),(zg7 f p r).gives r'->∃ s ys,zp (za T.q r).s (za T.q r).xs p=some (s,ys)/\G s ys/\za T.q r'=⟨(za T.q r).s,z1l (za T.q r).xs p F⟩
 | [],r,r',hg=>by obtain ⟨h1,h2⟩:=hf r r' hg;exact ⟨_,_,rfl,h1,h2⟩
 | (i,c)::p,.lit s xs,r',hg=>by
  simp only [zg7] at hg;split at hg
  ·exact hg.elim
  ·rename_i x hx;split at hg
   ·exact hg.elim
   ·rename_i r0 h0;obtain ⟨r1,q1,q2⟩:=Rs.bind_gives _ hg;obtain ⟨y,hy,hr0⟩:=bind_eq_some_iff.1 h0;obtain ⟨s1,ys,t1,t2,t3⟩:=zag hf p r0 r1 q1;split at q2
    ·rename_i v hv;cases q2;have hxe:(za T.q (.lit s xs)).xs[i]?=some (z7 T.q [] x):=by simp [za,hx]
     have hce:(z7 T.q [] x)[c]?=some (.ow (za T.q r0).s (za T.q r0).xs):=by rw [z31,hy,map_some,z9c hr0]
     refine ⟨s1,ys,by simp only [zp,hxe,hce];exact t1,t2,?_⟩;have hv':=zdm (T:=T) (h:=[]) hv;rw [t3] at hv';simp only [z1l,hxe,hce];rw [znx,map_set,zhq,hv'];rfl
    ·exact q2.elim
 | (i,c)::p,.typ m t xs,r',hg=>by
  obtain ⟨z,hz,hg⟩:=hg;dsimp only at hg;split at hg
  ·exact hg.elim
  ·rename_i r0 h0;obtain ⟨r1,q1,q2⟩:=Rs.bind_gives _ hg;obtain ⟨y,hy,hr0⟩:=bind_eq_some_iff.1 h0;obtain ⟨s1,ys,t1,t2,t3⟩:=zag hf p r0 r1 q1;split at q2
   ·rename_i v hv;cases q2;have hxe:(za T.q (.typ m t xs)).xs[i]?=some (T.ca m t z):=by simp [za,hz]
    have hce:(T.ca m t z)[c]?=some (.ow (za T.q r0).s (za T.q r0).xs):=by rw [zxu,hy,map_some,z9c hr0]
    refine ⟨s1,ys,by simp only [zp,hxe,hce];exact t1,t2,?_⟩;have hv':=zdm (T:=T) (h:=[]) hv;rw [t3] at hv';simp only [z1l,hxe,hce,zg2];rw [zhq,hv',T.ct_ok];rfl
   ·exact q2.elim
 | (i,c)::p,.opn m t xs j cs,r',hg=>by
  obtain ⟨⟨rfl,hj⟩,hg⟩:=hg;split at hg
  ·exact hg.elim
  ·rename_i r0 h0;obtain ⟨r1,q1,q2⟩:=Rs.bind_gives _ hg;obtain ⟨y,hy,hr0⟩:=bind_eq_some_iff.1 h0;obtain ⟨s1,ys,t1,t2,t3⟩:=zag hf p r0 r1 q1;split at q2
   ·rename_i v hv;cases q2
    have hxe:(za T.q (.opn m t xs i cs)).xs[i]?=some (z7 T.q [] cs):=by simp only [za];rw [getElem?_set_self (by simpa using hj)]
    have hce:(z7 T.q [] cs)[c]?=some (.ow (za T.q r0).s (za T.q r0).xs):=by rw [z31,hy,map_some,z9c hr0]
    refine ⟨s1,ys,by simp only [zp,hxe,hce];exact t1,t2,?_⟩;have hv':=zdm (T:=T) (h:=[]) hv;rw [t3] at hv';simp only [z1l,hxe,hce,zg2];rw [zhq,hv',y58,set_set]
   ·exact q2.elim
def zpz (fx:Bool)(i c n:Nat)(vs:List (VT T)):TR T.El->Rs (TR T.El)
 | .lit s xs =>
  match xs[i]? with
  | some x0=>bif Nat.ble (c+n) x0.length then .ok (.lit s (xs.set i (x0.take c++vs++x0.drop (c+n)))) else .no
  | none=>.no
 | .typ m t xs=>.bnd (xs[i]?) λy =>
  bif Nat.ble (c+n) (T.ct m t y).length then
   let cs:=(T.ct m t y).take c++vs++(T.ct m t y).drop (c+n)
   match T.un m t (bif fx then zfn (T.ks m t) cs else cs) with
   | some z=>.ok (.typ m t (xs.set i z))
   | none=>bif fx then .no else .ok (.opn m t xs i cs)
  else .no
 | .opn m t xs j cs=>.need (i=j/\j<xs.length) (bif Nat.ble (c+n) cs.length then .ok (zk7 m t xs i (cs.take c++vs++cs.drop (c+n))) else .no)
def y6s (fx:Bool)(i c n:Nat)(vs:List (VT T))(r:TR T.El):Rs (TR T.El):=bif Nat.blt (za T.q r).s 1000000 then zpz fx i c n vs r else .no
def tgR (fx:Bool):TR T.El->Nat->Option AV
 | .typ m t _=>bif fx then z67 T (T.ks m t) else λ_=>none
 | _=>λ_=>none
theorem ykg (fx:Bool)(r:TR T.El):zew (tgR fx r):=by
 cases r with
 | typ m t xs=>cases fx;exact λ_ _ h=>(by cases h);exact zda _ (T.ks_sm m t)
 | _=>exact λ_ _ h=>(by cases h)
theorem zri (tg:Nat->Option AV):∀ (l:List AV) (c:Nat),(∀ a∈l,isZ a=false)->z27 tg c l=l
 | [],_,_=>rfl
 | y::l,c,h=>by rw [z27,zri tg l (c+1) (λa ha=>h a (by simp [ha]))];have:=h y (by simp);cases y<;>simp [isZ] at this<;>rfl
theorem ykw {m:Bool}{t:Nat}{y:T.El t}:∀ a∈T.ca m t y,isZ a=false:=T.nz_ok m t y
theorem zwq {tg:Nat->Option AV}{m:Bool}{t:Nat}(xs:List (T.El t)):(xs.map (T.ca m t)).map (z27 tg 0)=xs.map (T.ca m t):=by rw [map_map];exact map_congr_left λy _=>zri tg _ 0 ykw
theorem z5w (xs:Els):xs.map (z27 (λ_=>none) 0)=xs:=by
 conv=>rhs;rw [<- map_id xs]
 exact map_congr_left λx _=>z96 _ _ _ (λ_=>rfl)
theorem zuu {fx:Bool}{i c n:Nat}{vs:List (VT T)}(r r':TR T.El)(hg:(zpz fx i c n vs r).gives r') :
  (∃ x0,(za T.q r).xs[i]?=some x0/\c+n<=x0.length)/\za T.q r'=⟨(za T.q r).s,(z18 i c n (z7 T.q [] vs) (za T.q r).xs).map (z27 (tgR fx r) 0)⟩:=by
 cases r with
 | lit s xs =>
  simp only [zpz] at hg;split at hg
  ·rename_i x0 hx;obtain ⟨hb,hg⟩:=zn hg;cases hg;have hxe:(za T.q (.lit s xs)).xs[i]?=some (z7 T.q [] x0):=by simp [za,hx]
   refine ⟨⟨_,hxe,by rw [z1w];exact le_of_ble_eq_true hb⟩,?_⟩;simp only [z18,hxe,tgR,z5w];simp [za,zq,map_set,map_take,map_drop]
  ·exact hg.elim
 | typ m t xs =>
  obtain ⟨y,hy,hg⟩:=hg;obtain ⟨hb,hg⟩:=zn hg;dsimp only at hg;split at hg
  ·rename_i z hz;cases hg;have hxe:(za T.q (.typ m t xs)).xs[i]?=some (T.ca m t y):=by simp [za,hy]
   have hl:(T.ca m t y).length=(T.ct m t y).length:=by rw [<- T.ct_ok,z1w]
   refine ⟨⟨_,hxe,by rw [hl];exact le_of_ble_eq_true hb⟩,?_⟩;simp only [z18,hxe,tgR]
   have hzc:z27 (bif fx then z67 T (T.ks m t) else λ_=>none) 0 ((T.ca m t y).take c++z7 T.q [] vs++(T.ca m t y).drop (c+n))=T.ca m t z:=by
    have e1:(T.ca m t y).take c++z7 T.q [] vs++(T.ca m t y).drop (c+n)=z7 T.q [] ((T.ct m t y).take c++vs++(T.ct m t y).drop (c+n)):=by simp [<- T.ct_ok,zq,map_take,map_drop]
    rw [e1,<- T.un_ok _ _ _ _ hz];cases fx
    ·simp only [cond_false];exact z96 _ _ _ (λ_=>rfl)
    ·simp only [cond_true];have:=zcv (T:=T) (h:=[]) (T.ks m t) ((T.ct m t y).take c++vs++(T.ct m t y).drop (c+n)) 0;simpa using this.symm
   simp only [za,map_set,hzc,zwq]
  ·cases hfx:fx with
   | true=>rw [hfx] at hg;exact hg.elim
   | false =>
    rw [hfx,cond_false] at hg;cases hg;have hxe:(za T.q (.typ m t xs)).xs[i]?=some (T.ca m t y):=by simp [za,hy]
    have hl:(T.ca m t y).length=(T.ct m t y).length:=by rw [<- T.ct_ok,z1w]
    refine ⟨⟨_,hxe,by rw [hl];exact le_of_ble_eq_true hb⟩,?_⟩;simp only [z18,hxe,tgR,cond_false,z5w];simp only [za];simp [<- T.ct_ok,zq,map_take,map_drop]
 | opn m t xs j cs =>
  obtain ⟨⟨rfl,hj⟩,hg2⟩:=hg;obtain ⟨hb,hg3⟩:=zn hg2;cases hg3
  have hxe:(za T.q (.opn m t xs i cs)).xs[i]?=some (z7 T.q [] cs):=by simp only [za];rw [getElem?_set_self (by simpa using hj)]
  refine ⟨⟨_,hxe,by rw [z1w];exact le_of_ble_eq_true hb⟩,?_⟩;simp only [z18,hxe,tgR,z5w,zg2];simp [za,zq,map_take,map_drop]
theorem zut {fx:Bool}{i c n:Nat}{vs:List (VT T)}(r r':TR T.El)(hg:(y6s fx i c n vs r).gives r') :
  ((za T.q r).s<MB/\∃ x0,(za T.q r).xs[i]?=some x0/\c+n<=x0.length)/\za T.q r'=⟨(za T.q r).s,(z18 i c n (z7 T.q [] vs) (za T.q r).xs).map (z27 (tgR fx r) 0)⟩:=by
 obtain ⟨h1,h2⟩:=zn hg;obtain ⟨h3,h4⟩:=zuu r r' h2;exact ⟨⟨le_of_ble_eq_true h1,h3⟩,h4⟩
end
section
variable {T:TT}
def y61:VT T->Bool
 | .zs=>true
 | _=>false
def z63 (c:Nat)(y:Int):Nat->List (VT T)->List (Option Int)->List (VT T)
 | j,v::cs,some n::l=>.sc (.int .i64 (bif Nat.beq c j then y else n))::z63 c y (j+1) cs l
 | j,v::cs,_::l=>v::z63 c y (j+1) cs l
 | _,cs,_=>cs
def y5z:VT T->Option Int
 | .sc (.int .i64 y)=>some y
 | .ik .i64 y=>some y
 | _=>none
theorem y60 {H0:H}{v:VT T}{y:Int}(h:y5z v=some y):den T.q H0 v = .sc (.int .i64 y):=by unfold y5z at h;split at h<;>cases h<;>rfl
theorem zmv (c:Nat)(y:Int):∀ (cs:List (VT T)) (l:List (Option Int)) (j:Nat),z9x cs=some l->c<j->z7 T.q [] (z63 c y j cs l)=z7 T.q [] cs
 | [],l,j,h,hc=>by cases h;rfl
 | x::cs,l,j,h,hc=>by
  unfold z9x at h;split at h
  ·rename_i r hr;have ih:=zmv c y cs r (j+1) hr (by omega);have hb:Nat.beq c j=false:=by rw [z1h];simp;omega
   split at h
   ·cases h;simp only [z63,z7,ih,hb,cond_false];try rfl
   ·cases h;simp only [z63,z7,ih,hb,cond_false];try rfl
   ·cases h;simp only [z63,z7,ih]
  ·cases h
theorem zv7 (c:Nat)(y:Int):∀ (cs:List (VT T)) (l:List (Option Int)) (j i:Nat) (n:Int),z9x cs=some l->c=j+i->z3l l i=some n->z7 T.q [] (z63 c y j cs l)=(z7 T.q [] cs).set i (.sc (.int .i64 y))
 | [],l,j,i,n,h,hc,hp=>by cases h;simp [z3l] at hp
 | x::cs,l,j,i,n,h,hc,hp=>by
  unfold z9x at h;split at h
  ·rename_i r hr;cases i with
   | zero =>
    have hb:Nat.beq c j=true:=by rw [z1h];simp;omega
    have ih:=zmv c y cs r (j+1) hr (by omega);split at h
    ·cases h;simp only [z63,z7,ih,hb,cond_true,set_cons_zero];try rfl
    ·cases h;simp only [z63,z7,ih,hb,cond_true,set_cons_zero];try rfl
    ·cases h;simp [z3l] at hp
   | succ i =>
    have hb:Nat.beq c j=false:=by rw [z1h];simp;omega
    have key:z3l r i=some n:=by split at h<;>(cases h;simpa [z3l] using hp)
    have ih:=zv7 c y cs r (j+1) i n hr (by omega) key;split at h
    ·cases h;simp only [z63,z7,ih,hb,cond_false,set_cons_succ];try rfl
    ·cases h;simp only [z63,z7,ih,hb,cond_false,set_cons_succ];try rfl
    ·cases h;simp only [z63,z7,ih,set_cons_succ]
  ·cases h
def stP (e:TE T.q)(h:TH T.q)(n:Nat)(k c:Nat)(x:Operand):Rs (StT T) :=
 bif Nat.beq n 1 then
  match z30 h k,y5z (evT e x) with
  | some (.lit s (cs::xs)),some y=>bif Nat.blt s 1000000 then match z9x cs with
   | some l=>.bnd (z3l l c) λ_=>.ok ⟨.un,λk' q=>Nat.beq k' k&&!q.isEmpty,λ_ _=>false,[k],(k,.lit s (z63 c y 0 cs l::xs))::z12 h k⟩
   | none=>.no
   else .no
  | _,_=>.no
 else .no
theorem y6z {α:Type}(l:List α)(c:Nat)(v:α)(h:c+1<=l.length):l.set c v=l.take c++[v]++l.drop (c+1):=by rw [List.set_eq_take_append_cons_drop,if_pos (by omega)];simp
theorem yke {P:Program}{pro:List Nat}{e:TE T.q}{h:TH T.q}{d:Nat}{g:Option (Nat×Bool)}{n k c:Nat}{a x:Operand}{s:StT T}(ha:evT e a = .pp (.px k c))(hg:(stP e h n k c x).gives s):z88 P pro T e h ⟨d,g,.st n a x⟩ s:=by
 unfold stP at hg;obtain ⟨hn,hg⟩:=zn hg;have hn:=eq_of_beq_eq_true hn;subst hn;split at hg
 ·rename_i s0 cs xs y hr hv;obtain ⟨_,hg⟩:=zn hg;obtain ⟨hsm,hg⟩:=zn hg;have hsm:=le_of_ble_eq_true hsm;split at hg
  ·rename_i l hl;obtain ⟨n0,hp,hg⟩:=hg;cases hg;have hd:=y60 (H0:=z5 T.q h) hv;have hset:=zv7 c y cs l 0 c n0 hl (by omega) hp;obtain ⟨v0,hv0,_⟩:=zi0 (H0:=[]) cs l c n0 hl hp;have hlt:c<cs.length:=(List.getElem?_eq_some_iff.1 hv0).1;have hgr:z6 (z5 T.q h) k=some ⟨s0,(cs::xs).map (z7 T.q [])⟩:=by rw [z1t,hr];rfl
   have hst:z9k (ev (z8 T.q (z5 T.q h) e)) (z5 T.q h) 1 a x=some (z5 T.q ((k,.lit s0 (z63 c y 0 cs l::xs))::z12 h k),under k [] c 1):=by simp only [z9k,zg,ha,den,z2j,hgr,zp,map_cons,getElem?_cons_zero,z1w];rw [if_pos ⟨by omega,hsm⟩,hd];simp only [cellsOf,List.length_singleton,if_true,z3s,z41];simp only [z5,za,map_cons,z1l,z18,getElem?_cons_zero,set_cons_zero,hset,zz];rw [y6z _ _ _ (by rw [z1w];omega)];rfl
   refine ⟨λe' he=>?_,λk' q hb _=>?_,λk' hk'=>?_⟩
   ·have hcg:z9k (ev e') (z5 T.q h) 1 a x=some (z5 T.q ((k,.lit s0 (z63 c y 0 cs l::xs))::z12 h k),under k [] c 1):=by rw [<- hst];exact zkd (z3y (x:=⟨d,g,.st 1 a x⟩) he (by simp [z5x])) (z3y (x:=⟨d,g,.st 1 a x⟩) he (by simp [z5x]))
    refine ⟨e',_,z1e (under k [] c 1) e',z5 T.q ((k,.lit s0 (z63 c y 0 cs l::xs))::z12 h k),z9.rfl',λ_ _ h=>h,.plain (by simp only [z2w,hcg]),?_⟩;refine z9.le λt=>?_;simp only [z1e,upd];split
    ·exact zb.un _
    ·refine z7d (λk' q hk=>?_) _;simp only [under,List.length_nil,take_zero,map_nil,drop_zero,beq_self_eq_true,Bool.and_true,and_eq_true] at hk;obtain ⟨hk1,hk2⟩:=hk;cases q with | nil=>cases hk2 | cons z q=>simpa [z1h] using hk1
   ·by_cases hk:k'=k
    ·subst hk
     have:q=[]:=by cases q with | nil=>rfl | cons z q=>simp [z1h] at hb
     subst this;rw [z3c (r:=⟨s0,(z63 c y 0 cs l::xs).map (z7 T.q [])⟩) (by simp [z5,z6,za]),z3c hgr];simp [z5k,zp]
    ·refine z1g ?_;simp only [z5,z6];rw [if_neg (λe=>hk e.symm),<- zz];exact z1b hk _
   ·have hk:k'≠k:=λe=>by subst e;simp at hk'
    simp only [z5,z6];rw [if_neg (λe=>hk e.symm),<- zz];exact z1b hk _
  ·exact hg.elim
 ·exact hg.elim
def stT (e:TE T.q)(h:TH T.q)(n:Nat)(a x:Operand):Rs (StT T) :=
 match evT e a with
 | .pp (.px k c)=>stP e h n k c x
 | .pt k p i c =>
  match z30 h k,z6x (evT e x) with
  | some r,some vs=>bif Nat.beq vs.length n then
   match zgf (z12 h k) [k] vs with
   | none=>.no
   | some (vs',g,h') =>
    let fx:=p.isEmpty&&vs'.any y61
    (zg7 (y6s fx i c n vs') p r).bind λr' =>
    .ok ⟨.un,λk' q=>under k p c n k' q||(g.contains k'&&!(Nat.beq k' k))||(fx&&Nat.beq k' k&&!q.isEmpty),λ_ _=>false,g,(k,r')::h'⟩
   else .no
  | _,_=>.no
 | _=>.no
theorem y4b {P:Program}{pro:List Nat}{e:TE T.q}{h:TH T.q}{d:Nat}{g:Option (Nat×Bool)}{n:Nat}{a x:Operand}{s:StT T}(hg:(stT e h n a x).gives s):z88 P pro T e h ⟨d,g,.st n a x⟩ s:=by
 unfold stT at hg;split at hg
 ·rename_i k c ha;exact yke ha hg
 ·rename_i k p i c ha;split at hg
  ·rename_i r vs hr hvs;obtain ⟨hn,hg⟩:=zn hg;have hn:=eq_of_beq_eq_true hn;split at hg
   ·exact hg.elim
   ·rename_i vs' gg h' hab;dsimp only at hg;generalize hfx:(p.isEmpty&&vs'.any y61)=fx at hg;obtain ⟨r',hup,hg⟩:=Rs.bind_gives _ hg;cases hg;obtain ⟨q1,q2⟩:=zdh (H0:=z5 T.q h) _ _ _ _ _ _ z55 hab;have hv:=z8p (h:=z5 T.q h) hvs;have hgr:z6 (z5 T.q h) k=some (za T.q r):=by rw [z1t,hr];rfl
    have hvl:(z7 T.q [] vs').length=n:=by
     have:∀ (l l':List AV) (hp hp':H),z3s hp l=some (l',hp')->l'.length=l.length:=by
      intro l
      induction l with
      | nil=>intro l' hp hp' hh;simp only [z3s,Option.some.injEq,Prod.mk.injEq] at hh;rw [<- hh.1]
      | cons y l ih =>
       intro l' hp hp' hh;unfold z3s at hh;split at hh
       ·split at hh
        ·rename_i h2;simp only [Option.some.injEq,Prod.mk.injEq] at hh;rw [<- hh.1,length_cons,ih _ _ _ h2,length_cons]
        ·cases hh
       ·cases hh
     rw [this _ _ _ _ q1,z1w,hn]
    have hgk:gg.contains k=true:=q2.sub k (by simp)
    obtain ⟨tg,ht,hkb,s1,ys,x0,t1,tx,tl,t3⟩:∃ tg,zew tg/\(fx=false->tg=λ_=>none)/\∃ s1 ys x0,zp (za T.q r).s (za T.q r).xs p=some (s1,ys)/\ys[i]?=some x0/\(c+n<=x0.length/\s1<MB) /\
      za T.q r'=⟨(za T.q r).s,(z1l (za T.q r).xs p (z18 i c n (z7 T.q [] vs'))).map (z27 tg 0)⟩:=by
     cases p with
     | nil =>obtain ⟨⟨hsm,x0,t1,t2⟩,t3⟩:=zut r r' hup;exact ⟨tgR fx r,ykg _ _,λh=>by subst h;cases r<;>rfl,_,_,x0,rfl,t1,⟨t2,hsm⟩,t3⟩
     | cons z p =>
      have hfx:fx=false:=by rw [<- hfx];rfl
      subst hfx
      obtain ⟨s1,ys,t1,⟨hsm,x0,t2,t4⟩,t3⟩:=zag (f:=y6s false i c n vs') (F:=z18 i c n (z7 T.q [] vs')) (G:=λs1 ys=>s1<MB/\∃ x0,ys[i]?=some x0/\c+n<=x0.length) (λr0 r1 h0=>by
       obtain ⟨h1,h2⟩:=zut r0 r1 h0;refine ⟨h1,?_⟩;rw [h2];have:tgR (T:=T) false r0=λ_=>none:=by cases r0<;>rfl
       rw [this,z5w]) (z::p) r r' hup
      exact ⟨λ_=>none,λ_ _ h=>(by cases h),λ_=>rfl,s1,ys,x0,t1,t2,⟨t4,hsm⟩,by rw [t3,z5w]⟩
    have hst:z9k (ev (z8 T.q (z5 T.q h) e)) (z5 T.q h) n a x=some ((k,⟨(za T.q r).s,z1l (za T.q r).xs p (z18 i c n (z7 T.q [] vs'))⟩)::z5 T.q h',under k p c n):=by simp only [z9k,zg,ha,den,hgr,t1,tx,hv,z1w,zz,q1];rw [if_pos tl,if_pos hn]
    have htch:∀ k',gg.contains k'=false->z6 (z5 T.q ((k,r')::h')) k'=z6 (z5 T.q h) k':=λk' hk'=>by
     have hne:k≠k':=λe=>by rw [<- e,hgk] at hk';cases hk'
     simp only [z5,z6];rw [if_neg hne];exact q2.same k' hk'
    refine ⟨λe' he=>?_,λk' q hb _=>?_,htch⟩
    ·have hcg:z9k (ev e') (z5 T.q h) n a x=some ((k,⟨(za T.q r).s,z1l (za T.q r).xs p (z18 i c n (z7 T.q [] vs'))⟩)::z5 T.q h',under k p c n):=by rw [<- hst];exact zkd (z3y (x:=⟨d,g,.st n a x⟩) he (by simp [z5x])) (z3y (x:=⟨d,g,.st n a x⟩) he (by simp [z5x]))
     refine ⟨e',_,z1e (under k p c n) e',(k,⟨(za T.q r).s,z1l (za T.q r).xs p (z18 i c n (z7 T.q [] vs'))⟩)::z5 T.q h',z9.rfl',λ_ _ h=>h,.plain (by simp only [z2w,hcg]),?_⟩;refine z9.trans (z9.fix (k:=k) (r:=⟨(za T.q r).s,z1l (za T.q r).xs p (z18 i c n (z7 T.q [] vs'))⟩) tg ht (by simp [z6])) ?_;simp only [zc,if_true];rw [show z5 T.q ((k,r')::h')=(k,⟨(za T.q r).s,(z1l (za T.q r).xs p (z18 i c n (z7 T.q [] vs'))).map (z27 tg 0)⟩)::z5 T.q h' by simp only [z5,t3]];refine z9.le λt=>?_;simp only [z1e,upd];split
     ·exact zb.un _
     ·rw [zbw.1];refine z7d (λk' q hk=>?_) _;simp only [or_eq_true] at hk ⊢;rcases hk with hk | hk
      ·exact .inl (.inl hk)
      ·right;cases hf:fx with
       | false =>rw [hkb hf] at hk;simp [z4e] at hk;split at hk<;>simp at hk
       | true =>simp only [z4e,and_eq_true,beq_iff_eq] at hk;obtain ⟨rfl,hk⟩:=hk;cases q with | nil=>cases hk | cons _ _=>simp
    ·simp only [or_eq_false_iff] at hb;by_cases hk:k'=k
     ·subst hk;rw [z3c (r:=za T.q r') (by simp [z5,z6]),z3c hgr,t3];simp only;rw [zou ht];exact zi5 (k:=k') hvl p _ s1 _ ys x0 q t1 tx tl.1 hb.1.1
     ·refine z1g ?_;simp only [z5,z6];rw [if_neg (λe=>hk e.symm)];refine q2.same k' ?_;have:=hb.1.2;simp only [z1h,hk,decide_false,Bool.not_false,Bool.and_true] at this;exact this
  ·exact hg.elim
 ·exact hg.elim
end
def eqC:Path->Path->Bool
 | [],[]=>true
 | (_,c)::p,(_,d)::q=>Nat.beq c d&&eqC p q
 | _,_=>false
theorem zv6:∀ (l:List AV) (c:Nat) (a:AV),zl7 l=true->l[c]?=some a->∃ u,a = .sc u
 | [],_,_,_,h=>by simp at h
 | .sc u::l,0,a,_,h=>by simp at h;exact ⟨u,h.symm⟩
 | .sc u::l,c+1,a,hs,h=>zv6 l c a hs (by simpa using h)
theorem zmk {k nk nv:Nat}{kc vs:List AV}{F:Els->Els}(hk:kc.length=nk)(hv:vs.length=nv)(hsc:zl7 kc=true):∀ (p:Path) (s s1:Nat) (xs ys:Els) (fi:Option Nat) (q:Path),zp s xs p=some (s1,ys) ->
  F ys=zbx nk nv fi kc vs ys->(∀ i,fi=some i->∃ x0,ys[i]?=some x0/\nk+nv<=x0.length)->under k p nk nv k q=false->eqC q p=false->z5k s (z1l xs p F) q=z5k s xs q
 | [],s,s1,xs,ys,fi,q,hr,hF,hx,hu,he=>by
  simp only [zp,Option.some.injEq,Prod.mk.injEq] at hr;obtain ⟨_,rfl⟩:=hr;simp only [z1l,hF];cases q with
  | nil=>cases he
  | cons z q =>
   obtain ⟨i',c'⟩:=z;have hc:¬ (nk<=c'/\c'<nk+nv):=λ⟨h1,h2⟩=>by simp [under,h1,h2] at hu
   cases fi with
   | some i =>
    obtain ⟨x0,hx0,hl⟩:=hx i rfl;simp only [zbx,z18,hx0];rw [z3d,z3d,getElem?_set];by_cases hi:i=i'
    ·subst hi;have hlt:=(List.getElem?_eq_some_iff.1 hx0).1;rw [if_pos rfl,if_pos hlt,hx0];simp only [Option.bind_some,zuv hl hv hc]
    ·rw [if_neg hi]
   | none =>
    simp only [zbx];rw [z3d,z3d];rcases Nat.lt_or_ge i' xs.length with hlt | hge
    ·rw [getElem?_append_left hlt]
    ·rw [getElem?_eq_none (l:=xs) hge,getElem?_append_right hge];cases h0:i' - xs.length with
     | succ n=>simp
     | zero =>
      simp only [getElem?_cons_zero,Option.bind_some,Option.bind_none];cases h1:(kc++vs)[c']? with
      | none=>rfl
      | some a =>
       have hlt:c'<nk:=by have:=(List.getElem?_eq_some_iff.1 h1).1;rw [length_append] at this;omega
       rw [getElem?_append_left (by omega)] at h1;obtain ⟨u,rfl⟩:=zv6 kc c' a hsc h1;rfl
 | (i0,c0)::p,s,s1,xs,ys,fi,q,hr,hF,hx,hu,he=>by
  simp only [zp] at hr;split at hr
  ·cases hr
  ·rename_i x hx0;split at hr
   ·rename_i s2 zs hz;simp only [z1l,hx0,hz];cases q with
    | nil=>simp [z5k,zp]
    | cons z q =>
     obtain ⟨i',c'⟩:=z;rw [z3d,z3d,getElem?_set];have hlt:=(List.getElem?_eq_some_iff.1 hx0).1;have hlt2:=(List.getElem?_eq_some_iff.1 hz).1;by_cases hi:i0=i'
     ·subst hi;rw [if_pos rfl,if_pos hlt,hx0];simp only [Option.bind_some,getElem?_set];by_cases hc:c0=c'
      ·subst hc;rw [if_pos rfl,if_pos hlt2,hz];simp only;refine zmk (k:=k) hk hv hsc p s2 s1 zs ys fi q hr hF hx ?_ ?_
       ·simp only [under,length_cons,List.take_succ_cons,map_cons,List.drop_succ_cons,beq_self_eq_true,Bool.true_and] at hu ⊢
        have hc:∀ A B:List Nat,(c0::A==c0::B)=(A==B):=λA B=>by rw [Bool.eq_iff_iff];simp
        rw [hc] at hu;exact hu
       ·simp only [eqC,Nat.beq_refl,Bool.true_and] at he;exact he
      ·rw [if_neg hc]
     ·rw [if_neg hi]
   ·cases hr
section
variable {T:TT}
def zch {α:Type}(f:α->Bool)(z:α)(xs:List α):List α :=
 match z2v f xs with
 | some r=>xs.set r.1 z
 | none=>xs++[z]
def zwy (nv:Nat)(ks:List Nat)(kv:List Value)(vs:List (VT T)):TR T.El->Rs (TR T.El)
 | .typ m t xs=>bif Nat.beq (T.sz t) (z4h ks.length nv)&&(Nat.blt (ks.length+nv) 1000000&&(zko (T.kq t) ks&&T.kOk t kv)) then
   match T.un m t (kv.map .sc++vs) with
   | some z=>.ok (.typ m t (zch (T.kf t kv) z xs))
   | none=>.no
  else .no
 | .opn m t xs j cs=>bif Nat.beq (T.sz t) (z4h ks.length nv)&&(Nat.blt (ks.length+nv) 1000000&&(zko (T.kq t) ks&&(T.kOk t kv&&Nat.beq cs.length (ks.length+nv)))) then
   match T.un m t (kv.map .sc++vs),zao (kv.map .sc) cs (z2p 0 ks) with
   | some z,some b=>.need (b=true/\(z2v (T.kf t kv) xs).map Prod.fst=some j) (.ok (.typ m t (xs.set j z)))
   | _,_=>.no
  else .no
 | .lit _ _=>.no
theorem zgm (h:H):∀ kv:List Value,z7 T.q h (kv.map .sc)=kv.map .sc
 | []=>rfl
 | v::l=>by simp only [map_cons,z7,den,zgm h l]
theorem zqo {ks:List Nat}{kc x0:List AV}(hkl:kc.length=ks.length)(h:z17 kc x0 (z2p 0 ks)=some true)(hl:ks.length<=x0.length):x0.take ks.length=kc:=by
 apply ext_getElem?;intro c;by_cases hcl:c<ks.length
 ·rw [List.getElem?_take_of_lt hcl];have:=zen ks 0 kc x0 h c hcl;rw [Nat.zero_add] at this;exact this.1.symm
 ·rw [getElem?_eq_none (by rw [length_take];omega),getElem?_eq_none (by omega)]
theorem zm6 {α:Type}{f:α->Bool}{g:α->List AV}{ks:List Nat}{kc c:List AV}(hf:∀ x,z17 kc (g x) (z2p 0 ks)=some (f x))(hc:z17 kc c (z2p 0 ks)=some true) :
  ∀ (xs:List α) (i j:Nat),(z2v f xs).map Prod.fst=some j->z4u ks kc ((xs.map g).set j c) i=some (some (i+j,c))
 | [],i,j,h=>by cases h
 | x::l,i,j,h=>by
  unfold z2v at h;cases hx:f x with
  | true =>rw [hx] at h;cases h;simp only [map_cons,set_cons_zero,z4u,hc,Nat.add_zero]
  | false =>
   rw [hx] at h;simp only [cond_false] at h;cases h1:z2v f l with
   | none=>rw [h1] at h;cases h
   | some r =>rw [h1] at h;cases h;simp only [map_cons,set_cons_succ,z4u,hf x,hx];rw [zm6 hf hc l (i+1) r.1 (by rw [h1];rfl),show i+1+r.1=i+(r.1+1) by omega]
theorem y6r {nv:Nat}{ks:List Nat}{kv:List Value}{vs:List (VT T)}(hk:kv.length=ks.length)(hv:vs.length=nv)(r r':TR T.El)(hg:(zwy nv ks kv vs r).gives r') :
  ((za T.q r).s=z4h ks.length nv/\∃ f,z4u ks (kv.map .sc) (za T.q r).xs 0=some f/\∀ i,f.map Prod.fst=some i->∃ x0,(za T.q r).xs[i]?=some x0/\ks.length+nv<=x0.length) /\
   za T.q r'=⟨(za T.q r).s,z6d ks.length nv ks (kv.map .sc) (z7 T.q [] vs) (za T.q r).xs⟩:=by
 cases r with
 | lit s xs=>exact hg.elim
 | typ m t xs =>
  obtain ⟨hc,hg⟩:=zn hg;simp only [and_eq_true] at hc;obtain ⟨c1,c0,c2,c3⟩:=hc;have c0:ks.length+nv<1000000:=le_of_ble_eq_true c0;have c1:=eq_of_beq_eq_true c1;have c2:=zgn _ _ c2;have hf:∀ x,z17 (kv.map .sc) (T.ca m t x) (z2p 0 ks)=some (T.kf t kv x):=λx=>by rw [<- c2];exact T.kf_ok m t kv x c3
  split at hg
  ·rename_i z hz;cases hg;have hu:=T.un_ok m t _ z hz;rw [zq,map_append,<- zq,<- zq,zgm] at hu;have hlen:∀ x,(T.ca m t x).length=ks.length+nv:=λx=>by rw [T.ln_ok,c1];unfold z4h;omega
   have hfind:=zce hf xs 0;simp only [za];cases h1:z2v (T.kf t kv) xs with
   | none =>rw [h1] at hfind;refine ⟨⟨c1,none,hfind,λi hi=>by cases hi⟩,?_⟩;unfold z6d;rw [hfind];simp only [zch,h1,map_none,zbx,map_append,map_cons,map_nil,hu]
   | some jy =>
    obtain ⟨j,y⟩:=jy;rw [h1] at hfind;simp only [Nat.zero_add] at hfind;obtain ⟨g1,g2⟩:=zbp _ xs j y h1;have hxj:(xs.map (T.ca m t))[j]?=some (T.ca m t y):=by rw [getElem?_map,g1];rfl
    refine ⟨⟨c1,_,hfind,λi hi=>by cases hi;exact ⟨_,hxj,by rw [hlen];exact Nat.le_refl _⟩⟩,?_⟩;unfold z6d;rw [hfind];have htk:=zqo (kc:=kv.map .sc) (x0:=T.ca m t y) (by rw [length_map];exact hk) (by rw [hf y,g2]) (by rw [hlen];omega);simp only [zch,h1,map_some,zbx,z18,hxj,htk,map_set];rw [List.drop_eq_nil_of_le (by rw [hlen];exact Nat.le_refl _),append_nil,hu]
  ·exact hg.elim
 | opn m t xs j cs =>
  obtain ⟨hc,hg⟩:=zn hg;simp only [and_eq_true] at hc;obtain ⟨c1,c0,c2,c3,c4⟩:=hc;have c0:ks.length+nv<1000000:=le_of_ble_eq_true c0;have c1:=eq_of_beq_eq_true c1;have c2:=zgn _ _ c2;have c4:=eq_of_beq_eq_true c4;have hf:∀ x,z17 (kv.map .sc) (T.ca m t x) (z2p 0 ks)=some (T.kf t kv x):=λx=>by rw [<- c2];exact T.kf_ok m t kv x c3
  split at hg
  ·rename_i z b hz hb;obtain ⟨⟨rfl,hj⟩,hg⟩:=hg;cases hg;have hu:=T.un_ok m t _ z hz;rw [zq,map_append,<- zq,<- zq,zgm] at hu;have hbc:=zcd (h:=[]) _ _ hb;rw [zgm] at hbc;have hfind:=zm6 (g:=T.ca m t) hf hbc xs 0 j hj;rw [Nat.zero_add] at hfind;simp only [za]
   have hjl:j<xs.length:=by
    cases h1:z2v (T.kf t kv) xs with
    | none=>rw [h1] at hj;cases hj
    | some r =>rw [h1] at hj;cases hj;exact (List.getElem?_eq_some_iff.1 (zbp _ xs r.1 r.2 h1).1).1
   have hxj:((xs.map (T.ca m t)).set j (z7 T.q [] cs))[j]?=some (z7 T.q [] cs):=getElem?_set_self (by simpa using hjl);refine ⟨⟨c1,_,hfind,λi hi=>by cases hi;exact ⟨_,hxj,by rw [z1w];omega⟩⟩,?_⟩;unfold z6d;rw [hfind];have htk:=zqo (kc:=kv.map .sc) (x0:=z7 T.q [] cs) (by rw [length_map];exact hk) hbc (by rw [z1w];omega);simp only [map_some,zbx,z18,hxj,htk,map_set,set_set];rw [List.drop_eq_nil_of_le (by rw [z1w];omega),append_nil,hu]
  ·exact hg.elim
theorem zr0 {f g:Operand->AV}{h:H}{nv:Nat}{ks:List Nat}{x key v:Operand}(hx:f x=g x)(hk:f key=g key)(hv:f v=g v):za0 f h nv ks x key v=za0 g h nv ks x key v:=by unfold za0;rw [hx,hk,hv]
def zwt (e:TE T.q)(h:TH T.q)(nv:Nat)(ks:List Nat)(x key v:Operand):Rs (StT T) :=
 match evT e x,zwl ks.length (evT e key),zfv nv (evT e v) with
 | .pp (.mr k p),some kv,some vs =>
  match z30 h k with
  | some r=>bif Nat.beq vs.length nv then
   match zgf (z12 h k) [k] vs with
   | none=>.no
   | some (vs',g,h') =>
    (zg7 (zwy nv ks kv vs') p r).bind λr' =>
    .ok ⟨.un,λk' q=>under k p ks.length nv k' q||(g.contains k'&&!(Nat.beq k' k)),λk' q=>Nat.beq k' k&&eqC q p,g,(k,r')::h'⟩
   else .no
  | none=>.no
 | _,_,_=>.no
theorem y3f {h:H}{n:Nat}{x:VT T}{cs:List (VT T)}(hc:zfv n x=some cs):z35 n (den T.q h x)=some (z7 T.q h cs):=by
 cases x<;>simp [zfv,zpw] at hc
 case ag cs' =>
  cases hn:Nat.beq n 1 with
  | true=>rw [hn] at hc;simp at hc
  | false =>rw [hn] at hc;simp at hc;subst hc;simp only [den,z35];rw [if_neg (λe=>by rw [e] at hn;cases hn)]
 case sc u =>
  cases hu:u.oneCell' with | true=>rw [hu] at hc;simp at hc;subst hc;simp [den,z35,z46,hu,z7] | false=>rw [hu] at hc;simp at hc
 case ik k n=>subst hc;simp [den,z35,z46,z7,Value.oneCell']
 case bk b=>subst hc;simp [den,z35,z46,z7,Value.oneCell']
 case pp q=>subst hc;cases q<;>simp [den,z2j,z35,z46,z7]
 all_goals (subst hc;simp [den,z35,z46,z7])
theorem zqe:∀ kv:List Value,zl7 (kv.map .sc)=true
 | []=>rfl
 | _::l=>zqe l
theorem zni:∀ (l l':List AV) (hp hp':H),z3s hp l=some (l',hp')->l'.length=l.length
 | [],l',hp,hp',hh=>by simp only [z3s,Option.some.injEq,Prod.mk.injEq] at hh;rw [<- hh.1]
 | y::l,l',hp,hp',hh=>by
  unfold z3s at hh;split at hh
  ·split at hh
   ·rename_i h2;simp only [Option.some.injEq,Prod.mk.injEq] at hh;rw [<- hh.1,length_cons,zni l _ _ _ h2,length_cons]
   ·cases hh
  ·cases hh
theorem zul {P:Program}{pro:List Nat}{e:TE T.q}{h:TH T.q}{d:Nat}{g:Option (Nat×Bool)}{nv:Nat}{ks:List Nat}{x key v:Operand}{s:StT T}(hg:(zwt e h nv ks x key v).gives s):z88 P pro T e h ⟨d,g,.mst nv ks x key v⟩ s:=by
 unfold zwt at hg;split at hg
 ·rename_i k p kv vs hx hk hvs;split at hg
  ·rename_i r hr;obtain ⟨hn,hg⟩:=zn hg;have hn:=eq_of_beq_eq_true hn;split at hg
   ·exact hg.elim
   ·rename_i vs' gg h' hab;obtain ⟨r',hup,hg⟩:=Rs.bind_gives _ hg;cases hg;obtain ⟨q1,q2⟩:=zdh (H0:=z5 T.q h) _ _ _ _ _ _ z55 hab;obtain ⟨k1,k2⟩:=zue (h:=z5 T.q h) hk;have hv1:=y3f (h:=z5 T.q h) hvs;have hgr:z6 (z5 T.q h) k=some (za T.q r):=by rw [z1t,hr];rfl
    have hvl:(z7 T.q [] vs').length=nv:=by rw [zni _ _ _ _ q1,z1w,hn]
    have hvl':vs'.length=nv:=by rwa [z1w] at hvl
    have hgk:gg.contains k=true:=q2.sub k (by simp);obtain ⟨s1,ys,t1,⟨t2,f,t4,t5⟩,t3⟩:=zag (f:=zwy nv ks kv vs') (F:=z6d ks.length nv ks (kv.map .sc) (z7 T.q [] vs')) (G:=λs1 ys=>s1=z4h ks.length nv/\∃ f,z4u ks (kv.map .sc) ys 0=some f/\∀ i,f.map Prod.fst=some i->∃ x0,ys[i]?=some x0/\ks.length+nv<=x0.length) (λr0 r1 h0=>y6r k2 hvl' r0 r1 h0) p r r' hup
    have hst:za0 (ev (z8 T.q (z5 T.q h) e)) (z5 T.q h) nv ks x key v=some (z5 T.q ((k,r')::h'),under k p ks.length nv):=by simp only [za0,zg,hx,den,z2j,k1,hv1,hgr,t1,t2,z1w,length_map,k2,hn,zqe,and_self,if_true,t4,zz,q1];simp only [z5,t3]
    have htch:∀ k',gg.contains k'=false->z6 (z5 T.q ((k,r')::h')) k'=z6 (z5 T.q h) k':=λk' hk'=>by
     have hne:k≠k':=λe=>by rw [<- e,hgk] at hk';cases hk'
     simp only [z5,z6];rw [if_neg hne];exact q2.same k' hk'
    refine ⟨λe' he=>?_,λk' q hb hbw=>?_,htch⟩
    ·have hcg:za0 (ev e') (z5 T.q h) nv ks x key v=some (z5 T.q ((k,r')::h'),under k p ks.length nv):=by rw [<- hst];exact zr0 (z3y (x:=⟨d,g,.mst nv ks x key v⟩) he (by simp [z5x])) (z3y (x:=⟨d,g,.mst nv ks x key v⟩) he (by simp [z5x])) (z3y (x:=⟨d,g,.mst nv ks x key v⟩) he (by simp [z5x]))
     refine ⟨e',_,z1e (under k p ks.length nv) e',z5 T.q ((k,r')::h'),z9.rfl',λ_ _ h=>h,.plain (by simp only [z2w,hcg]),?_⟩;refine z9.le λt=>?_;simp only [z1e,upd];split
     ·exact zb.un _
     ·exact z7d (λk' q hk=>by simp only [hk,Bool.true_or]) _
    ·simp only [or_eq_false_iff] at hb;by_cases hkk:k'=k
     ·subst hkk;rw [z3c (r:=za T.q r') (by simp [z5,z6]),z3c hgr,t3];simp only;simp only [Nat.beq_refl,Bool.true_and] at hbw;refine zmk (k:=k') (nk:=ks.length) (nv:=nv) (kc:=kv.map .sc) (vs:=z7 T.q [] vs') (by rw [length_map];exact k2) hvl (zqe kv) p _ s1 _ ys (f.map Prod.fst) q t1 ?_ t5 hb.1 hbw;unfold z6d;rw [t4]
     ·refine z1g ?_;simp only [z5,z6];rw [if_neg (λe=>hkk e.symm)];refine q2.same k' ?_;have:=hb.2;simp only [z1h,hkk,decide_false,Bool.not_false,Bool.and_true] at this;exact this
  ·exact hg.elim
 ·exact hg.elim
end
section
variable {T:TT}
def zqi (m:Bool)(t s:Nat)(e:TE T.q)(h:TH T.q)(y:Operand):Rs (List (T.El t)×Option Nat) :=
 bif Nat.beq (T.sz t) s then
 match evT e y with
 | .zs=>.ok ([],none)
 | .sc (.string b)=>if hh:T.u8=t then bif m then .no else .ok (hh ▸ T.bs (bytesOf b),none) else .no
 | .im t' ws=>if hh:t'=t then bif m then .no else .ok (hh ▸ ws,none) else .no
 | .sw k p=>atT h k p fun
  | .typ m' t' ws=>if hh:t'=t then
    match m',m,p with
    | false,false,_=>.ok (hh ▸ ws,none)
    | true,true,[]=>.ok (hh ▸ ws,some k)
    | _,_,_=>.no
   else .no
  | _=>.no
 | .sl k p off len=>atT h k p fun
  | .typ m' t' ws=>if hh:t'=t then bif m||m' then .no else .need (off+len<=ws.length) (.ok (((hh ▸ ws:List (T.El t)).drop off).take len,none)) else .no
  | _=>.no
 | _=>.no
 else .no
theorem zov {t:Nat}(xs:List (T.El t)):zbq (xs.map (T.ca false t))=true:=by unfold zbq;rw [all_eq_true];intro y hy;obtain ⟨x,_,rfl⟩:=mem_map.1 hy;exact T.fl_ok t x
theorem zla {m:Bool}{t s:Nat}{e:TE T.q}{h:TH T.q}{y:Operand}{ws:List (T.El t)}{mv:Option Nat}(hg:(zqi m t s e h y).gives (ws,mv)) :
  T.sz t=s/\∃ mv',z47 (z5 T.q h) s (den T.q (z5 T.q h) (evT e y))=some (ws.map (T.ca m t),mv')/\(mv'=none\/mv'=mv):=by
 unfold zqi at hg;obtain ⟨hs,hg⟩:=zn hg;have hs:=eq_of_beq_eq_true hs;refine ⟨hs,?_⟩;split at hg
 ·rename_i hy;cases hg;exact ⟨none,by simp [hy,den,z47],.inl rfl⟩
 ·rename_i b hy;split at hg
  ·rename_i hh;subst hh;cases m with
   | true=>exact hg.elim
   | false =>cases hg;refine ⟨none,?_,.inl rfl⟩;simp only [hy,den,z47];rw [if_pos (by rw [<- hs];exact T.bs_sz),T.bs_ok]
  ·exact hg.elim
 ·rename_i t' ws' hy;split at hg
  ·rename_i hh;subst hh;cases m with
   | true=>exact hg.elim
   | false =>cases hg;exact ⟨none,by simp only [hy,den,z47];rw [if_pos hs],.inl rfl⟩
  ·exact hg.elim
 ·rename_i k p hy;obtain ⟨r,hr,hg⟩:=z5o hg;have hl:zh (z5 T.q h) k p=(za T.q r).xs.length:=z5u hr;split at hg
  ·rename_i m' t' ws';split at hg
   ·rename_i hh;subst hh;split at hg
    ·cases hg;refine ⟨none,?_,.inl rfl⟩;simp only [hy,den,z47,hr,hl];simp only [za,hs];rw [if_pos ⟨trivial,by omega⟩,drop_zero,take_length,if_pos (zov _)]
    ·cases hg;refine ⟨if zbq ((ws'.map (T.ca true t')))=true then none else some k,?_,?_⟩
     ·simp only [hy,den,z47,hr,hl];simp only [za,hs];rw [if_pos ⟨trivial,by omega⟩,drop_zero,take_length];split<;>simp
     ·split<;>simp
    ·exact hg.elim
   ·exact hg.elim
  ·exact hg.elim
 ·rename_i k p off len hy;obtain ⟨r,hr,hg⟩:=z5o hg;split at hg
  ·rename_i m' t' ws';split at hg
   ·rename_i hh;subst hh;cases m<;>cases m'<;>first | exact hg.elim | skip
    obtain ⟨hc,hg⟩:=hg;cases hg;refine ⟨none,?_,.inl rfl⟩;simp only [hy,den,z47,hr];simp only [za,hs];rw [if_pos ⟨trivial,by simpa using hc⟩];have:((ws'.map (T.ca false t')).drop off).take len=((ws'.drop off).take len).map (T.ca false t'):=by simp [map_take,map_drop]
    rw [this,if_pos (zov _)]
   ·exact hg.elim
  ·exact hg.elim
 ·exact hg.elim
theorem zhe {a b:Nat}:∀ (h:H),zc (zc h a) b=zc (zc h b) a
 | []=>rfl
 | (k,r)::h=>by
  by_cases ha:k=a
  ·by_cases hb:k=b
   ·subst ha;subst hb;rfl
   ·simp only [zc,if_pos ha,if_neg hb]
  ·by_cases hb:k=b
   ·simp only [zc,if_neg ha,if_pos hb]
   ·simp only [zc,if_neg ha,if_neg hb,zhe h]
theorem z9.drop {P:Program}{pro:List Nat}{e:Env}{h:H}(k:Nat):z9 P pro e h e (zc h k):=λI N _ σ a w R=>by obtain ⟨q1,q2,q3,q4⟩:=z4d R.heap k;exact ⟨σ,I,λ_ h=>h,λ_ h=>.inl h,⟨q1,R.size,R.vals,R.defers⟩,λ_ _=>rfl,Le.refl _,λ_ _ _=>rfl,λb hb=>.inl (q3 b hb)⟩
def z92 (h:TH T.q):Option Nat->TH T.q
 | none=>h
 | some k=>z12 h k
theorem y4d {h:TH T.q}{mv:Option Nat}:z24 (z5 T.q h) mv=z5 T.q (z92 h mv):=by cases mv with | none=>rfl | some k=>exact zz h k
def isO (mv:Option Nat)(k:Nat):Bool:=match mv with | some k'=>Nat.beq k' k | none=>false
def apT (ty:Option (Bool×Nat))(pro:List Nat)(e:TE T.q)(h:TH T.q)(d s bytes:Nat)(x y:Operand):Rs (StT T) :=
 match evT e x with
 | .zs =>
  match ty with
  | none=>.no
  | some (m,t)=>bif pro.contains d then .no else
   (zqi m t s e h y).bind λ(ws,mv)=>bif isO mv d then .no else
    .need (ws.length * bytes<=140737488355328) (.ok ⟨.sw d [],λk _=>Nat.beq k d||isO mv k,λ_ _=>false,d::mv.toList,(d,.typ m t ws)::z12 (z92 h mv) d⟩)
 | .sw k [] =>
  match z30 h k with
  | some (.typ m t xs)=>bif pro.contains k then .no else
   (zqi m t s e h y).bind λ(ws,mv)=>bif isO mv k then .no else
    .need ((xs.length+ws.length) * bytes<=140737488355328) (.ok ⟨.sw k [],λk' _=>Nat.beq k' k||isO mv k',λ_ _=>false,k::mv.toList,(k,.typ m t (xs++ws))::z12 (z92 h mv) k⟩)
  | _=>.no
 | .sl k [] 0 len =>
  match z30 h k with
  | some (.typ m t xs)=>bif pro.contains k then .no else
   (zqi m t s e h y).bind λ(ws,mv)=>bif isO mv k then .no else
    .need (len<=xs.length/\(len+ws.length) * bytes<=140737488355328) (.ok ⟨.sw k [],λk' _=>Nat.beq k' k||isO mv k',λ_ _=>false,k::mv.toList,(k,.typ m t (xs.take len++ws))::z12 (z92 h mv) k⟩)
  | _=>.no
 | _=>.no
theorem znk {P:Program}{pro:List Nat}{e:TE T.q}{h:TH T.q}{d s bytes k:Nat}{g:Option (Nat×Bool)}{x y:Operand}{mv mv':Option Nat}{m:Bool}{t:Nat}{zs:List (T.El t)}(hp:pro.contains k=false)(hs:T.sz t=s)(hk:isO mv k=false)(hm:mv'=none\/mv'=mv)
  (hap:zc9 (ev (z8 T.q (z5 T.q h) e)) (z5 T.q h) d s bytes x y=some (.sl k [] 0 zs.length,(k,⟨s,zs.map (T.ca m t)⟩)::zc (z24 (z5 T.q h) mv') k,k)) :
  z88 P pro T e h ⟨d,g,.app s bytes x y⟩ ⟨.sw k [],λk' _=>Nat.beq k' k||isO mv k',λ_ _=>false,k::mv.toList,(k,.typ m t zs)::z12 (z92 h mv) k⟩:=by
 have hsame:∀ k',k'≠k->isO mv k'=false->z6 (z5 T.q ((k,.typ m t zs)::z12 (z92 h mv) k)) k'=z6 (z5 T.q h) k':=λk' h1 h2=>by
  simp only [z5,z6];rw [if_neg (λe=>h1 e.symm),<- zz,z1b h1];cases mv with
  | none=>rfl
  | some k2 =>simp only [z92,<- zz];refine z1b (λe=>?_) _;simp [isO,e] at h2
 refine ⟨λe' he=>?_,λk' q hb _=>z1g ?_,λk' hk'=>?_⟩
 ·have hcg:=hap;rw [<- zvl (z3y (x:=⟨d,g,.app s bytes x y⟩) he (o:=x) (by simp [z5x])) (z3y (x:=⟨d,g,.app s bytes x y⟩) he (o:=y) (by simp [z5x]))] at hcg;refine ⟨e',_,upd (z1e (λk' _=>k'==k) e') d (.sl k [] 0 zs.length),_,z9.rfl',λ_ _ h=>h,.plain (by simp only [z2w,hcg,hp,false_eq_true,if_false];rfl),?_⟩
  have hheap:z9 P pro (upd (z1e (λk' _=>k'==k) e') d (.sl k [] 0 zs.length)) ((k,⟨s,zs.map (T.ca m t)⟩)::zc (z24 (z5 T.q h) mv') k) (upd (z1e (λk' _=>k'==k) e') d (.sl k [] 0 zs.length)) (z5 T.q ((k,.typ m t zs)::z12 (z92 h mv) k)):=by
   have goal:z5 T.q ((k,.typ m t zs)::z12 (z92 h mv) k)=(k,⟨s,zs.map (T.ca m t)⟩)::zc (z24 (z5 T.q h) mv) k:=by simp only [z5,za,hs,<- zz,y4d]
   rw [goal];rcases hm with rfl | rfl
   ·cases mv with
    | none=>exact z9.rfl'
    | some k2 =>
     have hne:k2≠k:=by simp only [isO,z1h,decide_eq_false_iff_not] at hk;exact hk
     have:=z9.drop (P:=P) (pro:=pro) (e:=upd (z1e (λk' _=>k'==k) e') d (.sl k [] 0 zs.length)) (h:=(k,⟨s,zs.map (T.ca m t)⟩)::zc (z5 T.q h) k) k2;simp only [zc,if_neg (Ne.symm hne)] at this;rw [zhe] at this;exact this
   ·exact z9.rfl'
  refine z9.trans hheap (z9.le λu=>?_)
  have hl:zh (z5 T.q ((k,.typ m t zs)::z12 (z92 h mv) k)) k []=zs.length:=by unfold zh z1j;simp [z5,z6,zp,za]
  simp only [z1e,upd];split
  ·simp only [den,hl];exact zb.refl _
  ·exact z7d (λk' q hk'=>by simp only [beq_iff_eq] at hk';subst hk';simp) _
 ·simp only [or_eq_false_iff,z1h,decide_eq_false_iff_not] at hb;exact hsame k' hb.1 hb.2
 ·simp only [contains_cons,or_eq_false_iff,beq_eq_false_iff_ne] at hk';refine hsame k' hk'.1 ?_;cases mv with
  | none=>rfl
  | some k2 =>have:=hk'.2;simp only [Option.toList,contains_cons,or_eq_false_iff,beq_eq_false_iff_ne] at this;simp only [isO,z1h,decide_eq_false_iff_not];exact λe=>this.1 e.symm
theorem zxp {P:Program}{ty:Option (Bool×Nat)}{pro:List Nat}{e:TE T.q}{h:TH T.q}{d s bytes:Nat}{g:Option (Nat×Bool)}{x y:Operand}{st:StT T}(hg:(apT ty pro e h d s bytes x y).gives st):z88 P pro T e h ⟨d,g,.app s bytes x y⟩ st:=by
 have nob:∀ {b:Bool} {X:Type} {r:Rs X} {v:X},(bif b then .no else r).gives v->b=false/\r.gives v:=λ{b _ _ _} hg=>by
  cases b
  ·exact ⟨rfl,hg⟩
  ·exact hg.elim
 have take:∀ {k:Nat} {mv mv':Option Nat} {r:TR T.El},isO mv k=false->(mv'=none\/mv'=mv)->z30 h k=some r->z6 (z24 (z5 T.q h) mv') k=some (za T.q r):=λ{k mv mv' r} hk hm hr=>by
  have h0:z6 (z5 T.q h) k=some (za T.q r):=by rw [z1t,hr];rfl
  rcases hm with rfl | rfl
  ·exact h0
  ·cases mv' with
   | none=>exact h0
   | some k2 =>
    have hne:k2≠k:=by simp only [isO,z1h,decide_eq_false_iff_not] at hk;exact hk
    rw [z24,z1b (Ne.symm hne),h0]
 unfold apT at hg;split at hg
 ·rename_i hx;split at hg
  ·exact hg.elim
  ·rename_i m t;obtain ⟨hp,hg⟩:=nob hg;obtain ⟨⟨ws,mv⟩,hsrc,hg⟩:=Rs.bind_gives _ hg;obtain ⟨hk,hg⟩:=nob hg;obtain ⟨hc,rfl⟩:=hg;obtain ⟨hs,mv',h1,h2⟩:=zla hsrc;refine znk hp hs hk h2 ?_;simp only [zc9,zg,h1,hx,den,length_map];rw [if_pos hc]
 ·rename_i k hx;split at hg
  ·rename_i m t xs hr;obtain ⟨hp,hg⟩:=nob hg;obtain ⟨⟨ws,mv⟩,hsrc,hg⟩:=Rs.bind_gives _ hg;obtain ⟨hk,hg⟩:=nob hg;obtain ⟨hc,rfl⟩:=hg;obtain ⟨hs,mv',h1,h2⟩:=zla hsrc;refine znk hp hs hk h2 ?_;have hgr:z6 (z5 T.q h) k=some (za T.q (.typ m t xs)):=by rw [z1t,hr];rfl
   have hl:zh (z5 T.q h) k []=xs.length:=by rw [z3c hgr];simp [z5k,zp,za]
   simp only [zc9,zg,h1,hx,den,hl,take hk h2 hr,za,length_map];rw [if_pos ⟨trivial,trivial⟩,if_pos ⟨hs,Nat.le_refl _,hc⟩,take_of_length_le (by simp),map_append,length_append]
  ·exact hg.elim
 ·rename_i k len hx;split at hg
  ·rename_i m t xs hr;obtain ⟨hp,hg⟩:=nob hg;obtain ⟨⟨ws,mv⟩,hsrc,hg⟩:=Rs.bind_gives _ hg;obtain ⟨hk,hg⟩:=nob hg;obtain ⟨⟨hc1,hc⟩,rfl⟩:=hg;obtain ⟨hs,mv',h1,h2⟩:=zla hsrc;refine znk hp hs hk h2 ?_;simp only [zc9,zg,h1,hx,den,take hk h2 hr,za,length_map];rw [if_pos ⟨trivial,trivial⟩,if_pos ⟨hs,hc1,hc⟩,map_append,map_take,length_append,length_take,Nat.min_eq_left hc1]
  ·exact hg.elim
 ·exact hg.elim
end
section
variable {T:TT}
mutual
theorem zd0 {H0 H1:H}{bad:Nat->Path->Bool}(hl:∀ k p,bad k p=false->zh H1 k p=zh H0 k p):∀ (v:VT T),kill bad (den T.q H0 v)=den T.q H1 (z2o bad (λ_ _=>false) v)
 | .un | .sc _ | .ik _ _ | .bk _ | .zs | .im _ _ | .ip _ _ _ | .ow _ _ _ | .oo _ _ _ _ _=>rfl
 | .pp q=>(zef q).symm
 | .ag cs=>by simp only [den,kill,z2o,zeg hl cs]
 | .tu cs=>by simp only [den,kill,z2o,zeg hl cs]
 | .fn f cs=>by simp only [den,kill,z2o,zeg hl cs]
 | .sl k p off len=>by simp only [den,kill,z2o];cases h1:bad k p<;>rfl
 | .pt k p i c=>by simp only [den,kill,z2o];cases h1:bad k p<;>rfl
 | .sw k p=>by simp only [den,kill,z2o,Bool.or_false];cases h1:bad k p with | true=>rfl | false=>simp only [false_eq_true,if_false,cond_false,den,hl k p h1]
theorem zeg {H0 H1:H}{bad:Nat->Path->Bool}(hl:∀ k p,bad k p=false->zh H1 k p=zh H0 k p):∀ (l:List (VT T)),z2x bad (z7 T.q H0 l)=z7 T.q H1 (z7s bad (λ_ _=>false) l)
 | []=>rfl
 | x::l=>by simp only [z7,z2x,z7s,zd0 hl x,zeg hl l]
end
mutual
theorem zi4:∀ (v:VT T),z2o (λ_ _=>false) (λ_ _=>false) v=v
 | .un | .sc _ | .ik _ _ | .bk _ | .zs | .im _ _ | .ip _ _ _ | .ow _ _ _ | .oo _ _ _ _ _ | .sl _ _ _ _ | .pt _ _ _ _ | .sw _ _=>rfl
 | .pp q=>by cases q<;>rfl
 | .ag cs=>by simp only [z2o,zbv cs]
 | .tu cs=>by simp only [z2o,zbv cs]
 | .fn f cs=>by simp only [z2o,zbv cs]
theorem zbv:∀ (l:List (VT T)),z7s (λ_ _=>false) (λ_ _=>false) l=l
 | []=>rfl
 | x::l=>by simp only [z7s,zi4 x,zbv l]
end
def zvy {X:Type}(i:Nat)(K:List (VT T)->Rs X):TR T.El->Rs X
 | .lit s xs=>match xs[i]? with | some cs=>K cs | none=>.no
 | .typ m t xs=>.bnd (xs[i]?) λy=>K (T.ct m t y)
 | .opn m t xs j cs=>.need (i=j/\j<xs.length) (K cs)
theorem y5a {X:Type}{i:Nat}{K:List (VT T)->Rs X}{r:TR T.El}{v:X}(hg:(zvy i K r).gives v):∃ cs,(za T.q r).xs[i]?=some (z7 T.q [] cs)/\(K cs).gives v:=by
 cases r with
 | lit s xs =>
  simp only [zvy] at hg;split at hg
  ·rename_i cs hcs;exact ⟨cs,by simp [za,hcs],hg⟩
  ·exact hg.elim
 | typ m t xs =>obtain ⟨y,hy,hg⟩:=hg;exact ⟨T.ct m t y,by simp [za,hy,T.ct_ok],hg⟩
 | opn m t xs j cs =>obtain ⟨⟨rfl,hj⟩,hg⟩:=hg;exact ⟨cs,by simp only [za];rw [getElem?_set_self (by simpa using hj)],hg⟩
def zjr:Path->Option (Path×Nat×Nat)
 | []=>none
 | [(i,c)]=>some ([],i,c)
 | x::p=>match zjr p with | some (q,i,c)=>some (x::q,i,c) | none=>none
theorem zmh:∀ (p q:Path) (i c:Nat),zjr p=some (q,i,c)->p=q++[(i,c)]
 | [],_,_,_,h=>by cases h
 | [(i,c)],_,_,_,h=>by cases h;rfl
 | x::y::p,q,i,c,h=>by
  simp only [zjr] at h;split at h
  ·rename_i q' i' c' h';cases h;rw [zmh (y::p) q' i c h'];rfl
  ·cases h
def y59 (pro:List Nat)(h:TH T.q)(j k:Nat)(p:Path)(i c:Nat):Rs (TH T.q) :=
 bif pro.contains j||(h.map Prod.fst).contains j then .no else
 match z30 h k with
 | none=>.no
 | some r=>z7w (zvy i λcs=>match (cs[c]?).bind zh4 with
  | none=>.no
  | some rj=>(zg7 (zpz false i c 1 [.un]) p r).bind λr'=>.ok ((j,rj)::(k,r')::z12 h k)) p r
def z6n (j k:Nat)(p:Path)(c:Nat)(k':Nat)(q:Path):Bool:=Nat.beq k' j||under k p c 1 k' q
theorem ya5 {P:Program}{pro:List Nat}{h h1:TH T.q}{j k i c:Nat}{p:Path}(hg:(y59 pro h j k p i c).gives h1) :
  (∀ (e:Env) (t:Nat),e t = .sl k (p++[(i,c)]) 0 (zh (z5 T.q h) k (p++[(i,c)]))->z9 P pro e (z5 T.q h) (upd (z1e (z6n j k p c) e) t (.sl j [] 0 (zh (z5 T.q h1) j []))) (z5 T.q h1)) /\
  (∀ k' q,z6n j k p c k' q=false->zh (z5 T.q h1) k' q=zh (z5 T.q h) k' q)/\(∀ k',k'≠j->k'≠k->z6 (z5 T.q h1) k'=z6 (z5 T.q h) k'):=by
 unfold y59 at hg
 have hj:pro.contains j=false/\(h.map Prod.fst).contains j=false:=by cases hb:(pro.contains j||(h.map Prod.fst).contains j) with | true=>rw [hb] at hg;exact hg.elim | false=>simpa using hb
 rw [hj.1,hj.2] at hg;simp only [Bool.or_false,cond_false] at hg;split at hg
 ·exact hg.elim
 ·rename_i r hr;obtain ⟨ry,hp,hg⟩:=z5y _ _ hg;obtain ⟨cs,hcs,hg⟩:=y5a hg;split at hg
  ·exact hg.elim
  ·rename_i rj hrj;obtain ⟨r',hup,hg⟩:=Rs.bind_gives _ hg;cases hg;obtain ⟨v,hv,hrow⟩:=bind_eq_some_iff.1 hrj;have hgr:z6 (z5 T.q h) k=some (za T.q r):=by rw [z1t,hr];rfl
   have hcell:(z7 T.q [] cs)[c]?=some (.ow (za T.q rj).s (za T.q rj).xs):=by rw [z31,hv,map_some,z9c hrow]
   have hlen:zh (z5 T.q h) k (p++[(i,c)])=(za T.q rj).xs.length:=by rw [z3c hgr];unfold z5k;rw [zcj p _ _ _ _ _ hp];simp [zp,hcs,hcell]
   obtain ⟨s1,ys,t1,⟨x0,t2,t4⟩,t3⟩:=zag (f:=zpz false i c 1 [.un]) (F:=z18 i c 1 [.un]) (G:=λ_ ys=>∃ x0,ys[i]?=some x0/\c+1<=x0.length) (λr0 r1 h0=>by
    obtain ⟨h1,h2⟩:=zuu r0 r1 h0;refine ⟨h1,?_⟩;rw [h2];have:tgR (T:=T) false r0=λ_=>none:=by cases r0<;>rfl
    rw [this,z5w];rfl) p r r' hup
   rw [t1] at hp;simp only [Option.some.injEq,Prod.mk.injEq] at hp;obtain ⟨rfl,rfl⟩:=hp;have hx0:x0=z7 T.q [] cs:=by rw [t2] at hcs;exact Option.some.inj hcs
   have hset:z1l (za T.q r).xs p (z18 i c 1 [.un])=z1l (za T.q r).xs p (λys=>ys.set i ((z7 T.q [] cs).set c .un)):=by refine zkg p _ _ _ _ t1 ?_;simp only [z18,t2,hx0];congr 1;rw [List.set_eq_take_append_cons_drop];rw [hx0] at t4;rw [if_pos (by omega)];simp
   have hjk:j≠k:=λe=>by
    have:(h.map Prod.fst).contains k=true:=by have:=z9w _ hgr;rw [z1p] at this;simpa using this
    rw [<- e,hj.2] at this;cases this
   have hlj:zh (z5 T.q ((j,rj)::(k,r')::z12 h k)) j []=(za T.q rj).xs.length:=by unfold zh z1j;simp [z5,z6,zp]
   refine ⟨λe t ht=>?_,λk' q hb=>?_,λk' h1 h2=>by simp only [z5,z6];rw [if_neg (λe=>h1 e.symm),if_neg (λe=>h2 e.symm),<- zz,z1b h2]⟩
   ·rw [hlen] at ht
    have:=z9.detachAt (P:=P) (pro:=pro) (e:=e) (h:=z5 T.q h) (t:=t) (s0:=(za T.q ry).s) j ht hgr t1 hcs hcell (by rw [z1p];exact hj.2) (by rw [all_eq_true];intro k' hk';simp only [bne_iff_ne,ne_eq];rintro rfl;have:=hj.1;simp [hk'] at this)
    rw [hlj]
    have hh:z5 T.q ((j,rj)::(k,r')::z12 h k)=(j,⟨(za T.q rj).s,(za T.q rj).xs⟩)::(k,⟨(za T.q r).s,z1l (za T.q r).xs p (λys=>ys.set i ((z7 T.q [] cs).set c .un))⟩)::zc (z5 T.q h) k:=by simp only [z5,t3,hset,zz]
    rw [hh]
    have hb:(λk' q=>k'==j||under k p c 1 k' q)=z6n j k p c:=by funext k' q;unfold z6n;congr 1;rw [Bool.eq_iff_iff];simp
    rw [hb] at this;exact this
   ·simp only [z6n,or_eq_false_iff,z1h,decide_eq_false_iff_not] at hb;by_cases hk:k'=k
    ·subst hk;rw [z3c (r:=za T.q r') (by simp [z5,z6,hjk]),z3c hgr,t3];exact zi5 (k:=k') rfl p _ _ _ _ x0 q t1 t2 t4 hb.2
    ·refine z1g ?_;simp only [z5,z6];rw [if_neg (λe=>hb.1 e.symm),if_neg (λe=>hk e.symm),<- zz,z1b hk]
def zvm (ty:Option (Bool×Nat))(pro:List Nat)(e:TE T.q)(h:TH T.q)(d s bytes:Nat)(x y:Operand):Rs (StT T) :=
 match evT e x,x with
 | .sw k (z::p),.tmp t =>
  match zjr (z::p) with
  | none=>.no
  | some (p,i,c) =>
   let j:=400000+d
   (y59 pro h j k p i c).bind λh1 =>
    (apT ty pro (z1v (z5t (z6n j k p c) (λ_ _=>false) e) t (.sw j [])) h1 d s bytes x y).bind λst =>
     .ok ⟨st.v,λk' q=>z6n j k p c k' q||st.bad k' q,st.bw,j::k::st.tch,st.h⟩
 | _,_=>apT ty pro e h d s bytes x y
theorem zxf {k i c:Nat}{p:Path}:under k p c 1 k (p++[(i,c)])=true:=by simp [under]
theorem zr6 {P:Program}{ty:Option (Bool×Nat)}{pro:List Nat}{e:TE T.q}{h:TH T.q}{d s bytes:Nat}{g:Option (Nat×Bool)}{x y:Operand}{st:StT T}(hg:(zvm ty pro e h d s bytes x y).gives st):z88 P pro T e h ⟨d,g,.app s bytes x y⟩ st:=by
 unfold zvm at hg;split at hg
 ·rename_i k z p0 t hx;split at hg
  ·exact hg.elim
  ·rename_i p i c hlast;obtain ⟨h1,hd,hg⟩:=Rs.bind_gives _ hg;obtain ⟨st1,ha,hg⟩:=Rs.bind_gives _ hg;cases hg;obtain ⟨d1,d2,d3⟩:=ya5 (P:=P) hd;obtain ⟨a1,a2,a3⟩:=zxp (P:=P) (g:=g) ha;have hp:=zmh _ _ _ _ hlast;refine ⟨λe' he=>?_,λk' q hb hw=>?_,λk' hk'=>?_⟩
   ·have het:e' t = .sl k (p++[(i,c)]) 0 (zh (z5 T.q h) k (p++[(i,c)])):=by rw [he t (by simp [z3r,z5x,zh6])];show den T.q _ (evT e (.tmp t))=_;rw [hx,hp];rfl
    have hgh:=d1 e' t het
    obtain ⟨e0,h0',e1,h1',g1,gb,g2,g3⟩:=a1 (upd (z1e (z6n (400000+d) k p c) e') t (.sl (400000+d) [] 0 (zh (z5 T.q h1) (400000+d) []))) (λu hu=>by
     rw [z1f];simp only [upd];split
     ·rfl
     ·simp only [z1e,z8,z3a];rw [he u hu];exact zd0 d2 _)
    refine ⟨e0,h0',e1,h1',hgh.trans g1,λu b hu=>gb u b ?_,g2,g3.trans (z9.le λu=>?_)⟩
    ·simp only [upd];split
     ·rename_i hut;subst hut;rw [het] at hu;cases hu
     ·simp only [z1e,hu,kill]
    simp only [upd];split
    ·exact zb.refl _
    ·split
     ·rename_i hu;subst hu
      have:kill (λk' q=>z6n (400000+d) k p c k' q||st1.bad k' q) (e' u) = .un:=by rw [het];simp [kill,z6n,zxf]
      rw [this];exact zb.un _
     ·simp only [z1e];rw [zbw.1];exact zb.refl _
   ·simp only [or_eq_false_iff] at hb;rw [a2 k' q hb.2 hw,d2 k' q hb.1]
   ·simp only [contains_cons,or_eq_false_iff,beq_eq_false_iff_ne] at hk';rw [a3 k' hk'.2.2,d3 k' hk'.1 hk'.2.1]
 ·exact zxp hg
end
section
variable {P:Program}{T:TT}{pro:List Nat}
def z7z (k i c k':Nat)(p:Path):Option Path :=
 match p with
 | []=>none
 | (i',c')::q=>bif Nat.beq k' k&&(Nat.beq c' c&&Nat.beq i' i) then some q else none
mutual
def z80 (k i c j:Nat):VT T->VT T
 | .sl k' p off len=>bif Nat.beq k' j then .un else match z7z k i c k' p with | some q=>.sl j q off len | none=>.sl k' p off len
 | .sw k' p=>bif Nat.beq k' j then .un else match z7z k i c k' p with | some q=>.sw j q | none=>.sw k' p
 | .pt k' p o c0=>bif Nat.beq k' j then .un else match z7z k i c k' p with | some q=>.pt j q o c0 | none=>.pt k' p o c0
 | .ag cs=>.ag (zh3 k i c j cs)
 | .tu cs=>.tu (zh3 k i c j cs)
 | .fn f cs=>.fn f (zh3 k i c j cs)
 | .un=>.un
 | .sc v=>.sc v
 | .ik k n=>.ik k n
 | .bk b=>.bk b
 | .zs=>.zs
 | .im t xs=>.im t xs
 | .ip s cs c=>.ip s cs c
 | .ow m t xs=>.ow m t xs
 | .oo m t xs i cs=>.oo m t xs i cs
 | .pp q=>zau (λk' _=>Nat.beq k' j) q
def zh3 (k i c j:Nat):List (VT T)->List (VT T)
 | []=>[]
 | x::l=>z80 k i c j x::zh3 k i c j l
end
theorem y3v {k i c k':Nat}{p:Path}(h:z7z k i c k' p=none):∀ q,¬ (k'=k/\p=(i,c)::q):=by rintro q ⟨rfl,rfl⟩;simp [z7z] at h
theorem y3w {k i c k':Nat}{p q:Path}(h:z7z k i c k' p=some q):k'=k/\p=(i,c)::q:=by
 unfold z7z at h;split at h
 ·cases h
 ·rename_i i' c' q';cases hb:(Nat.beq k' k&&(Nat.beq c' c&&Nat.beq i' i)) with
  | false=>rw [hb] at h;cases h
  | true =>rw [hb] at h;cases h;simp only [and_eq_true] at hb;exact ⟨eq_of_beq_eq_true hb.1,by rw [eq_of_beq_eq_true hb.2.1,eq_of_beq_eq_true hb.2.2]⟩
theorem zuw {k i c j k':Nat}{p:Path}{off len:Nat}:renV k i c j (.sl k' p off len)=if k'=j then .un else match z7z k i c k' p with | some q=>.sl j q off len | none=>.sl k' p off len:=by
 unfold renV;split
 ·rfl
 ·cases p with
  | nil=>rfl
  | cons x q =>
   obtain ⟨i',c'⟩:=x;simp only [z7z,z1h];by_cases h:k'=k/\i'=i/\c'=c
   ·obtain ⟨rfl,rfl,rfl⟩:=h;simp
   ·rw [if_neg h]
    have:(decide (k'=k)&&(decide (c'=c)&&decide (i'=i)))=false:=by rw [Bool.eq_false_iff];intro hb;simp only [and_eq_true,decide_eq_true_eq] at hb;exact h ⟨hb.1,hb.2.2,hb.2.1⟩
    rw [this];rfl
theorem ybr {k i c j k':Nat}{p:Path}{o c0:Nat}:renV k i c j (.pt k' p o c0)=if k'=j then .un else match z7z k i c k' p with | some q=>.pt j q o c0 | none=>.pt k' p o c0:=by
 unfold renV;split
 ·rfl
 ·cases p with
  | nil=>rfl
  | cons x q =>
   obtain ⟨i',c'⟩:=x;simp only [z7z,z1h];by_cases h:k'=k/\i'=i/\c'=c
   ·obtain ⟨rfl,rfl,rfl⟩:=h;simp
   ·rw [if_neg h]
    have:(decide (k'=k)&&(decide (c'=c)&&decide (i'=i)))=false:=by rw [Bool.eq_false_iff];intro hb;simp only [and_eq_true,decide_eq_true_eq] at hb;exact h ⟨hb.1,hb.2.2,hb.2.1⟩
    rw [this];rfl
mutual
theorem zq6 {H0 H1:H}{k i c j:Nat}(h1:∀ q,zh H1 j q=zh H0 k ((i,c)::q))(h2:∀ k' q,k'≠j->(∀ q',¬ (k'=k/\q=(i,c)::q'))->zh H1 k' q=zh H0 k' q):∀ (v:VT T),den T.q H1 (z80 k i c j v)=renV k i c j (den T.q H0 v)
 | .un | .sc _ | .ik _ _ | .bk _ | .zs | .im _ _ | .ip _ _ _ | .ow _ _ _ | .oo _ _ _ _ _=>by simp only [z80,den,renV]
 | .pp q=>by
  simp only [z80,den];rw [zef];have hb:(λ(k':Nat) (_:Path)=>Nat.beq k' j)=λk' _=>k'==j:=by funext k' _;rw [z1h];simp only [BEq.beq]
  rw [hb];cases q with
  | px k' c0 =>simp only [z2j,kill,renV];by_cases hj:k'=j<;>simp [hj]
  | _=>rfl
 | .ag cs=>by simp only [z80,den,renV,zc2 h1 h2 cs]
 | .tu cs=>by simp only [z80,den,renV,zc2 h1 h2 cs]
 | .fn f cs=>by simp only [z80,den,renV,zc2 h1 h2 cs]
 | .sl k' p off len=>by
  simp only [z80,den,zuw,z1h];by_cases hj:k'=j
  ·simp [hj,den]
  ·simp only [hj,decide_false,cond_false,if_false];cases z7z k i c k' p<;>rfl
 | .pt k' p o c0=>by
  simp only [z80,den,ybr,z1h];by_cases hj:k'=j
  ·simp [hj,den]
  ·simp only [hj,decide_false,cond_false,if_false];cases z7z k i c k' p<;>rfl
 | .sw k' p=>by
  simp only [z80,den,zuw,z1h];by_cases hj:k'=j
  ·simp [hj,den]
  ·simp only [hj,decide_false,cond_false,if_false];cases hr:z7z k i c k' p with
   | some q =>obtain ⟨rfl,rfl⟩:=y3w hr;simp only [den,h1]
   | none =>simp only [den,h2 k' p hj (y3v hr)]
theorem zc2 {H0 H1:H}{k i c j:Nat}(h1:∀ q,zh H1 j q=zh H0 k ((i,c)::q))(h2:∀ k' q,k'≠j->(∀ q',¬ (k'=k/\q=(i,c)::q'))->zh H1 k' q=zh H0 k' q):∀ (l:List (VT T)),z7 T.q H1 (zh3 k i c j l)=zc3 k i c j (z7 T.q H0 l)
 | []=>rfl
 | x::l=>by simp only [zh3,z7,zc3,zq6 h1 h2 x,zc2 h1 h2 l]
end
def z8w (k i c j:Nat):TE T.q->TE T.q
 | []=>[]
 | (t,v)::l=>(t,z80 k i c j v)::z8w k i c j l
theorem zhy {k i c j t:Nat}:∀ (e:TE T.q),z1c (z8w k i c j e) t=z80 k i c j (z1c e t)
 | []=>by simp [z8w,z1c,z80]
 | (t',v)::l=>by have ih:=zhy (k:=k) (i:=i) (c:=c) (j:=j) (t:=t) l;simp only [z8w,z1c];cases Nat.beq t t'<;>simp [ih]
def zj0 (pro:List Nat)(h:TH T.q)(j k i c:Nat):Option (TH T.q) :=
 bif pro.contains j||(h.map Prod.fst).contains j then none else
 match z30 h k with
 | some (.lit s xs)=>match xs[i]? with
  | some cs=>match (cs[c]?).bind zh4 with
   | some rj=>some ((j,rj)::(k,.lit s (xs.set i (cs.set c .un)))::z12 h k)
   | none=>none
  | none=>none
 | _=>none
theorem zhr {h h1:TH T.q}{e:TE T.q}{j k i c:Nat}(hg:zj0 pro h j k i c=some h1) :
  z9 P pro (z8 T.q (z5 T.q h) e) (z5 T.q h) (z8 T.q (z5 T.q h1) (z8w k i c j e)) (z5 T.q h1):=by
 unfold zj0 at hg
 have hj:pro.contains j=false/\(h.map Prod.fst).contains j=false:=by cases hb:(pro.contains j||(h.map Prod.fst).contains j) with | true=>rw [hb] at hg;cases hg | false=>simpa using hb
 rw [hj.1,hj.2] at hg;simp only [Bool.or_false,cond_false] at hg;split at hg
 ·rename_i s xs hr;split at hg
  ·rename_i cs hcs;split at hg
   ·rename_i rj hrj;cases hg;obtain ⟨v,hv,hrow⟩:=bind_eq_some_iff.1 hrj;have hgr:z6 (z5 T.q h) k=some ⟨s,xs.map (z7 T.q [])⟩:=by rw [z1t,hr];rfl
    have hx:(xs.map (z7 T.q []))[i]?=some (z7 T.q [] cs):=by simp [hcs]
    have hcell:(z7 T.q [] cs)[c]?=some (.ow (za T.q rj).s (za T.q rj).xs):=by rw [z31,hv,map_some,z9c hrow]
    have hjk:j≠k:=λe=>by
     have:(h.map Prod.fst).contains k=true:=by have:=z9w _ hgr;rw [z1p] at this;simpa using this
     rw [<- e,hj.2] at this;cases this
    have:=z9.detach (P:=P) (pro:=pro) (e:=z8 T.q (z5 T.q h) e) j hgr hx hcell (by rw [z1p];exact hj.2) (by rw [all_eq_true];intro k' hk';simp only [bne_iff_ne,ne_eq];rintro rfl;have:=hj.1;simp [hk'] at this)
    have hh:z5 T.q ((j,rj)::(k,TR.lit s (xs.set i (cs.set c .un)))::z12 h k)=(j,⟨(za T.q rj).s,(za T.q rj).xs⟩)::(k,⟨s,(xs.map (z7 T.q [])).set i ((z7 T.q [] cs).set c .un)⟩)::zc (z5 T.q h) k:=by simp only [z5,za,zz,map_set];congr 3;simp only [zq,map_set];rfl
    rw [hh]
    have he:z8 T.q ((j,⟨(za T.q rj).s,(za T.q rj).xs⟩)::(k,⟨s,(xs.map (z7 T.q [])).set i ((z7 T.q [] cs).set c .un)⟩)::zc (z5 T.q h) k) (z8w k i c j e)=λt=>renV k i c j (z8 T.q (z5 T.q h) e t):=by
     funext t;simp only [z8,zhy];refine zq6 (λq=>?_) (λk' q hk hq=>?_) _
     ·unfold zh z1j;rw [hgr];simp only [z6,if_true,zp,hx,hcell]
     ·by_cases hkk:k'=k
      ·subst hkk;unfold zh z1j;rw [hgr];simp only [z6];rw [if_neg hjk];simp only [if_true];cases q with
       | nil=>simp [zp]
       | cons z q =>
        obtain ⟨i',c'⟩:=z;simp only [zp,getElem?_set];by_cases hi:i=i'
        ·subst hi
         have hil:i<(xs.map (z7 T.q [])).length:=by obtain ⟨hl,_⟩:=List.getElem?_eq_some_iff.1 hx;exact hl
         simp only [if_true,hil,hx];have hcc:c≠c':=λe=>by subst e;exact hq q ⟨rfl,rfl⟩
         rw [List.getElem?_set_ne hcc]
        ·simp only [hi,if_false]
      ·refine z1g ?_;simp only [z6];rw [if_neg (λe=>hk e.symm),if_neg (λe=>hkk e.symm),z1b hkk]
    rw [he];exact this
   ·cases hg
  ·cases hg
 ·cases hg
def ykq:VT T->Option (Nat×Nat×Nat)
 | .sw k [(i,c)]=>some (k,i,c)
 | _=>none
def zdr (pro:List Nat):Nat->TE T.q->TH T.q->List (VT T)->Option (TE T.q×TH T.q)
 | _,e,h,[]=>some (e,h)
 | j,e,h,x::l=>match ykq x with
  | some (k,i,c)=>match zj0 pro h j k i c with | some h1=>zdr pro (j+1) (z8w k i c j e) h1 l | none=>none
  | none=>zdr pro (j+1) e h l
theorem zg1 {k i c j t:Nat}{e:TE T.q}{H0 H1:H}{b:Bool}(h:z8 T.q H0 e t=Bl b):z8 T.q H1 (z8w k i c j e) t=Bl b:=by simp only [z8,zhy] at h ⊢;cases hv:z1c e t<;>rw [hv] at h<;>first | (rename_i q;cases q<;>cases h;done) | (simp [den] at h<;>simp [z80,den,h])
theorem zds:∀ (l:List (VT T)) (j:Nat) (e e1:TE T.q) (h h1:TH T.q),zdr pro j e h l=some (e1,h1) ->
  z9 P pro (z8 T.q (z5 T.q h) e) (z5 T.q h) (z8 T.q (z5 T.q h1) e1) (z5 T.q h1)/\∀ t b,z8 T.q (z5 T.q h) e t=Bl b->z8 T.q (z5 T.q h1) e1 t=Bl b
 | [],j,e,e1,h,h1,hg=>by simp only [zdr,Option.some.injEq,Prod.mk.injEq] at hg;obtain ⟨rfl,rfl⟩:=hg;exact ⟨z9.rfl',λ_ _ h=>h⟩
 | x::l,j,e,e1,h,h1,hg=>by
  simp only [zdr] at hg;split at hg
  ·rename_i k i c heq;split at hg
   ·rename_i h2 hd;obtain ⟨q1,q2⟩:=zds l (j+1) _ e1 _ h1 hg;exact ⟨(zhr hd).trans q1,λt b hb=>q2 t b (zg1 hb)⟩
   ·cases hg
  ·exact zds l (j+1) e e1 h h1 hg
def zh0 (e:TE T.q):List Operand->List (VT T)
 | []=>[]
 | o::l=>match z6x (evT e o) with | some cs=>cs++zh0 e l | none=>zh0 e l
end
inductive VD where
 | any
 | im (t:Nat)
 | ag (l:List VD)
 | pt (key:Nat)
 | fn (f:Nat) (l:List VD)
section
variable {T:TT}
structure Con (P:Program) (T:TT) where
 f:Nat
 X:Type
 Y:Type
 A:List VD
 H:List (Nat×List Kd)
 N:List Nat
 encA:X->List (VT T)
 encH:X->TH T.q
 G:X->Option Y
 encR:Y->VT T
 encO:Y->TH T.q
 strong:Bool
 ok:∀ x y,G x=some y->(strong=true->z1q P f (z7 T.q (z5 T.q (encH x)) (encA x)) (z5 T.q (encH x)) (den T.q (z5 T.q (encO y)) (encR y)) (z5 T.q (encO y))) /\
  CallG P f (z7 T.q (z5 T.q (encH x)) (encA x)) (z5 T.q (encH x)) (den T.q (z5 T.q (encO y)) (encR y)) (z5 T.q (encO y))
 x:Bool:=false
 V:Type:=Empty
 encV:V->Value:=by intro z;cases z
 FX:X->Option (Y⊕V):=λ_=>none
 okX:∀ x r,FX x=some r->match r with
  | .inl y=>CallG P f (z7 T.q (z5 T.q (encH x)) (encA x)) (z5 T.q (encH x)) (den T.q (z5 T.q (encO y)) (encR y)) (z5 T.q (encO y))
  | .inr z=>z9m P f (z7 T.q (z5 T.q (encH x)) (encA x)) (z5 T.q (encH x)) (encV z):=by intro _ _ h;cases h
mutual
def yn7:VD->VT T->Option (List (Nat×Nat))
 | .pt key,.pt k [] 0 0=>some [(key,k)]
 | .pt _,_=>none
 | .fn f ds,.fn f' cs=>bif Nat.beq f f' then zkh ds cs else none
 | .fn _ _,_=>none
 | .ag ds,.ag cs=>zkh ds cs
 | .ag _,_=>none
 | .any,_=>some []
 | .im _,_=>some []
def zkh:List VD->List (VT T)->Option (List (Nat×Nat))
 | [],[]=>some []
 | d::ds,v::vs=>match yn7 d v,zkh ds vs with | some a,some b=>some (a++b) | _,_=>none
 | _,_=>none
end
mutual
def zn8 (rest:TH T.q)(m:List (Nat×Nat)):VD->VT T->RT T
 | .any,.sc v=>.ok (.sc v)
 | .any,.ik k n=>.ok (.sc (.int k n))
 | .any,.bk b=>.ok (.sc (.bool b))
 | .any,.zs=>.ok .zs
 | .any,.im t xs=>.ok (.im t xs)
 | .any,_=>.no
 | .im t,.im t' xs=>bif Nat.beq t t' then .ok (.im t' xs) else .no
 | .im t,.zs=>.ok (.im t [])
 | .im t,.sw k p=>bif (m.map Prod.snd).contains k then .no else atT rest k p fun
  | .typ _ t' xs=>bif Nat.beq t t' then .ok (.im t' xs) else .no
  | _=>.no
 | .im t,.sl k p off len=>atT rest k p fun
  | .typ _ t' xs=>bif Nat.beq t t' then .need (off+len<=xs.length) (.ok (.im t' ((xs.drop off).take len))) else .no
  | _=>.no
 | .im _,_=>.no
 | .ag ds,.ag cs=>(zcq rest m ds cs).bind λcs'=>.ok (.ag cs')
 | .ag _,_=>.no
 | .pt _,.pt k [] i c=>match z1n m k with | some n=>.ok (.pt n [] i c) | none=>.no
 | .pt _,_=>.no
 | .fn _ ds,.fn f cs=>(zcq rest m ds cs).bind λcs'=>.ok (.fn f cs')
 | .fn _ _,_=>.no
def zcq (rest:TH T.q)(m:List (Nat×Nat)):List VD->List (VT T)->Rs (List (VT T))
 | [],[]=>.ok []
 | d::ds,v::vs=>(zn8 rest m d v).bind λv'=>(zcq rest m ds vs).bind λvs'=>.ok (v'::vs')
 | _,_=>.no
end
mutual
def y9j:VT T->Bool
 | .sl _ _ _ _ | .sw _ _=>true
 | .ag cs=>z3g cs
 | .tu cs=>z3g cs
 | .fn _ cs=>z3g cs
 | .un | .sc _ | .ik _ _ | .bk _ | .zs | .im _ _ | .ip _ _ _ | .pt _ _ _ _ | .ow _ _ _ | .oo _ _ _ _ _ | .pp _=>false
def z3g:List (VT T)->Bool
 | []=>false
 | x::l=>y9j x||z3g l
end
theorem z7g {m:Bool}{t:Nat}(xs:List (T.El t)):z3f (xs.map (T.ca m t))=xs.map (T.ca false t):=z3o (λx=>T.im_ok m t x) xs
mutual
theorem y55 {H0 Hn:H}{rest:TH T.q}{m:List (Nat×Nat)}{bor:Bool}(hs:∀ k,(m.map Prod.snd).contains k=false->z6 (z5 T.q rest) k=z6 H0 k) :
  ∀ (d:VD) (v v':VT T),(zn8 rest m d v).gives v'->(y9j v=true->bor=true)->∃ a,conv (z5 T.q rest) m bor (den T.q H0 v)=some a/\zb a (den T.q Hn v')
 | .any,v,v',hg,hb=>by cases v<;>first | exact hg.elim | (cases hg;exact ⟨_,rfl,zb.refl _⟩)
 | .im t,v,v',hg,hb=>by
  cases v with
  | im t' xs =>obtain ⟨h1,rfl⟩:=zn hg;exact ⟨_,rfl,zb.refl _⟩
  | zs=>cases hg;exact ⟨_,rfl,by simp only [den,map_nil];exact zb.zsIm _⟩
  | sw k p =>
   simp only [zn8] at hg;cases hc:(m.map Prod.snd).contains k with
   | true=>rw [hc] at hg;exact hg.elim
   | false =>
    rw [hc,cond_false] at hg;obtain ⟨r,hr,hg⟩:=z5o hg;split at hg
    ·rename_i m' t' xs;obtain ⟨h1,rfl⟩:=zn hg
     have hl:zh H0 k p=xs.length:=by
      have:res H0 k p=res (z5 T.q rest) k p:=by change z82 _ _ _=z82 _ _ _;unfold z82 z1j;rw [hs k hc]
      rw [z5u (this.trans hr)];simp [za]
     have hbor:bor=true:=hb rfl;refine ⟨_,?_,zb.refl _⟩;simp only [den,conv,hbor,if_true,hr,hl,za];rw [if_pos (by simp),drop_zero,take_of_length_le (by simp),z7g]
    ·exact hg.elim
  | sl k p off len =>
   obtain ⟨r,hr,hg⟩:=z5o hg;split at hg
   ·rename_i m' t' xs;obtain ⟨h1,hc,rfl⟩:=zn hg;have hbor:bor=true:=hb rfl;refine ⟨_,?_,zb.refl _⟩;have:(((xs.map (T.ca m' t')).drop off).take len)=((xs.drop off).take len).map (T.ca m' t'):=by simp [map_take,map_drop]
    simp only [den,conv,hbor,if_true,hr,za];rw [if_pos (by simpa using hc),this,z7g]
   ·exact hg.elim
  | _=>exact hg.elim
 | .ag ds,v,v',hg,hb=>by
  cases v with
  | ag cs =>obtain ⟨cs',h1,h2⟩:=Rs.bind_gives _ hg;cases h2;obtain ⟨l,q1,q2⟩:=z79 (Hn:=Hn) (bor:=bor) hs ds cs cs' h1 hb;exact ⟨.ag l,by simp only [den,conv,q1],by simp only [den];exact zb.ag q2.C⟩
  | _=>exact hg.elim
 | .pt key,v,v',hg,hb=>by
  cases v with
  | pt k p i c =>
   cases p with
   | nil =>
    simp only [zn8] at hg;split at hg
    ·rename_i n hn;cases hg;exact ⟨_,by simp only [den,conv,hn,if_true],zb.refl _⟩
    ·exact hg.elim
   | cons _ _=>exact hg.elim
  | _=>exact hg.elim
 | .fn f ds,v,v',hg,hb=>by
  cases v with
  | fn f' cs =>obtain ⟨cs',h1,h2⟩:=Rs.bind_gives _ hg;cases h2;obtain ⟨l,q1,q2⟩:=z79 (Hn:=Hn) (bor:=bor) hs ds cs cs' h1 hb;exact ⟨.fn f' l,by simp only [den,conv,q1],by simp only [den];exact zb.fn q2.L⟩
  | _=>exact hg.elim
theorem z79 {H0 Hn:H}{rest:TH T.q}{m:List (Nat×Nat)}{bor:Bool}(hs:∀ k,(m.map Prod.snd).contains k=false->z6 (z5 T.q rest) k=z6 H0 k) :
  ∀ (ds:List VD) (vs vs':List (VT T)),(zcq rest m ds vs).gives vs'->(z3g vs=true->bor=true)->∃ l,z2d (z5 T.q rest) m bor (z7 T.q H0 vs)=some l/\z2l l (z7 T.q Hn vs')
 | [],vs,vs',hg,hb=>by cases vs with | nil=>cases hg;exact ⟨[],rfl,.nil⟩ | cons _ _=>exact hg.elim
 | d::ds,vs,vs',hg,hb=>by
  cases vs with
  | nil=>exact hg.elim
  | cons v vs =>obtain ⟨v1,h1,hg⟩:=Rs.bind_gives _ hg;obtain ⟨vs1,h2,hg⟩:=Rs.bind_gives _ hg;cases hg;obtain ⟨a,q1,q2⟩:=y55 (Hn:=Hn) (bor:=bor) hs d v v1 h1 (λh=>hb (by simp [z3g,h]));obtain ⟨l,q3,q4⟩:=z79 (Hn:=Hn) (bor:=bor) hs ds vs vs1 h2 (λh=>hb (by simp [z3g,h]));exact ⟨a::l,by simp only [z7,z2d,q1,q3],.cons q2 q4⟩
end
def z9e:TH T.q->List (Nat×Nat)->Option (TH T.q×TH T.q)
 | h,[]=>some ([],h)
 | h,(n,o)::m =>
  match z30 h o with
  | some r=>match z9e (z12 h o) m with
   | some (hs,rest)=>some ((n,r)::hs,rest)
   | none=>none
  | none=>none
theorem z66:∀ (m:List (Nat×Nat)) (h hs rest:TH T.q),z9e h m=some (hs,rest) ->
  z2c (z5 T.q h) m=some (z5 T.q hs,z5 T.q rest)/\(∀ k,(m.map Prod.snd).contains k=false->z6 (z5 T.q rest) k=z6 (z5 T.q h) k) /\
  ∀ n o,zu (m.map Prod.fst)=true->zu (m.map Prod.snd)=true->(n,o)∈m->z6 (z5 T.q hs) n=z6 (z5 T.q h) o
 | [],h,_,_,hh=>by cases hh;exact ⟨rfl,λ_ _=>rfl,λ_ _ _ _ h=>(by cases h)⟩
 | (n,o)::m,h,_,_,hh=>by
  unfold z9e at hh;split at hh
  ·rename_i r hr;split at hh
   ·rename_i hs rest h2;cases hh;obtain ⟨q1,q2,q3⟩:=z66 m _ _ _ h2;have hgr:z6 (z5 T.q h) o=some (za T.q r):=by rw [z1t,hr];rfl
    refine ⟨?_,λk hk=>?_,λn' o' h1 h2 hm=>?_⟩
    ·simp only [z2c,hgr,zz,q1,z5]
    ·simp only [map_cons,contains_cons,or_eq_false_iff,beq_eq_false_iff_ne] at hk;rw [q2 k hk.2,<- zz,z1b hk.1]
    ·simp only [map_cons,zu,and_eq_true,not_eq_true'] at h1 h2;rcases mem_cons.1 hm with hm | hm
     ·cases hm;simp only [z5,z6,if_true,hgr]
     ·have hn:n≠n':=λe=>by
       have:(m.map Prod.fst).contains n=true:=by rw [e];simp only [List.contains_eq_mem,decide_eq_true_eq];exact mem_map.2 ⟨_,hm,rfl⟩
       rw [h1.1] at this;cases this
      have ho:o'≠o:=λe=>by
       have:(m.map Prod.snd).contains o=true:=by rw [<- e];simp only [List.contains_eq_mem,decide_eq_true_eq];exact mem_map.2 ⟨_,hm,rfl⟩
       rw [h2.1] at this;cases this
      simp only [z5,z6];rw [if_neg hn,q3 n' o' h1.2 h2.2 hm,<- zz,z1b ho]
   ·cases hh
  ·cases hh
def z2r (h:TH T.q):List Nat->TH T.q
 | []=>h
 | k::ks=>z2r (z12 h k) ks
theorem z5s:∀ (ks:List Nat) (h:TH T.q),z1r (z5 T.q h) ks=z5 T.q (z2r h ks)
 | [],_=>rfl
 | k::ks,h=>by simp only [z1r,z2r,zz,z5s ks]
theorem z8f:∀ (ks:List Nat) (h:H) (k:Nat),ks.contains k=false->z6 (z1r h ks) k=z6 h k
 | [],_,_,_=>rfl
 | k'::ks,h,k,hk=>by simp only [contains_cons,or_eq_false_iff,beq_eq_false_iff_ne] at hk;rw [z1r,z8f ks _ k hk.2,z1b hk.1]
theorem z3b:∀ (a b:H) (k:Nat),z6 (a++b) k=match z6 a k with | some r=>some r | none=>z6 b k
 | [],_,_=>rfl
 | (k',r)::a,b,k=>by
  simp only [cons_append,z6];split
  ·rfl
  ·exact z3b a b k
mutual
def z3u (bm:List (Nat×Nat)):VT T->Option (VT T)
 | .sc v=>some (.sc v)
 | .zs=>some .zs
 | .un=>some .un
 | .im t xs=>some (.im t xs)
 | .sl k p off len=>match z1n bm k with | some n=>some (.sl n p off len) | none=>none
 | .sw k p=>match z1n bm k with | some n=>some (.sw n p) | none=>none
 | .pt k p i c=>match z1n bm k with | some n=>some (.pt n p i c) | none=>none
 | .ag cs=>match zco bm cs with | some cs'=>some (.ag cs') | none=>none
 | .tu vs=>match zco bm vs with | some cs'=>some (.tu cs') | none=>none
 | .fn f caps=>match zco bm caps with | some cs'=>some (.fn f cs') | none=>none
 | .ip s cs c=>some (.ip s cs c)
 | .ik _ _ | .bk _ | .ow _ _ _ | .oo _ _ _ _ _=>none
 | .pp (.fs k cs)=>match z1n bm k with | some n=>some (.pp (.fs n cs)) | none=>none
 | .pp (.xp b x c)=>some (.pp (.xp b x c))
 | .pp (.mr k p)=>match z1n bm k with | some n=>some (.pp (.mr n p)) | none=>none
 | .pp _=>none
def zco (bm:List (Nat×Nat)):List (VT T)->Option (List (VT T))
 | []=>some []
 | x::l=>match z3u bm x,zco bm l with | some x',some l'=>some (x'::l') | _,_=>none
end
mutual
theorem zal {Ho H1:H}{bm:List (Nat×Nat)}(hl:∀ k n p,z1n bm k=some n->zh H1 n p=zh Ho k p):∀ (v v':VT T),z3u bm v=some v'->z2b bm (den T.q Ho v)=some (den T.q H1 v')
 | .sc _,_,h | .zs,_,h | .un,_,h | .im _ _,_,h | .ip _ _ _,_,h=>by cases h;rfl
 | .sl k p off len,v',h=>by
  simp only [z3u] at h;split at h
  ·rename_i n hn;cases h;simp only [den,z2b,hn]
  ·cases h
 | .sw k p,v',h=>by
  simp only [z3u] at h;split at h
  ·rename_i n hn;cases h;simp only [den,z2b,hn,hl k n p hn]
  ·cases h
 | .pt k p i c,v',h=>by
  simp only [z3u] at h;split at h
  ·rename_i n hn;cases h;simp only [den,z2b,hn]
  ·cases h
 | .ag cs,v',h=>by
  simp only [z3u] at h;split at h
  ·rename_i cs' hc;cases h;simp only [den,z2b,zbf hl cs cs' hc]
  ·cases h
 | .tu cs,v',h=>by
  simp only [z3u] at h;split at h
  ·rename_i cs' hc;cases h;simp only [den,z2b,zbf hl cs cs' hc]
  ·cases h
 | .fn f cs,v',h=>by
  simp only [z3u] at h;split at h
  ·rename_i cs' hc;cases h;simp only [den,z2b,zbf hl cs cs' hc]
  ·cases h
 | .ik _ _,_,h | .bk _,_,h | .ow _ _ _,_,h | .oo _ _ _ _ _,_,h=>by cases h
 | .pp (.xp _ _ _),_,h=>by cases h;rfl
 | .pp (.fp _ _ _),_,h | .pp (.px _ _),_,h=>by cases h
 | .pp (.mr k p),v',h=>by
  simp only [z3u] at h;split at h
  ·rename_i n hn;cases h;simp only [den,z2j,z2b,zdj,hn]
  ·cases h
 | .pp (.fs k cs),v',h=>by
  simp only [z3u] at h;split at h
  ·rename_i n hn;cases h;simp only [den,z2j,z2b,zdj,hn]
  ·cases h
theorem zbf {Ho H1:H}{bm:List (Nat×Nat)}(hl:∀ k n p,z1n bm k=some n->zh H1 n p=zh Ho k p):∀ (v v':List (VT T)),zco bm v=some v'->z6q bm (z7 T.q Ho v)=some (z7 T.q H1 v')
 | [],_,h=>by cases h;rfl
 | x::l,v',h=>by
  simp only [zco] at h;split at h
  ·rename_i x' l' h1 h2;cases h;simp only [z7,z6q,zal hl x x' h1,zbf hl l l' h2]
  ·cases h
end
mutual
def zc0:VT T->Bool
 | .im _ _ | .ip _ _ _ | .oo _ _ _ _ _ | .pp _=>false
 | .ow m t _=>bif m then T.po t else T.pl t
 | .ag cs=>zb1 cs
 | .tu cs=>zb1 cs
 | .fn _ cs=>zb1 cs
 | .un | .sc _ | .ik _ _ | .bk _ | .zs | .sl _ _ _ _ | .sw _ _ | .pt _ _ _ _=>true
def zb1:List (VT T)->Bool
 | []=>true
 | x::l=>zc0 x&&zb1 l
end
theorem zpr {m:Bool}{t:Nat}(h:(bif m then T.po t else T.pl t)=true)(xs:List (T.El t)):za1 (xs.map (T.ca m t))=true:=by refine z2u (λx=>?_) xs;cases m with | true=>exact T.ow_ok t x h | false=>exact T.pl_ok t x (by simpa using h)
mutual
theorem zel {h:H}:∀ (v:VT T),zc0 v=true->z45 (den T.q h v)=true
 | .un,_ | .sc _,_ | .ik _ _,_ | .bk _,_ | .zs,_ | .sl _ _ _ _,_ | .sw _ _,_ | .pt _ _ _ _,_=>rfl
 | .im _ _,hn | .ip _ _ _,hn | .oo _ _ _ _ _,hn | .pp _,hn=>by simp [zc0] at hn
 | .ow m t xs,hn=>by simp only [den,z45];exact zpr hn xs
 | .ag cs,hn=>by simp only [den,z45];exact z98 cs hn
 | .tu cs,hn=>by simp only [den,z45];exact z98 cs hn
 | .fn _ cs,hn=>by simp only [den,z45];exact z98 cs hn
theorem z98 {h:H}:∀ (v:List (VT T)),zb1 v=true->z21 (z7 T.q h v)=true
 | [],_=>rfl
 | x::l,hn=>by simp only [zb1,and_eq_true] at hn;simp only [z7,z21,zel x hn.1,z98 l hn.2,Bool.and_self]
end
def y3o:TR T.El->Bool
 | .typ m t _=>bif m then T.po t else T.pl t
 | .lit _ xs=>xs.all zb1
 | .opn _ _ _ _ _=>false
def zb0 (h:TH T.q):Bool:=h.all λx=>y3o x.2
theorem zbz:∀ (h:TH T.q),zb0 h=true->z56 (z5 T.q h)=true
 | [],_=>rfl
 | (k,r)::h,hn=>by
  simp only [zb0,all_cons,and_eq_true] at hn;have ih:=zbz h hn.2;simp only [z56,z5,all_cons,and_eq_true];refine ⟨?_,ih⟩;cases r with
  | typ m t xs=>exact zpr hn.1 xs
  | lit s xs =>
   have h1:=hn.1;simp only [y3o] at h1;simp only [za];clear ih hn
   induction xs with
   | nil=>rfl
   | cons x xs ih =>simp only [all_cons,and_eq_true] at h1;simp only [map_cons,za1,z98 x h1.1,ih h1.2,Bool.and_self]
  | opn=>cases hn.1
end
abbrev EH (T:TT):=TE T.q×TH T.q
def isX {T:TT}(eh:EH T):Option Value :=
 match eh.1 with
 | [(k,.sc v)]=>bif Nat.beq k 999999 then some v else none
 | _=>none
def ofX {T:TT}(u:Value):EH T:=([(999999,.sc u)],[])
def zge {T:TT}(eh:EH T)(o:Out)(e:Env)(h:H):Prop :=
 match isX eh with
 | some u=>o = .panic u/\e=nE/\h=[]
 | none=>o = .ret/\e=z8 T.q (z5 T.q eh.2) eh.1/\h=z5 T.q eh.2
structure z15 (P:Program) (T:TT) (pro:List Nat) where
 body:IC
 X:Type
 Y:Type
 Z:Type
 encX:X->EH T
 encY:Y->EH T
 encZ:Z->EH T
 id:Nat
 ret:Bool
 G:X->Option (Bo X Y Z)
 ok:∀ x b,G x=some b->W P pro (.loop body) (λo e h=>match b with
  | .go _=>False
  | .out y=>o = .exit id/\e=z8 T.q (z5 T.q (encY y).2) (encY y).1/\h=z5 T.q (encY y).2
  | .ret z=>ret=true/\zge (encZ z) o e h) (z8 T.q (z5 T.q (encX x).2) (encX x).1) (z5 T.q (encX x).2)
inductive Raw (P:Program) (T:TT) (pro:List Nat):Type->Type 1 where
 | leaf {L:Type} (x:L):Raw P T pro L
 | no {L:Type}:Raw P T pro L
 | ite {L:Type} (b:Bool) (x y:Raw P T pro L):Raw P T pro L
 | bnd {L A:Type} (x:Option A) (K:A->Raw P T pro L):Raw P T pro L
 | need {L:Type} (p:Prop) [Decidable p] (K:Raw P T pro L):Raw P T pro L
 | join {L S:Type} (enc:S->EH T) (B:Raw P T pro (EH T⊕L)) (K:S->Raw P T pro L):Raw P T pro L
 | call {L:Type} (C:Con P T) (args:List (VT T)) (hin:TH T.q) (K:C.Y->Raw P T pro L):Raw P T pro L
 | callX {L:Type} (C:Con P T) (args:List (VT T)) (hin:TH T.q) (K:C.Y->Raw P T pro L) (KX:C.V->Raw P T pro L):Raw P T pro L
 | both {L:Type} (A B:Raw P T pro L):Raw P T pro L
 | alls {L S Z:Type} (enc:S->EH T) (encV:Z->Value) (B:Raw P T pro (EH T⊕Value)) (K:S->Raw P T pro L) (KX:Z->Raw P T pro L):Raw P T pro L
 | loop {L V:Type} (c:V->z15 P T pro) (body:IC) (eh:EH T) (KY:(v:V)->(c v).Y->Raw P T pro L):Raw P T pro L
 | loopR {L V:Type} (c:V->z15 P T pro) (body:IC) (eh:EH T) (KY:(v:V)->(c v).Y->Raw P T pro L) (KZ:(v:V)->(c v).Z->Raw P T pro L):Raw P T pro L
section
variable {P:Program}{T:TT}{pro:List Nat}
def ymr {S E L:Type}(enc:S->E)(A:S->Prop)(Q:L->Prop):E⊕L->Prop
 | .inl eh=>∃ s,enc s=eh/\A s
 | .inr l=>Q l
def boP {X Y Z:Type}(A:Y->Prop)(B:Z->Prop):Bo X Y Z->Prop
 | .go _=>False
 | .out y=>A y
 | .ret z=>B z
def zt {S R:Type}(A:S->Option R):S⊕R->Option R
 | .inl s=>A s
 | .inr r=>some r
def y72 {A B:Type}(Q:A->Prop)(Q':B->Prop):A⊕B->Prop
 | .inl y=>Q y
 | .inr z=>Q' z
def Sat:{L:Type}->Raw P T pro L->(L->Prop)->Prop
 | _,.leaf x,Q=>Q x
 | _,.no,_=>False
 | _,.ite b x y,Q=>(b=true->Sat x Q)/\(b=false->Sat y Q)
 | _,.bnd x K,Q=>∃ a,x=some a/\Sat (K a) Q
 | _,@Raw.need _ _ _ _ p _ K,Q=>p/\Sat K Q
 | _,.join enc B K,Q=>Sat B (ymr enc (λs=>Sat (K s) Q) Q)
 | _,.call C args hin K,Q=>∃ x y,C.encA x=args/\C.encH x=hin/\C.G x=some y/\Sat (K y) Q
 | _,.callX C args hin K KX,Q=>∃ x r,C.encA x=args/\C.encH x=hin/\C.FX x=some r/\y72 (λy=>Sat (K y) Q) (λz=>Sat (KX z) Q) r
 | _,.both A B,Q=>Sat A Q/\Sat B Q
 | _,.alls (S:=S) (Z:=Z) enc encV B K KX,Q=>∃ r:S⊕Z,Sat B (λl=>l=Sum.map enc encV r)/\y72 (λs=>Sat (K s) Q) (λz=>Sat (KX z) Q) r
 | _,.loop c body eh KY,Q=>∃ v,(c v).body=body/\∃ x y,(c v).encX x=eh/\(c v).ret=false/\(c v).G x=some (.out y)/\Sat (KY v y) Q
 | _,.loopR c body eh KY KZ,Q=>∃ v,(c v).body=body/\∃ x b,(c v).encX x=eh/\(c v).G x=some b/\boP (λy=>Sat (KY v y) Q) (λz=>Sat (KZ v z) Q) b
theorem Sat.mono:∀ {L:Type} (t:Raw P T pro L) {Q Q':L->Prop},(∀ l,Q l->Q' l)->Sat t Q->Sat t Q'
 | _,.leaf x,_,_,h,hs=>h _ hs
 | _,.no,_,_,_,hs=>hs
 | _,.ite b x y,_,_,h,hs=>⟨λhb=>Sat.mono x h (hs.1 hb),λhb=>Sat.mono y h (hs.2 hb)⟩
 | _,.bnd x K,_,_,h,hs=>by obtain ⟨a,h1,h2⟩:=hs;exact ⟨a,h1,Sat.mono (K a) h h2⟩
 | _,@Raw.need _ _ _ _ p _ K,_,_,h,hs=>⟨hs.1,Sat.mono K h hs.2⟩
 | _,.join enc B K,_,_,h,hs=>Sat.mono B (λl hl=>by
  cases l with
  | inl eh=>obtain ⟨s,h1,h2⟩:=hl;exact ⟨s,h1,Sat.mono (K s) h h2⟩
  | inr l=>exact h l hl) hs
 | _,.call C args hin K,_,_,h,hs=>by obtain ⟨x,y,h1,h2,h3,h4⟩:=hs;exact ⟨x,y,h1,h2,h3,Sat.mono (K y) h h4⟩
 | _,.callX C args hin K KX,_,_,h,hs=>by obtain ⟨x,r,h1,h2,h3,h4⟩:=hs;refine ⟨x,r,h1,h2,h3,?_⟩;cases r with | inl y=>exact Sat.mono (K y) h h4 | inr z=>exact Sat.mono (KX z) h h4
 | _,.both A B,_,_,h,hs=>⟨Sat.mono A h hs.1,Sat.mono B h hs.2⟩
 | _,.alls enc encV B K KX,_,_,h,hs=>by obtain ⟨r,h1,h2⟩:=hs;refine ⟨r,h1,?_⟩;cases r with | inl y=>exact Sat.mono (K y) h h2 | inr z=>exact Sat.mono (KX z) h h2
 | _,.loop c body eh KY,_,_,h,hs=>by obtain ⟨v,h0,x,y,h1,hr,h2,h3⟩:=hs;exact ⟨v,h0,x,y,h1,hr,h2,Sat.mono (KY v y) h h3⟩
 | _,.loopR c body eh KY KZ,_,_,h,hs=>by
  obtain ⟨v,h0,x,b,h1,h2,h3⟩:=hs
  exact ⟨v,h0,x,b,h1,h2,by
   cases b with
   | go _=>exact h3
   | out y=>exact Sat.mono (KY v y) h h3
   | ret z=>exact Sat.mono (KZ v z) h h3⟩
def Raw.map:{L L':Type}->(L->L')->Raw P T pro L->Raw P T pro L'
 | _,_,f,.leaf x=>.leaf (f x)
 | _,_,_,.no=>.no
 | _,_,f,.ite b x y=>.ite b (x.map f) (y.map f)
 | _,_,f,.bnd x K=>.bnd x λa=>(K a).map f
 | _,_,f,@Raw.need _ _ _ _ p _ K=>.need p (K.map f)
 | _,_,f,.join enc B K=>.join enc (B.map (Sum.map id f)) λs=>(K s).map f
 | _,_,f,.call C args hin K=>.call C args hin λy=>(K y).map f
 | _,_,f,.callX C args hin K KX=>.callX C args hin (λy=>(K y).map f) (λz=>(KX z).map f)
 | _,_,f,.both A B=>.both (A.map f) (B.map f)
 | _,_,f,.alls enc encV B K KX=>.alls enc encV B (λs=>(K s).map f) (λz=>(KX z).map f)
 | _,_,f,.loop c body eh KY=>.loop c body eh λv y=>(KY v y).map f
 | _,_,f,.loopR c body eh KY KZ=>.loopR c body eh (λv y=>(KY v y).map f) (λv z=>(KZ v z).map f)
theorem Sat.map:∀ {L L':Type} (f:L->L') (t:Raw P T pro L) (Q:L'->Prop),Sat (t.map f) Q->Sat t λl=>Q (f l)
 | _,_,f,.leaf x,Q,h=>h
 | _,_,_,.no,_,h=>h
 | _,_,f,.ite b x y,Q,h=>⟨λhb=>Sat.map f x Q (h.1 hb),λhb=>Sat.map f y Q (h.2 hb)⟩
 | _,_,f,.bnd x K,Q,h=>by obtain ⟨a,h1,h2⟩:=h;exact ⟨a,h1,Sat.map f (K a) Q h2⟩
 | _,_,f,@Raw.need _ _ _ _ p _ K,Q,h=>⟨h.1,Sat.map f K Q h.2⟩
 | _,_,f,.join enc B K,Q,h=>by have:=Sat.map (Sum.map id f) B _ h;refine Sat.mono B (λl hl=>?_) this;cases l with | inl eh=>obtain ⟨s,h1,h2⟩:=hl;exact ⟨s,h1,Sat.map f (K s) Q h2⟩ | inr l=>exact hl
 | _,_,f,.call C args hin K,Q,h=>by obtain ⟨x,y,h1,h2,h3,h4⟩:=h;exact ⟨x,y,h1,h2,h3,Sat.map f (K y) Q h4⟩
 | _,_,f,.callX C args hin K KX,Q,h=>by obtain ⟨x,r,h1,h2,h3,h4⟩:=h;refine ⟨x,r,h1,h2,h3,?_⟩;cases r with | inl y=>exact Sat.map f (K y) Q h4 | inr z=>exact Sat.map f (KX z) Q h4
 | _,_,f,.both A B,Q,h=>⟨Sat.map f A Q h.1,Sat.map f B Q h.2⟩
 | _,_,f,.alls enc encV B K KX,Q,h=>by obtain ⟨r,h1,h2⟩:=h;refine ⟨r,h1,?_⟩;cases r with | inl y=>exact Sat.map f (K y) Q h2 | inr z=>exact Sat.map f (KX z) Q h2
 | _,_,f,.loop c body eh KY,Q,h=>by obtain ⟨v,h0,x,y,h1,hr,h2,h3⟩:=h;exact ⟨v,h0,x,y,h1,hr,h2,Sat.map f (KY v y) Q h3⟩
 | _,_,f,.loopR c body eh KY KZ,Q,h=>by
  obtain ⟨v,h0,x,b,h1,h2,h3⟩:=h
  exact ⟨v,h0,x,b,h1,h2,by
   cases b with
   | go _=>exact h3
   | out y=>exact Sat.map f (KY v y) Q h3
   | ret z=>exact Sat.map f (KZ v z) Q h3⟩
def Raw.ofRs {L X:Type}(K:X->Raw P T pro L):Rs X->Raw P T pro L
 | .ok v=>K v
 | .no=>.no
 | .bnd x F=>.bnd x λa=>Raw.ofRs K (F a)
 | @Rs.need _ p _ F=>.need p (Raw.ofRs K F)
 | .ite b x y=>.ite b (Raw.ofRs K x) (Raw.ofRs K y)
theorem Sat.ofRs {L X:Type}{K:X->Raw P T pro L}{Q:L->Prop}:∀ (r:Rs X),Sat (Raw.ofRs K r) Q->∃ v,r.gives v/\Sat (K v) Q
 | .ok v,h=>⟨v,rfl,h⟩
 | .no,h=>h.elim
 | .bnd x F,h=>by obtain ⟨a,h1,h2⟩:=h;obtain ⟨v,h3,h4⟩:=Sat.ofRs (F a) h2;exact ⟨v,⟨a,h1,h3⟩,h4⟩
 | @Rs.need _ p _ F,h=>by obtain ⟨h1,h2⟩:=h;obtain ⟨v,h3,h4⟩:=Sat.ofRs F h2;exact ⟨v,⟨h1,h3⟩,h4⟩
 | .ite b x y,h=>by
  obtain ⟨h1,h2⟩:=h;cases b with
  | true =>obtain ⟨v,h3,h4⟩:=Sat.ofRs x (h1 rfl);exact ⟨v,.inl ⟨rfl,h3⟩,h4⟩
  | false =>obtain ⟨v,h3,h4⟩:=Sat.ofRs y (h2 rfl);exact ⟨v,.inr ⟨rfl,h3⟩,h4⟩
inductive Pt (P:Program) (T:TT) (pro:List Nat):Type->Type 1 where
 | leaf {R:Type} (x:R):Pt P T pro R
 | no {R:Type}:Pt P T pro R
 | ite {R:Type} (b:Bool) (x y:Pt P T pro R):Pt P T pro R
 | bnd {R A:Type} (x:Option A) (K:A->Pt P T pro R):Pt P T pro R
 | need {R:Type} (p:Prop) [Decidable p] (K:Pt P T pro R):Pt P T pro R
 | join {R S:Type} (enc:S->EH T) (B:Pt P T pro (S⊕R)) (K:S->Pt P T pro R):Pt P T pro R
 | call {R:Type} (C:Con P T) (x:C.X) (K:C.Y->Pt P T pro R):Pt P T pro R
 | callX {R:Type} (C:Con P T) (x:C.X) (K:C.Y->Pt P T pro R) (KX:C.V->Pt P T pro R):Pt P T pro R
 | both {R:Type} (A B:Pt P T pro R):Pt P T pro R
 | alls {R S Z:Type} (enc:S->EH T) (encV:Z->Value) (B:Pt P T pro (S⊕Z)) (K:S->Pt P T pro R) (KX:Z->Pt P T pro R):Pt P T pro R
 | loop {R V:Type} (c:V->z15 P T pro) (v:V) (x:(c v).X) (KY:(v:V)->(c v).Y->Pt P T pro R):Pt P T pro R
 | loopR {R V:Type} (c:V->z15 P T pro) (v:V) (x:(c v).X) (KY:(v:V)->(c v).Y->Pt P T pro R) (KZ:(v:V)->(c v).Z->Pt P T pro R):Pt P T pro R
def ykf {A B C:Type}(f:A->C)(g:B->C):A⊕B->C
 | .inl y=>f y
 | .inr z=>g z
open Classical in
noncomputable def y75 {R:Type}(a b:Option R):Option R:=if a=b then a else none
theorem zn0 {R:Type}{a b:Option R}{r:R}(h:y75 a b=some r):a=some r/\b=some r:=by
 unfold y75 at h;split at h
 ·rename_i e;exact ⟨h,e ▸ h⟩
 ·cases h
noncomputable def Pt.run:{R:Type}->Pt P T pro R->Option R
 | _,.leaf x=>some x
 | _,.no=>none
 | _,.ite b x y=>bif b then x.run else y.run
 | _,.bnd x K=>x.bind λa=>(K a).run
 | _,@Pt.need _ _ _ _ p _ K=>Loom.need p K.run
 | _,.join enc B K=>B.run.bind (zt λs=>(K s).run)
 | _,.call C x K=>(C.G x).bind λy=>(K y).run
 | _,.callX C x K KX=>(C.FX x).bind (ykf (λy=>(K y).run) (λz=>(KX z).run))
 | _,.both A B=>y75 A.run B.run
 | _,.alls enc encV B K KX=>B.run.bind (ykf (λs=>(K s).run) (λz=>(KX z).run))
 | _,.loop c v x KY=>((c v).G x).bind (Bo.then (λy=>bif (c v).ret then none else (KY v y).run) (λ_=>none))
 | _,.loopR c v x KY KZ=>((c v).G x).bind (Bo.then (λy=>(KY v y).run) (λz=>(KZ v z).run))
def Pt.raw:{R L:Type}->(R->L)->Pt P T pro R->Raw P T pro L
 | _,_,f,.leaf x=>.leaf (f x)
 | _,_,_,.no=>.no
 | _,_,f,.ite b x y=>.ite b (x.raw f) (y.raw f)
 | _,_,f,.bnd x K=>.bnd x λa=>(K a).raw f
 | _,_,f,@Pt.need _ _ _ _ p _ K=>.need p (K.raw f)
 | _,_,f,.join enc B K=>.join enc (B.raw (Sum.map enc f)) λs=>(K s).raw f
 | _,_,f,.call C x K=>.call C (C.encA x) (C.encH x) λy=>(K y).raw f
 | _,_,f,.callX C x K KX=>.callX C (C.encA x) (C.encH x) (λy=>(K y).raw f) (λz=>(KX z).raw f)
 | _,_,f,.both A B=>.both (A.raw f) (B.raw f)
 | _,_,f,.alls enc encV B K KX=>.alls enc encV (B.raw (Sum.map enc encV)) (λs=>(K s).raw f) (λz=>(KX z).raw f)
 | _,_,f,.loop c v x KY=>.loop c (c v).body ((c v).encX x) λv y=>(KY v y).raw f
 | _,_,f,.loopR c v x KY KZ=>.loopR c (c v).body ((c v).encX x) (λv y=>(KY v y).raw f) (λv z=>(KZ v z).raw f)
theorem z2e:∀ {R L:Type} (f:R->L) (t:Pt P T pro R) (r:R),t.run=some r->Sat (t.raw f) λl=>l=f r
 | _,_,f,.leaf x,r,h=>by cases h;exact rfl
 | _,_,_,.no,_,h=>by cases h
 | _,_,f,.ite b x y,r,h=>⟨λhb=>by subst hb;exact z2e f x r h,λhb=>by subst hb;exact z2e f y r h⟩
 | _,_,f,.bnd x K,r,h=>by obtain ⟨a,h1,h2⟩:=ze h;exact ⟨a,h1,z2e f (K a) r h2⟩
 | _,_,f,@Pt.need _ _ _ _ p _ K,r,h=>by obtain ⟨h1,h2⟩:=z97 h;exact ⟨h1,z2e f K r h2⟩
 | _,_,f,.join enc B K,r,h=>by simp only [Pt.run] at h;obtain ⟨b,h1,h2⟩:=ze h;refine Sat.mono (B.raw (Sum.map enc f)) (λl hl=>?_) (z2e (Sum.map enc f) B b h1);subst hl;cases b with | inl s=>exact ⟨s,rfl,z2e f (K s) r h2⟩ | inr r'=>cases h2;exact rfl
 | _,_,f,.call C x K,r,h=>by obtain ⟨y,h1,h2⟩:=ze h;exact ⟨x,y,rfl,rfl,h1,z2e f (K y) r h2⟩
 | _,_,f,.callX C x K KX,r,h=>by obtain ⟨b,h1,h2⟩:=ze h;refine ⟨x,b,rfl,rfl,h1,?_⟩;cases b with | inl y=>exact z2e f (K y) r h2 | inr z=>exact z2e f (KX z) r h2
 | _,_,f,.both A B,r,h=>⟨z2e f A r (zn0 h).1,z2e f B r (zn0 h).2⟩
 | _,_,f,.alls enc encV B K KX,r,h=>by obtain ⟨b,h1,h2⟩:=ze h;refine ⟨b,z2e (Sum.map enc encV) B b h1,?_⟩;cases b with | inl y=>exact z2e f (K y) r h2 | inr z=>exact z2e f (KX z) r h2
 | _,_,f,.loop c v x KY,r,h=>by
  obtain ⟨b,h1,h2⟩:=ze h;cases b with
  | go _=>cases h2
  | out y =>simp only [Bo.then] at h2;cases hr:(c v).ret with | true=>rw [hr] at h2;cases h2 | false=>rw [hr] at h2;exact ⟨v,rfl,x,y,rfl,hr,h1,z2e f (KY v y) r h2⟩
  | ret z=>cases h2
 | _,_,f,.loopR c v x KY KZ,r,h=>by obtain ⟨b,h1,h2⟩:=ze h;cases b with | go _=>cases h2 | out y=>exact ⟨v,rfl,x,_,rfl,h1,z2e f (KY v y) r h2⟩ | ret z=>exact ⟨v,rfl,x,_,rfl,h1,z2e f (KZ v z) r h2⟩
end
end Loom
