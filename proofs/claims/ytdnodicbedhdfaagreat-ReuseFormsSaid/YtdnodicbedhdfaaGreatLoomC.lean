/- Loom,an abstract machine over the kit's calculus: rows,zq,stores,calls,regions,what they owe;and its evaluator (part 3 of 4). -/
import Derived.Test.YtdnodicbedhdfaaGreatLoomB
import Derived.SizedLaws
import Derived.ChangeOld
import Derived.Carry
import Derived.WalkKit
import Derived.OpenShut
import Derived.Deep.CondSized
import Derived.Maps.Own
set_option linter.unusedVariables false
set_option linter.unusedSimpArgs false
set_option linter.unusedSectionVars false
open Bool (and_eq_true false_eq_true not_eq_true' or_eq_false_iff or_eq_true)
open List (all_cons all_eq_true any_cons append_nil cons_append contains_cons drop_drop drop_zero ext_getElem? getElem?_append_left getElem?_append_right getElem?_cons_zero getElem?_drop getElem?_eq_none getElem?_map getElem?_set getElem?_set_self length length_append length_cons length_map length_take map_append map_congr_left map_cons map_drop map_id map_map map_nil map_set map_take mem_append mem_cons mem_map mem_of_getElem? nil_append nodup_append nodup_cons nodup_nil replicate set_cons_succ set_cons_zero set_set take_length take_of_length_le take_zero)
open Nat (eq_of_beq_eq_true le_of_ble_eq_true zero_le)
open Option (bind_eq_some_iff getD_none getD_some map_eq_some_iff map_none map_some)
namespace Loom
open Go
def isRd:IK->Bool
 | .rd _=>true
 | _=>false
def y0f (e:Env) (h:H) (x:Ins) (av:AV):Prop:=(zm e x.guard=some false/\av=z3i x.op)\/(zm e x.guard=some true/\∃ b av',x.op = .rd b/\rdop (ev e) (res h) b=some av'/\AVle av' av)
def zfj (dep:List Nat) (φ:AV->AV) (e:Env) (h:H):List (Ins×List Nat)->Nat->Prop
 | [],_=>True
 | (x,_)::l,i=>(dep.contains i=true\/y0f (λt=>φ (e t)) h x (φ (e x.dst)))/\zfj dep φ e h l (i+1)
def z8z (dep:List Nat):List (Ins×List Nat)->Nat->Bool
 | [],_=>true
 | (x,_)::l,i=>(dep.contains i||isRd x.op)&&z8z dep l (i+1)
def z98 (P:Program) (hN:H) (K:Env->Prop):List (Ins×List Nat)->Env->Prop
 | [],e=>K e
 | (x,D)::l,e=>∃ av,DOk P e hN ⟨x,D,av,[]⟩/\z98 P hN K l (upd e x.dst av)
theorem z98.run {P:Program} {hN:H} {K:Env->Prop}:∀ (l:List (Ins×List Nat)) (e:Env),z98 P hN K l e ->
  ∃ lp:List DOp,lp.map (λx=>(x.ins,x.dep))=l/\(∀ x∈lp,x.rows=[])/\(∀ (m:Nat) (x:DOp),lp[m]?=some x->DOk P (chE e (lp.take m)) hN x)/\K (chE e lp)
 | [],e,h=>⟨[],rfl,λx hx=>(by cases hx),λm x hx=>by simp at hx,h⟩
 | (x,D)::l,e,⟨av,h1,h2⟩=>by
  obtain ⟨lp,q1,q2,q3,q4⟩:=z98.run l _ h2;refine ⟨⟨x,D,av,[]⟩::lp,by simp [q1],λy hy=>?_,λm y hy=>?_,q4⟩
  ·rcases mem_cons.1 hy with rfl | hy
   ·rfl
   ·exact q2 y hy
  ·cases m with
   | zero =>simp only [getElem?_cons_zero,Option.some.injEq] at hy;subst hy;exact h1
   | succ m=>exact q3 m y (by simpa using hy)
def KT (P:Program) (pro keep ds:List Nat) (Q:Out->Env->H->Prop) (pre0:List (Ins×List Nat)) (xj:Ins) (dep:List Nat) (post:List (Ins×List Nat)) (tail:List Ins) (h0:H) (e1:Env) (hA:H):Prop :=
 ∃ (φ:AV->AV) (av:AV) (hN:H),zgp ds h0 hA=true/\zk (hN.map Prod.fst)=true/\zfo P pro xj e1 hA φ av hN/\zfj dep φ e1 hN pre0 0/\z98 P hN (λe2=>RG P pro keep Q tail e2 hN) post (upd (λt=>φ (e1 t)) xj.dst av)
section
variable {P:Program} {pro keep:List Nat} {e e1:Env} {h h1:H} {Q:Out->Env->H->Prop} {pre0:List (Ins×List Nat)} {tail:List Ins} {xj:Ins} {dep:List Nat}
theorem zet:∀ (l:List (Ins×List Nat)) (i:Nat),z8z dep l i=true->∀ (n:Nat) (x:Ins×List Nat),l[n]?=some x->i+n∈dep\/isRd x.1.op=true
 | [],_,_,_,_,h=>by simp at h
 | y::l,i,h,0,x,hx=>by simp only [getElem?_cons_zero,Option.some.injEq] at hx;subst hx;simp only [z8z,and_eq_true,or_eq_true] at h;simpa using h.1
 | y::l,i,h,n+1,x,hx=>by
  simp only [z8z,and_eq_true] at h;have:=zet l (i+1) h.2 n x (by simpa using hx)
  rwa [show i+1+n=i+(n+1) by omega] at this
theorem zej {φ:AV->AV}:∀ (l:List (Ins×List Nat)) (i:Nat),zfj dep φ e h l i->∀ (n:Nat) (x:Ins×List Nat),l[n]?=some x->i+n∉dep->y0f (λt=>φ (e t)) h x.1 (φ (e x.1.dst))
 | [],_,_,_,_,h,_=>by simp at h
 | y::l,i,h,0,x,hx,hn=>by
  simp only [getElem?_cons_zero,Option.some.injEq] at hx;subst hx;rcases h.1 with h | h
  ·exact absurd (by simpa using h) hn
  ·exact h
 | y::l,i,h,n+1,x,hx,hn=>zej l (i+1) h.2 n x (by simpa using hx) (by rwa [show i+1+n=i+(n+1) by omega])
theorem zk6 {E0:Env}:∀ (l:List DOp) (i n:Nat) (x:DOp),(dsts l).Nodup->l[n]?=some x->EX i l (λ_=>true) E0 x.ins.dst=x.av
 | [],_,_,_,_,h=>by simp at h
 | y::l,i,0,x,_,h=>by simp only [getElem?_cons_zero,Option.some.injEq] at h;subst h;simp [EX,upd]
 | y::l,i,n+1,x,hn,h=>by
  simp only [dsts,map_cons,nodup_cons] at hn;have hx:l[n]?=some x:=by simpa using h
  have hne:x.ins.dst≠y.ins.dst:=λe=>hn.1 (by rw [<- e];exact mem_map.2 ⟨x,mem_of_getElem? hx,rfl⟩);simp only [EX,if_true,upd,if_neg hne];exact zk6 l (i+1) n x hn.2 hx
theorem zi0 {E0:Env} {X:Nat->Bool} {s:Nat}:∀ (l:List DOp) (i:Nat),(∀ n x,l[n]?=some x->X (i+n)=false->x.ins.dst≠s)->EX i l X E0 s=EX i l (λ_=>true) E0 s
 | [],_,_=>rfl
 | x::l,i,h=>by
  have ih:=zi0 (E0:=E0) l (i+1) (λn y hy hX=>h (n+1) y (by simpa using hy) (by rwa [show i+(n+1)=i+1+n by omega]));simp only [EX,if_true];cases hX:X i with
  | true=>simp only [if_true,upd];rw [ih]
  | false =>have:=h 0 x rfl (by simpa using hX);simp only [false_eq_true,if_false,upd,if_neg (Ne.symm this)];exact ih
theorem W.turn (post:List (Ins×List Nat)) (ds:List Nat) (hds:(pre0++(xj,dep)::post).map (·.1.dst)=ds) (ck:(zk ds&&z8x ds 0 (pre0++(xj,dep)::post)&&pro.all (λk=>!ds.contains k)&&pre0.all (λx=>!isSt x.1.op)&&z8z dep pre0 0&&!dep.contains pre0.length&&dep.all (λi=>decide (i<pre0.length))&&pre0.all (λx=>!x.2.contains pre0.length)&&post.all (λy=>isRd y.1.op&&y.2.contains pre0.length))=true)
  (hw:WD P pre0 0 (preE ds e) [] (z18 h ds) (KT P pro keep ds Q pre0 xj dep post tail (z18 h ds))):W P pro (.draw keep (pre0++(xj,dep)::post) tail) Q e h:=by
 subst hds;simp only [and_eq_true] at ck;obtain ⟨⟨⟨⟨⟨⟨⟨⟨k1,k2⟩,k3⟩,k4⟩,k5⟩,k6⟩,k7⟩,k8⟩,k9⟩:=ck;have hnd:=zp _ k1;rw [map_append] at hnd;have huse:=zes _ 0 k2;have hnd0:(pre0.map (·.1.dst)).Nodup:=(nodup_append.1 hnd).1
 obtain ⟨l,q1,q2,q3,φ,av,hN,q4,q5,q6,q7,q8⟩:=WD.sound (E0:=preE ((pre0++(xj,dep)::post).map (·.1.dst)) e) pre0 [] hw (by simpa using hnd0) (λj x hx i hi=>by have:=huse j x (by rw [getElem?_append_left (List.getElem?_eq_some_iff.1 hx).1];exact hx);simp only [Nat.zero_add,zk0,and_eq_true,all_eq_true,decide_eq_true_eq] at this;have:=this.1 i hi;simpa using this)
 simp only [nil_append,List.length_nil,Nat.zero_add] at q2 q3 q4 q6 q7 q8;obtain ⟨lp,p1,p2,p3,e',h',r1,r2⟩:=z98.run _ _ q8
 let lpd:List DOp:=post.map (λx=>⟨x.1,x.2,.un,[]⟩)
 have p9:∀ x∈post,isRd x.1.op=true/\x.2.contains pre0.length=true:=λx hx=>by have:=all_eq_true.1 k9 x hx;simpa only [and_eq_true] using this
 have hl:l.length=pre0.length:=by rw [<- q1];simp
 have hdl:(dsts l).Nodup:=by
  have:dsts l=pre0.map (·.1.dst):=by rw [<- q1];simp [dsts]
  rw [this];exact hnd0
 let E0:=preE ((pre0++(xj,dep)::post).map (·.1.dst)) e
 let eA:=EX 0 l (λ_=>true) E0
 let lj:DOp:=⟨xj,dep,.un,[]⟩
 let l':List DOp:=l.map (λx=>⟨x.ins,x.dep,φ x.av,[]⟩)
 let lj':DOp:=⟨xj,dep,av,[]⟩
 let E0':Env:=λt=>φ (E0 t)
 have hlpd:∀ x∈lpd,l.length∈x.dep/\x.rows=[]:=λx hx=>by obtain ⟨z,hz,rfl⟩:=mem_map.1 hx;have:=(p9 z hz).2;rw [<- hl] at this;exact ⟨by simpa using this,rfl⟩
 have hgl:∀ (i:Nat) (x:DOp),i≠l.length->(l++lj::lpd)[i]?=some x->l[i]?=some x\/x∈lpd:=λi x hi hx=>by
  rcases Nat.lt_or_ge i l.length with h | h
  ·rw [getElem?_append_left h] at hx;exact .inl hx
  ·rw [getElem?_append_right h,show i - l.length=(i - l.length - 1)+1 by omega,List.getElem?_cons_succ] at hx;exact .inr (mem_of_getElem? hx)
 have hl'l:l'.length=l.length:=by simp [l']
 have hgl':∀ (i:Nat) (x:DOp),i≠l.length->(l'++lj'::lp)[i]?=some x->(∃ y,l[i]?=some y/\x=⟨y.ins,y.dep,φ y.av,[]⟩)\/∃ m,i=l.length+1+m/\lp[m]?=some x:=λi x hi hx=>by
  rcases Nat.lt_or_ge i l.length with h | h
  ·rw [getElem?_append_left (by rw [hl'l];exact h)] at hx;simp only [l',getElem?_map] at hx;obtain ⟨y,hy,rfl⟩:=map_eq_some_iff.1 hx;exact .inl ⟨y,hy,rfl⟩
  ·rw [getElem?_append_right (by rw [hl'l];exact h),hl'l,show i - l.length=(i - l.length - 1)+1 by omega,List.getElem?_cons_succ] at hx;exact .inr ⟨i - l.length - 1,by omega,hx⟩
 have hp0:∀ (i:Nat) (x:DOp),l[i]?=some x->pre0[i]?=some (x.ins,x.dep):=λi x hx=>by rw [<- q1];simp [hx]
 have hEXapp:∀ (l1 l2:List DOp) (i:Nat) (X:Nat->Bool) (E:Env),EX i (l1++l2) X E=EX i l1 X (EX (i+l1.length) l2 X E):=by
  intro l1
  induction l1 with
  | nil=>intro l2 i X E;simp [EX]
  | cons y l1 ih=>intro l2 i X E;simp only [cons_append,EX,ih,length_cons];rw [show i+1+l1.length=i+(l1.length+1) by omega]
 have hHXapp:∀ (l1 l2:List DOp) (i:Nat) (X:Nat->Bool),HX i (l1++l2) X=HX i l1 X++HX (i+l1.length) l2 X:=by
  intro l1
  induction l1 with
  | nil=>intro l2 i X;simp [HX]
  | cons y l1 ih =>intro l2 i X;simp only [cons_append,HX,ih,length_cons];rw [show i+1+l1.length=i+(l1.length+1) by omega];split<;>simp
 have hnone:∀ (l2:List DOp) (i:Nat) (X:Nat->Bool) (E:Env),(∀ n,i<=n->X n=false)->EX i l2 X E=E:=by
  intro l2
  induction l2 with
  | nil=>intro i X E _;rfl
  | cons y l2 ih=>intro i X E hX;simp only [EX,hX i (Nat.le_refl _),false_eq_true,if_false];exact ih (i+1) X E λn hn=>hX n (by omega)
 have hrs:∀ x∈lj::lpd,x.rows=[]:=λx hx=>by
  rcases mem_cons.1 hx with rfl | hx
  ·rfl
  ·exact (hlpd x hx).2
 have hrs':∀ x∈l'++lj'::lp,x.rows=[]:=λx hx=>by
  rcases mem_append.1 hx with hx | hx
  ·obtain ⟨z',_,rfl⟩:=mem_map.1 hx;rfl
  ·rcases mem_cons.1 hx with rfl | hx
   ·rfl
   ·exact p2 x hx
 have hrows:∀ (i:Nat) (x:DOp),l[i]?=some x->x.rows≠[]->i∈dep:=λi x hx hr=>by
  rcases zet pre0 0 k5 i _ (hp0 i x hx) with h | h
  ·simpa using h
  ·exfalso;have:=q2 i x hx;cases this with
   | skip _ _ h2=>exact hr h2
   | rd _ _ _ _ h2=>exact hr h2
   | mk _ _ h2 _ _=>simp only at h;rw [h2] at h;cases h
   | call _ h2 =>simp only at h;generalize x.ins.op=op at h2 h;cases h2<;>cases h
 have hH:HX 0 l (λk=>dep.contains k)=HX 0 l (λ_=>true):=zhk l 0 _ _ (λn y hy hr=>by simpa using hrows n y hy hr);have hjj:l.length∉dep:=by rw [hl];simpa using k6
 have hd':dsts (l'++lj'::lp)=(pre0++(xj,dep)::post).map (·.1.dst):=by rw [<- q1,<- p1];simp [dsts,l',lj',Function.comp_def]
 have hnd':(dsts (l'++lj'::lp)).Nodup:=by rw [hd'];exact zp _ k1
 have hcut:chE E0' (l'++[lj'])=upd (λt=>φ (eA t)) xj.dst av:=by
  rw [z7l];congr 1;have hfr:=z8g (E0:=E0') l' (lj'::lp) hnd';rw [<- hfr,hEXapp,hnone (lj'::lp) (0+l'.length) _ E0' (λn hn=>by simp;omega)];funext t;rw [(z86 (E0:=E0') l' 0 (λi=>decide (i<l'.length)) (λ_=>true) (λn _ hn=>by simp;omega)).1]
  exact zfl (φ:=φ) (E0:=E0) (λ_=>rfl) l l' 0 (by simp [l']) (λn z z' hz hz' _=>by simp only [l',getElem?_map,hz,map_some,Option.some.injEq] at hz';subst hz';exact ⟨rfl,rfl⟩) t
 have hch:∀ (a b:List DOp) (E:Env),chE E (a++b)=chE (chE E a) b:=by
  intro a
  induction a with
  | nil=>intro b E;rfl
  | cons y a ih=>intro b E;simp only [cons_append,chE,ih]
 refine ⟨.normal,z5a keep e',h',.turn ⟨l++lj::lpd,l'++lj'::lp,l.length,lj,lj',φ,E0',hN,?_,?_,?_,zp _ q5,by simp,by simp [hl'l],?_,?_,?_,?_,hrs',λ_=>rfl,?_,?_,?_⟩ (λk hk=>?_),r2⟩
 ·rw [map_append,q1];simp [lj,lpd,Function.comp_def]
 ·rw [hHXapp,z46 _ _ _ hrs,append_nil];exact zp _ q3
 ·have:l'.map (λx=>(x.ins,x.dep))=l.map (λx=>(x.ins,x.dep)):=by simp [l']
  rw [map_append,this,q1,map_cons,p1]
 ·intro i x hi hjd hx;rcases hgl i x hi hx with hx' | hx'
  ·have hil:=(List.getElem?_eq_some_iff.1 hx').1;refine ⟨?_,?_⟩
   ·rw [hEXapp,hnone (lj::lpd) (0+l.length) _ _ (λn hn=>by simp;omega),hHXapp,z46 _ _ _ hrs,append_nil];exact q2 i x hx'
   ·have:=all_eq_true.1 k4 _ (mem_of_getElem? (hp0 i x hx'));simpa using this
  ·exact absurd (hlpd x hx').1 hjd
 ·intro i x hi hid hx;rcases hgl' i x hi hx with ⟨y,hy,rfl⟩ | ⟨m,rfl,hm⟩
  ·have hil:=(List.getElem?_eq_some_iff.1 hy).1;have hst:=all_eq_true.1 k4 _ (mem_of_getElem? (hp0 i y hy));refine ⟨?_,by simpa using hst⟩;have hag:=zej pre0 0 q7 i _ (hp0 i y hy) (by simpa using hid);simp only at hag;rw [z46 _ _ _ hrs',nil_append];have hav:eA y.ins.dst=y.av:=zk6 l 0 i y hdl hy
   have hsl:∀ s∈z2s y.ins,EX 0 (l'++lj'::lp) (λk=>decide (k<i)) E0' s=φ (eA s):=λs hs=>by
    rw [hEXapp,hnone (lj'::lp) (0+l'.length) _ E0' (λn hn=>by simp;omega),zfl (φ:=φ) (E0:=E0) (λ_=>rfl) l l' 0 (by simp [l']) (λn z z' hz hz' _=>by simp only [l',getElem?_map,hz,map_some,Option.some.injEq] at hz';subst hz';exact ⟨rfl,rfl⟩) s]
    congr 1;refine zi0 l 0 (λn z hz hX=>?_);rintro rfl;have hu:=huse i (y.ins,y.dep) (by rw [getElem?_append_left (by omega)];exact hp0 i y hy);simp only [Nat.zero_add,zk0,and_eq_true,all_eq_true,decide_eq_true_eq,or_eq_true,not_eq_true'] at hu;have h3:=hu.2 _ hs;have hzp:=hp0 n z hz;rcases h3 with h3 | h3
    ·have:((pre0++(xj,dep)::post).map (·.1.dst)).contains z.ins.dst=true:=by simp only [List.contains_eq_mem,decide_eq_true_eq];exact mem_map.2 ⟨(z.ins,z.dep),List.mem_append_left _ (mem_of_getElem? hzp),rfl⟩
     rw [this] at h3;cases h3
    ·simp only [List.any_eq_true,beq_iff_eq] at h3;obtain ⟨m,hm,hms⟩:=h3;have hmi:=hu.1 m hm
     have hnm:n=m:=by
      have e1:((pre0++(xj,dep)::post).map (·.1.dst))[n]?=some z.ins.dst:=by rw [getElem?_map,getElem?_append_left (by have:=(List.getElem?_eq_some_iff.1 hzp).1;omega),hzp];rfl
      exact (List.getElem?_inj (List.getElem?_eq_some_iff.1 e1).1 (zp _ k1)).1 (by rw [e1,hms])
     simp only [Nat.zero_add,decide_eq_false_iff_not] at hX;omega
   have hw:zm (EX 0 (l'++lj'::lp) (λk=>decide (k<i)) E0') y.ins.guard=zm (λt=>φ (eA t)) y.ins.guard:=by
    cases hg:y.ins.guard with
    | none=>rfl
    | some sw =>obtain ⟨s,want⟩:=sw;simp only [zm];rw [hsl s (by simp [z2s,hg])]
   rcases hag with ⟨g1,g2⟩ | ⟨g1,b,av',g2,g3,g4⟩
   ·exact .skip (by rw [hw];exact g1) (by rw [<- hav];exact g2) rfl
   ·refine .rd (b:=b) (av:=av') (by rw [hw];exact g1) g2 ?_ (by rw [<- hav];exact g4) rfl;rw [<- g3]
    exact z3z b (λo ho=>by
     cases o with
     | tmp t=>exact hsl t (List.mem_append_right _ (za1 (by rw [g2];exact ho)))
     | _=>rfl)
  ·have hml:=(List.getElem?_eq_some_iff.1 hm).1;refine ⟨?_,?_⟩
   ·rw [z46 _ _ _ hrs',nil_append]
    have e1:l'++lj'::lp=((l'++[lj'])++lp.take m)++lp.drop m:=by rw [List.append_assoc,List.take_append_drop];simp
    have e2:((l'++[lj'])++lp.take m).length=l.length+1+m:=by simp [hl'l];omega
    have:=z8g (E0:=E0') ((l'++[lj'])++lp.take m) (lp.drop m) (by rw [<- e1];exact hnd');rw [e2] at this;rw [e1,this,hch,hcut];exact p3 m x hm
   ·have hx':(x.ins,x.dep)∈post:=by rw [<- p1];exact mem_map.2 ⟨x,mem_of_getElem? hm,rfl⟩
    have:=(p9 _ hx').1;simp only at this;cases hop:x.ins.op<;>rw [hop] at this<;>first | rfl | (simp [isRd] at this)
 ·intro i x x' hi hjd hx hx';rcases hgl i x hi hx with h1 | h1
  ·rcases hgl' i x' hi hx' with ⟨y,hy,rfl⟩ | ⟨m,rfl,hm⟩
   ·rw [h1] at hy;cases hy;rfl
   ·have:=(List.getElem?_eq_some_iff.1 h1).1;omega
  ·exact absurd (hlpd x h1).1 hjd
 ·intro i x hx hr;by_cases hi:i=l.length
  ·subst hi;simp only [getElem?_append_right (Nat.le_refl _),Nat.sub_self,getElem?_cons_zero,Option.some.injEq] at hx;subst hx;exact absurd rfl hr
  ·rcases hgl i x hi hx with h1 | h1
   ·exact .inl (hrows i x h1 hr)
   ·exact absurd (hlpd x h1).2 hr
 ·have h1:EX 0 (l++lj::lpd) (λk=>decide (k<l.length)) E0=eA:=by rw [hEXapp,hnone (lj::lpd) (0+l.length) _ _ (λn hn=>by simp;omega)];exact (z86 l 0 _ _ (λn _ hn=>by simp;omega)).1
  have h2:HX 0 (l++lj::lpd) (λk=>dep.contains k)=HX 0 l (λ_=>true):=by rw [hHXapp,hH,z46 _ _ _ hrs,append_nil]
  rw [h1,h2];exact q6
 ·intro k hk;obtain ⟨x,hx,hkx⟩:=List.mem_flatMap.1 hk;rcases mem_append.1 hx with hx | hx
  ·obtain ⟨z,hz,rfl⟩:=mem_map.1 hkx;obtain ⟨j,hj⟩:=List.getElem?_of_mem hx;have hz2:z∈HX 0 l (λ_=>true):=(z5u l 0 _).2 ⟨j,x,hj,rfl,hz⟩;have:=all_eq_true.1 q4 z.1 (mem_map.2 ⟨z,List.mem_append_left _ hz2,rfl⟩);rw [or_eq_true] at this;rcases this with h | h
   ·simpa using h
   ·exfalso;have hnd2:=zp _ q3;rw [map_append,nodup_append] at hnd2;exact hnd2.2.2 z.1 (mem_map.2 ⟨z,hz2,rfl⟩) z.1 (by simpa using h) rfl
  ·rw [hrs x hx] at hkx;cases hkx
 ·have h1:EX 0 (l'++lj'::lp) (λ_=>true) E0'=chE (upd (λt=>φ (eA t)) xj.dst av) lp:=by
   have:=z8g (E0:=E0') (l'++lj'::lp) [] (by simpa using hnd');rw [append_nil] at this;rw [(z86 (E0:=E0') (l'++lj'::lp) 0 (λ_=>true) (λi=>decide (i<(l'++lj'::lp).length)) (λn _ hn=>by rw [Nat.zero_add] at hn;simp only [decide_eq_true hn])).1,this];have e1:l'++lj'::lp=(l'++[lj'])++lp:=by simp
   rw [e1,hch,hcut]
  rw [h1,z46 _ _ _ hrs',nil_append];exact r1
 ·have:=all_eq_true.1 k3 k hk;simpa using this
theorem zhf {f g:Operand->AV} {hp:H} {n:Nat} {a x:Operand} (h1:f a=g a) (h2:f x=g x):stop f hp n a x=stop g hp n a x:=by simp only [stop,h1,h2]
theorem zrj {f g:Operand->AV} {hp:H} {d s bytes:Nat} {x y:Operand} (h1:f x=g x) (h2:f y=g y):apop f hp d s bytes x y=apop g hp d s bytes x y:=by simp only [apop,h1,h2]
theorem z31 {x:Ins} {e EA:Env} (he:∀ s∈z2s x,e s=EA s) {o:Operand} (ho:o∈opsK x.op):ev e o=ev EA o:=by
 cases o with
 | tmp t=>exact he t (List.mem_append_right _ (za1 ho))
 | _=>rfl
theorem zcd {x:Ins} {e EA:Env} (he:∀ s∈z2s x,e s=EA s):zm e x.guard=zm EA x.guard:=by
 cases hg:x.guard with
 | none=>rfl
 | some sw =>obtain ⟨s,want⟩:=sw;simp only [zm];rw [he s (by simp [z2s,hg])]
theorem za8:∀ (p:Path) (s:Nat) (xs:Els) (q:Path) (s':Nat) (ys:Els),resE s xs p=some (s',ys)->resE s xs (p++q)=resE s' ys q
 | [],s,xs,q,s',ys,h=>by simp only [resE,Option.some.injEq,Prod.mk.injEq] at h;obtain ⟨rfl,rfl⟩:=h;rfl
 | (i,c)::p,s,xs,q,s',ys,h=>by
  simp only [resE,cons_append] at h ⊢;split at h
  ·cases h
  ·rename_i x hx;split at h
   ·rename_i s2 zs hz;exact za8 p s2 zs q s' ys h
   ·cases h
end
section
variable {P:Program} {I:Nat->Prop} {N:Nat} [Dfs N] {σ σ':Pl} {w w':World} {h h' h1:H} {e e' e1:Env} {a a':Act} {pro:List Nat}
theorem HRel.place_nodup {k:Nat} {r:Row} {p:Path} {s:Nat} {ys:Els} (hh:HRel I σ h w) (hg:z5 h k=some r) (hres:resE r.s r.xs p=some (s,ys)):(fpP σ k p ys).Nodup:=by
 obtain ⟨d1,d2,d3,d4,d5,d6⟩:=hh.del hg;by_cases hp0:p=[]
 ·subst hp0;simp only [resE,Option.some.injEq,Prod.mk.injEq] at hres;obtain ⟨rfl,rfl⟩:=hres;exact d4
 ·unfold zn at d2;unfold fpR at d4;cases hs:σ k [] with
  | none =>
   simp only [hs] at d2;rw [d2.1] at hres;cases p with
   | nil=>exact absurd rfl hp0
   | cons q p=>obtain ⟨i',c'⟩:=q;simp [resE] at hres
  | some L0 =>simp only [hs] at d2 d4;obtain ⟨_,_,cur,E,_,_,f5⟩:=d2;have:=(z45 p [] (esz r.s) r.xs _ s ys f5 hp0 ((z32 hp0).symm.trans hres)).2;rw [nil_append] at this;exact this.nodup (nodup_cons.1 d4).2
theorem HRel.cellAt {k i c:Nat} {r:Row} {p:Path} {s:Nat} {ys:Els} {x:List AV} {y y':AV} (hh:HRel I σ h w) (hg:z5 h k=some r) (hr:resE r.s r.xs p=some (s,ys)) (hx:ys[i]?=some x) (hy:x[c]?=some y)
  (hσ:∀ k' q,¬ (k'=k/\∃ q',q=p++(i,c)::q')->σ' k' q=σ k' q) (hC:∀ v,Ce I σ (bl w) k p i c y v->Ce I σ' (bl w) k p i c y' v) (hfp:fpA σ' k p i c y'=[]) :
  HRel I σ' ((k,⟨r.s,updE r.xs p (λys=>ys.set i (x.set c y'))⟩)::z7 h k) w/\(∀ b∈fpH σ' ((k,⟨r.s,updE r.xs p (λys=>ys.set i (x.set c y'))⟩)::z7 h k),b∈fpH σ h) /\
   (∀ b∈fpA σ k p i c y,b∈fpH σ h/\b∉fpH σ' ((k,⟨r.s,updE r.xs p (λys=>ys.set i (x.set c y'))⟩)::z7 h k))/\(fpA σ k p i c y).Nodup/\∃ v,Ce I σ (bl w) k p i c y v:=by
 obtain ⟨d1,d2,d3,d4,d5,d6⟩:=hh.del hg;obtain ⟨hp,hpf⟩:=hh.placeA (k:=k) (p:=p) (s:=s) (ys:=ys) (by unfold resA;rw [hg];exact hr);have hpnd:=hh.place_nodup hg hr
 have hne:∀ q',p≠p++(i,c)::q':=λq' e=>by have:=congrArg length e;simp at this
 have hσp:σ' k p=σ k p:=hσ k p (λ⟨_,q',e⟩=>hne q' e);unfold z2b at hp;unfold fpP at hpf hpnd;cases hL:σ k p with
 | none =>simp only [hL] at hp;rw [hp.1] at hx;simp at hx
 | some L =>
  simp only [hL] at hp hpf hpnd;obtain ⟨f1,f2,cur,E,f3,f4,f5⟩:=hp;obtain ⟨hxl,hCx⟩:=CeE.get ys 0 _ f5 i x hx;simp only [Nat.zero_add] at hCx;obtain ⟨v,hv,hCe⟩:=CeC.get x 0 _ hCx c y hy;simp only [Nat.zero_add] at hCe
  have hC1:=CeC.setAt (σ':=σ') (B':=bl w) x 0 c _ y y' v hCx hy (by simpa using hC v hCe) (λc' a'' v' hne2 _ hce=>Ce.ren (λq=>hσ k _ (λ⟨_,q',hq⟩=>by have:=List.append_cancel_left hq;simp only [List.cons.injEq,Prod.mk.injEq] at this;exact hne2 (by omega))) a'' v' hce)
  rw [zmp hv] at hC1;have hnl:((cur.toList.drop (i * esz s)).take (esz s)).length=esz s:=by rw [CeC.length x 0 _ hCx,hxl]
  have hE1:=CeE.setAt (σ':=σ') (B':=bl w) ys 0 i _ x (x.set c y') _ f5 hx (by simp [hxl]) hnl (by simpa using hC1) (λi' c' a'' v' hne2 _ hce=>Ce.ren (λq=>hσ k _ (λ⟨_,q',hq⟩=>by have:=List.append_cancel_left hq;simp only [List.cons.injEq,Prod.mk.injEq] at this;exact hne2 (by omega))) a'' v' hce)
  rw [zfg] at hE1;obtain ⟨m1,m2,hm,hm'⟩:=z4v (σ:=σ) (k:=k) (p:=p) ys 0 i x hx;obtain ⟨n1,n2,hn,hn'⟩:=z6j (σ:=σ) (k:=k) (p:=p) (i:=i) x 0 c y hy;simp only [Nat.zero_add] at hm hn hm' hn'
  have e1:=hm' σ' (x.set c y') (λi' c' a'' hne2=>fpA.ren (λq=>hσ k _ (λ⟨_,q',hq⟩=>by have:=List.append_cancel_left hq;simp only [List.cons.injEq,Prod.mk.injEq] at this;exact hne2 (by omega))) a'')
  have e2:=hn' σ' y' (λc' a'' hne2=>fpA.ren (λq=>hσ k _ (λ⟨_,q',hq⟩=>by have:=List.append_cancel_left hq;simp only [List.cons.injEq,Prod.mk.injEq] at this;exact hne2 (by omega))) a'')
  rw [hfp] at e2;rw [e2] at e1
  have hfP:fpP σ k p ys=L.b::(m1++(n1++fpA σ k p i c y++n2)++m2):=by unfold fpP;rw [hL];simp only;rw [hm,hn]
  have hfP':fpP σ' k p (ys.set i (x.set c y'))=L.b::(m1++(n1++[]++n2)++m2):=by unfold fpP;rw [hσp,hL];simp only;rw [e1]
  have hpnd2:(L.b::(m1++(n1++fpA σ k p i c y++n2)++m2)).Nodup:=by rw [<- hn,<- hm];exact hpnd
  have hsub:(L.b::(m1++(n1++[]++n2)++m2)).Sublist (L.b::(m1++(n1++fpA σ k p i c y++n2)++m2)):=by refine List.Sublist.cons_cons _ (List.Sublist.append (List.Sublist.append (List.Sublist.refl _) (List.Sublist.append (List.Sublist.append (List.Sublist.refl _) (List.nil_sublist _)) (List.Sublist.refl _))) (List.Sublist.refl _))
  obtain ⟨u1,u2,l1,l2,k2,k3⟩:=hh.updPlace (σ':=σ') (w':=w) (h1:=z7 h k) hg hr (λys=>ys.set i (x.set c y')) (by simp) d1 d3 (λb hb=>hb) (Nat.le_refl _)
   (by unfold z2b;rw [hσp,hL];exact ⟨f1,by simpa using f2,cur,E,f3,by rw [z5k (ys:=ys) (by simp)];exact f4,hE1⟩) hσp (λk' q hn=>hσ k' q (λ⟨e1,q',e2⟩=>hn ⟨e1,_,List.cons_ne_nil _ _,e2⟩)) (λ_ _ _=>rfl) (by rw [hfP'];exact hsub.nodup hpnd2) (λb hb=>.inl (by rw [hfP];rw [hfP'] at hb;exact hsub.subset hb))
  refine ⟨u1,u2,λb hb=>⟨hpf b (by rw [hm,hn];simp [hb]),λhm2=>?_⟩,?_,v,hCe⟩
  ·rw [z15,k3,hfP',fpH.ren _ (λk' hk' q=>hσ k' q (λ⟨e,_⟩=>by subst e;exact d3 hk'))] at hm2;rw [k2,hfP] at d4 d5;rcases mem_append.1 hm2 with hm2 | hm2
   ·have hA:b∈L.b::(m1++(n1++fpA σ k p i c y++n2)++m2):=by simp [hb]
    rw [nodup_append,nodup_append] at d4;rcases mem_append.1 hm2 with hm2 | hm2
    ·rcases mem_append.1 hm2 with hm2 | hm2
     ·exact d4.1.2.2 b hm2 b hA rfl
     ·simp only [append_nil,nodup_cons,mem_append,nodup_append,not_or] at hpnd2 hm2;simp only [mem_cons,mem_append] at hm2;obtain ⟨⟨⟨p1,⟨p2a,p2b⟩,p2c⟩,p3⟩,⟨q1,⟨⟨⟨q2,q3,q4⟩,q5,q6⟩,q7⟩⟩,q8,q9⟩:=hpnd2;rcases hm2 with hm2 | (hm2 | hm2 | hm2) | hm2
      ·subst hm2;exact p2b hb
      ·exact q7 b hm2 b (.inl (.inr hb)) rfl
      ·exact q4 b hm2 b hb rfl
      ·exact q6 b (.inr hb) b hm2 rfl
      ·exact q9 b (.inr (.inl (.inr hb))) b hm2 rfl
    ·exact d4.2.2 b (List.mem_append_right _ hA) b hm2 rfl
   ·exact (d5 b (by simp [hb])).1 hm2
  ·simp only [nodup_cons,nodup_append] at hpnd2;exact hpnd2.2.1.2.1.1.2.1
theorem z6.detachAt {t k i c s s0:Nat} (j:Nat) {r:Row} {p:Path} {ys:Els} {x:List AV} {xs:Els} (ht:e t = .sl k (p++[(i,c)]) 0 xs.length) (hg:z5 h k=some r) (hr:resE r.s r.xs p=some (s0,ys)) (hx:ys[i]?=some x) (hy:x[c]?=some (.ow s xs)) (hj:(h.map Prod.fst).contains j=false) (hp:pro.all (λk=>k != j)=true) :
  z6 P pro e h (upd (zx (λk' q=>k'==j||under k p c 1 k' q) e) t (.sl j [] 0 xs.length)) ((j,⟨s,xs⟩)::(k,⟨r.s,updE r.xs p (λys=>ys.set i (x.set c .un))⟩)::z7 h k):=by
 intro I N _ σ a w R
 have hj':j∉h.map Prod.fst:=λhm=>by
  have:(h.map Prod.fst).contains j=true:=by simpa using hm
  rw [this] at hj;cases hj
 obtain ⟨c1,c2,c3,c4,v,c5⟩:=R.heap.cellAt (σ':=σ) (y':=.un) hg hr hx hy (λ_ _ _=>rfl) (λv hv=>by
   simp only [Ce] at hv ⊢;split at hv
   ·obtain ⟨_,_,a,rfl⟩:=hv;rfl
   ·obtain ⟨_,_,rfl,_⟩:=hv;unfold hdr;split<;>rfl) rfl
 let σ1:Pl:=λk' q=>if k'=j then σ k (p++(i,c)::q) else σ k' q
 have hne:∀ k',k'≠j->∀ q,σ1 k' q=σ k' q:=λk' hk q=>if_neg hk
 have hkey:j∉(((k,⟨r.s,updE r.xs p (λys=>ys.set i (x.set c .un))⟩)::z7 h k:H)).map Prod.fst:=by simp only [map_cons,mem_cons,not_or];refine ⟨λe=>hj' ?_,λhm=>hj' ((z3c R.heap k).2.2.2 j hm)⟩;rw [e];exact ((z2z hg).map Prod.fst).mem_iff.2 (by simp)
 have hrow:zn I σ1 (bl w) j ⟨s,xs⟩/\fpR σ1 j ⟨s,xs⟩=fpA σ k p i c (.ow s xs):=by
  unfold zn fpR;simp only [fpA];have h0:σ1 j []=σ k (p++[(i,c)]):=if_pos rfl;rw [h0];simp only [Ce] at c5;cases hs:σ k (p++[(i,c)]) with
  | none=>simp only [hs] at c5 ⊢;exact ⟨⟨c5.1,c5.2.1⟩,trivial⟩
  | some L =>
   simp only [hs] at c5 ⊢;obtain ⟨g1,g2,g3,cur,E,g4,g5,g6⟩:=c5
   have hq:∀ i' c' q,σ1 j ([]++(i',c')::q)=σ k ((p++[(i,c)])++(i',c')::q):=λi' c' q=>by show σ1 j ((i',c')::q)=_;simp [σ1]
   exact ⟨⟨g1,g2,cur,E,g4,g5,CeE.ren (k:=k) (p:=p++[(i,c)]) (p':=[]) 0 (esz s) hq xs _ g6⟩,by rw [fpE.ren (k:=k) (p:=p++[(i,c)]) (p':=[]) 0 hq xs]⟩
 have hadd:=c1.add (σ':=σ1) (w':=w) (k:=j) (r:=⟨s,xs⟩) hkey hne (λ_ _ _=>rfl) (Nat.le_refl _) hrow.1 (by rw [hrow.2];exact c4) (λb hb=>by rw [hrow.2] at hb;exact ⟨(c3 b hb).2,R.heap.apart b (c3 b hb).1⟩)
 refine ⟨σ1,I,λ_ h=>h,λ_ h=>.inl h,⟨hadd,R.size,λt'=>?_,R.defers⟩,λk' hk'=>?_,Le.refl _,λ_ _ _=>rfl,λb hb=>.inl ?_⟩
 ·unfold upd;split
  ·rename_i htt;subst htt;have hv:=R.vals t';rw [ht] at hv;have h0:σ1 j []=σ k (p++[(i,c)]):=if_pos rfl;simp only [Va,h0] at hv ⊢;exact hv
  ·exact Va.kill (λk' q hb=>hne k' (λe=>by rw [e] at hb;simp at hb) q) _ _ (R.vals t')
 ·have:=all_eq_true.1 hp k' hk';exact hne k' (by simpa using this) []
 ·rw [z15,hrow.2,fpH.ren _ (λk' hk' q=>hne k' (λe=>hkey (e ▸ hk')) q)] at hb;rcases mem_append.1 hb with hb | hb
  ·exact (c3 b hb).1
  ·exact c2 b hb
theorem z9p {b1 b2:Nat->Path->Bool}:(∀ x:AV,kill b1 (kill b2 x)=kill (λk q=>b2 k q||b1 k q) x)/\(∀ l:List AV,z24 b1 (z24 b2 l)=z24 (λk q=>b2 k q||b1 k q) l):=by
 have key:∀ n,(∀ x:AV,sizeOf x<=n->kill b1 (kill b2 x)=kill (λk q=>b2 k q||b1 k q) x)/\(∀ l:List AV,sizeOf l<=n->z24 b1 (z24 b2 l)=z24 (λk q=>b2 k q||b1 k q) l):=by
  intro n
  induction n with
  | zero=>exact ⟨λx hx=>by cases x<;>simp at hx,λl hl=>by cases l<;>simp at hl⟩
  | succ n ih =>
   refine ⟨λx hx=>?_,λl hl=>?_⟩
   ·cases x with
    | sl k p o l=>simp only [kill];by_cases hb:b2 k p=true<;>simp [kill,hb]
    | pt k p i c=>simp only [kill];by_cases hb:b2 k p=true<;>simp [kill,hb]
    | pp q =>
     cases q with
     | xp b x c=>rfl
     | fs k cs=>simp only [kill,z2m];by_cases hb:b2 k []=true<;>simp [kill,z2m,hb]
     | fp k cs i=>simp only [kill,z2m];by_cases hb:b2 k []=true<;>simp [kill,z2m,hb]
     | mr k p=>simp only [kill,z2m];by_cases hb:b2 k p=true<;>simp [kill,z2m,hb]
    | ag cs=>simp only [kill];rw [ih.2 cs (by simp at hx;omega)]
    | tu cs=>simp only [kill];rw [ih.2 cs (by simp at hx;omega)]
    | fn f cs=>simp only [kill];rw [ih.2 cs (by simp at hx;omega)]
    | _=>rfl
   ·cases l with
    | nil=>rfl
    | cons x l=>simp only [z24];rw [ih.1 x (by simp at hl;omega),ih.2 l (by simp at hl;omega)]
 exact ⟨λx=>(key _).1 x (Nat.le_refl _),λl=>(key _).2 l (Nat.le_refl _)⟩
end
section
variable {P:Program} {pro keep:List Nat} {e e1:Env} {h h1:H} {Q:Out->Env->H->Prop} {l:List Ins} {R:Type} {r:R} {g:Option (Nat×Bool)} {d:Nat}
end
mutual
inductive Ty where
 | int (k:IntKind)
 | bool
 | str
 | sl (s by':Nat) (e:Ty)
 | st (fs:Tys)
inductive Tys where
 | nil
 | cons (t:Ty) (ts:Tys)
end
mutual
def OfTy (R:Nat->Nat->Prop):Ty->List AV->Prop
 | .int k,cs=>∃ n,cs=[.sc (.int k n)]/\(Lit.int k n).wf=true
 | .bool,cs=>∃ b,cs=[.sc (.bool b)]
 | .str,cs=>∃ s:ByteArray,cs=[.sc (.string s)]/\R s.size 1
 | .sl s by' e,cs=>∃ xs:List (List AV),cs=[.im s xs]/\(∀ x∈xs,OfTy R e x)/\R xs.length by'
 | .st fs,cs=>zrg R fs cs
def zrg (R:Nat->Nat->Prop):Tys->List AV->Prop
 | .nil,cs=>cs=[]
 | .cons t ts,cs=>∃ a b,cs=a++b/\OfTy R t a/\zrg R ts b
end
mutual
def tyOk (P:Program) (t:TypeId):Ty->Bool
 | .int k=>P.cellsOf t==1&&(match P.underlying t with | some (.int k')=>k==k' | _=>false)
 | .bool=>P.cellsOf t==1&&(match P.underlying t with | some .bool=>true | _=>false)
 | .str=>P.cellsOf t==1&&(match P.underlying t with | some .string=>true | _=>false)
 | .sl s by' e=>P.cellsOf t==1&&(match P.underlying t with | some (.slice u)=>decide (0<s)&&P.cellsOf u==s&&P.bytesOf u==by'&&tyOk P u e | _=>false)
 | .st fs=>match P.underlying t with | some (.struct fds)=>zhg P fds.toList 0 (P.cellsOf t) fs | _=>false
def zhg (P:Program) (fds:List Field) (off total:Nat):Tys->Bool
 | .nil=>fds.isEmpty&&off==total
 | .cons t ts=>match fds with
  | []=>false
  | f::r=>f.offset==off&&tyOk P f.type t&&zhg P r (off+P.cellsOf f.type) total ts
end
section
variable {H:Type} {enc:TypeId×Value->H} {P:Program} {w:World} {sp:Nat->Bool} {held:Bool} {R:Nat->Nat->Prop}
abbrev Old (w:World):Nat->Prop:=λb=>b<w.heap.size
theorem ImC.append {I:Nat->Prop} {B:zd}:∀ {a b:List AV} {cs ds:List Value},ImC I B a cs->ImC I B b ds->ImC I B (a++b) (cs++ds)
 | [],_,_,_,h,h'=>by obtain rfl:_=[]:=h;exact h'
 | _::as,_,_,_,h,h'=>by obtain ⟨v,cs',rfl,h1,h2⟩:=h;exact ⟨v,cs'++_,rfl,h1,h2.append h'⟩
theorem zsp {I:Nat->Prop} {B:zd} {s:Nat}:∀ {xs:Els} {l:List Value},(∀ i x,xs[i]?=some x->x.length=s/\ImC I B x ((l.drop (i * s)).take s))->ImE I B s xs l
 | [],_,_=>trivial
 | x::xs,l,h=>by have h0:=h 0 x rfl;simp only [Nat.zero_mul,drop_zero] at h0;refine ⟨h0.1,h0.2,zsp λi y hy=>?_⟩;have h1:=h (i+1) y hy;rw [drop_drop,show s+i * s=(i+1) * s by rw [Nat.add_mul];omega];exact h1
theorem zxz {α:Type} {Q:Nat->α->Prop}:∀ {n:Nat},(∀ i,i<n->∃ x,Q i x)->∃ xs:List α,xs.length=n/\∀ i x,xs[i]?=some x->Q i x:=by
 intro n
 induction n with
 | zero=>intro _;exact ⟨[],rfl,λi x h=>by simp at h⟩
 | succ n ih =>
  intro h;obtain ⟨xs,h1,h2⟩:=ih λi hi=>h i (by omega);obtain ⟨x,hx⟩:=h n (by omega);refine ⟨xs++[x],by simp [h1],λi y hy=>?_⟩;by_cases hi:i<n
  ·exact h2 i y (by rw [getElem?_append_left (by omega)] at hy;exact hy)
  ·rw [getElem?_append_right (by omega)] at hy;by_cases e:i - xs.length=0
   ·rw [e] at hy;obtain rfl:=Option.some.inj hy;obtain rfl:i=n:=by omega
    exact hx
   ·rw [getElem?_eq_none (by simp;omega)] at hy;cases hy
theorem zrn {a:Addr} {v:Value} (h:w.cell? a=some v):∃ c E fr,w.heap[a.block]?=some (.cells c E fr)/\a.spot=none/\c[a.off]?=some v:=by
 unfold World.cell? at h;split at h
 ·rename_i c E fr hc;split at h
  ·cases h
  ·rename_i hs;refine ⟨c,E,fr,hc,?_,h⟩;cases hsp:a.spot<;>simp_all
 ·cases h
theorem zev {e:TypeId}:∀ {l:List (DataW H)} {n:Nat} {d:DataW H},d∈l->n∈d.weights P e->n∈DataW.weightsAll P e l
 | _::_,_,_,h,h'=>by
  simp only [DataW.weightsAll,mem_append];cases h with
  | head=>exact .inl h'
  | tail _ h=>exact .inr (zev h h')
structure Fit (R:Nat->Nat->Prop) (P:Program) (H:Type) where
 F:TypeId->DataW H->Prop
 E:List TypeId->List (DataW H)->Prop
 str:∀ {t:TypeId} {l:List UInt8},F t (.lit (.string l))->R l.length 1
 nil:∀ b,R 0 b
 sl:∀ {t u:TypeId} {e s:List (DataW H)},P.underlying t=some (.slice u)->F t (.slice e s)->R e.length (P.bytesOf u)/\∀ x∈e,F u x
 st:∀ {t:TypeId} {fds:Array Field} {ps:List (DataW H)},P.underlying t=some (.struct fds)->F t (.agg ps)->E (fds.toList.map (·.type)) ps
 cons:∀ {t:TypeId} {ts:List TypeId} {d:DataW H} {ds:List (DataW H)},E (t::ts) (d::ds)->F t d/\E ts ds
def z3w (P:Program) (H:Type):Fit (λn b=>n * b<=reachBytes) P H where
 F t d:=∀ n∈d.weights P t,n<=reachBytes
 E ts ds:=∀ n∈DataW.weightsEach P ts ds,n<=reachBytes
 str {t l} h:=by have:=h l.length (by simp [DataW.weights]);simpa using this
 nil b:=by simp
 sl hu h:=by
  refine ⟨?_,λx hx m hm=>h m ?_⟩
  ·have:=h _ (by simp only [DataW.weights,hu];exact List.mem_cons_self ..);exact Nat.le_trans (Nat.mul_le_mul_right _ (Nat.le_add_right _ _)) this
  ·simp only [DataW.weights,hu,mem_cons,mem_append];exact .inr (.inl (zev hx hm))
 st hu h:=by intro n hn;exact h n (by simp only [DataW.weights,hu];exact hn)
 cons h:=⟨λn hn=>h n (by simp only [DataW.weightsEach,mem_append];exact .inl hn),λn hn=>h n (by simp only [DataW.weightsEach,mem_append];exact .inr hn)⟩
def yfr (P:Program) (H:Type) (N:Nat) (B:DataW H->Nat) (BA:List (DataW H)->Nat) (h1:∀ d,1<=B d) (hs:∀ l,B (.lit (.string l))=l.length+1) (hsl:∀ e s,B (.slice e s)=BA e+BA s+1) (ha:∀ l,B (.agg l)=BA l+1) (hc:∀ d r,BA (d::r)=B d+BA r) :
  Fit (λn b=>n * b<=reachBytes/\n<=N) P H where
 F t d:=(z3w P H).F t d/\B d<=N
 E ts ds:=(z3w P H).E ts ds/\BA ds<=N
 str h:=⟨(z3w P H).str h.1,by have:=h.2;rw [hs] at this;omega⟩
 nil b:=⟨by simp,zero_le _⟩
 sl {t u e s} hu h:=by
  obtain ⟨a,b⟩:=(z3w P H).sl hu h.1;have hN:=h.2;rw [hsl] at hN
  have hl:∀ l:List (DataW H),l.length<=BA l:=by
   intro l
   induction l with
   | nil=>exact zero_le _
   | cons x r ih=>rw [hc];have:=h1 x;simp only [length_cons];omega
  have hm:∀ (l:List (DataW H)),∀ x∈l,B x<=BA l:=by
   intro l
   induction l with
   | nil=>intro x hx;cases hx
   | cons y r ih =>
    intro x hx;rw [hc];rcases mem_cons.1 hx with rfl | hx
    ·omega
    ·have:=ih x hx;omega
  exact ⟨⟨a,by have:=hl e;omega⟩,λx hx=>⟨b x hx,by have:=hm e x hx;omega⟩⟩
 st hu h:=⟨(z3w P H).st hu h.1,by have:=h.2;rw [ha] at this;omega⟩
 cons h:=⟨⟨((z3w P H).cons h.1).1,by have:=h.2;rw [hc] at this;omega⟩,((z3w P H).cons h.1).2,by have:=h.2;rw [hc] at this;omega⟩
mutual
theorem lift (Φ:Fit R P H):∀ (T:Ty) {t:TypeId} {fuel:Nat} {cs:List Value} {x:DataW H×List MemPlace},tyOk P t T=true->DataW.trod enc P w 0 sp held fuel t cs=some x->Φ.F t x.1 ->
  ∃ as,OfTy R T as/\ImC (Old w) (bl w) as cs/\as.length=P.cellsOf t
 | .int k,t,fuel,cs,x,ok,h,hw=>by
  simp only [tyOk,and_eq_true,beq_iff_eq] at ok;obtain ⟨o1,o2⟩:=ok;split at o2
  ·rename_i k' hu;obtain rfl:k=k':=by simpa using o2
   obtain ⟨n,rfl,rfl,hwf⟩:=DataW.trod_int hu h;exact ⟨_,⟨n,rfl,hwf⟩,⟨_,[],rfl,⟨rfl,rfl⟩,rfl⟩,o1.symm⟩
  ·cases o2
 | .bool,t,fuel,cs,x,ok,h,hw=>by
  simp only [tyOk,and_eq_true,beq_iff_eq] at ok;obtain ⟨o1,o2⟩:=ok;split at o2
  ·rename_i hu;obtain ⟨b,rfl,rfl⟩:=DataW.trod_bool hu h;exact ⟨_,⟨b,rfl⟩,⟨_,[],rfl,⟨rfl,rfl⟩,rfl⟩,o1.symm⟩
  ·cases o2
 | .str,t,fuel,cs,x,ok,h,hw=>by
  simp only [tyOk,and_eq_true,beq_iff_eq] at ok;obtain ⟨o1,o2⟩:=ok;split at o2
  ·rename_i hu;obtain ⟨s,rfl,rfl,hs⟩:=DataW.trod_string hu h;refine ⟨_,⟨s,rfl,?_⟩,⟨_,[],rfl,⟨rfl,rfl⟩,rfl⟩,o1.symm⟩;have:=Φ.str hw;simpa using this
  ·cases o2
 | .sl s b e,t,fuel,cs,x,ok,h,hw=>by
  simp only [tyOk,and_eq_true,beq_iff_eq] at ok;obtain ⟨o1,o2⟩:=ok;split at o2
  ·rename_i u hu;simp only [and_eq_true,beq_iff_eq,decide_eq_true_eq] at o2;obtain ⟨⟨⟨hs,rfl⟩,rfl⟩,oe⟩:=o2;rcases DataW.trod_slice hu h with ⟨rfl,rfl⟩ | ⟨a,len,cap,elems,rest,n,rfl,rfl,rfl,-,hlc,-,hlen,hel,-,-⟩
   ·exact ⟨[.im _ []],⟨[],rfl,(λx hx=>by cases hx),Φ.nil _⟩,⟨_,[],rfl,⟨none,0,rfl,Nat.le_refl _,λh=>(h rfl).elim⟩,rfl⟩,o1.symm⟩
   ·obtain ⟨hwe,hww⟩:=Φ.sl hu hw
    have step:∀ i,i<len->∃ as,(OfTy R e as/\as.length=P.cellsOf u)/\∃ cs',w.cells? 0 (a.add (i * P.cellsOf u)) (P.cellsOf u)=some cs'/\ImC (Old w) (bl w) as cs':=by intro i hi;have h1:=hel i hi;rw [List.getElem?_eq_getElem (by omega)] at h1;obtain ⟨cs',h2,h3⟩:=bind_eq_some_iff.1 h1;obtain ⟨as,a1,a2,a3⟩:=lift Φ e oe h3 (hww _ (List.mem_map_of_mem (List.getElem_mem (by omega))));exact ⟨as,⟨a1,a3⟩,cs',h2,a2⟩
    obtain ⟨xs,x1,x2⟩:=zxz step;refine ⟨[.im _ xs],⟨xs,rfl,λx hx=>?_,?_⟩,⟨_,[],rfl,⟨some a,cap,by rw [x1],by omega,λhne=>?_⟩,rfl⟩,o1.symm⟩
    ·obtain ⟨i,hi,rfl⟩:=List.getElem_of_mem hx;exact (x2 i _ (List.getElem?_eq_getElem hi)).1.1
    ·rw [x1,<- hlen];simpa using hwe
    ·have h0:0<xs.length:=List.length_pos_iff.2 hne;obtain ⟨-,cs0,c1,-⟩:=x2 0 _ (List.getElem?_eq_getElem h0);have c2:=(World.cells?_some c1).2.2 0 hs;rw [List.getElem?_eq_getElem (by have:=(World.cells?_some c1).2.1;omega)] at c2;obtain ⟨c,E,fr,hc,hsp,-⟩:=zrn c2
     have hsn:a.spot=none:=by
      rcases a with ⟨b0,o0,s0⟩;cases s0 with
      | none=>rfl
      | some z=>simp [Addr.add] at hsp
     obtain ⟨b0,o0,s0⟩:=a;obtain rfl:s0=none:=hsn
     have hadd:∀ o k,Addr.add ⟨b0,o,none⟩ k=⟨b0,o+k,none⟩:=λo k=>by
      unfold Addr.add;split
      ·subst_vars;rfl
      ·rfl
     simp only [hadd] at hc;refine ⟨⟨b0,o0,none⟩,c,E,fr,rfl,rfl,?_,hc,zsp λi x hx=>?_⟩
     ·show b0<w.heap.size;by_cases hl:b0<w.heap.size
      ·exact hl
      ·rw [Array.getElem?_eq_none (by omega)] at hc;cases hc
     ·obtain ⟨⟨-,q1⟩,cs',q2,q3⟩:=x2 i x hx;refine ⟨q1,?_⟩;obtain ⟨-,l1,l2⟩:=World.cells?_some q2
      have:((c.toList.drop o0).drop (i * P.cellsOf u)).take (P.cellsOf u)=cs':=by
       apply ext_getElem?;intro j;by_cases hj:j<P.cellsOf u
       ·rw [<- l2 j hj,List.getElem?_take_of_lt hj,drop_drop,getElem?_drop];simp only [World.cell?,hadd,hc];simp [Nat.add_assoc]
       ·rw [getElem?_eq_none (by simp;omega),getElem?_eq_none (by omega)]
      rw [this];exact q3
  ·cases o2
 | .st fs,t,fuel,cs,x,ok,h,hw=>by
  simp only [tyOk] at ok;split at ok
  ·rename_i fds hu;obtain ⟨xs,n,rfl,rfl,hl,hx,hf⟩:=DataW.trod_struct hu h;obtain ⟨as,a1,a2,a3⟩:=y3g Φ fs (fds:=fds.toList) (off:=0) (cs:=cs) (total:=P.cellsOf t) (xs:=xs) (n:=n) ok hl (by simpa using hx) (λi f hi=>hf i f (by simpa using hi)) (Φ.st hu hw);exact ⟨as,a1,by simpa using a2,by simpa using a3⟩
  ·cases ok
theorem y3g (Φ:Fit R P H):∀ (T:Tys) {fds:List Field} {off total:Nat} {cs:List Value} {xs:List (DataW H×List MemPlace)} {n:Nat},zhg P fds off total T=true->cs.length=total->xs.length=fds.length ->
  (∀ (i:Nat) (f:Field),fds[i]?=some f->DataW.trod enc P w 0 sp held n f.type ((cs.drop f.offset).take (P.cellsOf f.type))=xs[i]?) ->
  Φ.E (fds.map (·.type)) (xs.map (·.1)) ->
  ∃ as,zrg R T as/\ImC (Old w) (bl w) as (cs.drop off)/\as.length=total - off
 | .nil,fds,off,total,cs,xs,n,ok,hl,hx,hf,hw=>by simp only [zhg,and_eq_true,beq_iff_eq] at ok;obtain ⟨-,rfl⟩:=ok;refine ⟨[],rfl,?_,by simp⟩;rw [List.drop_eq_nil_of_le (by omega)];exact rfl
 | .cons t ts,fds,off,total,cs,xs,n,ok,hl,hx,hf,hw=>by
  simp only [zhg] at ok;split at ok
  ·cases ok
  ·rename_i f r;simp only [and_eq_true,beq_iff_eq] at ok;obtain ⟨⟨rfl,o1⟩,o2⟩:=ok;cases xs with
   | nil=>simp at hx
   | cons x xs =>
    have h0:=hf 0 f rfl;obtain ⟨as,a1,a2,a3⟩:=lift Φ t o1 h0 (Φ.cons hw).1;obtain ⟨bs,b1,b2,b3⟩:=y3g Φ ts (fds:=r) (off:=f.offset+P.cellsOf f.type) (total:=total) (cs:=cs) (xs:=xs) (n:=n) o2 hl (by simpa using hx) (λi g hg=>hf (i+1) g hg) (Φ.cons hw).2
    have e:cs.drop f.offset=(cs.drop f.offset).take (P.cellsOf f.type)++cs.drop (f.offset+P.cellsOf f.type):=by rw [<- drop_drop,List.take_append_drop]
    refine ⟨as++bs,⟨as,bs,rfl,a1,b1⟩,?_,?_⟩
    ·rw [e];exact a2.append b2
    ·have q:∀ {I:Nat->Prop} {B:zd} (l:List AV) (c:List Value),ImC I B l c->l.length=c.length:=by
      intro I B l
      induction l with
      | nil=>intro c h;obtain rfl:c=[]:=h;rfl
      | cons a l ih=>intro c h;obtain ⟨v,c',rfl,-,h'⟩:=h;simp [ih c' h']
     have e1:=q as _ a2;have e2:=q bs _ b2;simp only [length_append,length_take,List.length_drop] at *;omega
end
end
theorem z8r {α:Type} {c:α->List AV} {W:α->Prop} {Q:List AV->Prop} (hq:∀ x,Q x->∃ y,W y/\c y=x):∀ {xs:Els},(∀ x∈xs,Q x)->∃ ys:List α,(∀ y∈ys,W y)/\ys.map c=xs
 | [],_=>⟨[],(λy hy=>by cases hy),rfl⟩
 | x::xs,h=>by obtain ⟨y,h1,h2⟩:=hq x (h x (List.mem_cons_self ..));obtain ⟨ys,h3,h4⟩:=z8r hq (xs:=xs) λz hz=>h z (List.mem_cons_of_mem _ hz);exact ⟨y::ys,(λz hz=>by cases hz with | head=>exact h1 | tail _ hz=>exact h3 z hz),by simp [h2,h4]⟩
end Loom
namespace Loom
open Go Go.ChangeShapes Go.WideShapes Go.RowKit
def y0h:Ty->List AV->AV
 | .st _,cs=>.ag cs
 | _,cs=>cs.headD .un
def OfArgs (R:Nat->Nat->Prop):List Ty->List (List AV)->Prop
 | [],as=>as=[]
 | T::Ts,as=>∃ a r,as=a::r/\OfTy R T a/\OfArgs R Ts r
def argsOf:List Ty->List (List AV)->List AV
 | T::Ts,a::as=>y0h T a::argsOf Ts as
 | _,_=>[]
def zdh (P:Program):List TypeId->List Ty->Bool
 | [],[]=>true
 | t::ts,T::Ts=>tyOk P t T&&P.readableRec t&&decide (t<P.types.size)&&zdh P ts Ts
 | _,_=>false
section
variable {H:Type} {enc:TypeId×Value->H} {P:Program} {W:World} {σ:Pl} {R:Nat->Nat->Prop}
theorem zz3 (Φ:Fit R P H) {T:Ty} {t:TypeId} {v:Value} {d:DataW H} {p:List MemPlace} {r:Reach} {b0:Nat} (ok:tyOk P t T=true) (hval:Value.okWide P W r b0 t v)
  (h:DataW.Trod enc P W 0 (λ_=>true) true t v d p) (hw:Φ.F t d):∃ as,OfTy R T as/\Va (Old W) σ (bl W) (y0h T as) v:=by
 obtain ⟨fuel,h⟩:=h;obtain ⟨as,a1,a2,-⟩:=lift Φ T ok h hw;refine ⟨as,a1,?_⟩
 have one:∀ {x:AV},as=[x]->v.cells = #[v]->Va (Old W) σ (bl W) x v:=by rintro x rfl hc;rw [hc] at a2;obtain ⟨u,cs',e,h1,-⟩:=a2;obtain ⟨rfl,-⟩:=List.cons.inj e;exact (Im.va _ _ h1).1
 cases T with
 | int k =>
  simp only [tyOk,and_eq_true] at ok;have ok:=ok.2;split at ok
  ·rename_i hu;obtain ⟨n,rfl⟩:=okWide_int hu hval;obtain ⟨m,rfl,-⟩:=a1;exact one rfl rfl
  ·cases ok
 | bool =>
  simp only [tyOk,and_eq_true] at ok;have ok:=ok.2;split at ok
  ·rename_i hu;obtain ⟨n,rfl⟩:=okWide_bool hu hval;obtain ⟨m,rfl⟩:=a1;exact one rfl rfl
  ·cases ok
 | str =>
  simp only [tyOk,and_eq_true] at ok;have ok:=ok.2;split at ok
  ·rename_i hu;obtain ⟨n,rfl⟩:=okWide_string hu hval;obtain ⟨m,rfl,-⟩:=a1;exact one rfl rfl
  ·cases ok
 | sl s b e =>
  simp only [tyOk,and_eq_true] at ok;have ok:=ok.2;split at ok
  ·rename_i hu;obtain ⟨a,l,c,rfl⟩:=okWide_slice hu hval;obtain ⟨m,rfl,-⟩:=a1;exact one rfl rfl
  ·cases ok
 | st fs =>
  simp only [tyOk] at ok;split at ok
  ·rename_i hu;obtain ⟨cs,rfl,-⟩:=okWide_struct hu hval;exact ⟨cs,rfl,ImC.va _ _ a2⟩
  ·cases ok
theorem zcq (Φ:Fit R P H) (hl:laidOutB P=true):∀ {ts:List TypeId} {Ts:List Ty} {vs:List Value} {ds:List (DataW H)} {ps:List MemPlace},zdh P ts Ts=true->(∀ (j:Nat) t v,ts[j]?=some t->vs[j]?=some v->Value.okWide P W .any 0 t v) ->
  DataW.TrodAll enc P W 0 (λ_=>true) true ts vs ds ps->Φ.E ts ds ->
  (∃ as,OfArgs R Ts as/\VaL (Old W) σ (bl W) (argsOf Ts as) vs)/\ds.length=Ts.length/\∀ W',Below W.heap.size W W'->DataW.TrodAll enc P W' 0 (λb=>decide (b<W.heap.size)) true ts vs ds ps
 | [],[],vs,ds,ps,_,_,h,_=>by obtain ⟨rfl,rfl,rfl⟩:=trodAll_nil h;exact ⟨⟨[],rfl,rfl⟩,rfl,λ_ _=>rfl⟩
 | t::ts,T::Ts,vs,ds,ps,ok,hval,h,hw=>by simp only [zdh,and_eq_true,decide_eq_true_eq] at ok;obtain ⟨⟨⟨o1,o2⟩,o3⟩,o4⟩:=ok;obtain ⟨v,vs,d,ds,p,q,rfl,rfl,rfl,h1,h2⟩:=trodAll_cons h;obtain ⟨a,a1,a2⟩:=zz3 Φ (σ:=σ) o1 (hval 0 _ _ rfl rfl) h1 (Φ.cons hw).1;obtain ⟨⟨as,b1,b2⟩,b3,b4⟩:=zcq Φ hl o4 (λj t v e1 e2=>hval (j+1) t v e1 e2) h2 (Φ.cons hw).2;refine ⟨⟨a::as,⟨a,as,rfl,a1,b1⟩,v,vs,rfl,a2,b2⟩,by simp [b3],λW' hb=>⟨p,q,?_,b4 W' hb,rfl⟩⟩;have h1':=h1;obtain ⟨n,hn⟩:=h1;exact RowKit.Below.trod hl o2 o3 h1' hb (DataW.trod_lt n _ _ _ hn)
 | [],_::_,_,_,_,ok,_,_,_=>by cases ok
 | _::_,[],_,_,_,ok,_,_,_=>by cases ok
theorem zj9 {f:Nat} {as:List AV} {vs:List Value} (hc:CallG P f as [] (Bl true) []) (hv:VaL (Old W) (λ_ _=>none) (bl W) as vs) :
  Calls P f vs.toArray W λe W'=>e = .returned (.bool true)/\Below W.heap.size W W':=by
 refine (hc (Old W) (λ_ _=>none) W vs ⟨trivial,nodup_nil,nodup_nil,(λb hb=>by cases hb),λb hb=>hb⟩ hv).mono ?_;rintro e W' ⟨v,σ',I',rfl,-,-,-,hr,-,hle,hb,-⟩;obtain rfl:v = .bool true:=hr;exact ⟨rfl,hle.os,hle.tape,hle.output,hle.size,λk hk=>hb k hk (by intro h;cases h)⟩
end
abbrev RSaid:Nat->Nat->Prop:=λn b=>n * b<=reachBytes
abbrev yfs (N:Nat):Nat->Nat->Prop:=λn b=>n * b<=reachBytes/\n<=N
theorem row_of {C:Checked} {os:Os} {H:Type} {enc:TypeId×Value->H} {f:Nat} {fn:Func} {s:ChangeSpec} {ts:List TypeId} (Ts:List Ty) (tb:TypeId) (started:os.Started) (own:ownKnob C.prog.godebug=none)
  (noInit:C.prog.inits.idxOf? f=none) (hfn:C.prog.funcs[f]?=some fn)
  (witness:∃ (w:World) (tape:Tape) (i:Input),w.os=os/\(w.forCall tape i).Shaped C.prog/\i.vars=[]/\Input.okWide C.prog (w.forCall tape i) .any w.heap.size f i /\
   s.pre6 enc C.prog fn [] false (w.forCall tape i).memory i.args/\({}:Assume).holds C.prog (lone (Frame.enter C.prog f i.args .normal) [] (w.forCall tape i)))
  (hl:laidOutB C.prog=true) (hps:fn.params=ts.toArray) (hrs:fn.resultTypes = #[tb]) (htb:C.prog.underlying tb=some .bool) (hts:zdh C.prog ts Ts=true)
  (hvars:s.vars=[]) (hs:∀ ds:List (DataW H),ds.length=Ts.length->s.fn H ds = { results:=[.lit (.bool true)],args:=ds })
  (hc:∀ as,OfArgs RSaid Ts as->CallG C.prog f (argsOf Ts as) [] (Bl true) []) :
  ReturnsInHanded {} C os f .any (s.pre6 enc C.prog fn [] false) (s.post enc C.prog fn false true false false):=by
 refine returnsInHanded_of_change_sized (C:=C) own started noInit hfn witness ?_;intro W base args ds gs before hval hW _ hsz _;have hW':=hW;obtain ⟨p,q,hA,hV,rfl,hfz,hnd⟩:=hW;rw [hvars] at hV;obtain ⟨rfl,rfl⟩:=trodVars_none hV
 have hvt:s.plain.varTypes C.prog=[]:=by have:s.plain.vars=[]:=hvars;simp [DataSpec.varTypes,this]
 rw [hvt,append_nil,append_nil] at hsz;rw [hps] at hA hsz
 obtain ⟨⟨as,a1,a2⟩,a3,a4⟩:=zcq (z3w C.prog H) (W:=W) (σ:=λ_ _=>none) hl hts (λj t v h1 h2=>hval j t v (by rw [hps];simpa using h1) (by simpa using h2)) hA λn hn=>by have:=all_eq_true.1 hsz n hn;simpa using this
 have:=zj9 (hc as a1) a2;rw [Array.toArray_toList] at this;refine this.mono λe W' ⟨he,bel⟩=>?_;subst he;refine ⟨_,rfl,_,_,_,[],p,[],hW',?_⟩;have e:s.fn H (ds++[]) = { results:=[.lit (.bool true)],args:=ds }:=by rw [append_nil];exact hs ds a3
 rw [e,hvars,hrs,hps];exact ⟨trodAll_mk1 (shut_bool htb _),a4 W' bel,rfl,bel.frame _,λh=>by cases h⟩
theorem yfq {C:Checked} {os:Os} {H:Type} {enc:TypeId×Value->H} {f:Nat} {fn:Func} {s:OpenSpec} {k:(H:Type)->List (DataW H)->Bool} (hk:s.cond=some k) {F:Stop.Interp} {ts:List TypeId} (Ts:List Ty) (tb:TypeId) {R:Nat->Nat->Prop} (Φ:Fit R C.prog H) (started:os.Started) (own:ownKnob C.prog.godebug=none)
  (noInit:C.prog.inits.idxOf? f=none) (hfn:C.prog.funcs[f]?=some fn)
  (witness:∃ (w:World) (tape:Tape) (i:Input),w.os=os/\(w.forCall tape i).Shaped C.prog/\i.vars=[]/\Input.okWide C.prog (w.forCall tape i) .any w.heap.size f i /\
   s.pre6 enc C.prog fn [] false (w.forCall tape i).memory i.args/\({}:Assume).holds C.prog (lone (Frame.enter C.prog f i.args .normal) [] (w.forCall tape i)))
  (hl:laidOutB C.prog=true) (hps:fn.params=ts.toArray) (hrs:fn.resultTypes = #[tb]) (htb:C.prog.underlying tb=some .bool) (hts:zdh C.prog ts Ts=true)
  (hvars:s.vars=[]) (hs:∀ ds:List (DataW H),ds.length=Ts.length->(s.at F).fn H ds = { results:=[.lit (.bool true)],args:=ds })
  (hΦ:∀ ds,k H ds=true->(z3w C.prog H).E ts ds->Φ.E ts ds)
  (hc:∀ as,OfArgs R Ts as->CallG C.prog f (argsOf Ts as) [] (Bl true) []) :
  ReturnsInHanded {} C os f .any (s.pre6 enc C.prog fn [] false) ((s.at F).post enc C.prog fn false true false false):=by
 refine returnsInHanded_of_cond_sized (C:=C) hk own started noInit hfn witness ?_;intro W base args ds gs before hval hW _ hkk hsz _;have hW':=hW;obtain ⟨p,q,hA,hV,rfl,hfz,hnd⟩:=hW;rw [hvars] at hV;obtain ⟨rfl,rfl⟩:=trodVars_none hV
 have hvt:s.bare.plain.varTypes C.prog=[]:=by have:s.bare.plain.vars=[]:=hvars;simp [DataSpec.varTypes,this]
 rw [hvt,append_nil,append_nil] at hsz;rw [append_nil] at hkk;rw [hps] at hA hsz
 obtain ⟨⟨as,a1,a2⟩,a3,a4⟩:=zcq Φ (W:=W) (σ:=λ_ _=>none) hl hts (λj t v h1 h2=>hval j t v (by rw [hps];simpa using h1) (by simpa using h2)) hA (hΦ ds hkk λn hn=>by have:=all_eq_true.1 hsz n hn;simpa using this)
 have:=zj9 (hc as a1) a2;rw [Array.toArray_toList] at this;refine this.mono λe W' ⟨he,bel⟩=>?_;subst he;refine ⟨_,rfl,_,_,_,[],p,[],hW',?_⟩;have e:(s.at F).fn H (ds++[]) = { results:=[.lit (.bool true)],args:=ds }:=by rw [append_nil];exact hs ds a3
 have hvars':(s.at F).vars=[]:=hvars;rw [e,hvars',hrs,hps];exact ⟨trodAll_mk1 (shut_bool htb _),a4 W' bel,rfl,bel.frame _,λh=>by cases h⟩
end Loom
namespace Loom
attribute [local instance] Dfs.none
open Go Go.ChangeMaps
def KM (w:World) (b:Nat) (ks:List ByteArray):Prop :=
 ∃ es cl,w.heap[b]?=some (.map es cl)/\es.toList.map (·.key)=ks.map Value.string/\∀ x∈es.toList,∃ n,x.val = .int .i64 n
section
variable {P:Program} {w:World} {b:Nat} {ks:List ByteArray} {t k e:TypeId}
def has (s:ByteArray) (ks:List ByteArray):Bool:=ks.any (· == s)
theorem zf3 (s:ByteArray):∀ (l:List MapEntry) (ks:List ByteArray) (i:Nat),l.map (·.key)=ks.map Value.string ->
  (has s ks=false/\Instr.findNow .string (.string s) l i=some none)\/∃ j e,has s ks=true/\Instr.findNow .string (.string s) l i=some (some (i+j,e.val))/\l[j]?=some e/\e.key = .string s
 | [],[],i,_=>.inl ⟨rfl,rfl⟩
 | x::l,k::ks,i,h=>by
  simp only [map_cons,List.cons.injEq] at h;obtain ⟨h1,h2⟩:=h;cases e:k==s
  ·have e':(s==k)=false:=by
    cases q:s==k
    ·rfl
    ·rw [(MapKept.bytes_beq s k).1 q,(MapKept.bytes_beq k k).2 rfl] at e;cases e
   have hn:Instr.findNow .string (.string s) (x::l) i=Instr.findNow .string (.string s) l (i+1):=by simp only [Instr.findNow,Instr.sameNow,h1,e']
   rw [hn];rcases zf3 s l ks (i+1) h2 with ⟨g1,g2⟩ | ⟨j,e',g0,g1,g2,g3⟩
   ·exact .inl ⟨by simp only [has,any_cons,e,Bool.false_or];exact g1,g2⟩
   ·exact .inr ⟨j+1,e',by simp only [has,any_cons,e,Bool.false_or];exact g0,by rw [g1,show i+1+j=i+(j+1) by omega],by simpa using g2,g3⟩
  ·obtain rfl:=(MapKept.bytes_beq k s).1 e;refine .inr ⟨0,x,by simp only [has,any_cons,e,Bool.true_or],?_,rfl,h1⟩;simp only [Instr.findNow,Instr.sameNow,h1,e];rfl
 | [],_::_,_,h=>by cases h
 | _::_,[],_,h=>by cases h
theorem zbl (hk:P.underlying k=some .string) (s:ByteArray) (l:List MapEntry) {r:Option (Nat×Value)} (h:Instr.findNow .string (.string s) l 0=some r):(Instr.findKey k (.string s) l).run P w = .ok r w:=MapKept.run_findKey hk h
theorem z9c (em:Bool) (hk:P.underlying k=some .string) (s:ByteArray):(Instr.checkKey em 10000 k (.string s)).run P w = .ok () w:=MapKept.run_checkKey hk (by simp [MapKept.IsKey]) em 9999
theorem KM.lookup (h:KM w b ks) (ht:P.underlying t=some (.map k e)) (hk:P.underlying k=some .string) (hz:(zeroValue e).run P w = .ok (.int .i64 0) w) (s:ByteArray) :
  ∃ n,(Instr.lookup t (.map (some b)) (.string s) false).run P w = .ok (.int .i64 n) w:=by
 obtain ⟨es,cl,hb,h1,h2⟩:=h;rcases zf3 s es.toList ks 0 h1 with ⟨g1,g2⟩ | ⟨j,e',g0,g1,g2,g3⟩
 ·exact ⟨0,by simp [Instr.lookup,run_underlying ht,MapKept.run_getObj_map hb,z9c _ hk,zbl hk _ _ g2,hz,Result.andThen]⟩
 ·obtain ⟨n,hn⟩:=h2 e' (mem_of_getElem? g2);exact ⟨n,by simp [Instr.lookup,run_underlying ht,MapKept.run_getObj_map hb,z9c _ hk,zbl hk _ _ g1,Result.andThen,hn]⟩
theorem KM.update (h:KM w b ks) (ht:P.underlying t=some (.map k e)) (hk:P.underlying k=some .string) (s:ByteArray) (n:Int) :
  ∃ w',(Instr.mapUpdate t (.map (some b)) (.string s) (.int .i64 n)).run P w = .ok () w'/\KM w' b (bif has s ks then ks else ks++[s])/\Le w w'/\∀ i,i≠b->bl w' i=bl w i:=by
 obtain ⟨es,cl,hb,h1,h2⟩:=h;have le:∀ o,Le w (setBlock w b o):=λo=>⟨by simp [setBlock],rfl,rfl,rfl⟩
 have oth:∀ o i,i≠b->bl (setBlock w b o) i=bl w i:=λo i hi=>heap_setBlock_other hb o hi;rcases zf3 s es.toList ks 0 h1 with ⟨g1,g2⟩ | ⟨j,e',g0,g1,g2,g3⟩
 ·refine ⟨setBlock w b (.map (es.push ⟨.string s,.int .i64 n,cl⟩) (cl+1)),?_,⟨_,_,heap_setBlock_same hb _,?_,?_⟩,le _,oth _⟩
  ·simp [Instr.mapUpdate,run_underlying ht,MapKept.run_getObj_map hb,z9c _ hk,zbl hk _ _ g2,MapKept.run_setObj_map _ hb,Result.andThen,setBlock]
  ·simp [g1,h1]
  ·intro x hx;simp only [Array.toList_push,mem_append,List.mem_singleton] at hx;rcases hx with hx | rfl
   ·exact h2 x hx
   ·exact ⟨n,rfl⟩
 ·have hj:es[j]?=some e':=by simpa using g2
  have hj':j<es.size:=(Array.getElem?_eq_some_iff.1 hj).1;refine ⟨setBlock w b (.map (es.modify j λe=>{ e with key:=.string s,val:=.int .i64 n }) cl),?_,⟨_,_,heap_setBlock_same hb _,?_,?_⟩,le _,oth _⟩
  ·simp [Instr.mapUpdate,run_underlying ht,MapKept.run_getObj_map hb,z9c _ hk,zbl hk _ _ g1,MapKept.run_setObj_map _ hb,Result.andThen,setBlock,Instr.keyThatStays,Instr.sameBits,hj,g3,(MapKept.bytes_beq s s).2 rfl]
  ·simp only [g0,cond_true,<- h1];apply ext_getElem?;intro i;simp only [getElem?_map,Array.getElem?_toList,Array.getElem?_modify];split
   ·rename_i hi;subst hi;simp [hj,g3]
   ·rfl
  ·intro x hx;obtain ⟨i,hi⟩:=List.getElem?_of_mem hx;simp only [Array.getElem?_toList,Array.getElem?_modify] at hi;split at hi
   ·obtain ⟨y,hy,rfl⟩:=map_eq_some_iff.1 hi;exact ⟨n,rfl⟩
   ·exact h2 x (mem_of_getElem? (by simpa using hi))
theorem KM.len (h:KM w b ks) (ht:P.underlying t=some (.map k e)) (ty:TypeId):(Builtin.len_ #[t] ty #[.map (some b)]).run P w = .ok (.int .i64 ks.length) w:=by
 obtain ⟨es,cl,hb,h1,h2⟩:=h;have:es.size=ks.length:=by simpa using congrArg length h1
 simp [Builtin.len_,run_underlying ht,MapKept.run_getObj_map hb,this,Builtin.lenOf,goInt]
end
structure Now (N:Nat) (w0:World) (m:Option (Nat×List ByteArray)) (e:Env) (h:H) (a:Act) (w:World):Prop where
 rel:∃ I σ,Rel I N σ e h a w/\(∀ x∈fpH σ h,w0.heap.size<=x)/\∀ b ks,m=some (b,ks)->b∉fpH σ h/\¬ I b
 km:∀ b ks,m=some (b,ks)->KM w b ks/\w0.heap.size<=b
 le:Le w0 w
 old:∀ i,i<w0.heap.size->bl w i=bl w0 i
section
variable {P:Program} {N:Nat} {w0 w w':World} {m:Option (Nat×List ByteArray)} {e e1:Env} {h h1:H} {a:Act} {Q:Exit->Act->World->Prop} {ops:Array Oper}
theorem KM.lt {b:Nat} {ks:List ByteArray} (h:KM w b ks):b<w.heap.size:=by obtain ⟨es,cl,hb,-⟩:=h;exact (Array.getElem?_eq_some_iff.1 hb).1
theorem KM.same {b:Nat} {ks:List ByteArray} (h:KM w b ks) (e:bl w' b=bl w b):KM w' b ks:=by obtain ⟨es,cl,hb,h2⟩:=h;exact ⟨es,cl,e.trans hb,h2⟩
theorem Now.step {I:Nat->Prop} {σ:Pl} {e':Env} {h':H} {a':Act} (hf:∀ x∈fpH σ h,w0.heap.size<=x) (hm:∀ b ks,m=some (b,ks)->b∉fpH σ h/\¬ I b)
  (km:∀ b ks,m=some (b,ks)->KM w b ks/\w0.heap.size<=b) (le:Le w0 w) (old:∀ i,i<w0.heap.size->bl w i=bl w0 i) (S:Step P I N [] σ h w e' h' a' w'):Now N w0 m e' h' a' w':=by
 obtain ⟨σ',I',i1,i2,R,p1,p2,p3,p4⟩:=S.out;have ps:=p2.size;have ls:=le.size;refine ⟨⟨I',σ',R,λx hx=>?_,λb ks hb=>?_⟩,λb ks hb=>?_,le.trans p2,λi hi=>?_⟩
 ·rcases p4 x hx with h | h
  ·exact hf x h
  ·omega
 ·have lt:=(km b ks hb).1.lt;refine ⟨λhx=>?_,λhx=>?_⟩
  ·rcases p4 b hx with h | h
   ·exact (hm b ks hb).1 h
   ·omega
  ·rcases i2 b hx with h | h | h
   ·exact (hm b ks hb).2 h
   ·exact (hm b ks hb).1 h
   ·omega
 ·exact ⟨(km b ks hb).1.same (p3 b (km b ks hb).1.lt (hm b ks hb).1),(km b ks hb).2⟩
 ·rw [p3 i (by omega) λhx=>by have:=hf i hx;omega];exact old i hi
theorem Now.ex {R:Out->Env->H->Prop} {code:Code} {c:IC} (n:Now N w0 m e h a w) (hc:IsC P N code c) (hw:W P [] c R e h) (hQ:∀ o e' h' a' w',R o e' h'->Now N w0 m e' h' a' w'->Q o.ex a' w'):code.wp P Q a w:=by obtain ⟨⟨I,σ,R',hf,hm⟩,km,le,old⟩:=n;obtain ⟨o,e',h',hx,hr⟩:=hw;exact (hx.owes code hc I σ a w R' Q λa' w' S=>hQ _ _ _ _ _ hr (Now.step hf hm km le old S)).1
theorem Now.loom {i:Nat} {is:List Nat} {o:Oper} {x:Ins} (n:Now N w0 m e h a w) (ho:ops[i]?=some o) (hco:comp P N ops o=some x) (hg:x.guard=none) (hs:z1t P [] e h x.dst x.op e1 h1)
  (hK:∀ a' w',Now N w0 m e1 h1 a' w'->wpOps P ops Q is a' w'):wpOps P ops Q (i::is) a w:=by
 obtain ⟨⟨I,σ,R,hf,hm⟩,km,le,old⟩:=n;obtain ⟨g1,g2,g3⟩:=z2l hco;have hw:zm e x.guard=some true:=by rw [hg];rfl
 rw [wpOps_cons];unfold wpOp;simp only [ho,z1k R g1 hw,if_true];exact .inl (z1t.sound R g2 g3 hs λa1 w1 S=>hK _ _ (Now.step hf hm km le old S))
theorem Rel.away {I:Nat->Prop} {σ:Pl} {b:Nat} (R:Rel I N σ e h a w) (le:Le w w') (hb:∀ i,i≠b->bl w' i=bl w i) (h1:b∉fpH σ h) (h2:¬ I b):Rel I N σ e h a w':=by
 have hI:∀ i,I i->bl w' i=bl w i:=λi hi=>hb i λe=>h2 (e ▸ hi);have ls:=le.size
 exact ⟨⟨zi.mono hI h (λi hi=>hb i λe=>h1 (e ▸ hi)) R.heap.ok,R.heap.keys,R.heap.nodup,λi hi=>⟨(R.heap.apart i hi).1,by have:=(R.heap.apart i hi).2;omega⟩,λi hi=>by have:=R.heap.low i hi;omega⟩,
  R.size,λt=>Va.mono hI _ _ (R.vals t),R.defers⟩
theorem zfh {i:Nat} {is:List Nat} {o:Oper} (ho:ops[i]?=some o) (hg:o.guard=none) (h:o.wp P a w (wpOps P ops Q is) Q):wpOps P ops Q (i::is) a w:=by
 rw [wpOps_cons];unfold wpOp;have:Region.wanted o (yielded ops a.tmps)=true:=by simp [Region.wanted,hg]
 simp only [ho,this,if_true];exact .inl h
theorem Now.val {i d:Nat} {is:List Nat} {o:Oper} {v:Value} (n:Now N w0 m e h a w) (ho:ops[i]?=some o) (hg:o.guard=none) (hd:o.dst=some d) (hN:d<N)
  (hrun:(execOp a.eval o).run P w = .ok (.value v) w) (hK:∀ a',Now N w0 m (upd e d (.sc v)) h a' w->wpOps P ops Q is a' w):wpOps P ops Q (i::is) a w:=by
 refine zfh ho hg ?_;unfold Oper.wp;rw [hrun,Oper.upon_value,hd];obtain ⟨⟨I,σ,R,hf,hm⟩,km,le,old⟩:=n;exact hK _ ⟨⟨I,σ,Rel.put R.heap R.size R.vals R.defers hN rfl,hf,hm⟩,km,le,old⟩
theorem Now.eval {v:Value} {x:Operand} (n:Now N w0 m e h a w) (hx:ev e x = .sc v):a.eval x=v:=by obtain ⟨⟨I,σ,R,-,-⟩,-,-,-⟩:=n;have:=zl R x;rw [hx] at this;exact this
theorem Now.make {i d:Nat} {is:List Nat} {o:Oper} {t:TypeId} (n:Now N w0 none e h a w) (ho:ops[i]?=some o) (hg:o.guard=none) (hd:o.dst=some d) (hN:d<N) (hop:o.op = .makeMap t none)
  (hK:∀ b a' w',Now N w0 (some (b,[])) (upd e d (.sc (.map (some b)))) h a' w'->wpOps P ops Q is a' w'):wpOps P ops Q (i::is) a w:=by
 refine zfh ho hg ?_
 have hrun:(execOp a.eval o).run P w = .ok (.value (.map (some w.heap.size))) (w.alloc (.map #[] 0)):=by simp [execOp,hop,RowKit.run_makeMap,Result.andThen]
 unfold Oper.wp;rw [hrun,Oper.upon_value,hd];obtain ⟨⟨I,σ,R,hf,hm⟩,km,le,old⟩:=n;have e1:(w.alloc (.map #[] 0)).heap[w.heap.size]?=some (.map #[] 0):=(MapKept.heap_alloc w _).1;have l1:Le w (w.alloc (.map #[] 0)):=⟨by show w.heap.size<=(w.heap.push _).size;simp,rfl,rfl,rfl⟩
 have nb:w.heap.size∉fpH σ h:=λhx=>by have:=(R.heap.apart _ hx).2;omega
 have ni:¬ I w.heap.size:=λhx=>by have:=R.heap.low _ hx;omega
 have oth:∀ i,i≠w.heap.size->bl (w.alloc (.map #[] 0)) i=bl w i:=λi hi=>by
  rcases Nat.lt_or_ge i w.heap.size with h | h
  ·exact z3k w _ i h
  ·have e2:bl (w.alloc (.map #[] 0)) i=none:=by simp only [bl];exact Array.getElem?_eq_none (by show (w.heap.push _).size<=i;simp;omega)
   have e3:bl w i=none:=by simp only [bl];exact Array.getElem?_eq_none (by omega)
   rw [e2,e3]
 have R':=R.away l1 oth nb ni;refine hK w.heap.size _ _ ⟨⟨I,σ,Rel.put R'.heap R'.size R'.vals R'.defers hN rfl,hf,λb ks hb=>?_⟩,λb ks hb=>?_,le.trans l1,λi hi=>?_⟩
 ·cases hb;exact ⟨nb,ni⟩
 ·cases hb;exact ⟨⟨#[],0,e1,rfl,λx hx=>by simp at hx⟩,le.size⟩
 ·have:=le.size;rw [oth i (by omega)];exact old i hi
theorem Now.upd {i b:Nat} {ks:List ByteArray} {is:List Nat} {o:Oper} {t k et:TypeId} {xm xk xv:Operand} {s:ByteArray} {v:Int} (n:Now N w0 (some (b,ks)) e h a w) (ho:ops[i]?=some o) (hg:o.guard=none) (hd:o.dst=none) (hop:o.op = .mapUpdate t xm xk xv)
  (ht:P.underlying t=some (.map k et)) (hk:P.underlying k=some .string) (hm:ev e xm = .sc (.map (some b))) (hs:ev e xk = .sc (.string s)) (hv:ev e xv = .sc (.int .i64 v))
  (hK:∀ a' w',Now N w0 (some (b,bif has s ks then ks else ks++[s])) e h a' w'->wpOps P ops Q is a' w'):wpOps P ops Q (i::is) a w:=by
 have q1:=n.eval hm;have q2:=n.eval hs;have q3:=n.eval hv;obtain ⟨⟨I,σ,R,hf,hm⟩,km,le,old⟩:=n;obtain ⟨w',r1,r2,r3,r4⟩:=(km b ks rfl).1.update (P:=P) ht hk s v;refine zfh ho hg ?_;unfold Oper.wp;simp only [execOp,hop,q1,q2,q3,Sem.run_bind,r1,Result.andThen];have lt:=(km b ks rfl).2;have R':=R.away r3 r4 (hm b ks rfl).1 (hm b ks rfl).2;refine hK _ _ ⟨⟨I,σ,?_,hf,λb' ks' hb=>?_⟩,λb' ks' hb=>?_,le.trans r3,λi hi=>?_⟩
 ·rw [hd];exact R'
 ·cases hb;exact hm b ks rfl
 ·cases hb;exact ⟨r2,lt⟩
 ·rw [r4 i (by omega)];exact old i hi
end
end Loom
namespace Loom
attribute [local instance] Dfs.none
open Go Go.ChangeMaps
section
def lf:Code->Code
 | .seq a _=>a
 | .cond _ a _=>a
 | .loop a=>a
 | .block _ a=>a
 | c=>c
def rt:Code->Code
 | .seq _ b=>b
 | .cond _ _ b=>b
 | c=>c
def rops:Code->Array Oper
 | .region _ ops _=>ops
 | _=>#[]
def rid:Code->Nat
 | .region n _ _=>n
 | _=>0
theorem zh5 {ops:Array Oper} {i:Nat} {g:Option (Nat×Bool)} {d:Option Nat} {op:Op} (h:(ops[i]?).map (λo=>(o.guard,o.dst,o.op))=some (g,d,op)):∃ o,ops[i]?=some o/\o.guard=g/\o.dst=d/\o.op=op:=by obtain ⟨o,h1,h2⟩:=map_eq_some_iff.1 h;simp only [Prod.mk.injEq] at h2;exact ⟨o,h1,h2.1,h2.2.1,h2.2.2⟩
variable {P:Program} {N:Nat} {w0 w w':World} {m:Option (Nat×List ByteArray)} {e e1:Env} {h h1:H} {a:Act} {Q:Exit->Act->World->Prop} {ops:Array Oper}
theorem Now.rd {i:Nat} {is:List Nat} {x:Ins} (n:Now N w0 m e h a w) (ho:(ops[i]?).bind (comp P N ops)=some x) (hs:x.guard=none/\z23 [] e h x.dst x.op=some (e1,h1))
  (hK:∀ a' w',Now N w0 m e1 h1 a' w'->wpOps P ops Q is a' w'):wpOps P ops Q (i::is) a w:=by
 obtain ⟨o,h1,h2⟩:=bind_eq_some_iff.1 ho;exact n.loom h1 h2 hs.1 (.plain hs.2) hK
theorem Now.rda {i d:Nat} {is:List Nat} {b:IB} (av:AV) (n:Now N w0 m e h a w) (ho:(ops[i]?).bind (comp P N ops)=some ⟨d,none,.rd b⟩) (hs:rdop (ev e) (res h) b=some av)
  (hK:∀ a' w',Now N w0 m (Loom.upd e d av) h a' w'->wpOps P ops Q is a' w'):wpOps P ops Q (i::is) a w :=
 n.rd ho ⟨rfl,by simp only [z23,hs]⟩ hK
theorem Now.gh (n:Now N w0 m e h a w) (g:z6 P [] e h e1 h1):Now N w0 m e1 h1 a w:=by obtain ⟨⟨I,σ,R,hf,hm⟩,km,le,old⟩:=n;exact Now.step hf hm km le old (g I N σ a w R)
theorem Now.call {f:Nat} {fn:Func} {code:Code} {ts:List RS} {args:List AV} {v:Value} (h1:P.funcs[f]?=some fn) (h2:fn.body=some code) (h3:fn.ntmps=N) (h4:z2k P fn.results.toList=some ts)
  (hw:∀ (a:Act) (w0:World) (Q:Exit->Act->World->Prop),Now N w0 none (argE 0 args) [] a w0->(∀ m e' h' a' w',z69 e' h' ts=some (.sc v)->Now N w0 m e' h' a' w'->Q .ret a' w')->code.wp P Q a w0):z17 P f args [] (.sc v) []:=by
 intro I σ w vs hh hv;apply calls_of_wp h1 h2
 have R:Rel I N σ (argE 0 args) [] { tmps:=vs.toArray++Array.replicate (fn.ntmps - vs.toArray.size) undef,defers:=[] } w:=by
  refine ⟨hh,?_,λt=>?_,rfl⟩
  ·simp only [Array.size_append,Array.size_replicate,List.size_toArray];omega
  ·have:=zdq (I:=I) (σ:=σ) (B:=bl w) args 0 [] vs (replicate (fn.ntmps - vs.toArray.size) undef) rfl hv t
   have e2:(vs.toArray++Array.replicate (fn.ntmps - vs.toArray.size) undef)=(vs++replicate (fn.ntmps - vs.toArray.size) undef).toArray:=by apply Array.ext';simp
   simp only [e2];simpa [Array.getD_eq_getD_getElem?,List.getD_eq_getElem?_getD] using this
 refine hw _ w _ ⟨⟨I,σ,R,(λx hx=>by cases hx),λb ks hb=>by cases hb⟩,(λb ks hb=>by cases hb),Le.refl w,λ_ _=>rfl⟩ λm e' h' a' w' hr n=>?_;obtain ⟨⟨I',σ',R',-,-⟩,-,le,old⟩:=n;obtain ⟨u,q1,q2⟩:=z6y R' fn h4 hr;have ls:=le.size;exact ⟨R'.defers,u,q1,u,σ,rfl,⟨trivial,nodup_nil,nodup_nil,(λb hb=>by cases hb),λb hb=>by have:=hh.low b hb;omega⟩,q2,λ_ _=>rfl,le,λb hb _=>old b hb,λb hb=>by cases hb⟩
end
theorem VaL.scs {I:Nat->Prop} {σ:Pl} {B:zd}:∀ (vs:List Value) {us:List Value},VaL I σ B (vs.map AV.sc) us->us=vs
 | [],_,h=>h
 | v::vs,_,h=>by obtain ⟨u,cs,rfl,h1,h2⟩:=h;obtain rfl:u=v:=h1;rw [VaL.scs vs h2]
theorem z17.quiet {P:Program} {f:Nat} {vs:List Value} {r:Value} (hc:∀ w,Calls P f vs.toArray w λe w'=>e = .returned r/\w'=w):z17 P f (vs.map AV.sc) [] (.sc r) []:=by intro I σ w us hh hv;obtain rfl:=VaL.scs vs hv;refine (hc w).mono ?_;rintro e w' ⟨rfl,rfl⟩;exact ⟨r,σ,rfl,hh,rfl,λ_ _=>rfl,Le.refl _,λ_ _ _=>rfl,λb hb=>.inl hb⟩
section
variable {P:Program} {pro keep:List Nat} {σ:Pl} {I:Nat->Prop} {B:zd} {e:Env} {h:H}
theorem CeE.takeN {k s:Nat} {p:Path}:∀ (m:Nat) {i:Nat} {xs:Els} {cs:List Value},CeE I σ B k p i s xs cs->CeE I σ B k p i s (xs.take m) cs
 | 0,_,_,_,_=>by simp only [take_zero];trivial
 | _+1,_,[],_,_=>trivial
 | m+1,_,_::_,_,hc=>⟨hc.1,hc.2.1,hc.2.2.takeN m⟩
theorem zj3 {k:Nat} {p:Path}:∀ (m i:Nat) (xs:Els),(fpE σ k p i (xs.take m)).Sublist (fpE σ k p i xs)
 | 0,_,_=>by simp only [take_zero,fpE];exact List.nil_sublist _
 | _+1,_,[]=>List.Sublist.refl _
 | m+1,i,x::xs=>by simp only [List.take_succ_cons,fpE];exact (List.Sublist.refl _).append (zj3 m (i+1) xs)
theorem HRel.take {w:World} {k:Nat} {r:Row} (m:Nat) (hh:HRel I σ h w) (hg:z5 h k=some r) (hsm:r.s<MB):HRel I σ ((k,⟨r.s,r.xs.take m⟩)::z7 h k) w/\∀ b∈fpH σ ((k,⟨r.s,r.xs.take m⟩)::z7 h k),b∈fpH σ h:=by
 have hp:=z2z hg;have h1:=hh.perm hp
 have hsub:(fpR σ k ⟨r.s,r.xs.take m⟩).Sublist (fpR σ k r):=by
  unfold fpR;cases σ k [] with
  | none=>exact List.Sublist.refl _
  | some L=>exact (zj3 m 0 r.xs).cons_cons _
 have hsubH:(fpH σ ((k,⟨r.s,r.xs.take m⟩)::z7 h k)).Sublist (fpH σ ((k,r)::z7 h k)):=by simp only [fpH];exact hsub.append (List.Sublist.refl _)
 obtain ⟨ok,keys,nd,ap,low⟩:=h1;refine ⟨⟨⟨?_,ok.2⟩,keys,hsubH.nodup nd,λb hb=>ap b (hsubH.subset hb),low⟩,λb hb=>((fpH.perm hp).mem_iff).2 (hsubH.subset hb)⟩;have o1:=ok.1;unfold zn at o1 ⊢;cases hs:σ k [] with
 | none=>simp only [hs] at o1 ⊢;exact ⟨by simp [o1.1],o1.2⟩
 | some L =>simp only [hs] at o1 ⊢;obtain ⟨q1,q2,cur,E,q3,q4,q5⟩:=o1;exact ⟨q1,λ_=>by have:=q2 hsm;simp;omega,cur,E,q3,by rw [z8d hsm] at q4 ⊢;exact q4,q5.takeN m⟩
theorem z6.take {k:Nat} {r:Row} (m:Nat) (hg:z5 h k=some r) (hsm:r.s<MB):z6 P pro e h e ((k,⟨r.s,r.xs.take m⟩)::z7 h k):=λI N _ σ a w R=>by obtain ⟨c1,c2⟩:=R.heap.take m hg hsm;exact ⟨σ,I,λ_ h=>h,λ_ h=>.inl h,⟨c1,R.size,R.vals,R.defers⟩,λ_ _=>rfl,Le.refl _,λ_ _ _=>rfl,λb hb=>.inl (c2 b hb)⟩
variable {Q:Out->Env->H->Prop} {l:List Ins} {R:Type} {r:R}
end
inductive TP where
 | xp (b:Nat) (x:List Value) (c:Nat)
 | fs (k:Nat) (cs:List Nat)
 | fp (k:Nat) (cs:List Nat) (i:Nat)
 | px (k:Nat) (c:Nat)
 | mr (k:Nat) (p:Path)
def denP:TP->AV
 | .xp b x c=>.pp (.xp b x c)
 | .fs k cs=>.pp (.fs k cs)
 | .fp k cs i=>.pp (.fp k cs i)
 | .px k c=>.pt k [] 0 c
 | .mr k p=>.pp (.mr k p)
inductive TV (El:Nat->Type):Type where
 | un
 | sc (v:Value)
 | ik (k:IntKind) (n:Int)
 | bk (b:Bool)
 | zs
 | ag (cs:List (TV El))
 | tu (vs:List (TV El))
 | im (t:Nat) (xs:List (El t))
 | ip (s:Nat) (cs:List (TV El)) (c:Nat)
 | sl (k:Nat) (p:Path) (off len:Nat)
 | sw (k:Nat) (p:Path)
 | pt (k:Nat) (p:Path) (i c:Nat)
 | fn (f:Nat) (caps:List (TV El))
 | ow (m:Bool) (t:Nat) (xs:List (El t))
 | oo (m:Bool) (t:Nat) (xs:List (El t)) (i:Nat) (cs:List (TV El))
 | pp (q:TP)
inductive TR (El:Nat->Type):Type where
 | typ (m:Bool) (t:Nat) (xs:List (El t))
 | lit (s:Nat) (xs:List (List (TV El)))
 | opn (m:Bool) (t:Nat) (xs:List (El t)) (i:Nat) (cs:List (TV El))
structure TT0 where
 El:Nat->Type
 sz:Nat->Nat
 ca:Bool->(t:Nat)->El t->List AV
abbrev TE (T:TT0):=List (Nat×TV T.El)
abbrev TH (T:TT0):=List (Nat×TR T.El)
def zc (h:H) (k:Nat) (p:Path):Nat :=
 match resA h k p with
 | some (_,xs)=>xs.length
 | none=>0
theorem z4i {h:H} {k:Nat} {p:Path} {s:Nat} {xs:Els} (hr:res h k p=some (s,xs)):zc h k p=xs.length:=by unfold zc;rw [(z6a hr).1]
section
variable {T:TT0}
mutual
def den (T:TT0) (h:H):TV T.El->AV
 | .un=>.un
 | .sc v=>.sc v
 | .ik k n=>.sc (.int k n)
 | .bk b=>.sc (.bool b)
 | .zs=>.zs
 | .ag cs=>.ag (denL T h cs)
 | .tu cs=>.tu (denL T h cs)
 | .im t xs=>.im (T.sz t) (xs.map (T.ca false t))
 | .ip s cs c=>.ip s [denL T [] cs] 0 c
 | .sl k p off len=>.sl k p off len
 | .sw k p=>.sl k p 0 (zc h k p)
 | .pt k p i c=>.pt k p i c
 | .fn f caps=>.fn f (denL T h caps)
 | .ow m t xs=>.ow (T.sz t) (xs.map (T.ca m t))
 | .oo m t xs i cs=>.ow (T.sz t) ((xs.map (T.ca m t)).set i (denL T [] cs))
 | .pp q=>denP q
def denL (T:TT0) (h:H):List (TV T.El)->List AV
 | []=>[]
 | x::l=>den T h x::denL T h l
end
theorem zh (h:H):∀ (l:List (TV T.El)),denL T h l=l.map (den T h)
 | []=>rfl
 | x::l=>by simp [denL,zh h l]
mutual
def inR:TV T.El->Bool
 | .un | .sc _ | .ik _ _ | .bk _ | .zs | .im _ _ | .ow _ _ _=>true
 | .oo _ _ _ _ cs=>inRL cs
 | .ag _ | .tu _ | .ip _ _ _ | .sl _ _ _ _ | .sw _ _ | .pt _ _ _ _ | .fn _ _ | .pp _=>false
def inRL:List (TV T.El)->Bool
 | []=>true
 | x::l=>inR x&&inRL l
end
def denR (T:TT0):TR T.El->Row
 | .typ m t xs=>⟨T.sz t,xs.map (T.ca m t)⟩
 | .lit s xs=>⟨s,xs.map (denL T [])⟩
 | .opn m t xs i cs=>⟨T.sz t,(xs.map (T.ca m t)).set i (denL T [] cs)⟩
def denH (T:TT0):TH T->H
 | []=>[]
 | (k,r)::h=>(k,denR T r)::denH T h
def getE:TE T->Nat->TV T.El
 | [],_=>.un
 | (k,v)::l,t=>bif Nat.beq t k then v else getE l t
def denE (T:TT0) (h:H) (e:TE T):Env:=λt=>den T h (getE e t)
def getT:TH T->Nat->Option (TR T.El)
 | [],_=>none
 | (k',r)::h,k=>bif Nat.beq k' k then some r else getT h k
def delT:TH T->Nat->TH T
 | [],_=>[]
 | (k',r)::h,k=>bif Nat.beq k' k then h else (k',r)::delT h k
def putE (e:TE T) (d:Nat) (v:TV T.El):TE T:=(d,v)::e
theorem z10 {a b:Nat}:Nat.beq a b=decide (a=b):=by rw [Bool.eq_iff_iff];simp
theorem z1a:∀ (h:TH T) (k:Nat),z5 (denH T h) k=(getT h k).map (denR T)
 | [],_=>rfl
 | (k',r)::h,k=>by
  simp only [denH,z5,getT,z10];by_cases e:k'=k
  ·simp [e]
  ·simp [e,z1a h k]
theorem zo:∀ (h:TH T) (k:Nat),z7 (denH T h) k=denH T (delT h k)
 | [],_=>rfl
 | (k',r)::h,k=>by
  simp only [denH,z7,delT,z10];by_cases e:k'=k
  ·simp [e]
  ·simp [e,denH,zo h k]
theorem z1r:∀ (a b:TH T),denH T (a++b)=denH T a++denH T b
 | [],b=>rfl
 | (k,r)::a,b=>by simp [denH,z1r a b]
theorem z16:∀ (h:TH T),(denH T h).map Prod.fst=h.map Prod.fst
 | []=>rfl
 | (k,r)::h=>by simp [denH,z16 h]
theorem zy {h:H} {e:TE T} {d:Nat} {v:TV T.El}:denE T h (putE e d v)=upd (denE T h e) d (den T h v):=by funext t;simp only [denE,putE,getE,upd,z10];by_cases e:t=d<;>simp [e]
def z9g (v:Value):TV T.El :=
 match cval v with
 | .zs=>.zs
 | .sc (.int k n)=>.ik k n
 | .sc (.bool b)=>.bk b
 | .sc v=>.sc v
 | .ag cs=>.ag (cs.map λ| .zs=>.zs | .sc v=>.sc v | _=>.un)
 | _=>.un
theorem zcs (h:H) (v:Value):den T h (z9g v)=cval v:=by
 unfold z9g
 have key:∀ v:Value,cval v = .zs\/(∃ u,cval v = .sc u)\/cval v = .un\/∃ l:List AV,cval v = .ag l/\∀ x∈l,x = .zs\/∃ u,x = .sc u:=by
  intro v;unfold cval;split
  ·exact .inl rfl
  ·split
   ·refine .inr (.inr (.inr ⟨_,rfl,λx hx=>?_⟩));obtain ⟨y,_,rfl⟩:=mem_map.1 hx;split
    ·exact .inl rfl
    ·exact .inr ⟨_,rfl⟩
   ·exact .inr (.inr (.inl rfl))
  ·exact .inr (.inl ⟨_,rfl⟩)
 rcases key v with h1 | ⟨u,h1⟩ | h1 | ⟨l,h1,h2⟩
 ·rw [h1];rfl
 ·rw [h1];cases u<;>rfl
 ·rw [h1];rfl
 ·rw [h1];simp only [den,zh,map_map];congr 1;refine (map_congr_left λx hx=>?_).trans (map_id l);rcases h2 x hx with rfl | ⟨u,rfl⟩<;>rfl
def evT (e:TE T):Operand->TV T.El
 | .tmp t=>getE e t
 | .const v=>z9g v
 | .func f=>.fn f []
 | .global _=>.un
theorem za {h:H} {e:TE T} (o:Operand):ev (denE T h e) o=den T h (evT e o):=by
 cases o with
 | tmp t=>rfl
 | const v=>exact (zcs h v).symm
 | func f=>simp [ev,evT,den,denL]
 | global _=>rfl
theorem AVle.trans {a b c:AV} (h:AVle a b) (k:AVle b c):AVle a c:=λI σ B v x=>k I σ B v (h I σ B v x)
theorem AVle.un (a:AV):AVle a .un:=λ_ _ _ _ _=>trivial
theorem AVle.kill (bad:Nat->Path->Bool) (a:AV):AVle a (kill bad a):=λ_ _ _ v h=>Va.kill (λ_ _ _=>rfl) a v h
theorem AVle.ip {s i c:Nat} {xs:Els} {x:List AV} (hx:xs[i]?=some x):AVle (.ip s xs i c) (.ip s [x] 0 c):=λI σ B v hv=>by
 obtain ⟨A,cur,E,fr,h1,h2,h3,h4,h5⟩:=hv;have h6:=ImE.get xs _ h5 i x hx;refine ⟨⟨A.block,A.off+i * s,none⟩,cur,E,fr,?_,rfl,h3,h4,h6.1,?_,trivial⟩
 ·rw [h1];simp
 ·rw [drop_drop] at h6;exact h6.2
theorem AVle.zsIm (s:Nat):AVle .zs (.im s []):=λI σ B v ⟨x,hx⟩=>⟨x,0,hx,Nat.le_refl _,λhn=>absurd rfl hn⟩
theorem AVle.ag {l l':List AV} (h:∀ (I:Nat->Prop) (σ:Pl) (B:zd) (v:List Value),VaC I σ B l v->VaC I σ B l' v):AVle (.ag l) (.ag l'):=λI σ B v ⟨a,h1,h2⟩=>⟨a,h1,h I σ B _ h2⟩
theorem AVle.tu {l l':List AV} (h:∀ (I:Nat->Prop) (σ:Pl) (B:zd) (v:List Value),VaL I σ B l v->VaL I σ B l' v):AVle (.tu l) (.tu l'):=λI σ B v ⟨a,h1,h2⟩=>⟨a,h1,h I σ B _ h2⟩
theorem AVle.fn {f:Nat} {l l':List AV} (h:∀ (I:Nat->Prop) (σ:Pl) (B:zd) (v:List Value),VaL I σ B l v->VaL I σ B l' v):AVle (.fn f l) (.fn f l'):=λI σ B v ⟨a,h1,h2⟩=>⟨a,h1,h I σ B _ h2⟩
inductive z1s:List AV->List AV->Prop
 | nil:z1s [] []
 | cons {a b:AV} {l l':List AV}:AVle a b->z1s l l'->z1s (a::l) (b::l')
theorem z1s.C {l l':List AV} (h:z1s l l'):∀ (I:Nat->Prop) (σ:Pl) (B:zd) (v:List Value),VaC I σ B l v->VaC I σ B l' v:=by
 induction h with
 | nil=>exact λ_ _ _ _ h=>h
 | cons h1 _ ih=>exact λI σ B v ⟨u,cs,h2,h3,h4,h5⟩=>⟨u,cs,h2,h3,h1 I σ B u h4,ih I σ B cs h5⟩
theorem z1s.L {l l':List AV} (h:z1s l l'):∀ (I:Nat->Prop) (σ:Pl) (B:zd) (v:List Value),VaL I σ B l v->VaL I σ B l' v:=by
 induction h with
 | nil=>exact λ_ _ _ _ h=>h
 | cons h1 _ ih=>exact λI σ B v ⟨u,cs,h2,h4,h5⟩=>⟨u,cs,h2,h1 I σ B u h4,ih I σ B cs h5⟩
theorem z6.le {P:Program} {pro:List Nat} {e e1:Env} {h:H} (he:∀ t,AVle (e t) (e1 t)):z6 P pro e h e1 h:=λI N _ σ a w R =>
 Step.of_rel ⟨R.heap,R.size,λt=>he t I σ (bl w) _ (R.vals t),R.defers⟩ rfl
theorem AVle.upd {e e':Env} {d:Nat} {a b:AV} (he:∀ t,AVle (e t) (e' t)) (h:AVle a b) (t:Nat):AVle (Loom.upd e d a t) (Loom.upd e' d b t):=by
 unfold Loom.upd;split
 ·exact h
 ·exact he t
def z8p {El:Nat->Type} (bad:Nat->Path->Bool):TP->TV El
 | .xp b x c=>.pp (.xp b x c)
 | .fs k cs=>bif bad k [] then .un else .pp (.fs k cs)
 | .fp k cs i=>bif bad k [] then .un else .pp (.fp k cs i)
 | .px k c=>bif bad k [] then .un else .pp (.px k c)
 | .mr k p=>bif bad k p then .un else .pp (.mr k p)
theorem zbx {T:TT0} {H0:H} {bad:Nat->Path->Bool} (q:TP):den T H0 (z8p bad q)=kill bad (denP q):=by
 cases q with
 | xp b x c=>rfl
 | fs k cs=>simp only [z8p,denP,kill,z2m];cases bad k []<;>rfl
 | fp k cs i=>simp only [z8p,denP,kill,z2m];cases bad k []<;>rfl
 | px k c=>simp only [z8p,denP,kill];cases bad k []<;>rfl
 | mr k p=>simp only [z8p,denP,kill,z2m];cases bad k p<;>rfl
mutual
def z1u (bad bw:Nat->Path->Bool):TV T.El->TV T.El
 | .sl k p off len=>bif bad k p then .un else .sl k p off len
 | .sw k p=>bif bad k p||bw k p then .un else .sw k p
 | .pt k p i c=>bif bad k p then .un else .pt k p i c
 | .ag cs=>.ag (z63 bad bw cs)
 | .tu cs=>.tu (z63 bad bw cs)
 | .fn f caps=>.fn f (z63 bad bw caps)
 | .un=>.un
 | .sc v=>.sc v
 | .ik k n=>.ik k n
 | .bk b=>.bk b
 | .zs=>.zs
 | .im t xs=>.im t xs
 | .ip s cs c=>.ip s cs c
 | .ow m t xs=>.ow m t xs
 | .oo m t xs i cs=>.oo m t xs i cs
 | .pp q=>z8p bad q
def z63 (bad bw:Nat->Path->Bool):List (TV T.El)->List (TV T.El)
 | []=>[]
 | a::as=>z1u bad bw a::z63 bad bw as
end
def z4h (bad bw:Nat->Path->Bool):TE T->TE T
 | []=>[]
 | (k,v)::l=>(k,z1u bad bw v)::z4h bad bw l
theorem z2c {bad bw:Nat->Path->Bool}:∀ (e:TE T) (t:Nat),getE (z4h bad bw e) t=z1u bad bw (getE e t)
 | [],_=>rfl
 | (k,v)::l,t=>by
  simp only [z4h,getE];cases Nat.beq t k
  ·simpa using z2c l t
  ·rfl
end
def isZ:AV->Bool
 | .zs=>true
 | _=>false
inductive Kd where
 | no
 | im (t:Nat)
 | ow (m:Bool) (t:Nat)
def smK (sz:Nat->Nat):Kd->Bool
 | .ow _ t=>Nat.blt (sz t) 1000000
 | _=>true
structure TT extends tq:TT0 where
 ks:Bool->Nat->List Kd
 ct:Bool->(t:Nat)->El t->List (TV El)
 un:Bool->(t:Nat)->List (TV El)->Option (El t)
 ct_ok:∀ m t x,denL tq [] (ct m t x)=ca m t x
 ct_in:∀ m t x,inRL (T:=tq) (ct m t x)=true
 un_ok:∀ m t cs x,un m t cs=some x->denL tq [] cs=ca m t x
 im_ok:∀ m t x,z1w (ca m t x)=ca false t x
 pl:Nat->Bool
 pl_ok:∀ t x,pl t=true->z1h (ca false t x)=true
 u8:Nat
 bs:List Int->List (El u8)
 bs_ok:∀ l,(bs l).map (ca false u8)=l.map λn=>[.sc (.int .u8 n)]
 bs_sz:sz u8=1
 sb:List (El u8)->List Int
 sb_ok:∀ m l,l.map (ca m u8)=(sb l).map λn=>[.sc (.int .u8 n)]
 po:Nat->Bool
 ow_ok:∀ t x,po t=true->z1h (ca true t x)=true
 fl_ok:∀ t x,(ca false t x).all zd1=true
 nz_ok:∀ m t x,∀ a∈ca m t x,isZ a=false
 ks_sm:∀ m t,(ks m t).all (smK sz)=true
 ln_ok:∀ m t x,(ca m t x).length=sz t % 1000000
 kq:Nat->List Nat
 kOk:Nat->List Value->Bool
 kf:(t:Nat)->List Value->El t->Bool
 kf_ok:∀ m t kv x,kOk t kv=true->zt (kv.map .sc) (ca m t x) (z1v 0 (kq t))=some (kf t kv x)
inductive Rs (X:Type):Type 1 where
 | ok (v:X)
 | no
 | bnd {A:Type} (x:Option A) (K:A->Rs X)
 | need (p:Prop) [Decidable p] (K:Rs X)
 | ite (b:Bool) (x y:Rs X)
def Rs.gives {X:Type}:Rs X->X->Prop
 | .ok v,u=>u=v
 | .no,_=>False
 | .bnd x K,u=>∃ a,x=some a/\(K a).gives u
 | @Rs.need _ p _ K,u=>p/\K.gives u
 | .ite b x y,u=>(b=true/\x.gives u)\/(b=false/\y.gives u)
section
variable {T:TT}
abbrev VT (T:TT):=TV T.El
abbrev RT (T:TT):=Rs (TV T.El)
mutual
theorem y67 (h h':H):∀ (x:VT T),inR (T:=T.tq) x=true->den T.tq h x=den T.tq h' x
 | .un,_ | .sc _,_ | .ik _ _,_ | .bk _,_ | .zs,_ | .im _ _,_ | .ow _ _ _,_=>rfl
 | .oo _ _ _ _ cs,hi=>rfl
 | .ag _,hi | .tu _,hi | .ip _ _ _,hi | .sl _ _ _ _,hi | .sw _ _,hi | .pt _ _ _ _,hi | .fn _ _,hi | .pp _,hi=>by simp [inR] at hi
theorem zhn (h h':H):∀ (x:List (VT T)),inRL (T:=T.tq) x=true->denL T.tq h x=denL T.tq h' x
 | [],_=>rfl
 | x::l,hi=>by simp only [inRL,and_eq_true] at hi;simp only [denL,y67 h h' x hi.1,zhn h h' l hi.2]
end
def z67 {X:Type} (K:TR T.El->Rs X):Path->TR T.El->Rs X
 | [],r=>K r
 | (i,c)::p,.lit s xs =>
  match xs[i]? with
  | some x=>match x[c]? with
   | some (.ow m t ys)=>z67 K p (.typ m t ys)
   | some (.oo m t ys j cs)=>z67 K p (.opn m t ys j cs)
   | _=>.no
  | none=>.no
 | (i,c)::p,.typ m t xs =>
  .bnd (xs[i]?) λy=>match (T.ct m t y)[c]? with
   | some (.ow m t ys)=>z67 K p (.typ m t ys)
   | _=>.no
 | (i,c)::p,.opn m t xs j cs =>
  .need (i=j/\j<xs.length) (match cs[c]? with
   | some (.ow m t ys)=>z67 K p (.typ m t ys)
   | _=>.no)
def atT {X:Type} (h:TH T.tq) (k:Nat) (p:Path) (K:TR T.El->Rs X):Rs X :=
 match getT h k with
 | some r=>z67 (λr'=>bif Nat.blt (denR T.tq r').s 1000000 then K r' else .no) p r
 | none=>.no
theorem z25 {h:H} {cs:List (VT T)} {c:Nat}:(denL T.tq h cs)[c]?=(cs[c]?).map (den T.tq h):=by rw [zh,getElem?_map]
theorem z1c {h:H} (cs:List (VT T)):(denL T.tq h cs).length=cs.length:=by rw [zh,length_map]
theorem zsw {m:Bool} {t:Nat} {x:T.El t} {c:Nat}:(T.ca m t x)[c]?=((T.ct m t x)[c]?).map (den T.tq []):=by rw [<- T.ct_ok,z25]
theorem z4k {X:Type} {K:TR T.El->Rs X} {v:X}:∀ (p:Path) (r:TR T.El),(z67 K p r).gives v->∃ r',resE (denR T.tq r).s (denR T.tq r).xs p=some ((denR T.tq r').s,(denR T.tq r').xs)/\(K r').gives v
 | [],r,hg=>⟨r,rfl,hg⟩
 | (i,c)::p,.lit s xs,hg=>by
  simp only [z67] at hg;split at hg
  ·rename_i x hx;split at hg
   ·rename_i m t ys hy;obtain ⟨r',h1,h2⟩:=z4k p _ hg;refine ⟨r',?_,h2⟩;simp only [denR,resE,getElem?_map,hx,map_some,z25,hy,den];exact h1
   ·rename_i m t ys j cs hy;obtain ⟨r',h1,h2⟩:=z4k p _ hg;refine ⟨r',?_,h2⟩;simp only [denR,resE,getElem?_map,hx,map_some,z25,hy,den];exact h1
   ·exact hg.elim
  ·exact hg.elim
 | (i,c)::p,.typ m t xs,hg=>by
  obtain ⟨y,hy,hg⟩:=hg;dsimp only at hg;split at hg
  ·rename_i m' t' ys hc;obtain ⟨r',h1,h2⟩:=z4k p _ hg;refine ⟨r',?_,h2⟩;simp only [denR,resE,getElem?_map,hy,map_some,zsw,hc,den];exact h1
  ·exact hg.elim
 | (i,c)::p,.opn m t xs j cs,hg=>by
  obtain ⟨⟨rfl,hj⟩,hg⟩:=hg;split at hg
  ·rename_i m' t' ys hc;obtain ⟨r',h1,h2⟩:=z4k p _ hg;refine ⟨r',?_,h2⟩;simp only [denR,resE];rw [getElem?_set_self (by simpa using hj)];simp only [z25,hc,map_some,den];exact h1
  ·exact hg.elim
theorem z4c {X:Type} {h:TH T.tq} {k:Nat} {p:Path} {K:TR T.El->Rs X} {v:X} (hg:(atT h k p K).gives v):∃ r',res (denH T.tq h) k p=some ((denR T.tq r').s,(denR T.tq r').xs)/\(K r').gives v:=by
 unfold atT at hg;split at hg
 ·rename_i r hr;obtain ⟨r',h1,h2⟩:=z4k p r hg;cases hb:Nat.blt (denR T.tq r').s 1000000 with
  | false=>simp only [hb,cond_false] at h2;exact h2.elim
  | true =>simp only [hb,cond_true] at h2;refine ⟨r',zat ?_ (le_of_ble_eq_true hb),h2⟩;simp only [resA,z1a,hr,map_some];exact h1
 ·exact hg.elim
def nnT:VT T->RT T
 | .un=>.no
 | v=>.ok v
def asc:VT T->Option Value
 | .sc v=>some v
 | .ik k n=>some (.int k n)
 | .bk b=>some (.bool b)
 | _=>none
theorem z1z {h:H} {v:VT T} {u:Value} (hv:asc v=some u):den T.tq h v = .sc u:=by cases v<;>simp [asc] at hv<;>subst hv<;>rfl
def z3f:VT T->Bool
 | .ik _ _ | .bk _=>true
 | _=>false
def isK:Value->VT T
 | .int k n=>.ik k n
 | .bool b=>.bk b
 | v=>.sc v
theorem y5b (h:H) (v:Value):den T.tq h (isK v) = .sc v:=by cases v<;>rfl
def scR (kn:Bool) (o:Option Value):RT T :=
 match o with
 | some v=>bif kn then .ok (isK v) else .ok (.sc v)
 | none=>.no
theorem zh8 {kn:Bool} {o:Option Value} {v:VT T} (h:H) (hg:(scR (T:=T) kn o).gives v):∃ u,o=some u/\den T.tq h v = .sc u:=by
 unfold scR at hg;split at hg
 ·rename_i u;cases kn
  ·simp only [cond_false] at hg;cases hg;exact ⟨u,rfl,rfl⟩
  ·simp only [cond_true] at hg;cases hg;exact ⟨u,rfl,y5b h u⟩
 ·exact hg.elim
def binT (op:BinOp) (kn:Bool) (a b:Value):RT T :=
 bif kn then scR true (sbin op a b) else
 match op,a,b with
 | .shl,.int k a,.int k' b=>.need (0<=b) (.ok (.sc (.int k (k.wrap (a * 2 ^ min b.toNat k.bits)))))
 | .shr,.int k a,.int k' b=>.need (0<=b) (.ok (.sc (.int k (a.fdiv (2 ^ min b.toNat k.bits)))))
 | .quo,.int k a,.int k' b=>if k=k' then .need (b≠0) (.ok (.sc (.int k (k.wrap (a.tdiv b))))) else .no
 | .rem,.int k a,.int k' b=>if k=k' then .need (b≠0) (.ok (.sc (.int k (a.tmod b)))) else .no
 | .add,.string a,.string b=>.need (a.size+b.size<=9223372036854775807) (.ok (.sc (.string (a++b))))
 | op,a,b=>scR false (sbin op a b)
theorem y3y {op:BinOp} {kn:Bool} {a b:Value} {v:VT T} (h:H) (hg:(binT (T:=T) op kn a b).gives v):∃ u,sbin op a b=some u/\den T.tq h v = .sc u:=by
 unfold binT at hg;cases kn
 ·simp only [cond_false] at hg;split at hg
  ·obtain ⟨h1,rfl⟩:=hg;exact ⟨_,by simp [sbin,h1],rfl⟩
  ·obtain ⟨h1,rfl⟩:=hg;exact ⟨_,by simp [sbin,h1],rfl⟩
  ·split at hg
   ·rename_i hk;obtain ⟨h1,rfl⟩:=hg;subst hk;exact ⟨_,by simp [sbin,h1],rfl⟩
   ·exact hg.elim
  ·split at hg
   ·rename_i hk;obtain ⟨h1,rfl⟩:=hg;subst hk;exact ⟨_,by simp [sbin,h1],rfl⟩
   ·exact hg.elim
  ·obtain ⟨h1,rfl⟩:=hg;exact ⟨_,by simp [sbin,h1],rfl⟩
  ·exact zh8 h hg
 ·exact zh8 h hg
def y3s (k:Nat) (p:Path) (i c:Nat):VT T->VT T
 | .ow _ t _=>bif Nat.blt (T.sz t) 1000000 then .sw k (p++[(i,c)]) else .pp (.mr k (p++[(i,c)]))
 | .oo _ t _ _ _=>bif Nat.blt (T.sz t) 1000000 then .sw k (p++[(i,c)]) else .pp (.mr k (p++[(i,c)]))
 | a=>a
def zaz (k:Nat) (p:Path) (i:Nat):Nat->List (VT T)->List (VT T)
 | _,[]=>[]
 | c,a::as=>y3s k p i c a::zaz k p i (c+1) as
def z6n:Bool->List (VT T)->RT T
 | true,cs=>.ok (.ag cs)
 | false,[a]=>.ok a
 | false,_=>.no
def z92 (cs:List (VT T)) (c n:Nat):Option (List (VT T)):=bif Nat.ble (c+n) cs.length then some ((cs.drop c).take n) else none
theorem z65 {agg:Bool} {cs:List (VT T)} {v:VT T} {h:H} (hg:(z6n agg cs).gives v):z35 agg (denL T.tq h cs)=some (den T.tq h v):=by
 unfold z6n at hg;split at hg
 ·cases hg;rfl
 ·cases hg;rfl
 ·exact hg.elim
theorem z9z {cs ds:List (VT T)} {c n:Nat} {h:H} (hs:z92 cs c n=some ds):c+n<=(denL T.tq h cs).length/\((denL T.tq h cs).drop c).take n=denL T.tq h ds:=by
 unfold z92 at hs;cases hb:Nat.ble (c+n) cs.length with
 | false=>rw [hb] at hs;cases hs
 | true =>rw [hb] at hs;simp only [cond_true,Option.some.injEq] at hs;subst hs;refine ⟨by rw [z1c];exact le_of_ble_eq_true hb,?_⟩;simp [zh,map_take,map_drop]
def ze7 (agg:Bool) (n k:Nat) (p:Path) (i c:Nat) (cs:List (VT T)):RT T :=
 bif inRL (T:=T.tq) cs then match z92 cs c n with | some ds=>z6n agg (zaz k p i c ds) | none=>.no else .no
theorem zrk {h:H} {n:Nat} {x y:VT T} {a b:AV} (hx:n<MB->den T.tq h x=a) (hy:¬ n<MB->den T.tq h y=b):den T.tq h (bif Nat.blt n 1000000 then x else y)=if n<MB then a else b:=by
 by_cases hm:n<MB
 ·have:Nat.blt n 1000000=true:=Nat.ble_eq_true_of_le hm;rw [this,if_pos hm];exact hx hm
 ·have:Nat.blt n 1000000=false:=by
   cases hb:Nat.blt n 1000000 with
   | false=>rfl
   | true=>exact absurd (le_of_ble_eq_true hb) hm
  rw [this,if_neg hm];exact hy hm
theorem zcc {h:TH T.tq} {k i s:Nat} {p:Path} {ys:Els} {x:List AV} (hr:resA (denH T.tq h) k p=some (s,ys)) (hx:ys[i]?=some x):∀ (ds:List (VT T)) (c:Nat),inRL (T:=T.tq) ds=true->(∀ j a,ds[j]?=some a->x[c+j]?=some (den T.tq [] a))->z6e k p i c (denL T.tq [] ds)=denL T.tq (denH T.tq h) (zaz k p i c ds)
 | [],c,_,_=>rfl
 | a::ds,c,hi,hj=>by
  simp only [inRL,and_eq_true] at hi;have ih:=zcc hr hx ds (c+1) hi.2 (λj b hb=>by have:=hj (j+1) b (by simpa using hb);rwa [show c+(j+1)=c+1+j by omega] at this);have h0:=hj 0 a rfl;rw [Nat.add_zero] at h0
  have hlen:∀ (s2:Nat) (zs:Els),den T.tq [] a = .ow s2 zs->zc (denH T.tq h) k (p++[(i,c)])=zs.length:=λs2 zs hz=>by
   rw [hz] at h0
   have hA:resA (denH T.tq h) k (p++[(i,c)])=some (s2,zs):=by
    unfold resA at hr ⊢;split at hr
    ·rename_i r hg;rw [za8 p _ _ _ _ _ hr];simp [resE,hx,h0]
    ·cases hr
   unfold zc;rw [hA]
  simp only [denL,z6e,zaz,ih];congr 1;cases a<;>first | rfl | (simp [inR] at hi;done) | skip
  all_goals (
   simp only [y3s,den,view];refine Eq.symm (zrk (b:=.pp (.mr k (p++[(i,c)]))) (y:=.pp (.mr k (p++[(i,c)]))) (λ_=>?_) (λ_=>rfl));simp only [den];rw [hlen _ _ rfl])
theorem zyt {h:TH T.tq} {k i s:Nat} {p:Path} {ys:Els} {x:List AV} (hr:res (denH T.tq h) k p=some (s,ys)) (hx:ys[i]?=some x):∀ (ds:List (VT T)) (c:Nat),inRL (T:=T.tq) ds=true->(∀ j a,ds[j]?=some a->x[c+j]?=some (den T.tq [] a))->z6e k p i c (denL T.tq [] ds)=denL T.tq (denH T.tq h) (zaz k p i c ds)
 :=zcc (z6a hr).1 hx
theorem zc0 {agg:Bool} {n k i c s:Nat} {p:Path} {cs:List (VT T)} {v:VT T} {h:TH T.tq} {ys:Els} (hr:res (denH T.tq h) k p=some (s,ys)) (hx:ys[i]?=some (denL T.tq [] cs)) (hg:(ze7 agg n k p i c cs).gives v) :
  (match z47 ys i c n with | some cs=>z35 agg (z6e k p i c cs) | none=>none)=some (den T.tq (denH T.tq h) v):=by
 unfold ze7 at hg;cases hi:inRL (T:=T.tq) cs with
 | false=>rw [hi] at hg;exact hg.elim
 | true =>
  rw [hi] at hg;simp only [cond_true] at hg;split at hg
  ·rename_i ds hd;obtain ⟨q1,q2⟩:=z9z (h:=[]) hd;simp only [z47,hx,if_pos q1,q2]
   have hid:inRL (T:=T.tq) ds=true:=by
    have key:∀ (cs:List (VT T)),inRL (T:=T.tq) cs=true↔∀ x∈cs,inR (T:=T.tq) x=true:=by
     intro cs
     induction cs with
     | nil=>simp [inRL]
     | cons a l ih=>simp [inRL,ih]
    rw [key] at hi ⊢;intro x hx2;unfold z92 at hd;cases hb:Nat.ble (c+n) cs.length with
    | false=>rw [hb] at hd;cases hd
    | true =>rw [hb] at hd;simp only [cond_true,Option.some.injEq] at hd;subst hd;exact hi x (List.mem_of_mem_drop (List.mem_of_mem_take hx2))
   rw [zyt (T:=T) hr hx ds c hid (λj a ha=>by
    have e1:(denL T.tq [] ds)[j]?=some (den T.tq [] a):=by rw [z25,ha];rfl
    rw [<- q2,List.getElem?_take] at e1;split at e1
    ·rwa [getElem?_drop] at e1
    ·cases e1)]
   exact z65 hg
  ·exact hg.elim
end
section
variable {T:TT}
def z8l (xs ys:List (VT T)):List (Nat×Nat)->Option Bool
 | []=>some true
 | (i,q)::is =>
  match (xs[i]?).bind asc,(ys[i]?).bind asc with
  | some a,some b =>
   match scEq q a b,z8l xs ys is with
   | some r,some r'=>some (r&&r')
   | _,_=>none
  | _,_=>none
theorem zng {h:H} {xs:List (VT T)} {i:Nat} {u:Value} (hx:(xs[i]?).bind asc=some u):(denL T.tq h xs)[i]?=some (.sc u):=by
 rw [z25];cases hi:xs[i]? with
 | none=>rw [hi] at hx;cases hx
 | some x =>rw [hi] at hx;simp only [map_some,z1z (h:=h) hx]
theorem za5 {h:H} {xs ys:List (VT T)}:∀ (l:List (Nat×Nat)) (r:Bool),z8l xs ys l=some r->zt (denL T.tq h xs) (denL T.tq h ys) l=some r
 | [],_,h=>h
 | (i,q)::is,r,hr=>by
  unfold z8l at hr;split at hr
  ·rename_i a b ha hb;split at hr
   ·rename_i r1 r2 h1 h2;simp only [zt,zng (h:=h) ha,zng (h:=h) hb,h1,za5 is r2 h2];exact hr
   ·cases hr
  ·cases hr
def oneT:VT T->Bool
 | .sc u=>u.oneCell'
 | .ik _ _ | .bk _ | .zs | .im _ _ | .ip _ _ _ | .sl _ _ _ _ | .sw _ _ | .pt _ _ _ _ | .fn _ _ | .pp _=>true
 | _=>false
def z5f:VT T->Option (List (VT T))
 | .ag cs=>some cs
 | a=>bif oneT a then some [a] else none
theorem z6q {h:H} {v:VT T} {cs:List (VT T)} (hc:z5f v=some cs):cellsOf (den T.tq h v)=some (denL T.tq h cs):=by
 cases v<;>simp [z5f,oneT] at hc
 case ag=>subst hc;rfl
 case sc u =>
  cases hu:u.oneCell' with
  | true=>rw [hu] at hc;simp at hc;subst hc;simp [den,cellsOf,z36,hu,denL]
  | false=>rw [hu] at hc;simp at hc
 case ik k n=>subst hc;simp [den,cellsOf,z36,denL,Value.oneCell']
 case bk b=>subst hc;simp [den,cellsOf,z36,denL,Value.oneCell']
 case pp q=>subst hc;cases q<;>simp [den,denP,cellsOf,z36,denL]
 all_goals (subst hc;simp [den,cellsOf,z36,denL])
def zbh (cells:List (VT T)):List (Nat×Nat×VT T)->Option (List (VT T))
 | []=>some cells
 | (off,size,v)::rest =>
  match z5f v with
  | some cs=>bif Nat.beq cs.length size&&Nat.ble (off+size) cells.length then zbh (cells.take off++cs++cells.drop (off+size)) rest else none
  | none=>none
theorem zbi {h:H}:∀ (parts:List (Nat×Nat×VT T)) (cells cs:List (VT T)),zbh cells parts=some cs->z42 (denL T.tq h cells) (parts.map λ(o,n,x)=>(o,n,den T.tq h x))=some (denL T.tq h cs)
 | [],cells,cs,hf=>by simp only [zbh,Option.some.injEq] at hf;subst hf;rfl
 | (off,size,v)::rest,cells,cs,hf=>by
  unfold zbh at hf;split at hf
  ·rename_i ds hd;cases hb:(Nat.beq ds.length size&&Nat.ble (off+size) cells.length) with
   | false=>rw [hb] at hf;cases hf
   | true =>rw [hb] at hf;simp only [cond_true] at hf;simp only [and_eq_true] at hb;have h1:=eq_of_beq_eq_true hb.1;have h2:=le_of_ble_eq_true hb.2;have ih:=zbi (h:=h) rest _ _ hf;simp only [map_cons,z42,z6q (h:=h) hd,z1c];rw [if_pos ⟨h1,h2⟩];rw [<- ih];congr 1;simp [zh,map_take,map_drop]
  ·cases hf
def z3b (l:List Value):List (VT T):=l.map z9g
theorem z4f (h:H) (l:List Value):denL T.tq h (z3b l)=l.map cval:=by rw [zh,z3b,map_map];exact map_congr_left λx _=>zcs h x
def z6w:VT T->Option Int
 | .sc (.int _ n)=>some n
 | .ik _ n=>some n
 | _=>none
theorem z5i {h:H} {v:VT T} {n:Int} (hv:z6w v=some n):∃ k,den T.tq h v = .sc (.int k n):=by
 unfold z6w at hv;split at hv
 ·cases hv;exact ⟨_,rfl⟩
 ·cases hv;exact ⟨_,rfl⟩
 ·cases hv
theorem zj6 {h:H} {v:VT T} {n:Int} (hv:z6w v=some n):nat? (den T.tq h v)=some n:=by obtain ⟨k,hk⟩:=z5i (h:=h) hv;rw [hk];rfl
def zd4:List (VT T)->Option (IntKind×List Int)
 | []=>none
 | [v]=>match asc v with | some (.int k n)=>some (k,[n]) | _=>none
 | v::l=>match asc v,zd4 l with | some (.int k n),some (k',ns)=>if k=k' then some (k,n::ns) else none | _,_=>none
theorem zj7 {h:H}:∀ (l:List (VT T)) (k:IntKind) (ns:List Int),zd4 l=some (k,ns)->denL T.tq h l=ns.map λn=>.sc (.int k n)
 | [],_,_,hl=>by cases hl
 | [v],k,ns,hl=>by
  simp only [zd4] at hl;split at hl
  ·rename_i k n hv;cases hl;simp [denL,z1z (h:=h) hv]
  ·cases hl
 | v::w::l,k,ns,hl=>by
  simp only [zd4] at hl;split at hl
  ·rename_i k1 n1 k2 ns2 hv hl2;split at hl
   ·rename_i hk;subst hk;cases hl;have ih:=zj7 (h:=h) (w::l) _ _ hl2;rw [denL,z1z (h:=h) hv,ih];rfl
   ·cases hl
  ·cases hl
def zk2:List (VT T)->Option (Nat×List Nat)
 | []=>none
 | [.pt k [] 0 c]=>some (k,[c])
 | .pt k [] 0 c::l=>match zk2 l with | some (k',cs)=>bif Nat.beq k k' then some (k,c::cs) else none | none=>none
 | _=>none
theorem zmb {h:H}:∀ (l:List (VT T)) (k:Nat) (cs:List Nat),zk2 l=some (k,cs)->denL T.tq h l=cs.map λc=>.pt k [] 0 c
 | [],k,cs,hl=>by cases hl
 | x::l,k,cs,hl=>by
  unfold zk2 at hl;split at hl
  ·cases hl
  ·rename_i h0;cases h0;cases hl;rfl
  ·rename_i k0 c0 l0 _ h0;cases h0;split at hl
   ·rename_i k' cs' h1;cases hb:Nat.beq k0 k' with
    | false=>rw [hb] at hl;cases hl
    | true =>rw [hb] at hl;cases hl;rw [<- eq_of_beq_eq_true hb] at h1;have ih:=zmb (h:=h) l _ _ h1;simp only [denL,den,ih,map_cons]
   ·cases hl
  ·cases hl
def nthT (agg:Bool) (n:Nat) (cs:List (VT T)) (j:Nat):RT T:=match z92 cs (j * n) n with | some ds=>z6n agg ds | none=>.no
def zfx (m:Int) (f:Nat->RT T):Nat->Nat->RT T
 | 0,_=>.no
 | n+1,j=>.ite (m==(j:Int)) (f j) (zfx m f n (j+1))
theorem zb6 {m:Int} {f:Nat->RT T} {v:VT T}:∀ (n j:Nat),(zfx m f n j).gives v->∃ i:Nat,j<=i/\i<j+n/\m=(i:Int)/\(f i).gives v
 | 0,_,h=>h.elim
 | n+1,j,h=>by
  rcases h with ⟨h1,h2⟩ | ⟨_,h2⟩
  ·exact ⟨j,Nat.le_refl _,by omega,by simpa using h1,h2⟩
  ·obtain ⟨i,q1,q2,q3,q4⟩:=zb6 n (j+1) h2;exact ⟨i,by omega,by omega,q3,q4⟩
def idaT (agg:Bool) (len n:Nat) (cs:List (VT T)) (kn:Bool) (m:Int):RT T :=
 bif kn then (if 0<=m/\m<len then nthT agg n cs m.toNat else .no) else
 match agg,n,zd4 cs with
 | false,1,some (k,ns)=>bif Nat.beq ns.length len then .bnd (idx ns m) λy=>.ok (.sc (.int k y)) else .no
 | false,1,none=>match zk2 cs with
  | some (k,l)=>bif Nat.beq l.length len then .bnd (idx l m) λc=>.ok (.pp (.px k c)) else .no
  | none=>zfx m (nthT agg n cs) len 0
 | _,_,_=>zfx m (nthT agg n cs) len 0
def z56 (o:Option Operand) (e:TE T.tq):Option (Option Int) :=
 match o with
 | none=>some none
 | some x=>match z6w (evT e x) with | some n=>some (some n) | none=>none
def cutT (len:Nat) (lo hi:Option Int) (K:Nat->Nat->RT T) (whole:RT T):RT T :=
 match lo,hi with
 | none,none=>whole
 | none,some b=>.need (0<=b/\b<=(len:Int)) (K 0 b.toNat)
 | some a,none=>.need (0<=a/\a<=(len:Int)) (K a.toNat len)
 | some a,some b=>.need (0<=a/\a<=b/\b<=(len:Int)) (K a.toNat b.toNat)
def part {α:Type} (xs:List α) (a b:Nat):List α:=(xs.take b).drop a
def z7u:List (VT T)->Option (List (Option Int))
 | []=>some []
 | x::l=>match z7u l with
  | some r=>match x with
   | .sc (.int .i64 n)=>some (some n::r)
   | .ik .i64 n=>some (some n::r)
   | _=>some (none::r)
  | none=>none
def z2n (l:List (Option Int)) (c:Nat):Option Int:=match l[c]? with | some (some n)=>some n | _=>none
theorem zf7 {H0:H}:∀ (cs:List (VT T)) (l:List (Option Int)) (c:Nat) (n:Int),z7u cs=some l->z2n l c=some n->∃ v,cs[c]?=some v/\den T.tq H0 v = .sc (.int .i64 n)
 | [],l,c,n,h,hp=>by cases h;simp [z2n] at hp
 | x::cs,l,c,n,h,hp=>by
  unfold z7u at h;split at h
  ·rename_i r hr;have ih:=λc hp=>zf7 (H0:=H0) cs r c n hr hp;cases c with
   | zero =>
    split at h
    ·cases h;simp only [z2n,getElem?_cons_zero,Option.some.injEq] at hp;subst hp;exact ⟨_,rfl,rfl⟩
    ·cases h;simp only [z2n,getElem?_cons_zero,Option.some.injEq] at hp;subst hp;exact ⟨_,rfl,rfl⟩
    ·cases h;simp [z2n] at hp
   | succ c =>
    have key:z2n r c=some n:=by split at h<;>(cases h;simpa [z2n] using hp)
    obtain ⟨v,h1,h2⟩:=ih c key;exact ⟨v,by simpa using h1,h2⟩
  ·cases h
def litB:List (List (VT T))->Option (List Int)
 | []=>some []
 | [x]::l=>match asc x,litB l with | some (.int .u8 n),some ns=>some (n::ns) | _,_=>none
 | _=>none
theorem za3:∀ ns:List Int,z37 (ns.map λn=>[AV.sc (.int .u8 n)])=some ns
 | []=>rfl
 | n::ns=>by simp only [map_cons,z37,za3 ns]
theorem zqj {H0:H}:∀ (l:List (List (VT T))) (ns:List Int),litB l=some ns->z37 (l.map (denL T.tq H0))=some ns
 | [],ns,h=>by cases h;rfl
 | []::l,ns,h=>by cases h
 | [x]::l,ns,h=>by
  simp only [litB] at h;split at h
  ·rename_i n ms h1 h2;cases h;simp only [map_cons,denL,z1z h1,z37,zqj l ms h2]
  ·cases h
 | (_::_::_)::l,ns,h=>by cases h
def z60:List Kd->List (VT T)->List (VT T)
 | .im t::ks,.zs::l=>.im t []::z60 ks l
 | _::ks,v::l=>v::z60 ks l
 | _,l=>l
def z22 {α:Type} (f:α->Bool):List α->Option (Nat×α)
 | []=>none
 | x::l=>bif f x then some (0,x) else match z22 f l with | some (i,y)=>some (i+1,y) | none=>none
def kvsT:List (VT T)->Option (List Value)
 | []=>some []
 | x::l=>match asc x,kvsT l with | some v,some vs=>some (v::vs) | _,_=>none
def zd7 (n:Nat):VT T->Option (List (VT T))
 | .ag cs=>bif Nat.beq n 1 then none else some cs
 | a=>bif oneT a then some [a] else none
def keyV (n:Nat) (x:VT T):Option (List Value):=match zd7 n x with | some cs=>bif Nat.beq cs.length n then kvsT cs else none | none=>none
def eqNL:List Nat->List Nat->Bool
 | [],[]=>true
 | a::l,b::m=>Nat.beq a b&&eqNL l m
 | _,_=>false
def owK:Kd->Bool
 | .ow _ _=>true
 | _=>false
def ze9:List (VT T)->Bool
 | []=>true
 | .ow _ _ _::_ | .oo _ _ _ _ _::_=>false
 | _::l=>ze9 l
def lkuR (agg ok:Bool) (b:VT T) (cs:List (VT T)):RT T :=
 match agg,cs with
 | true,cs=>.ok (bif ok then .tu [.ag cs,b] else .ag cs)
 | false,[a]=>.ok (bif ok then .tu [a,b] else a)
 | false,_=>.no
def lkuT (agg ok:Bool) (zero:List Value) (k:Nat) (p:Path) (kv:List Value) (ks:List Nat) (m:Bool) (t:Nat) (xs:List (T.El t)):RT T :=
 bif (T.ks m t).any owK then
  .ite (xs.any (T.kf t kv)) (.bnd (z22 (T.kf t kv) xs) λr=>lkuR agg ok (.bk true) (zaz k p r.1 ks.length ((T.ct m t r.2).drop ks.length)))
   (lkuR agg ok (.bk false) (z3b zero))
 else match T.un m t (kv.map .sc++z60 ((T.ks m t).drop ks.length) (z3b zero)) with
  | some z=>bif ze9 (T.ct m t ((xs.find? (T.kf t kv)).getD z)) then lkuR agg ok (.sc (.bool (xs.any (T.kf t kv)))) ((T.ct m t ((xs.find? (T.kf t kv)).getD z)).drop ks.length) else .no
  | none=>.no
def atM {X:Type} (h:TH T.tq) (k:Nat) (p:Path) (K:TR T.El->Rs X):Rs X :=
 match getT h k with
 | some r=>z67 (λr'=>bif Nat.blt (denR T.tq r').s 1000000 then .no else K r') p r
 | none=>.no
def rdT (e:TE T.tq) (h:TH T.tq):IB->RT T
 | .mov x=>nnT (evT e x)
 | .pick c a b =>
  match evT e c with
  | .bk true=>nnT (evT e a)
  | .bk false=>nnT (evT e b)
  | .sc (.bool t)=>.ite t (nnT (evT e a)) (nnT (evT e b))
  | _=>.no
 | .bin op x y =>
  match asc (evT e x),asc (evT e y) with
  | some a,some b=>bif z3f (evT e y) then scR (z3f (evT e x)) (sbin op a b) else binT op false a b
  | _,_=>.no
 | .beq neg x y =>
  match asc (evT e x),asc (evT e y) with
  | some (.bool a),some (.bool b)=>scR (z3f (evT e x)&&z3f (evT e y)) (some (.bool (if neg then a != b else a==b)))
  | _,_=>.no
 | .eqs neg n plan x y =>
  match evT e x,evT e y with
  | .ag xs,.ag ys =>
   bif Nat.beq xs.length n&&Nat.beq ys.length n then match z8l xs ys plan with | some r=>.ok (.sc (.bool (if neg then !r else r))) | none=>.no else .no
  | _,_=>.no
 | .un1 op x =>
  match op,asc (evT e x) with
  | .not,some (.bool b)=>scR (z3f (evT e x)) (some (.bool (!b)))
  | .neg,some (.int k n)=>scR (z3f (evT e x)) (some (.int k (k.wrap (0 - n))))
  | .xor,some (.int k n)=>scR (z3f (evT e x)) (some (.int k (cmpl k n)))
  | _,_=>.no
 | .cvt k x =>
  match asc (evT e x) with
  | some (.int _ n)=>scR (z3f (evT e x)) (some (.int k (k.wrap n)))
  | _=>.no
 | .fad off x =>
  match evT e x with
  | .pt k p i c=>.ok (.pt k p i (c+off))
  | .ip s cs c=>.ok (.ip s cs (c+off))
  | .pp (.xp b x c)=>.ok (.pp (.xp b x (c+off)))
  | _=>.no
 | .aad len n x i =>
  match evT e x,z6w (evT e i) with
  | .pt k p o c,some m=>bif z3f (evT e i) then (if 0<=m/\m<(len:Int) then .ok (.pt k p o (c+m.toNat * n)) else .no) else zfx m (λj=>.ok (.pt k p o (c+j * n))) len 0
  | _,_=>.no
 | .iad s x i =>
  match z6w (evT e i) with
  | none=>.no
  | some n =>
  match evT e x with
  | .im t xs=>bif Nat.beq (T.sz t) s then .bnd (idx xs n) λy=>.ok (.ip s (T.ct false t y) 0) else .no
  | .sw k p=>atT h k p fun
   | .lit s' xs=>bif Nat.beq s' s then bif z3f (evT e i) then (if 0<=n/\n<(xs.length:Int) then .ok (.pt k p n.toNat 0) else .no) else .need (0<=n/\n<(xs.length:Int)) (.ok (.pt k p n.toNat 0)) else .no
   | .typ _ t xs=>bif Nat.beq (T.sz t) s then .need (0<=n/\n<(xs.length:Int)) (.ok (.pt k p n.toNat 0)) else .no
   | .opn _ t xs _ _=>bif Nat.beq (T.sz t) s then .need (0<=n/\n<(xs.length:Int)) (.ok (.pt k p n.toNat 0)) else .no
  | .sl k p off len=>atT h k p λr=>bif Nat.beq (denR T.tq r).s s then .need (0<=n/\n<(len:Int)) (.ok (.pt k p (off+n.toNat) 0)) else .no
  | .pp (.fs k cs)=>bif Nat.beq s 1 then .need (0<=n/\n<(cs.length:Int)) (.ok (.pp (.fp k cs n.toNat))) else .no
  | _=>.no
 | .load agg n x =>
  match evT e x with
  | .pt k p i c=>atT h k p fun
   | .lit s xs=>match xs[i]? with | some cs=>ze7 agg n k p i c cs | none=>.no
   | .typ m t xs=>.bnd (xs[i]?) λy=>ze7 agg n k p i c (T.ct m t y)
   | .opn m t xs j cs=>.need (i=j/\j<xs.length) (ze7 agg n k p i c cs)
  | .ip s cs c=>bif inRL (T:=T.tq) cs then match z92 cs c n with | some ds=>bif inRL (T:=T.tq) ds then z6n agg ds else .no | none=>.no else .no
  | .pp (.xp _ x c)=>bif Nat.ble (c+n) x.length then z6n agg (((x.drop c).take n).map .sc) else .no
  | .pp (.fp k cs i)=>bif Nat.beq n 1&&!agg then .bnd (cs[i]?) λc=>.ok (.pp (.px k c)) else .no
  | .pp (.px k c)=>bif Nat.beq n 1&&!agg then (match getT h k with
   | some (.lit s (cs::_))=>bif Nat.blt s 1000000 then match z7u cs with | some l=>.bnd (z2n l c) λy=>.ok (.sc (.int .i64 y)) | none=>.no else .no
   | _=>.no) else .no
  | _=>.no
 | .fld agg off n x =>
  match evT e x with
  | .ag cs=>match z92 cs off n with | some ds=>z6n agg ds | none=>.no
  | _=>.no
 | .ida agg len n x i =>
  match evT e x,z6w (evT e i) with
  | .ag cs,some m=>idaT agg len n cs (z3f (evT e i)) m
  | _,_=>.no
 | .ids x i =>
  match evT e x,z6w (evT e i) with
  | .sc (.string s),some m=>.need (0<=m/\m<(s.size:Int)) (.ok (.sc (.int .u8 (z8 s m))))
  | _,_=>.no
 | .len x =>
  match evT e x with
  | .sl _ _ _ len=>.ok (.sc (.int .i64 len))
  | .sw k p=>atT h k p fun
   | .lit _ xs=>.ok (.ik .i64 xs.length)
   | .typ _ _ xs=>.ok (.sc (.int .i64 xs.length))
   | .opn _ _ xs _ _=>.ok (.sc (.int .i64 xs.length))
  | .im _ xs=>.ok (.sc (.int .i64 xs.length))
  | .pp (.fs _ cs)=>.ok (.sc (.int .i64 cs.length))
  | .zs=>.ok (.ik .i64 0)
  | _=>.no
 | .lens x =>
  match evT e x with
  | .sc (.string s)=>.ok (.sc (.int .i64 s.size))
  | _=>.no
 | .b2s x =>
  match evT e x with
  | .im t xs=>if hh:t=T.u8 then .ok (.sc (.string (z72 (T.sb (hh ▸ xs))))) else .no
  | .zs=>.ok (.sc (.string (z72 [])))
  | .sw k p=>atT h k p fun
   | .typ _ t xs=>if hh:t=T.u8 then .ok (.sc (.string (z72 (T.sb (hh ▸ xs))))) else .no
   | .lit s xs=>bif Nat.beq s 1 then match litB xs with | some ns=>.ok (.sc (.string (z72 ns))) | none=>.no else .no
   | _=>.no
  | _=>.no
 | .lku nv ks agg ok zero x key =>
  match evT e x,keyV ks.length (evT e key) with
  | .pp (.mr k p),some kv=>atM h k p fun
   | .typ m t xs=>bif Nat.beq (T.sz t) (z3g ks.length nv)&&(eqNL (T.kq t) ks&&T.kOk t kv) then lkuT agg ok zero k p kv ks m t xs else .no
   | _=>.no
  | _,_=>.no
 | .ext n x =>
  match evT e x with
  | .tu vs=>match vs[n]? with | some a=>nnT a | none=>.no
  | _=>.no
 | .nchk x =>
  match evT e x with
  | .pt k p i c=>.ok (.pt k p i c)
  | .ip s cs c=>.ok (.ip s cs c)
  | .pp (.xp b x c)=>.ok (.pp (.xp b x c))
  | .pp (.px k c)=>.ok (.pp (.px k c))
  | .fn f caps=>.ok (.fn f caps)
  | _=>.no
 | .slc s x lo hi =>
  match z56 lo e,z56 hi e with
  | some lo,some hi =>
   match evT e x with
   | .sl k p off len=>atT h k p λr=>bif Nat.beq (denR T.tq r).s s then cutT len lo hi (λa b=>.ok (.sl k p (off+a) (b - a))) (.ok (.sl k p off len)) else .no
   | .sw k p=>atT h k p fun
    | .lit s' xs=>bif Nat.beq s' s then cutT xs.length lo hi (λa b=>.ok (.sl k p a (b - a))) (.ok (.sw k p)) else .no
    | .typ _ t xs=>bif Nat.beq (T.sz t) s then cutT xs.length lo hi (λa b=>.ok (.sl k p a (b - a))) (.ok (.sw k p)) else .no
    | .opn _ t xs _ _=>bif Nat.beq (T.sz t) s then cutT xs.length lo hi (λa b=>.ok (.sl k p a (b - a))) (.ok (.sw k p)) else .no
   | .im t xs=>bif Nat.beq (T.sz t) s then cutT xs.length lo hi (λa b=>.ok (.im t (part xs a b))) (.ok (.im t xs)) else .no
   | .zs=>cutT 0 lo hi (λa b=>.ok .zs) (.ok .zs)
   | _=>.no
  | _,_=>.no
 | .slc0 x =>
  match evT e x with
  | .sl _ _ _ _ | .sw _ _ | .im _ _ | .zs=>.ok .zs
  | _=>.no
 | .sls x lo hi =>
  match z56 lo e,z56 hi e,evT e x with
  | some lo,some hi,.sc (.string s)=>cutT s.size lo hi (λa b=>.ok (.sc (.string (s.extract a b)))) (.ok (.sc (.string s)))
  | _,_,_=>.no
 | .build zero parts =>
  match zbh (z3b zero) (parts.map λ(o,n,x)=>(o,n,evT e x)) with
  | some cs=>.ok (.ag cs)
  | none=>.no
 | .mkf f caps=>bif caps.all (λx=>match evT e x with | .un=>false | _=>true) then .ok (.fn f (caps.map (evT e))) else .no
 | .mm isMax x y =>
  match asc (evT e x),asc (evT e y) with
  | some (.int k a),some (.int k' b)=>if k=k' then scR (z3f (evT e x)&&z3f (evT e y)) (some (.int k (if isMax then (if b > a then b else a) else (if b<a then b else a)))) else .no
  | _,_=>.no
 | _=>.no
end
section
variable {T:TT}
theorem zao {h:H} {x v:VT T} (hg:(nnT x).gives v):nn (den T.tq h x)=some (den T.tq h v):=by cases x<;>first | exact hg.elim | (cases hg;rfl) | (rename_i q;cases hg;cases q<;>rfl) | (cases hg;simp [den,nn])
theorem ze {X:Type} {b:Bool} {x:Rs X} {v:X} (hg:(bif b then x else .no).gives v):b=true/\x.gives v:=by
 cases b
 ·exact hg.elim
 ·exact ⟨rfl,hg⟩
theorem z9n {X:Type} {p:Prop} [Decidable p] {x:Rs X} {v:X} (hg:(if p then x else .no).gives v):p/\x.gives v:=by
 split at hg
 ·exact ⟨by assumption,hg⟩
 ·exact hg.elim
theorem z6p {kn:Bool} {u:Value} {v:VT T} (h:H) (hg:(scR (T:=T) kn (some u)).gives v):den T.tq h v = .sc u:=by obtain ⟨u',h1,h2⟩:=zh8 h hg;cases h1;exact h2
theorem zyr {h:H} {e:TE T.tq} {o:Option Operand} {r:Option Int} (ho:z56 o e=some r):loV (o.map (ev (denE T.tq h e)))=some (r.getD 0):=by
 unfold z56 at ho;cases o with
 | none=>cases ho;rfl
 | some x =>
  simp only at ho;split at ho
  ·rename_i n hn;cases ho;simp only [map_some,loV,za,zj6 hn,getD_some]
  ·cases ho
theorem zyq {h:H} {e:TE T.tq} {o:Option Operand} {r:Option Int} {len:Nat} (ho:z56 o e=some r):hiV len (o.map (ev (denE T.tq h e)))=some (r.getD len):=by
 unfold z56 at ho;cases o with
 | none=>cases ho;rfl
 | some x =>
  simp only at ho;split at ho
  ·rename_i n hn;cases ho;simp only [map_some,hiV,za,zj6 hn,getD_some]
  ·cases ho
theorem zdt {h:H} {e:TE T.tq} {len:Nat} {lo hi:Option Operand} {a b:Option Int} {K:Nat->Nat->RT T} {whole:RT T} {v:VT T} (ha:z56 lo e=some a) (hb:z56 hi e=some b) (hg:(cutT len a b K whole).gives v) :
  ∃ l m:Nat,z54 len (lo.map (ev (denE T.tq h e))) (hi.map (ev (denE T.tq h e)))=some (l,m)/\l<=m/\m<=len/\((K l m).gives v\/(l=0/\m=len/\whole.gives v)):=by
 have h1:=zyr (h:=h) ha;have h2:=zyq (h:=h) (len:=len) hb;unfold cutT at hg;split at hg
 ·refine ⟨0,len,by simpa using z9a h1 h2 (by simp),zero_le _,Nat.le_refl _,.inr ⟨rfl,rfl,hg⟩⟩
 ·obtain ⟨hc,hg⟩:=hg;exact ⟨_,_,by simpa using z9a h1 h2 (by simp;omega),zero_le _,by omega,.inl hg⟩
 ·obtain ⟨hc,hg⟩:=hg;exact ⟨_,_,by simpa using z9a h1 h2 (by simp;omega),by omega,Nat.le_refl _,.inl hg⟩
 ·obtain ⟨hc,hg⟩:=hg;exact ⟨_,_,by simpa using z9a h1 h2 (by simp;omega),by omega,by omega,.inl hg⟩
theorem y00 {α β:Type} (f:α->β) (xs:List α) (a b:Nat):(part xs a b).map f=((xs.map f).take b).drop a:=by simp [part,map_drop,map_take]
theorem za6 {α:Type} {f:α->Bool} {g:α->List AV} {ks:List Nat} {kc:List AV} (hf:∀ x,zt kc (g x) (z1v 0 ks)=some (f x)):∀ (xs:List α) (i:Nat),z3o ks kc (xs.map g) i=some (match z22 f xs with | some (j,x)=>some (i+j,g x) | none=>none)
 | [],i=>rfl
 | x::l,i=>by
  simp only [map_cons,z3o,hf x,z22];cases f x with
  | true=>rfl
  | false =>
   simp only [cond_false];rw [za6 hf l (i+1)];cases z22 f l with
   | none=>rfl
   | some r=>simp only;rw [show i+1+r.1=i+(r.1+1) by omega]
theorem zd0 {α:Type} (f:α->Bool):∀ (xs:List α),xs.any f=(z22 f xs).isSome
 | []=>rfl
 | x::l=>by
  simp only [any_cons,z22,zd0 f l];cases f x with
  | true=>rfl
  | false=>simp only [Bool.false_or,cond_false];cases z22 f l<;>rfl
theorem zgf {α:Type} (f:α->Bool):∀ (xs:List α),xs.find? f=(z22 f xs).map (·.2)
 | []=>rfl
 | x::l=>by
  simp only [List.find?_cons,z22,zgf f l];cases f x with
  | true=>rfl
  | false=>simp only [cond_false];cases z22 f l<;>rfl
theorem z9i {α:Type} (f:α->Bool):∀ (xs:List α) (j:Nat) (x:α),z22 f xs=some (j,x)->xs[j]?=some x/\f x=true
 | [],j,x,h=>by cases h
 | y::l,j,x,h=>by
  unfold z22 at h;cases hf:f y with
  | true=>rw [hf] at h;cases h;exact ⟨rfl,hf⟩
  | false =>
   rw [hf] at h;simp only [cond_false] at h;split at h
   ·rename_i i z hz;cases h;have:=z9i f l i _ hz;exact ⟨by simpa using this.1,this.2⟩
   ·cases h
theorem zqi {h:H}:∀ (l:List (VT T)) (vs:List Value),kvsT l=some vs->denL T.tq h l=vs.map .sc
 | [],vs,hs=>by cases hs;rfl
 | x::l,vs,hs=>by
  unfold kvsT at hs;split at hs
  ·rename_i v us hv hu;cases hs;simp only [denL,z1z (h:=h) hv,zqi l us hu,map_cons]
  ·cases hs
theorem zqg {h:H} {n:Nat} {x:VT T} {kv:List Value} (hk:keyV n x=some kv):z29 n (den T.tq h x)=some (kv.map .sc)/\kv.length=n:=by
 unfold keyV at hk;split at hk
 ·rename_i cs hc;cases hb:Nat.beq cs.length n with
  | false=>rw [hb] at hk;cases hk
  | true =>
   rw [hb] at hk;have hl:=eq_of_beq_eq_true hb;have h1:=zqi (h:=h) cs kv hk
   have h2:kv.length=n:=by have:=congrArg length h1;rw [z1c,length_map] at this;omega
   refine ⟨?_,h2⟩;rw [<- h1];cases x<;>simp [zd7,oneT] at hc
   case ag cs' =>
    cases hn:Nat.beq n 1 with
    | true=>rw [hn] at hc;simp at hc
    | false =>rw [hn] at hc;simp at hc;subst hc;simp only [den,z29];rw [if_neg (λe=>by rw [e] at hn;cases hn)]
   case sc u =>
    cases hu:u.oneCell' with
    | true=>rw [hu] at hc;simp at hc;subst hc;simp [den,z29,z36,hu,denL]
    | false=>rw [hu] at hc;simp at hc
   case ik k n=>subst hc;simp [den,z29,z36,denL,Value.oneCell']
   case bk b=>subst hc;simp [den,z29,z36,denL,Value.oneCell']
   case pp q=>subst hc;cases q<;>simp [den,denP,z29,z36,denL]
   all_goals (subst hc;simp [den,z29,z36,denL])
 ·cases hk
theorem zdw:∀ (a b:List Nat),eqNL a b=true->a=b
 | [],[],_=>rfl
 | a::l,b::m,h=>by simp only [eqNL,and_eq_true] at h;rw [eq_of_beq_eq_true h.1,zdw l m h.2]
 | [],_::_,h=>by cases h
 | _::_,[],h=>by cases h
theorem y61 {X:Type} {h:TH T.tq} {k:Nat} {p:Path} {K:TR T.El->Rs X} {v:X} (hg:(atM h k p K).gives v):∃ r',resM (denH T.tq h) k p=some ((denR T.tq r').s,(denR T.tq r').xs)/\(K r').gives v:=by
 unfold atM at hg;split at hg
 ·rename_i r hr;obtain ⟨r',h1,h2⟩:=z4k p r hg;cases hb:Nat.blt (denR T.tq r').s 1000000 with
  | true=>simp only [hb,cond_true] at h2;exact h2.elim
  | false =>
   simp only [hb,cond_false] at h2;refine ⟨r',y5r ?_ (λhm=>?_),h2⟩
   ·simp only [resA,z1a,hr,map_some];exact h1
   ·have:Nat.blt (denR T.tq r').s 1000000=true:=Nat.ble_eq_true_of_le hm;rw [this] at hb;cases hb
 ·exact hg.elim
theorem z1s.refl:∀ l:List AV,z1s l l
 | []=>.nil
 | a::l=>.cons (AVle.refl a) (z1s.refl l)
theorem zj0 (h:H):∀ (ks:List Kd) (l:List (VT T)),z1s (denL T.tq h l) (denL T.tq h (z60 ks l))
 | [],[]=>.nil
 | [],x::l=>z1s.refl _
 | k::ks,[]=>by cases k<;>exact .nil
 | k::ks,v::l=>by
  have ih:=zj0 h ks l;cases k with
  | im t=>cases v<;>first | exact .cons (AVle.refl _) ih | exact .cons (AVle.zsIm _) ih
  | no=>exact .cons (AVle.refl _) ih
  | ow m t=>exact .cons (AVle.refl _) ih
theorem ze6 {agg ok b:Bool} {cs:List (VT T)} {bv v:VT T} {as:List AV} {h:H} (hb:den T.tq h bv = .sc (.bool b)) (hl:z1s as (denL T.tq h cs)) (hg:(lkuR agg ok bv cs).gives v):∃ av,lkuV agg ok b as=some av/\AVle av (den T.tq h v):=by
 unfold lkuR at hg;split at hg
 ·unfold lkuV;cases ok with
  | true=>cases hg;exact ⟨_,rfl,by simp only [den,denL,hb,cond_true];exact AVle.tu (z1s.cons (AVle.ag hl.C) (.cons (AVle.refl _) .nil)).L⟩
  | false=>cases hg;exact ⟨_,rfl,by simp only [den,cond_false];exact AVle.ag hl.C⟩
 ·rename_i a;cases hl with
  | cons h1 h2 =>
   cases h2;unfold lkuV;cases ok with
   | true=>cases hg;exact ⟨_,rfl,by simp only [den,denL,hb,cond_true];exact AVle.tu (z1s.cons h1 (.cons (AVle.refl _) .nil)).L⟩
   | false=>cases hg;exact ⟨_,rfl,h1⟩
 ·exact hg.elim
theorem zgz {H0:H} {k i:Nat} {p:Path}:∀ (cs:List (VT T)) (c:Nat),ze9 cs=true->inRL (T:=T.tq) cs=true->z6e k p i c (denL T.tq [] cs)=denL T.tq H0 cs
 | [],_,_,_=>rfl
 | x::l,c,hn,hi=>by
  simp only [inRL,and_eq_true] at hi;have hn':ze9 l=true:=by cases x<;>first | exact hn | cases hn
  have ih:=zgz (H0:=H0) (k:=k) (i:=i) (p:=p) l (c+1) hn' hi.2;simp only [denL,z6e,ih];congr 1;cases x<;>first | rfl | (simp [inR] at hi;done) | (cases hn;done)
theorem zje:∀ (cs:List (VT T)) (n:Nat),ze9 cs=true->ze9 (cs.drop n)=true
 | [],n,_=>by cases n<;>rfl
 | x::l,0,h=>h
 | x::l,n+1,h=>zje l n (by cases x<;>first | exact h | cases h)
theorem z9m:∀ (cs:List (VT T)) (n:Nat),inRL (T:=T.tq) cs=true->inRL (T:=T.tq) (cs.drop n)=true
 | [],n,_=>by cases n<;>rfl
 | x::l,0,h=>h
 | x::l,n+1,h=>z9m l n (Bool.and_eq_true_iff.1 h).2
theorem zme {e:TE T.tq} {h:TH T.tq} {b:IB} {v:VT T} (hg:(rdT e h b).gives v) :
  ∃ av,rdop (ev (denE T.tq (denH T.tq h) e)) (res (denH T.tq h)) b=some av/\AVle av (den T.tq (denH T.tq h) v):=by
 have fin:∀ {o:Option AV} {w:VT T},o=some (den T.tq (denH T.tq h) w)->∃ av,o=some av/\AVle av (den T.tq (denH T.tq h) w):=λho=>⟨_,ho,AVle.refl _⟩
 have sc:∀ {o:Option AV} {w:VT T} {u:Value},o=some (.sc u)->den T.tq (denH T.tq h) w = .sc u->∃ av,o=some av/\AVle av (den T.tq (denH T.tq h) w):=λho hw=>⟨_,ho,by rw [hw];exact AVle.refl _⟩
 cases b with
 | mov x=>exact fin (by simp only [rdop,za];exact zao hg)
 | pick c a b =>
  simp only [rdT] at hg;split at hg
  ·rename_i hc;exact fin (by simp only [rdop,za,hc,den,if_true];exact zao hg)
  ·rename_i hc;exact fin (by simp only [rdop,za,hc,den,false_eq_true,if_false];exact zao hg)
  ·rename_i t hc;rcases hg with ⟨rfl,hg⟩ | ⟨rfl,hg⟩
   ·exact fin (by simp only [rdop,za,hc,den,if_true];exact zao hg)
   ·exact fin (by simp only [rdop,za,hc,den,false_eq_true,if_false];exact zao hg)
  ·exact hg.elim
 | bin op x y =>
  simp only [rdT] at hg;split at hg
  ·rename_i a b ha hb
   have key:∃ u,sbin op a b=some u/\den T.tq (denH T.tq h) v = .sc u:=by
    cases hk:z3f (evT e y) with
    | true=>rw [hk,cond_true] at hg;exact zh8 _ hg
    | false=>rw [hk,cond_false] at hg;exact y3y _ hg
   obtain ⟨u,h1,h2⟩:=key;exact sc (by simp only [rdop,za,z1z ha,z1z hb,h1]) h2
  ·exact hg.elim
 | beq neg x y =>
  simp only [rdT] at hg;split at hg
  ·rename_i a b ha hb;exact sc (by simp only [rdop,za,z1z ha,z1z hb]) (z6p _ hg)
  ·exact hg.elim
 | eqs neg n plan x y =>
  simp only [rdT] at hg;split at hg
  ·rename_i xs ys hx hy;obtain ⟨h1,hg⟩:=ze hg;simp only [and_eq_true] at h1;split at hg
   ·rename_i r hr;cases hg
    exact fin (by simp only [rdop,za,hx,hy,den,z1c];rw [if_pos ⟨eq_of_beq_eq_true h1.1,eq_of_beq_eq_true h1.2⟩,za5 _ _ hr])
   ·exact hg.elim
  ·exact hg.elim
 | un1 op x =>
  simp only [rdT] at hg;split at hg
  ·rename_i b hb;exact sc (by simp only [rdop,za,z1z hb]) (z6p _ hg)
  ·rename_i k n hb;exact sc (by simp only [rdop,za,z1z hb]) (z6p _ hg)
  ·rename_i k n hb;exact sc (by simp only [rdop,za,z1z hb]) (z6p _ hg)
  ·exact hg.elim
 | cvt k x =>
  simp only [rdT] at hg;split at hg
  ·rename_i k' n hb;exact sc (by simp only [rdop,za,z1z hb]) (z6p _ hg)
  ·exact hg.elim
 | fad off x =>
  simp only [rdT] at hg;split at hg
  ·rename_i k p i c hx;cases hg;exact fin (by simp only [rdop,za,hx,den])
  ·rename_i s cs c hx;cases hg;exact fin (by simp only [rdop,za,hx,den])
  ·rename_i b x' c hx;cases hg;exact fin (by simp only [rdop,za,hx,den,denP])
  ·exact hg.elim
 | iad s x i =>
  simp only [rdT] at hg;split at hg
  ·exact hg.elim
  ·rename_i n hn;obtain ⟨kk,hi⟩:=z5i (h:=denH T.tq h) hn;split at hg
   ·rename_i t xs hx;obtain ⟨hs,hg⟩:=ze hg;obtain ⟨y,hy,hg⟩:=hg;cases hg;obtain ⟨h0,h1,h2⟩:=zbt hy;have hlt:n<((xs.map (T.ca false t)).length:Int):=by rw [length_map];omega
    refine ⟨.ip s (xs.map (T.ca false t)) n.toNat 0,?_,?_⟩
    ·simp only [rdop,za,hx,hi,den];rw [if_pos ⟨eq_of_beq_eq_true hs,h0,hlt⟩]
    ·have:den T.tq (denH T.tq h) (.ip s (T.ct false t y) 0) = .ip s [T.ca false t y] 0 0:=by simp only [den,T.ct_ok]
     rw [this];exact AVle.ip (by rw [getElem?_map,h2];rfl)
   ·rename_i k p hx;obtain ⟨r',hr,hg⟩:=z4c hg;have hl:zc (denH T.tq h) k p=(denR T.tq r').xs.length:=z4i hr
    have key:∀ (s':Nat) (len:Nat),(denR T.tq r').s=s'->(denR T.tq r').xs.length=len->s'=s->0<=n/\n<(len:Int)->∃ av,rdop (ev (denE T.tq (denH T.tq h) e)) (res (denH T.tq h)) (.iad s x i)=some av/\AVle av (den T.tq (denH T.tq h) (.pt k p n.toNat 0)):=by intro s' len e1 e2 e3 e4;refine fin ?_;simp only [rdop,za,hx,hi,den,hl,e2];rw [if_pos e4,hr];simp [e1,e3]
    split at hg
    ·rename_i s' xs;obtain ⟨hs,hg⟩:=ze hg
     have:(0<=n/\n<(xs.length:Int))/\v = .pt k p n.toNat 0:=by
      cases hk:z3f (evT e i) with
      | true=>rw [hk] at hg;exact z9n hg
      | false=>rw [hk] at hg;exact hg
     obtain ⟨hc,rfl⟩:=this;exact key s' xs.length rfl (by simp [denR]) (eq_of_beq_eq_true hs) hc
    ·rename_i m t xs;obtain ⟨hs,hc,rfl⟩:=ze hg;exact key _ xs.length rfl (by simp [denR]) (eq_of_beq_eq_true hs) hc
    ·rename_i m t xs _ _;obtain ⟨hs,hc,rfl⟩:=ze hg;exact key _ xs.length rfl (by simp [denR]) (eq_of_beq_eq_true hs) hc
   ·rename_i k p off len hx;obtain ⟨r',hr,hg⟩:=z4c hg;obtain ⟨hs,hc,rfl⟩:=ze hg;refine fin ?_;simp only [rdop,za,hx,hi,den];rw [if_pos hc,hr];simp [eq_of_beq_eq_true hs]
   ·rename_i k cs hx;obtain ⟨hs,hc,rfl⟩:=ze hg;refine fin ?_;simp only [rdop,za,hx,hi,den,denP];rw [if_pos ⟨eq_of_beq_eq_true hs,hc⟩]
   ·exact hg.elim
 | load agg n x =>
  simp only [rdT] at hg;split at hg
  ·rename_i k p i c hx;obtain ⟨r',hr,hg⟩:=z4c hg;refine fin ?_;simp only [rdop,za,hx,den,hr];split at hg
   ·rename_i s xs;split at hg
    ·rename_i cs hcs;exact zc0 (T:=T) hr (by simp [denR,hcs]) hg
    ·exact hg.elim
   ·rename_i m t xs;obtain ⟨y,hy,hg⟩:=hg;exact zc0 (T:=T) hr (by simp [denR,hy,T.ct_ok]) hg
   ·rename_i m t xs j cs;obtain ⟨⟨rfl,hj⟩,hg⟩:=hg;exact zc0 (T:=T) hr (by simp only [denR];rw [getElem?_set_self (by simpa using hj)]) hg
  ·rename_i s cs c hx;obtain ⟨hi,hg⟩:=ze hg;split at hg
   ·rename_i ds hd;obtain ⟨hid,hg⟩:=ze hg;obtain ⟨q1,q2⟩:=z9z (h:=[]) hd;refine fin ?_;simp only [rdop,za,hx,den,z47,getElem?_cons_zero];rw [if_pos q1,q2];have:=z65 (h:=denH T.tq h) hg
    rwa [zhn (denH T.tq h) [] ds hid] at this
   ·exact hg.elim
  ·rename_i b x' c hx;obtain ⟨hl,hg⟩:=ze hg;refine fin ?_;simp only [rdop,za,hx,den,denP];rw [if_pos (le_of_ble_eq_true hl)];have:=z65 (h:=denH T.tq h) hg;rw [<- this,zh,map_map];rfl
  ·rename_i k cs i hx;obtain ⟨hb,c,hc,hg⟩:=ze hg;cases hg;simp only [and_eq_true,not_eq_true'] at hb;refine fin ?_;simp only [rdop,za,hx,den,denP,hc];rw [if_pos ⟨eq_of_beq_eq_true hb.1,hb.2⟩]
  ·rename_i k c hx;obtain ⟨hb,hg⟩:=ze hg;simp only [and_eq_true,not_eq_true'] at hb;obtain ⟨hn,hag⟩:=hb;have hn:=eq_of_beq_eq_true hn;subst hn hag;split at hg
   ·rename_i s cs xs hr;obtain ⟨_,hg⟩:=ze hg;obtain ⟨hsm,hg⟩:=ze hg;have hsm:=le_of_ble_eq_true hsm;split at hg
    ·rename_i l hl;obtain ⟨y,hy,hg⟩:=hg;cases hg;obtain ⟨v0,hv,hd⟩:=zf7 (H0:=[]) cs l c y hl hy;have hres:res (denH T.tq h) k []=some (s,(cs::xs).map (denL T.tq [])):=zat (by unfold resA;rw [z1a,hr];rfl) hsm;obtain ⟨hlt,hget⟩:=List.getElem?_eq_some_iff.1 hv;have hlen:c+1<=(denL T.tq [] cs).length:=by rw [z1c];omega
     have hcell:((denL T.tq [] cs).drop c).take 1=[AV.sc (.int .i64 y)]:=by
      have:(denL T.tq [] cs)[c]?=some (.sc (.int .i64 y)):=by rw [z25,hv];simp [hd]
      obtain ⟨h1,h2⟩:=List.getElem?_eq_some_iff.1 this;rw [List.drop_eq_getElem_cons h1,h2];rfl
     refine fin ?_;simp only [rdop,za,hx,den,denP,hres,z47,map_cons,getElem?_cons_zero];rw [if_pos hlen,hcell];rfl
    ·exact hg.elim
   ·exact hg.elim
  ·exact hg.elim
 | fld agg off n x =>
  simp only [rdT] at hg;split at hg
  ·rename_i cs hx;split at hg
   ·rename_i ds hd;obtain ⟨q1,q2⟩:=z9z (h:=denH T.tq h) hd;refine fin ?_;simp only [rdop,za,hx,den];rw [if_pos q1,q2];exact z65 hg
   ·exact hg.elim
  ·exact hg.elim
 | aad len n x i =>
  simp only [rdT] at hg;split at hg
  ·rename_i k p o c m hx hm;obtain ⟨kk,hi⟩:=z5i (h:=denH T.tq h) hm
   have nth:∀ (j:Nat),m=(j:Int)->m<len->v = .pt k p o (c+j * n)->∃ av,rdop (ev (denE T.tq (denH T.tq h) e)) (res (denH T.tq h)) (.aad len n x i)=some av/\AVle av (den T.tq (denH T.tq h) v):=by clear hg;intro j hj hlt hg;subst hj hg;refine fin ?_;simp only [rdop,za,hx,hi,den];rw [if_pos ⟨by omega,hlt⟩];simp only [Int.toNat_natCast]
   cases hk:z3f (evT e i) with
   | true =>rw [hk] at hg;obtain ⟨hc,hg⟩:=z9n hg;exact nth m.toNat (by omega) (by omega) hg
   | false =>rw [hk] at hg;obtain ⟨j,_,q2,q3,q4⟩:=zb6 _ _ hg;exact nth j q3 (by omega) q4
  ·exact hg.elim
 | ida agg len n x i =>
  simp only [rdT] at hg;split at hg
  ·rename_i cs m hx hm;obtain ⟨kk,hi⟩:=z5i (h:=denH T.tq h) hm
   have nth:∀ (j:Nat),m=(j:Int)->m<len->(nthT agg n cs j).gives v->∃ av,rdop (ev (denE T.tq (denH T.tq h) e)) (res (denH T.tq h)) (.ida agg len n x i)=some av/\AVle av (den T.tq (denH T.tq h) v):=by
    clear hg;intro j hj hlt hg;subst hj;unfold nthT at hg;split at hg
    ·rename_i ds hd;obtain ⟨q1,q2⟩:=z9z (h:=denH T.tq h) hd;refine fin ?_;simp only [rdop,za,hx,hi,den];rw [if_pos ⟨by omega,hlt,by simpa using q1⟩];simp only [Int.toNat_natCast,q2];exact z65 hg
    ·exact hg.elim
   unfold idaT at hg;cases hk:z3f (evT e i) with
   | true =>rw [hk] at hg;obtain ⟨hc,hg⟩:=z9n hg;exact nth m.toNat (by omega) (by omega) hg
   | false =>
    rw [hk] at hg;simp only [cond_false] at hg;split at hg
    ·rename_i k ns hns;obtain ⟨hl,y,hy,rfl⟩:=ze hg;have hl:=eq_of_beq_eq_true hl;obtain ⟨h0,h1,h2⟩:=zbt hy;refine fin ?_;have hcs:=zj7 (h:=denH T.tq h) cs k ns hns;simp only [rdop,za,hx,hi,den,hcs,Nat.mul_one,length_map];rw [if_pos ⟨h0,by omega,by omega⟩]
     have:(((ns.map λn=>AV.sc (.int k n)).drop m.toNat).take 1)=[.sc (.int k y)]:=by rw [List.take_one];simp [List.head?_drop,h2]
     rw [this];rfl
    ·split at hg
     ·rename_i k l hl0;obtain ⟨hl,y,hy,rfl⟩:=ze hg;have hl:=eq_of_beq_eq_true hl;obtain ⟨h0,h1,h2⟩:=zbt hy;refine fin ?_;have hcs:=zmb (h:=denH T.tq h) cs k l hl0;simp only [rdop,za,hx,hi,den,denP,hcs,Nat.mul_one,length_map];rw [if_pos ⟨h0,by omega,by omega⟩]
      have:(((l.map λc=>AV.pt k [] 0 c).drop m.toNat).take 1)=[.pt k [] 0 y]:=by rw [List.take_one];simp [List.head?_drop,h2]
      rw [this];rfl
     ·obtain ⟨j,_,q2,q3,q4⟩:=zb6 _ _ hg;exact nth j q3 (by omega) q4
    ·obtain ⟨j,_,q2,q3,q4⟩:=zb6 _ _ hg;exact nth j q3 (by omega) q4
  ·exact hg.elim
 | ids x i =>
  simp only [rdT] at hg;split at hg
  ·rename_i s m hx hm;obtain ⟨kk,hi⟩:=z5i (h:=denH T.tq h) hm;obtain ⟨hc,rfl⟩:=hg;exact fin (by simp only [rdop,za,hx,hi,den,z8];rw [if_pos hc])
  ·exact hg.elim
 | len x =>
  simp only [rdT] at hg;split at hg
  ·rename_i k p off len hx;cases hg;exact fin (by simp only [rdop,za,hx,den])
  ·rename_i k p hx;obtain ⟨r',hr,hg⟩:=z4c hg;have hl:zc (denH T.tq h) k p=(denR T.tq r').xs.length:=z4i hr;split at hg<;>(cases hg;exact fin (by simp [rdop,za,hx,den,hr,hl,denR]))
  ·rename_i t xs hx;cases hg;exact fin (by simp [rdop,za,hx,den])
  ·rename_i k cs hx;cases hg;exact fin (by simp [rdop,za,hx,den,denP])
  ·rename_i hx;cases hg;exact fin (by simp only [rdop,za,hx,den])
  ·exact hg.elim
 | lens x =>
  simp only [rdT] at hg;split at hg
  ·rename_i s hx;cases hg;exact fin (by simp only [rdop,za,hx,den])
  ·exact hg.elim
 | b2s x =>
  simp only [rdT] at hg;split at hg
  ·rename_i t xs hx;split at hg
   ·rename_i hh;subst hh;cases hg;exact fin (by simp only [rdop,za,hx,den,T.bs_sz,if_true,T.sb_ok,za3])
   ·exact hg.elim
  ·rename_i hx;cases hg;exact fin (by simp only [rdop,za,hx,den])
  ·rename_i k p hx;obtain ⟨r',hr,hg⟩:=z4c hg;have hl:zc (denH T.tq h) k p=(denR T.tq r').xs.length:=z4i hr;split at hg
   ·rename_i m t xs;split at hg
    ·rename_i hh;subst hh;cases hg;refine fin ?_;simp only [rdop,za,hx,den,hr,hl];rw [if_pos ⟨by simp only [denR,T.bs_sz],by omega⟩,drop_zero,take_of_length_le (Nat.le_refl _)];simp only [denR,T.sb_ok,za3]
    ·exact hg.elim
   ·rename_i s xs;cases hb:Nat.beq s 1 with
    | false=>rw [hb] at hg;exact hg.elim
    | true =>
     rw [hb,cond_true] at hg;split at hg
     ·rename_i ns hns;cases hg;refine fin ?_;simp only [rdop,za,hx,den,hr,hl];rw [if_pos ⟨by simp only [denR];exact eq_of_beq_eq_true hb,by omega⟩,drop_zero,take_of_length_le (Nat.le_refl _)];simp only [denR,zqj _ _ hns]
     ·exact hg.elim
   ·exact hg.elim
  ·exact hg.elim
 | ext n x =>
  simp only [rdT] at hg;split at hg
  ·rename_i vs hx;split at hg
   ·rename_i a ha;exact fin (by simp only [rdop,za,hx,den,z25,ha,map_some];exact zao hg)
   ·exact hg.elim
  ·exact hg.elim
 | nchk x =>
  simp only [rdT] at hg;split at hg
  all_goals first
   | (rename_i hx;cases hg;exact fin (by simp only [rdop,za,hx,den,denP]))
   | exact hg.elim
 | slc s x lo hi =>
  simp only [rdT] at hg;split at hg
  ·rename_i a b ha hb
   have slice:∀ (k:Nat) (p:Path) (off len:Nat) (r':TR T.El) (v1:VT T),den T.tq (denH T.tq h) (evT e x) = .sl k p off len->res (denH T.tq h) k p=some ((denR T.tq r').s,(denR T.tq r').xs)->(denR T.tq r').s=s ->
     (cutT len a b (λa b=>.ok (.sl k p (off+a) (b - a))) (.ok v1)).gives v->den T.tq (denH T.tq h) v1 = .sl k p off len->∃ av,rdop (ev (denE T.tq (denH T.tq h) e)) (res (denH T.tq h)) (.slc s x lo hi)=some av/\AVle av (den T.tq (denH T.tq h) v):=by
    intro k p off len r' v1 hx hr hs hg h1;obtain ⟨l,m,q1,q2,q3,q4⟩:=zdt (h:=denH T.tq h) ha hb hg
    have:rdop (ev (denE T.tq (denH T.tq h) e)) (res (denH T.tq h)) (.slc s x lo hi)=some (.sl k p (off+l) (m - l)):=by simp only [rdop,za,hx,hr,hs,if_true,q1]
    rcases q4 with hv | ⟨rfl,rfl,hv⟩
    ·cases hv;exact ⟨_,this,AVle.refl _⟩
    ·cases hv;exact ⟨_,this,by rw [h1,Nat.add_zero,Nat.sub_zero];exact AVle.refl _⟩
   split at hg
   ·rename_i k p off len hx;obtain ⟨r',hr,hg⟩:=z4c hg;obtain ⟨hs,hg⟩:=ze hg;exact slice k p off len r' (.sl k p off len) (by rw [hx];rfl) hr (eq_of_beq_eq_true hs) hg rfl
   ·rename_i k p hx;obtain ⟨r',hr,hg⟩:=z4c hg;have hl:zc (denH T.tq h) k p=(denR T.tq r').xs.length:=z4i hr
    have cut0:∀ {len:Nat} {w:RT T},(cutT len a b (λa b=>.ok (.sl k p a (b - a))) w).gives v->(cutT len a b (λa b=>.ok (.sl k p (0+a) (b - a))) w).gives v:=λhg=>by simpa only [Nat.zero_add] using hg
    split at hg
    all_goals
     obtain ⟨hs,hg⟩:=ze hg;exact slice k p 0 _ _ (.sw k p) (by rw [hx];simp only [den,hl];rfl) hr (eq_of_beq_eq_true hs) (by simpa [denR] using cut0 hg) (by simp only [den,hl])
   ·rename_i t xs hx;obtain ⟨hs,hg⟩:=ze hg;obtain ⟨l,m,q1,q2,q3,q4⟩:=zdt (h:=denH T.tq h) ha hb hg
    have:rdop (ev (denE T.tq (denH T.tq h) e)) (res (denH T.tq h)) (.slc s x lo hi)=some (.im s (((xs.map (T.ca false t)).take m).drop l)):=by simp only [rdop,za,hx,den,eq_of_beq_eq_true hs,if_true,length_map,q1]
    refine ⟨_,this,?_⟩;rcases q4 with hv | ⟨rfl,rfl,hv⟩
    ·cases hv;simp only [den,y00,eq_of_beq_eq_true hs];exact AVle.refl _
    ·cases hv;simp only [den,eq_of_beq_eq_true hs,drop_zero];rw [take_of_length_le (by simp)];exact AVle.refl _
   ·rename_i hx;obtain ⟨l,m,q1,q2,q3,q4⟩:=zdt (h:=denH T.tq h) ha hb hg
    have:v = .zs:=by rcases q4 with hv | ⟨_,_,hv⟩<;>exact hv
    subst this;exact fin (by simp only [rdop,za,hx,den,q1])
   ·exact hg.elim
  ·exact hg.elim
 | slc0 x =>
  simp only [rdT] at hg;split at hg
  all_goals first
   | (rename_i hx;cases hg;exact fin (by simp only [rdop,za,hx,den]))
   | exact hg.elim
 | sls x lo hi =>
  simp only [rdT] at hg;split at hg
  ·rename_i a b s ha hb hx;obtain ⟨l,m,q1,q2,q3,q4⟩:=zdt (h:=denH T.tq h) ha hb hg
   have:rdop (ev (denE T.tq (denH T.tq h) e)) (res (denH T.tq h)) (.sls x lo hi)=some (.sc (.string (s.extract l m))):=by simp only [rdop,za,hx,den,q1]
   refine ⟨_,this,?_⟩;rcases q4 with hv | ⟨rfl,rfl,hv⟩
   ·cases hv;exact AVle.refl _
   ·cases hv;have:s.extract 0 s.size=s:=by simp
    rw [this];exact AVle.refl _
  ·exact hg.elim
 | build zero parts =>
  simp only [rdT] at hg;split at hg
  ·rename_i cs hcs;cases hg;have:=zbi (h:=denH T.tq h) _ _ _ hcs;rw [z4f,map_map] at this;refine fin ?_;simp only [rdop,den]
   have e1:(parts.map λ(o,n,x)=>(o,n,ev (denE T.tq (denH T.tq h) e) x))=parts.map ((λ(o,n,x)=>(o,n,den T.tq (denH T.tq h) x)) ∘ λ(o,n,x)=>(o,n,evT e x)) :=
    map_congr_left λ⟨o,n,x⟩ _=>by simp only [Function.comp,za]
   rw [e1,this]
  ·exact hg.elim
 | mkf f caps =>
  simp only [rdT] at hg;obtain ⟨hc,hg⟩:=ze hg;cases hg;refine fin ?_;simp only [rdop,den];rw [if_pos,zh,map_map]
  ·congr 2;exact map_congr_left λx _=>za x
  ·rw [all_eq_true] at hc ⊢;intro x hx;have:=hc x hx;rw [za];cases hv:evT e x<;>rw [hv] at this<;>first | (rename_i q;cases q<;>rfl) | simp_all [den,nn]
 | mm isMax x y =>
  simp only [rdT] at hg;split at hg
  ·rename_i k a k' b ha hb;obtain ⟨hk,hg⟩:=z9n hg;exact sc (by simp only [rdop,za,z1z ha,z1z hb];rw [if_pos hk]) (z6p _ hg)
  ·exact hg.elim
 | lku nv ks agg ok zero x key =>
  simp only [rdT] at hg;split at hg
  ·rename_i k p kv hx hk;obtain ⟨k1,k2⟩:=zqg (h:=denH T.tq h) hk;obtain ⟨r,hr,hg⟩:=y61 hg;split at hg
   ·rename_i m t xs;obtain ⟨hc,hg⟩:=ze hg;simp only [and_eq_true] at hc;obtain ⟨c1,c2,c3⟩:=hc;have c1:=eq_of_beq_eq_true c1;have c2:=zdw _ _ c2;have hf:∀ x,zt (kv.map .sc) (T.ca m t x) (z1v 0 ks)=some (T.kf t kv x):=λx=>by rw [<- c2];exact T.kf_ok m t kv x c3
    have e0:rdop (ev (denE T.tq (denH T.tq h) e)) (res (denH T.tq h)) (.lku nv ks agg ok zero x key)=match (match z22 (T.kf t kv) xs with | some (j,x)=>some (j,T.ca m t x) | none=>none) with
      | some (i,c)=>lkuV agg ok true (z6e k p i ks.length (c.drop ks.length))
      | none=>lkuV agg ok false (zero.map cval):=by
     simp only [rdop,lkuA,za,hx,den,denP,k1];rw [show (res (denH T.tq h)).m k p=resM (denH T.tq h) k p from rfl,hr];simp only [denR,c1,length_map,k2,and_self,if_true];rw [za6 hf xs 0];simp only [Nat.zero_add];cases z22 (T.kf t kv) xs<;>rfl
    rw [e0];unfold lkuT at hg;cases hm:(T.ks m t).any owK with
    | true =>
     rw [hm] at hg;rcases hg with ⟨h1,h2⟩ | ⟨h1,h2⟩
     ·obtain ⟨⟨j,y⟩,hj,hg⟩:=h2;rw [hj];simp only;have hy:=(z9i _ xs j y hj).1;refine ze6 (bv:=.bk true) rfl ?_ hg;rw [<- T.ct_ok,zh [],<- map_drop,<- zh];have hx0:(denR T.tq (.typ m t xs)).xs[j]?=some (denL T.tq [] (T.ct m t y)):=by simp only [denR,getElem?_map,hy,map_some,T.ct_ok]
      rw [zcc (zyd hr).1 hx0 _ _ (z9m _ _ (T.ct_in m t y)) (λj' a ha=>by rw [getElem?_drop] at ha;rw [z25,ha];rfl)]
      exact z1s.refl _
     ·rw [zd0] at h1;cases hj:z22 (T.kf t kv) xs with
      | some _=>rw [hj] at h1;cases h1
      | none =>simp only;refine ze6 (cs:=z3b zero) (bv:=.bk false) rfl ?_ h2;rw [z4f];exact z1s.refl _
    | false =>
     rw [hm] at hg;simp only [cond_false] at hg;split at hg
     ·rename_i z hz;obtain ⟨hno,hg⟩:=ze hg;rw [zgf] at hno hg;rw [zd0] at hg;cases hj:z22 (T.kf t kv) xs with
      | some jy =>obtain ⟨j,y⟩:=jy;rw [hj] at hg hno;simp only [map_some,getD_some,Option.isSome_some] at hg hno ⊢;have hin:=T.ct_in m t y;refine ze6 (bv:=.sc (.bool true)) (h:=denH T.tq h) rfl ?_ hg;rw [<- T.ct_ok,zh [],<- map_drop,<- zh];rw [zgz (H0:=denH T.tq h) _ _ (zje _ _ hno) (z9m _ _ hin)];exact z1s.refl _
      | none =>
       rw [hj] at hg hno;simp only [map_none,getD_none,Option.isSome_none] at hg hno ⊢;refine ze6 (bv:=.sc (.bool false)) (h:=denH T.tq h) rfl ?_ hg;have hu:=T.un_ok m t _ z hz;have hin:=z9m _ ks.length (T.ct_in m t z);rw [zhn (denH T.tq h) [] _ hin]
       have e1:denL T.tq [] ((T.ct m t z).drop ks.length)=denL T.tq [] (z60 ((T.ks m t).drop ks.length) (z3b zero)):=by rw [zh,map_drop,<- zh,T.ct_ok,<- hu,zh,map_append,List.drop_left' (by rw [length_map,length_map];exact k2),<- zh]
       rw [e1,<- z4f (T:=T) []];exact zj0 _ _ _
     ·exact hg.elim
   ·exact hg.elim
  ·exact hg.elim
 | mkm _=>exact hg.elim
 | box _ _=>exact hg.elim
 | bsl _ _ _ _=>exact hg.elim
 | mks _ _ _ _=>exact hg.elim
 | app _ _ _ _=>exact hg.elim
 | store _ _ _=>exact hg.elim
 | call _ _=>exact hg.elim
 | callv _ _=>exact hg.elim
end
section
variable {T:TT}
theorem zz {h h':H} {k:Nat} {p:Path} (hg:z5 h' k=z5 h k):zc h' k p=zc h k p:=by unfold zc resA;rw [hg]
mutual
theorem z5o {H0 H1:H} {b1 bad bw:Nat->Path->Bool} (hb:∀ k p,b1 k p=true->bad k p=true) (hl:∀ k p,bad k p=false->bw k p=false->zc H1 k p=zc H0 k p):∀ (v:VT T),AVle (kill b1 (den T.tq H0 v)) (den T.tq H1 (z1u bad bw v))
 | .un | .sc _ | .ik _ _ | .bk _ | .zs | .im _ _ | .ip _ _ _ | .ow _ _ _ | .oo _ _ _ _ _=>AVle.refl _
 | .pp q=>by
  simp only [den,z1u];rw [zbx];cases q with
  | xp b x c=>exact AVle.refl _
  | fs k cs =>
   simp only [denP,kill,z2m];cases h1:bad k [] with
   | true=>exact AVle.un _
   | false =>
    have:b1 k []=false:=by cases h2:b1 k [] with | false=>rfl | true=>rw [hb k [] h2] at h1;cases h1
    rw [this];exact AVle.refl _
  | fp k cs i =>
   simp only [denP,kill,z2m];cases h1:bad k [] with
   | true=>exact AVle.un _
   | false =>
    have:b1 k []=false:=by cases h2:b1 k [] with | false=>rfl | true=>rw [hb k [] h2] at h1;cases h1
    rw [this];exact AVle.refl _
  | px k c =>
   simp only [denP,kill];cases h1:bad k [] with
   | true=>exact AVle.un _
   | false =>
    have:b1 k []=false:=by cases h2:b1 k [] with | false=>rfl | true=>rw [hb k [] h2] at h1;cases h1
    rw [this];exact AVle.refl _
  | mr k p =>
   simp only [denP,kill,z2m];cases h1:bad k p with
   | true=>exact AVle.un _
   | false =>
    have:b1 k p=false:=by cases h2:b1 k p with | false=>rfl | true=>rw [hb k p h2] at h1;cases h1
    rw [this];exact AVle.refl _
 | .ag cs=>by simp only [den,kill,z1u];exact AVle.ag (zbz hb hl cs).C
 | .tu cs=>by simp only [den,kill,z1u];exact AVle.tu (zbz hb hl cs).L
 | .fn f cs=>by simp only [den,kill,z1u];exact AVle.fn (zbz hb hl cs).L
 | .sl k p off len=>by
  simp only [den,kill,z1u];cases h1:bad k p with
  | true=>simp only [cond_true,den];exact AVle.un _
  | false =>
   have:b1 k p=false:=by cases h2:b1 k p with | false=>rfl | true=>rw [hb k p h2] at h1;cases h1
   simp only [this,false_eq_true,if_false,cond_false,den];exact AVle.refl _
 | .pt k p i c=>by
  simp only [den,kill,z1u];cases h1:bad k p with
  | true=>simp only [cond_true,den];exact AVle.un _
  | false =>
   have:b1 k p=false:=by cases h2:b1 k p with | false=>rfl | true=>rw [hb k p h2] at h1;cases h1
   simp only [this,false_eq_true,if_false,cond_false,den];exact AVle.refl _
 | .sw k p=>by
  simp only [den,kill,z1u];cases h1:bad k p with
  | true=>simp only [Bool.true_or,cond_true,den];exact AVle.un _
  | false =>
   have:b1 k p=false:=by cases h2:b1 k p with | false=>rfl | true=>rw [hb k p h2] at h1;cases h1
   simp only [this,false_eq_true,if_false,Bool.false_or];cases h3:bw k p with
   | true=>simp only [cond_true,den];exact AVle.un _
   | false=>simp only [cond_false,den,hl k p h1 h3];exact AVle.refl _
theorem zbz {H0 H1:H} {b1 bad bw:Nat->Path->Bool} (hb:∀ k p,b1 k p=true->bad k p=true) (hl:∀ k p,bad k p=false->bw k p=false->zc H1 k p=zc H0 k p):∀ (l:List (VT T)),z1s (z24 b1 (denL T.tq H0 l)) (denL T.tq H1 (z63 bad bw l))
 | []=>.nil
 | x::l=>.cons (z5o hb hl x) (zbz hb hl l)
end
theorem zh0 (a:AV):kill (λ_ _=>false) a=a:=by
 have key:(∀ a:AV,kill (λ_ _=>false) a=a)/\(∀ l:List AV,z24 (λ_ _=>false) l=l):=by
  constructor
  ·intro a
   induction a using AV.rec (motive_2:=λl=>z24 (λ_ _=>false) l=l) (motive_3:=λ_=>True) with
   | un | sc _ | zs | im _ _ _ | ip _ _ _ _ _ | ow _ _ _=>rfl
   | ag cs ih=>simp only [kill,ih]
   | tu cs ih=>simp only [kill,ih]
   | sl k p off len=>simp [kill]
   | pt k p i c=>simp [kill]
   | pp q=>cases q<;>simp [kill,z2m]
   | fn f cs ih=>simp only [kill,ih]
   | nil=>rfl
   | cons a l h1 h2=>simp only [z24,h1,h2]
   | _=>trivial
  ·intro l
   induction l with
   | nil=>rfl
   | cons x l ih =>
    simp only [z24,ih];congr 1
    induction x using AV.rec (motive_2:=λl=>z24 (λ_ _=>false) l=l) (motive_3:=λ_=>True) with
    | un | sc _ | zs | im _ _ _ | ip _ _ _ _ _ | ow _ _ _=>rfl
    | ag cs ih=>simp only [kill,ih]
    | tu cs ih=>simp only [kill,ih]
    | sl k p off len=>simp [kill]
    | pt k p i c=>simp [kill]
    | pp q=>cases q<;>simp [kill,z2m]
    | fn f cs ih=>simp only [kill,ih]
    | nil=>rfl
    | cons a l h1 h2=>simp only [z24,h1,h2]
    | _=>trivial
 exact key.1 a
structure StT (T:TT) where
 v:VT T
 bad:Nat->Path->Bool
 bw:Nat->Path->Bool
 tch:List Nat
 h:TH T.tq
def StOk (P:Program) (pro:List Nat) (T:TT) (e:TE T.tq) (h:TH T.tq) (x:Ins) (s:StT T):Prop :=
 (∀ (e':Env),(∀ t∈z2s x,e' t=denE T.tq (denH T.tq h) e t)->∃ e0 h0' e1 h1',z6 P pro e' (denH T.tq h) e0 h0'/\(∀ t b,e' t=Bl b->e0 t=Bl b)/\z1t P pro e0 h0' x.dst x.op e1 h1'/\z6 P pro e1 h1' (upd (λt=>kill s.bad (e' t)) x.dst (den T.tq (denH T.tq s.h) s.v)) (denH T.tq s.h)) /\
 (∀ k p,s.bad k p=false->s.bw k p=false->zc (denH T.tq s.h) k p=zc (denH T.tq h) k p) /\
 (∀ k,s.tch.contains k=false->z5 (denH T.tq s.h) k=z5 (denH T.tq h) k)
def StT.env (s:StT T) (e:TE T.tq) (d:Nat):TE T.tq:=putE (z4h s.bad s.bw e) d s.v
theorem StT.env_ghost {P:Program} {pro:List Nat} {e:TE T.tq} {h:TH T.tq} {d:Nat} {s:StT T} (hl:∀ k p,s.bad k p=false->s.bw k p=false->zc (denH T.tq s.h) k p=zc (denH T.tq h) k p) :
  z6 P pro (upd (λt=>kill s.bad (denE T.tq (denH T.tq h) e t)) d (den T.tq (denH T.tq s.h) s.v)) (denH T.tq s.h) (denE T.tq (denH T.tq s.h) (s.env e d)) (denH T.tq s.h):=by
 refine z6.le λt=>?_;rw [StT.env,zy];refine AVle.upd (λt=>?_) (AVle.refl _) t;simp only [denE,z2c];exact z5o (λ_ _ h=>h) hl _
theorem zw {k k':Nat} (hk:k'≠k):∀ (h:H),z5 (z7 h k) k'=z5 h k'
 | []=>rfl
 | (k1,r)::h=>by
  simp only [z7,z5];by_cases e:k1=k
  ·subst e;simp only [if_true];rw [if_neg (λe=>hk e.symm)]
  ·rw [if_neg e];simp only [z5,zw hk h]
def absT (h:TH T.tq) (g:List Nat):VT T->Option (VT T×List Nat×TH T.tq)
 | .sc u=>bif u.oneCell' then some (.sc u,g,h) else none
 | .ik k n=>some (.sc (.int k n),g,h)
 | .bk b=>some (.sc (.bool b),g,h)
 | .zs=>some (.zs,g,h)
 | .im t xs=>some (.im t xs,g,h)
 | .pp (.xp b x c)=>some (.sc (.pointer (some ⟨b,c,none⟩)),g,h)
 | .sw k []=>bif g.contains k then none else
  match getT h k with
  | some (.typ m t xs)=>some (.ow m t xs,k::g,delT h k)
  | some (.opn m t xs i cs)=>some (.oo m t xs i cs,k::g,delT h k)
  | _=>none
 | .pp (.mr k [])=>bif g.contains k then none else
  match getT h k with
  | some (.typ m t xs)=>bif Nat.ble 1000000 (T.sz t) then some (.ow m t xs,k::g,delT h k) else none
  | some (.opn m t xs i cs)=>bif Nat.ble 1000000 (T.sz t) then some (.oo m t xs i cs,k::g,delT h k) else none
  | _=>none
 | _=>none
def zdp (h:TH T.tq) (g:List Nat):List (VT T)->Option (List (VT T)×List Nat×TH T.tq)
 | []=>some ([],g,h)
 | v::l =>
  match absT h g v with
  | some (v',g1,h1)=>match zdp h1 g1 l with
   | some (l',g2,h2)=>some (v'::l',g2,h2)
   | none=>none
  | none=>none
def zb2 (h:TH T.tq) (g:List Nat):List (List (VT T))->Option (List (List (VT T))×List Nat×TH T.tq)
 | []=>some ([],g,h)
 | v::l =>
  match zdp h g v with
  | some (v',g1,h1)=>match zb2 h1 g1 l with
   | some (l',g2,h2)=>some (v'::l',g2,h2)
   | none=>none
  | none=>none
structure Gone (H0:H) (h:TH T.tq) (g g':List Nat) (h':TH T.tq):Prop where
 sub:∀ k,g.contains k=true->g'.contains k=true
 same:∀ k,g'.contains k=false->z5 (denH T.tq h') k=z5 H0 k
theorem y3w {H0:H} {h h':TH T.tq} {g g':List Nat} {v v':VT T} (hs:∀ k,g.contains k=false->z5 (denH T.tq h) k=z5 H0 k) (ha:absT h g v=some (v',g',h')) :
  absC (denH T.tq h) (den T.tq H0 v)=some (den T.tq [] v',denH T.tq h')/\Gone (T:=T) H0 h g g' h':=by
 have triv:Gone (T:=T) H0 h g g h:=⟨λ_ h=>h,hs⟩
 unfold absT at ha;split at ha
 ·rename_i u;cases hu:u.oneCell' with
  | false=>rw [hu] at ha;cases ha
  | true=>rw [hu] at ha;cases ha;exact ⟨by simp [den,absC,hu],triv⟩
 ·cases ha;exact ⟨by simp [den,absC,Value.oneCell'],triv⟩
 ·cases ha;exact ⟨by simp [den,absC,Value.oneCell'],triv⟩
 ·cases ha;exact ⟨by simp [den,absC],triv⟩
 ·cases ha;exact ⟨by simp [den,absC],triv⟩
 ·cases ha;exact ⟨by simp [den,denP,absC],triv⟩
 ·rename_i k;cases hc:g.contains k with
  | true=>rw [hc] at ha;cases ha
  | false =>
   rw [hc] at ha;simp only [cond_false] at ha
   have row:∀ (r:TR T.El) (w:VT T),getT h k=some r->den T.tq [] w = .ow (denR T.tq r).s (denR T.tq r).xs->absC (denH T.tq h) (den T.tq H0 (.sw k []))=some (den T.tq [] w,denH T.tq (delT h k))/\Gone (T:=T) H0 h g (k::g) (delT h k):=by
    intro r w hr hw;have h1:z5 (denH T.tq h) k=some (denR T.tq r):=by rw [z1a,hr];rfl
    have h2:zc H0 k []=(denR T.tq r).xs.length:=by unfold zc resA;rw [<- hs k hc,h1];rfl
    refine ⟨?_,?_,λk' hk'=>?_⟩
    ·simp only [den,absC,h1,h2];rw [if_pos ⟨trivial,trivial⟩,if_pos (Nat.le_refl _),take_length,zo,hw]
    ·intro k' hk';simp [hk'];exact .inr (by simpa using hk')
    ·simp only [contains_cons,or_eq_false_iff,beq_eq_false_iff_ne] at hk';rw [<- zo,zw hk'.1,hs k' hk'.2]
   split at ha
   ·rename_i m t xs hr;cases ha;exact row _ _ hr rfl
   ·rename_i m t xs i cs hr;cases ha;exact row _ _ hr rfl
   ·cases ha
 ·rename_i k;cases hc:g.contains k with
  | true=>rw [hc] at ha;cases ha
  | false =>
   rw [hc] at ha;simp only [cond_false] at ha
   have row:∀ (r:TR T.El) (w:VT T),getT h k=some r->MB<=(denR T.tq r).s->den T.tq [] w = .ow (denR T.tq r).s (denR T.tq r).xs->absC (denH T.tq h) (den T.tq H0 (.pp (.mr k [])))=some (den T.tq [] w,denH T.tq (delT h k))/\Gone (T:=T) H0 h g (k::g) (delT h k):=by
    intro r w hr hbig hw;have h1:z5 (denH T.tq h) k=some (denR T.tq r):=by rw [z1a,hr];rfl
    refine ⟨?_,?_,λk' hk'=>?_⟩
    ·simp only [den,denP,absC,h1];rw [if_pos hbig,zo,hw]
    ·intro k' hk';simp [hk'];exact .inr (by simpa using hk')
    ·simp only [contains_cons,or_eq_false_iff,beq_eq_false_iff_ne] at hk';rw [<- zo,zw hk'.1,hs k' hk'.2]
   split at ha
   ·rename_i m t xs hr;cases hb:Nat.ble 1000000 (T.sz t) with
    | false=>rw [hb] at ha;cases ha
    | true =>rw [hb] at ha;cases ha;exact row _ _ hr (le_of_ble_eq_true hb) rfl
   ·rename_i m t xs i cs hr;cases hb:Nat.ble 1000000 (T.sz t) with
    | false=>rw [hb] at ha;cases ha
    | true =>rw [hb] at ha;cases ha;exact row _ _ hr (le_of_ble_eq_true hb) rfl
   ·cases ha
 ·cases ha
theorem zb3 {H0:H}:∀ (l l':List (VT T)) (h h':TH T.tq) (g g':List Nat),(∀ k,g.contains k=false->z5 (denH T.tq h) k=z5 H0 k)->zdp h g l=some (l',g',h') ->
  absL (denH T.tq h) (denL T.tq H0 l)=some (denL T.tq [] l',denH T.tq h')/\Gone (T:=T) H0 h g g' h'
 | [],_,h,_,g,_,hs,ha=>by cases ha;exact ⟨rfl,λ_ h=>h,hs⟩
 | v::l,_,h,_,g,_,hs,ha=>by
  unfold zdp at ha;split at ha
  ·rename_i v' g1 h1 hv;split at ha
   ·rename_i l' g2 h2 hl;cases ha;obtain ⟨q1,q2⟩:=y3w hs hv;obtain ⟨q3,q4⟩:=zb3 l l' h1 _ g1 _ q2.same hl;exact ⟨by simp only [denL,absL,q1,q3],λk hk=>q4.sub k (q2.sub k hk),q4.same⟩
   ·cases ha
  ·cases ha
theorem z8h {H0:H}:∀ (l l':List (List (VT T))) (h h':TH T.tq) (g g':List Nat),(∀ k,g.contains k=false->z5 (denH T.tq h) k=z5 H0 k)->zb2 h g l=some (l',g',h') ->
  absE (denH T.tq h) (l.map (denL T.tq H0))=some (l'.map (denL T.tq []),denH T.tq h')/\Gone (T:=T) H0 h g g' h'/\l'.length=l.length
 | [],_,h,_,g,_,hs,ha=>by cases ha;exact ⟨rfl,⟨λ_ h=>h,hs⟩,rfl⟩
 | v::l,_,h,_,g,_,hs,ha=>by
  unfold zb2 at ha;split at ha
  ·rename_i v' g1 h1 hv;split at ha
   ·rename_i l' g2 h2 hl;cases ha;obtain ⟨q1,q2⟩:=zb3 _ _ _ _ _ _ hs hv;obtain ⟨q3,q4,q5⟩:=z8h l l' h1 _ g1 _ q2.same hl;exact ⟨by simp only [map_cons,absE,q1,q3],⟨λk hk=>q4.sub k (q2.sub k hk),q4.same⟩,by simp [q5]⟩
   ·cases ha
  ·cases ha
theorem z3x {h:TH T.tq} {k:Nat}:∀ k',[k].contains k'=false->z5 (denH T.tq (delT h k)) k'=z5 (denH T.tq h) k':=λk' hk=>by rw [<- zo,zw];simpa using hk
end
def fix1 (o:Option AV):AV->AV
 | .zs=>o.getD .zs
 | y=>y
def fixA (tg:Nat->Option AV):Nat->List AV->List AV
 | _,[]=>[]
 | c,y::ys=>fix1 (tg c) y::fixA tg (c+1) ys
def tgOk (tg:Nat->Option AV):Prop:=∀ c a,tg c=some a->∃ s,a = .im s []\/(s<MB/\a = .ow s [])
theorem zlh (tg:Nat->Option AV):∀ (l:List AV) (c:Nat),(fixA tg c l).length=l.length
 | [],_=>rfl
 | y::l,c=>by simp [fixA,zlh tg l]
def zsAt (tg:Nat->Option AV) (xs:Els) (i c:Nat):Bool :=
 match (xs[i]?).bind (·[c]?) with
 | some y=>isZ y&&(tg c).isSome
 | none=>false
def z3d (tg:Nat->Option AV) (k:Nat) (k':Nat) (q:Path):Bool:=k'==k&&match q with | (_,c)::_=>(tg c).isSome | []=>false
section
variable {I:Nat->Prop} {σ σ1:Pl} {B:zd} {k:Nat} {tg:Nat->Option AV}
theorem CeC.fix (ht:tgOk tg) (i:Nat):∀ (ys:List AV) (c:Nat) (cs:List Value),
  (∀ j y,ys[j]?=some y->(y = .zs->(tg (c+j)).isSome=true->σ1 k [(i,c+j)]=none)/\((y = .zs->(tg (c+j)).isSome=false)->∀ q,σ1 k ((i,c+j)::q)=σ k ((i,c+j)::q))) ->
  CeC I σ B k [] i c ys cs->CeC I σ1 B k [] i c (fixA tg c ys) cs/\fpC σ1 k [] i c (fixA tg c ys)=fpC σ k [] i c ys
 | [],c,cs,_,h=>⟨h,rfl⟩
 | y::ys,c,_,hj,h=>by
  obtain ⟨v,cs',rfl,h1,h2⟩:=h
  obtain ⟨t1,t2⟩:=CeC.fix ht i ys (c+1) cs' (λj y' hy=>by
   have:=hj (j+1) y' (by simpa using hy)
   rwa [show c+(j+1)=c+1+j by omega] at this) h2
  have h0:=hj 0 y rfl;rw [Nat.add_zero] at h0
  have keep:((y = .zs->(tg c).isSome=false))->Ce I σ1 B k [] i c y v/\fpA σ1 k [] i c y=fpA σ k [] i c y:=λhk =>
   ⟨Ce.ren (p:=[]) (p':=[]) (λq=>h0.2 hk q) y v h1,fpA.ren (p:=[]) (p':=[]) (λq=>h0.2 hk q) y⟩
  have key:Ce I σ1 B k [] i c (fix1 (tg c) y) v/\fpA σ1 k [] i c (fix1 (tg c) y)=fpA σ k [] i c y:=by
   cases y with
   | zs =>
    simp only [fix1];cases hc:tg c with
    | none=>simp only [getD_none];exact keep (λ_=>by simp [hc])
    | some a =>
     simp only [getD_some];have hn:=h0.1 rfl (by simp [hc]);obtain ⟨s,rfl | ⟨hsm,rfl⟩⟩:=ht c a hc
     ·refine ⟨?_,rfl⟩;obtain ⟨x,hx⟩:=h1;exact ⟨x,0,hx,Nat.le_refl _,λhn=>absurd rfl hn⟩
     ·refine ⟨?_,by simp only [fpA,nil_append,hn]⟩;simp only [Ce,nil_append,hn];exact ⟨trivial,hsm,h1⟩
   | _=>exact keep (λh=>by cases h)
  exact ⟨⟨v,cs',rfl,key.1,t1⟩,by rw [fixA,fpC,fpC,t2,key.2]⟩
theorem CeE.fix (ht:tgOk tg) (s:Nat):∀ (xs:Els) (i:Nat) (cs:List Value),
  (∀ n x j y,xs[n]?=some x->x[j]?=some y->(y = .zs->(tg j).isSome=true->σ1 k [(i+n,j)]=none)/\((y = .zs->(tg j).isSome=false)->∀ q,σ1 k ((i+n,j)::q)=σ k ((i+n,j)::q))) ->
  CeE I σ B k [] i s xs cs->CeE I σ1 B k [] i s (xs.map (fixA tg 0)) cs/\fpE σ1 k [] i (xs.map (fixA tg 0))=fpE σ k [] i xs
 | [],_,_,_,h=>⟨trivial,rfl⟩
 | x::xs,i,cs,hj,h=>by
  obtain ⟨t1,t2⟩:=CeE.fix ht s xs (i+1) _ (λn x' j y hx hy=>by
   have:=hj (n+1) x' j y (by simpa using hx) hy
   rwa [show i+(n+1)=i+1+n by omega] at this) h.2.2
  obtain ⟨u1,u2⟩:=CeC.fix (σ1:=σ1) ht i x 0 _ (λj y hy=>by have:=hj 0 x j y rfl hy;simpa using this) h.2.1
  exact ⟨⟨by rw [zlh];exact h.1,u1,t1⟩,by rw [map_cons,fpE,fpE,t2,u2]⟩
end
section
variable {P:Program} {pro:List Nat} {e:Env} {h:H}
theorem z6.fix {k:Nat} {r:Row} (tg:Nat->Option AV) (ht:tgOk tg) (hg:z5 h k=some r) :
  z6 P pro e h (zx (z3d tg k) e) ((k,⟨r.s,r.xs.map (fixA tg 0)⟩)::z7 h k):=by
 intro I N _ σ a w R
 let σ1:Pl:=λk' q=>match q with | [(i,c)]=>if k'=k/\zsAt tg r.xs i c=true then none else σ k' q | q=>σ k' q
 have hne:∀ k',k'≠k->∀ q,σ1 k' q=σ k' q:=λk' hk q=>by
  simp only [σ1];split
  ·rw [if_neg (λh=>hk h.1)]
  ·rfl
 have hσ0:σ1 k []=σ k []:=rfl;obtain ⟨d1,d2,d3,d4,d5,d6⟩:=R.heap.del hg
 have hcell:∀ n x j y,r.xs[n]?=some x->x[j]?=some y->(y = .zs->(tg j).isSome=true->σ1 k [(n,j)]=none)/\((y = .zs->(tg j).isSome=false)->∀ q,σ1 k ((n,j)::q)=σ k ((n,j)::q)):=by
  intro n x j y hx hy
  have hz:zsAt tg r.xs n j=(isZ y&&(tg j).isSome):=by unfold zsAt;simp only [hx,Option.bind_some,hy]
  refine ⟨λh1 h2=>?_,λh1 q=>?_⟩
  ·simp only [σ1];rw [if_pos ⟨trivial,by rw [hz,h1,h2];rfl⟩]
  ·cases q with
   | nil =>
    simp only [σ1];rw [if_neg];rintro ⟨_,h2⟩;rw [hz,and_eq_true] at h2;have:y = .zs:=by cases y<;>first | rfl | (simp [isZ] at h2)
    have:=h1 this;rw [this] at h2;simp at h2
   | cons _ _=>rfl
 have hrow:zn I σ1 (bl w) k ⟨r.s,r.xs.map (fixA tg 0)⟩/\fpR σ1 k ⟨r.s,r.xs.map (fixA tg 0)⟩=fpR σ k r:=by
  unfold zn at d2 ⊢;unfold fpR;rw [hσ0];cases hL:σ k [] with
  | none =>simp only [hL] at d2 ⊢;exact ⟨⟨by simp [d2.1],d2.2⟩,trivial⟩
  | some L =>simp only [hL] at d2 ⊢;obtain ⟨f1,f2,cur,E,f3,f4,f5⟩:=d2;obtain ⟨t1,t2⟩:=CeE.fix (σ1:=σ1) ht (esz r.s) r.xs 0 _ (λn x j y hx hy=>by simpa using hcell n x j y hx hy) f5;exact ⟨⟨f1,by simpa using f2,cur,E,f3,by rw [z5k (ys:=r.xs) (by simp)];exact f4,t1⟩,by rw [t2]⟩
 have hadd:=d1.add (σ':=σ1) (w':=w) (k:=k) (r:=⟨r.s,r.xs.map (fixA tg 0)⟩) d3 hne (λ_ _ _=>rfl) (Nat.le_refl _) hrow.1 (by rw [hrow.2];exact d4) (λb hb=>by rw [hrow.2] at hb;exact ⟨(d5 b hb).1,R.heap.apart b (d5 b hb).2⟩)
 refine ⟨σ1,I,λ_ h=>h,λ_ h=>.inl h,⟨hadd,R.size,λt=>?_,R.defers⟩,λk' _=>?_,Le.refl _,λ_ _ _=>rfl,λb hb=>.inl ?_⟩
 ·refine Va.kill (λk' q hb=>?_) _ _ (R.vals t);simp only [σ1];split
  ·rename_i i c;rw [if_neg];rintro ⟨e1,e2⟩;subst e1
   have:(tg c).isSome=true:=by
    unfold zsAt at e2;split at e2
    ·simp only [and_eq_true] at e2;exact e2.2
    ·cases e2
   simp [z3d,this] at hb
  ·rfl
 ·rfl
 ·rw [z15,hrow.2,fpH.ren _ (λk' hk' q=>hne k' (λe=>by subst e;exact d3 hk') q)] at hb;rcases mem_append.1 hb with hb | hb
  ·exact (d5 b hb).2
  ·exact d6 b hb
end
section
variable {T:TT}
def kdAV (T:TT):Kd->Option AV
 | .no=>none
 | .im t=>some (.im (T.sz t) [])
 | .ow m t=>some (.ow (T.sz t) [])
def tgOf (T:TT) (ks:List Kd) (c:Nat):Option AV:=(ks[c]?).bind (kdAV T)
theorem zay (ks:List Kd) (hs:ks.all (smK T.sz)=true):tgOk (tgOf T ks):=λc a h=>by
 unfold tgOf at h;cases hk:ks[c]? with
 | none=>rw [hk] at h;cases h
 | some k =>
  rw [hk] at h;have:=all_eq_true.1 hs k (mem_of_getElem? hk);cases k<;>cases h
  ·exact ⟨_,.inl rfl⟩
  ·exact ⟨_,.inr ⟨le_of_ble_eq_true this,rfl⟩⟩
def fixT:List Kd->List (VT T)->List (VT T)
 | k::ks,v::vs=>(match v with | .zs=>(match k with | .im t=>.im t [] | .ow m t=>.ow m t [] | .no=>.zs) | v=>v)::fixT ks vs
 | [],vs=>vs
 | _,[]=>[]
theorem z79:∀ (l:List AV) (tg:Nat->Option AV) (c:Nat),(∀ j,tg (c+j)=none)->fixA tg c l=l
 | [],_,_,_=>rfl
 | y::l,tg,c,h=>by have h0:=h 0;rw [Nat.add_zero] at h0;rw [fixA,z79 l tg (c+1) (λj=>by rw [show c+1+j=c+(j+1) by omega];exact h _),h0];cases y<;>rfl
theorem y68 {h:H} {v:VT T} (hv:v≠.zs) (o:Option AV):fix1 o (den T.tq h v)=den T.tq h v:=by cases v<;>first | exact absurd rfl hv | rfl | (rename_i q;cases q<;>rfl)
theorem zaj {h:H} (ks:List Kd):∀ (vs:List (VT T)) (c:Nat),denL T.tq h (fixT (ks.drop c) vs)=fixA (tgOf T ks) c (denL T.tq h vs)
 | [],c=>by cases ks.drop c<;>rfl
 | v::vs,c=>by
  have ih:=zaj (h:=h) ks vs (c+1);cases hd:ks.drop c with
  | nil =>
   have:∀ j,tgOf T ks (c+j)=none:=λj=>by
    unfold tgOf;have hl:ks.length<=c:=by simpa using hd
    rw [getElem?_eq_none (by omega)];rfl
   rw [z79 _ _ _ this];rfl
  | cons k ks' =>
   have hk:ks[c]?=some k:=by have:=congrArg (·[0]?) hd;simpa using this
   have hd':ks.drop (c+1)=ks':=by rw [<- drop_drop,hd];rfl
   rw [hd'] at ih;have htg:tgOf T ks c=kdAV T k:=by unfold tgOf;rw [hk];rfl
   simp only [fixT,denL,fixA,ih,htg];congr 1;split
   ·cases k<;>rfl
   ·rename_i hv;rw [y68 hv]
def unL (m:Bool) (t:Nat):List (List (VT T))->Option (List (T.El t))
 | []=>some []
 | x::l=>match T.un m t x,unL m t l with | some y,some ys=>some (y::ys) | _,_=>none
theorem zhh {m:Bool} {t:Nat}:∀ (l:List (List (VT T))) (ys:List (T.El t)),unL m t l=some ys->l.map (denL T.tq [])=ys.map (T.ca m t)
 | [],ys,h=>by cases h;rfl
 | x::l,ys,h=>by
  unfold unL at h;split at h
  ·rename_i y ys' h1 h2;cases h;rw [map_cons,map_cons,T.un_ok _ _ _ _ h1,zhh l ys' h2]
  ·cases h
def rowT (ty:Option (Bool×Nat)) (s:Nat) (xs:List (List (VT T))):Option (TR T.El) :=
 match ty with
 | none=>some (.lit s xs)
 | some (m,t)=>bif Nat.beq (T.sz t) s then match unL m t (xs.map (fixT (T.ks m t))) with | some ys=>some (.typ m t ys) | none=>none else none
theorem zr2 {ty:Option (Bool×Nat)} {s:Nat} {xs:List (List (VT T))} {r:TR T.El} (hr:rowT ty s xs=some r):∃ tg,tgOk tg/\denR T.tq r=⟨s,(xs.map (denL T.tq [])).map (fixA tg 0)⟩:=by
 unfold rowT at hr;split at hr
 ·cases hr;refine ⟨λ_=>none,λ_ _ h=>(by cases h),?_⟩;simp only [denR,map_map];congr 1;exact map_congr_left λx _=>(z79 _ _ _ (λ_=>rfl)).symm
 ·rename_i m t;cases hb:Nat.beq (T.sz t) s with
  | false=>rw [hb] at hr;cases hr
  | true =>
   rw [hb] at hr;simp only [cond_true] at hr;split at hr
   ·rename_i ys hy;cases hr;have:=zhh _ _ hy;refine ⟨tgOf T (T.ks m t),zay _ (T.ks_sm m t),?_⟩;simp only [denR,<- this,map_map,eq_of_beq_eq_true hb];congr 1
    exact map_congr_left λx _=>by have:=zaj (h:=[]) (T.ks m t) x 0;simpa using this
   ·cases hr
def z6g {α:Type} (s:Nat):Nat->List α->List (List α)
 | 0,_=>[]
 | n+1,l=>l.take s::z6g s n (l.drop s)
theorem zb9 {h:H} {s:Nat}:∀ (n:Nat) (l:List (VT T)),(z6g s n l).map (denL T.tq h)=z3a s n (denL T.tq h l)
 | 0,l=>rfl
 | n+1,l=>by
  rw [z6g,z3a,map_cons,zb9 n];congr 1
  ·simp [zh,map_take]
  ·simp [zh,map_drop]
theorem za4 {α:Type} {s:Nat}:∀ (n:Nat) (l:List α),(z6g s n l).length=n
 | 0,_=>rfl
 | n+1,l=>by simp [z6g,za4 n]
def mkT (ty:Option (Bool×Nat)) (pro:List Nat) (e:TE T.tq) (h:TH T.tq) (d:Nat) (b:IB):Rs (StT T) :=
 bif pro.contains d then .no else
 match b with
 | .box s x =>
  match z5f (evT e x) with
  | none=>.no
  | some cs=>bif Nat.beq cs.length s then
   match zb2 (delT h d) [d] [cs] with
   | none=>.no
   | some (xs,g,h')=>match rowT ty s xs with
    | none=>.no
    | some r=>.ok ⟨.pt d [] 0 0,λk _=>g.contains k,λ_ _=>false,g,(d,r)::h'⟩
   else .no
 | .bsl s len zero parts =>
  match zbh (replicate len (z3b zero)).flatten (parts.map λ(i,x)=>(i * s,s,evT e x)) with
  | none=>.no
  | some cs =>
   match zb2 (delT h d) [d] (z6g s len cs) with
   | none=>.no
   | some (xs,g,h')=>match rowT ty s xs with
    | none=>.no
    | some r=>.ok ⟨.sw d [],λk _=>g.contains k,λ_ _=>false,g,(d,r)::h'⟩
 | .mks s bytes zero l =>
  match z6w (evT e l),ty with
  | some n,some (m,t)=>bif Nat.beq (T.sz t) s then
   match T.un m t (fixT (T.ks m t) (z3b zero)) with
   | some z=>.need (0<=n/\n * (bytes:Int)<=140737488355328) (.ok ⟨.sw d [],λk _=>[d].contains k,λ_ _=>false,[d],(d,.typ m t (replicate n.toNat z))::delT h d⟩)
   | none=>.no
   else .no
  | _,_=>.no
 | .mkm s =>
  match ty with
  | some (m,t)=>bif Nat.beq (T.sz t) s&&!(Nat.blt s 1000000) then .ok ⟨.pp (.mr d []),λk _=>[d].contains k,λ_ _=>false,[d],(d,.typ m t [])::delT h d⟩ else .no
  | none=>.no
 | _=>.no
structure MkOk (T:TT) (e:TE T.tq) (h:TH T.tq) (d:Nat) (b:IB) (s:StT T):Prop where
 ex:∃ (av:AV) (r:Row) (rest:H) (tg:Nat->Option AV),mkop (ev (denE T.tq (denH T.tq h) e)) (denH T.tq h) d b=some (av,(d,r)::rest)/\tgOk tg/\denH T.tq s.h=(d,⟨r.s,r.xs.map (fixA tg 0)⟩)::rest /\
  av=den T.tq (denH T.tq s.h) s.v/\(∀ k,kill (z3d tg k) av=av)/\(∀ k p,k=d->s.bad k p=true)/\(∀ k p,s.bad k p=false->s.bw k p=false->zc (denH T.tq s.h) k p=zc (denH T.tq h) k p)/\∀ k,s.tch.contains k=false->z5 (denH T.tq s.h) k=z5 (denH T.tq h) k
theorem z8u {h h':TH T.tq} {d:Nat} {g:List Nat} {r:TR T.El} (hG:Gone (T:=T) (denH T.tq h) (delT h d) [d] g h') :
  (∀ (k:Nat) (p:Path),k=d->g.contains k=true)/\(∀ (k:Nat) (p:Path),g.contains k=false->zc (denH T.tq ((d,r)::h')) k p=zc (denH T.tq h) k p) /\
   ∀ (k:Nat),g.contains k=false->z5 (denH T.tq ((d,r)::h')) k=z5 (denH T.tq h) k:=by
 have h1:∀ (k:Nat) (p:Path),k=d->g.contains k=true:=λk p hk=>hG.sub k (by simp [hk])
 have h2:∀ (k:Nat),g.contains k=false->z5 (denH T.tq ((d,r)::h')) k=z5 (denH T.tq h) k:=λk hk=>by
  have hkd:k≠d:=λe=>by rw [h1 k [] e] at hk;cases hk
  simp only [denH,z5];rw [if_neg (λe=>hkd e.symm)];exact hG.same k hk
 exact ⟨h1,λk p hk=>zz (h2 k hk),h2⟩
theorem ycg {ty:Option (Bool×Nat)} {pro:List Nat} {e:TE T.tq} {h:TH T.tq} {d:Nat} {b:IB} {s:StT T} (hg:(mkT ty pro e h d b).gives s):pro.contains d=false/\MkOk T e h d b s:=by
 unfold mkT at hg;cases hp:pro.contains d with
 | true=>rw [hp] at hg;exact hg.elim
 | false =>
 refine ⟨rfl,?_⟩;rw [hp] at hg;simp only [cond_false] at hg;split at hg
 ·rename_i s' x;split at hg
  ·exact hg.elim
  ·rename_i cs hcs;obtain ⟨hl,hg⟩:=ze hg;split at hg
   ·exact hg.elim
   ·rename_i xs g h' ha;split at hg
    ·exact hg.elim
    ·rename_i r hr;cases hg;obtain ⟨q1,q2,q3⟩:=z8h (H0:=denH T.tq h) _ _ _ _ _ _ z3x ha;obtain ⟨tg,t1,t2⟩:=zr2 hr;obtain ⟨l1,l2,l3⟩:=z8u (r:=r) q2;have hc:=z6q (h:=denH T.tq h) hcs;refine ⟨⟨.pt d [] 0 0,⟨s',xs.map (denL T.tq [])⟩,denH T.tq h',tg,?_,t1,?_,rfl,λk=>rfl |>.trans ?_,l1,λk p hk _=>l2 k p hk,l3⟩⟩
     ·simp only [mkop,za,hc,z1c];rw [if_pos (eq_of_beq_eq_true hl)];simp only [map_cons,map_nil] at q1;rw [zo,q1]
     ·simp only [denH,t2]
     ·simp [kill,z3d]
 ·rename_i s' len zero parts;split at hg
  ·exact hg.elim
  ·rename_i cs hcs;split at hg
   ·exact hg.elim
   ·rename_i xs g h' ha;split at hg
    ·exact hg.elim
    ·rename_i r hr;cases hg;obtain ⟨q1,q2,q3⟩:=z8h (H0:=denH T.tq h) _ _ _ _ _ _ z3x ha;obtain ⟨tg,t1,t2⟩:=zr2 hr;obtain ⟨l1,l2,l3⟩:=z8u (r:=r) q2;have hf:=zbi (h:=denH T.tq h) _ _ _ hcs;rw [map_map] at hf;have hxl:xs.length=len:=by rw [q3,za4]
     have hlen:zc (denH T.tq ((d,r)::h')) d []=len:=by unfold zc resA;simp only [denH,z5,if_true,resE,t2,length_map,hxl]
     refine ⟨⟨.sl d [] 0 len,⟨s',xs.map (denL T.tq [])⟩,denH T.tq h',tg,?_,t1,?_,?_,λk=>rfl |>.trans ?_,l1,λk p hk _=>l2 k p hk,l3⟩⟩
     ·have e0:denL T.tq (denH T.tq h) (replicate len (z3b zero)).flatten=(replicate len (zero.map cval)).flatten:=by rw [zh,List.map_flatten,List.map_replicate,<- zh,z4f]
      have e1:(parts.map λ(i,x)=>(i * s',s',ev (denE T.tq (denH T.tq h) e) x))=parts.map ((λ(o,n,x)=>(o,n,den T.tq (denH T.tq h) x)) ∘ λ(i,x)=>(i * s',s',evT e x)) :=
       map_congr_left λ⟨i,x⟩ _=>by simp only [Function.comp,za]
      simp only [mkop];rw [e1,<- e0,hf];simp only;rw [zb9] at q1;rw [zo,q1]
     ·simp only [denH,t2]
     ·simp only [den,hlen]
     ·simp [kill,z3d]
 ·rename_i s' bytes zero l;split at hg
  ·rename_i n m t hn;obtain ⟨hs,hg⟩:=ze hg;split at hg
   ·rename_i z hz;obtain ⟨hc,rfl⟩:=hg;obtain ⟨kk,hi⟩:=z5i (h:=denH T.tq h) hn;have hG:Gone (T:=T) (denH T.tq h) (delT h d) [d] [d] (delT h d):=⟨λ_ h=>h,z3x⟩
    obtain ⟨l1,l2,l3⟩:=z8u (r:=.typ m t (replicate n.toNat z)) hG
    have hz2:fixA (tgOf T (T.ks m t)) 0 (zero.map cval)=T.ca m t z:=by rw [<- T.un_ok _ _ _ _ hz,<- z4f (T:=T) [] zero];have:=zaj (T:=T) (h:=[]) (T.ks m t) (z3b zero) 0;simpa using this.symm
    refine ⟨⟨.sl d [] 0 n.toNat,⟨s',replicate n.toNat (zero.map cval)⟩,denH T.tq (delT h d),tgOf T (T.ks m t),?_,zay _ (T.ks_sm m t),?_,?_,λk=>rfl |>.trans ?_,l1,λk p hk _=>l2 k p hk,l3⟩⟩
    ·simp only [mkop,za,hi];rw [if_pos hc,zo]
    ·simp only [denH,denR,eq_of_beq_eq_true hs,List.map_replicate,hz2]
    ·simp only [den];congr 1;unfold zc resA;simp only [denH,z5,if_true,resE,denR,length_map,List.length_replicate]
    ·simp [kill,z3d]
   ·exact hg.elim
  ·exact hg.elim
 ·rename_i s';split at hg
  ·rename_i m t;obtain ⟨hs,hg⟩:=ze hg;cases hg;simp only [and_eq_true,not_eq_true'] at hs;have h1:=eq_of_beq_eq_true hs.1
   have h2:¬ s'<MB:=λhm=>by have:Nat.blt s' 1000000=true:=Nat.ble_eq_true_of_le hm;rw [this] at hs;cases hs.2
   have hG:Gone (T:=T) (denH T.tq h) (delT h d) [d] [d] (delT h d):=⟨λ_ h=>h,z3x⟩
   obtain ⟨l1,l2,l3⟩:=z8u (r:=.typ m t []) hG;refine ⟨⟨.pp (.mr d []),⟨s',[]⟩,denH T.tq (delT h d),λ_=>none,?_,λ_ _ h=>(by cases h),?_,rfl,λk=>?_,l1,λk p hk _=>l2 k p hk,l3⟩⟩
   ·simp only [mkop];rw [if_neg h2,zo]
   ·simp only [denH,denR,h1,map_nil]
   ·simp [kill,z2m,z3d]
  ·exact hg.elim
 ·exact hg.elim
theorem z5p {b bad:Nat->Path->Bool} (hb:∀ k p,b k p=true->bad k p=true) (x:AV):AVle (kill b x) (kill bad x):=by
 have h1:kill bad (kill b x)=kill bad x:=by
  rw [z9p.1];congr 1;funext k p;cases h:b k p with
  | false=>rfl
  | true=>simp [hb k p h]
 rw [<- h1];exact AVle.kill bad _
theorem zy3 {P:Program} {ty:Option (Bool×Nat)} {pro:List Nat} {e:TE T.tq} {h:TH T.tq} {d:Nat} {g:Option (Nat×Bool)} {b:IB} {s:StT T} (hg:(mkT ty pro e h d b).gives s):StOk P pro T e h ⟨d,g,.mk b⟩ s:=by
 obtain ⟨hp,⟨av,r,rest,tg,m1,m2,m3,m4,m5,m6,m7⟩⟩:=ycg hg;refine ⟨λe' he=>?_,m7⟩
 have hcg:mkop (ev e') (denH T.tq h) d b=some (av,(d,r)::rest):=by
  rw [<- m1]
  exact zgx b λo ho=>by have:=z31 (x:=⟨d,g,.mk b⟩) (e:=e') (EA:=denE T.tq (denH T.tq h) e) he (o:=o) (by simpa [opsK] using ho);exact this
 refine ⟨e',_,upd (zx (λk _=>k==d) e') d av,(d,r)::rest,z6.rfl',λ_ _ h=>h,.plain (by simp only [z23,hp,false_eq_true,if_false,hcg]),?_⟩;refine z6.trans (z6.fix (k:=d) (r:=r) tg m2 (by simp [z5])) ?_;rw [show z7 ((d,r)::rest) d=rest by simp [z7],<- m3];refine z6.le λt=>?_;simp only [zx,upd];split
 ·rw [m5,<- m4];exact AVle.refl _
 ·rw [z9p.1];refine z5p (λk p hk=>?_) _;simp only [or_eq_true,beq_iff_eq,z3d,and_eq_true] at hk;exact m6 k p (hk.elim id (·.1))
end
def lenR (s:Nat) (xs:Els) (q:Path):Nat:=match resE s xs q with | some (_,ys)=>ys.length | none=>0
theorem z2f {h:H} {k:Nat} {r:Row} {q:Path} (hg:z5 h k=some r):zc h k q=lenR r.s r.xs q:=by unfold zc lenR resA;rw [hg];first | done | rfl
theorem z2g {s i c:Nat} {xs:Els} {q:Path}:lenR s xs ((i,c)::q)=match (xs[i]?).bind (·[c]?) with | some (.ow s' ys)=>lenR s' ys q | _=>0:=by
 unfold lenR;simp only [resE];cases h1:xs[i]? with
 | none=>simp
 | some x =>
  simp only [Option.bind_some];cases h2:x[c]? with
  | none=>simp
  | some y=>cases y<;>simp
theorem zlg (tg:Nat->Option AV):∀ (l:List AV) (c j:Nat),(fixA tg c l)[j]?=(l[j]?).map (fix1 (tg (c+j)))
 | [],_,_=>by simp [fixA]
 | y::l,c,0=>by simp [fixA]
 | y::l,c,j+1=>by simp only [fixA,List.getElem?_cons_succ];rw [zlg tg l (c+1) j,show c+1+j=c+(j+1) by omega]
theorem zli {tg:Nat->Option AV} (ht:tgOk tg) {s:Nat} {xs:Els} (q:Path):lenR s (xs.map (fixA tg 0)) q=lenR s xs q:=by
 cases q with
 | nil=>simp [lenR,resE]
 | cons x q =>
  obtain ⟨i,c⟩:=x;rw [z2g,z2g,getElem?_map];cases h1:xs[i]? with
  | none=>rfl
  | some x =>
   simp only [map_some,Option.bind_some,zlg,Nat.zero_add];cases h2:x[c]? with
   | none=>rfl
   | some y =>
    simp only [map_some];cases y with
    | zs =>
     simp only [fix1];cases h3:tg c with
     | none=>rfl
     | some a =>
      obtain ⟨s',rfl | ⟨_,rfl⟩⟩:=ht c a h3
      ·rfl
      ·simp only [getD_some];cases q with
       | nil=>rfl
       | cons z q=>obtain ⟨i',c'⟩:=z;rfl
    | _=>rfl
theorem zqx {l vs:List AV} {c n c':Nat} (h:c+n<=l.length) (hv:vs.length=n) (hc:¬ (c<=c'/\c'<c+n)):(l.take c++vs++l.drop (c+n))[c']?=l[c']?:=by
 rcases Nat.lt_or_ge c' c with h1 | h1
 ·rw [List.append_assoc,getElem?_append_left (by rw [length_take];omega),List.getElem?_take,if_pos h1]
 ·have h2:c+n<=c':=by omega
  rw [getElem?_append_right (by simp only [length_append,length_take];omega),getElem?_drop];congr 1;simp only [length_append,length_take];omega
theorem zfa {k i c n:Nat} {vs:List AV} (hv:vs.length=n):∀ (p:Path) (s s1:Nat) (xs ys:Els) (x0:List AV) (q:Path),resE s xs p=some (s1,ys)->ys[i]?=some x0->c+n<=x0.length->under k p c n k q=false ->
  lenR s (updE xs p (zu i c n vs)) q=lenR s xs q
 | [],s,s1,xs,ys,x0,q,hr,hx,hl,hu=>by
  simp only [resE,Option.some.injEq,Prod.mk.injEq] at hr;obtain ⟨_,rfl⟩:=hr;simp only [updE,zu,hx];cases q with
  | nil=>simp [lenR,resE]
  | cons z q =>
   obtain ⟨i',c'⟩:=z;have hc:¬ (c<=c'/\c'<c+n):=λ⟨h1,h2⟩=>by simp [under,h1,h2] at hu
   rw [z2g,z2g,getElem?_set];by_cases hi:i=i'
   ·subst hi;have hlt:=(List.getElem?_eq_some_iff.1 hx).1;rw [if_pos rfl,if_pos hlt,hx];simp only [Option.bind_some,zqx hl hv hc]
   ·rw [if_neg hi]
 | (i0,c0)::p,s,s1,xs,ys,x0,q,hr,hx,hl,hu=>by
  simp only [resE] at hr;split at hr
  ·cases hr
  ·rename_i x hx0;split at hr
   ·rename_i s2 zs hz;simp only [updE,hx0,hz];cases q with
    | nil=>simp [lenR,resE]
    | cons z q =>
     obtain ⟨i',c'⟩:=z;rw [z2g,z2g,getElem?_set];have hlt:=(List.getElem?_eq_some_iff.1 hx0).1;have hlt2:=(List.getElem?_eq_some_iff.1 hz).1;by_cases hi:i0=i'
     ·subst hi;rw [if_pos rfl,if_pos hlt,hx0];simp only [Option.bind_some,getElem?_set];by_cases hc:c0=c'
      ·subst hc;rw [if_pos rfl,if_pos hlt2,hz];simp only;refine zfa (k:=k) hv p s2 s1 zs ys x0 q hr hx hl ?_;simp only [under,length_cons,List.take_succ_cons,map_cons,List.drop_succ_cons,beq_self_eq_true,Bool.true_and] at hu ⊢
       have hc:∀ A B:List Nat,(c0::A==c0::B)=(A==B):=λA B=>by rw [Bool.eq_iff_iff];simp
       rw [hc] at hu;exact hu
      ·rw [if_neg hc]
     ·rw [if_neg hi]
   ·cases hr
section
variable {T:TT}
def Rs.bind {X Y:Type}:Rs X->(X->Rs Y)->Rs Y
 | .ok v,f=>f v
 | .no,_=>.no
 | .bnd x K,f=>.bnd x λa=>(K a).bind f
 | @Rs.need _ p _ K,f=>.need p (K.bind f)
 | .ite b x y,f=>.ite b (x.bind f) (y.bind f)
theorem Rs.bind_gives {X Y:Type} {f:X->Rs Y} {y:Y}:∀ (r:Rs X),(r.bind f).gives y->∃ x,r.gives x/\(f x).gives y
 | .ok v,h=>⟨v,rfl,h⟩
 | .no,h=>h.elim
 | .bnd x K,⟨a,h1,h2⟩=>by obtain ⟨x',h3,h4⟩:=Rs.bind_gives (K a) h2;exact ⟨x',⟨a,h1,h3⟩,h4⟩
 | @Rs.need _ p _ K,⟨h1,h2⟩=>by obtain ⟨x',h3,h4⟩:=Rs.bind_gives K h2;exact ⟨x',⟨h1,h3⟩,h4⟩
 | .ite b x y',h=>by
  rcases h with ⟨h1,h2⟩ | ⟨h1,h2⟩
  ·obtain ⟨x',h3,h4⟩:=Rs.bind_gives x h2;exact ⟨x',.inl ⟨h1,h3⟩,h4⟩
  ·obtain ⟨x',h3,h4⟩:=Rs.bind_gives y' h2;exact ⟨x',.inr ⟨h1,h3⟩,h4⟩
def zfy:TR T.El->Option (VT T)
 | .typ m t xs=>some (.ow m t xs)
 | .opn m t xs i cs=>some (.oo m t xs i cs)
 | .lit _ _=>none
theorem zb7 {h:H} {r:TR T.El} {v:VT T} (hr:zfy r=some v):den T.tq h v = .ow (denR T.tq r).s (denR T.tq r).xs:=by cases r<;>cases hr<;>rfl
theorem zey {h:H} {cs:List (VT T)} {c:Nat} {v:VT T}:denL T.tq h (cs.set c v)=(denL T.tq h cs).set c (den T.tq h v):=by simp [zh,map_set]
theorem zkm {s:Nat} {xs:List (List (VT T))}:denR T.tq (.lit s xs)=⟨s,xs.map (denL T.tq [])⟩:=rfl
theorem zzd {m:Bool} {t i:Nat} {xs:List (T.El t)} {cs:List (VT T)}:denR T.tq (.opn m t xs i cs)=⟨T.sz t,(xs.map (T.ca m t)).set i (denL T.tq [] cs)⟩:=rfl
def zee:VT T->Option (TR T.El)
 | .ow m t xs=>some (.typ m t xs)
 | .oo m t xs i cs=>some (.opn m t xs i cs)
 | _=>none
theorem z7e {h:H} {r:TR T.El} {v:VT T} (hr:zee v=some r):den T.tq h v = .ow (denR T.tq r).s (denR T.tq r).xs:=by cases v<;>cases hr<;>rfl
def zh9 (m:Bool) (t:Nat) (xs:List (T.El t)) (j:Nat) (cs:List (VT T)):TR T.El :=
 match T.un m t cs with
 | some y=>.typ m t (xs.set j y)
 | none=>.opn m t xs j cs
theorem zde {m:Bool} {t:Nat} {xs:List (T.El t)} {j:Nat} {cs:List (VT T)}:denR T.tq (zh9 m t xs j cs)=⟨T.sz t,(xs.map (T.ca m t)).set j (denL T.tq [] cs)⟩:=by
 unfold zh9;split
 ·rename_i y hy;simp only [denR,map_set,T.un_ok _ _ _ _ hy]
 ·rfl
def updT (f:TR T.El->Rs (TR T.El)):Path->TR T.El->Rs (TR T.El)
 | [],r=>f r
 | (i,c)::p,.lit s xs =>
  match xs[i]? with
  | none=>.no
  | some x=>match (x[c]?).bind zee with
   | none=>.no
   | some r0=>(updT f p r0).bind λr1=>match zfy r1 with | some v=>.ok (.lit s (xs.set i (x.set c v))) | none=>.no
 | (i,c)::p,.typ m t xs =>
  .bnd (xs[i]?) λy=>match ((T.ct m t y)[c]?).bind zee with
   | none=>.no
   | some r0=>(updT f p r0).bind λr1=>match zfy r1 with | some v=>.ok (zh9 m t xs i ((T.ct m t y).set c v)) | none=>.no
 | (i,c)::p,.opn m t xs j cs =>
  .need (i=j/\j<xs.length) (match (cs[c]?).bind zee with
   | none=>.no
   | some r0=>(updT f p r0).bind λr1=>match zfy r1 with | some v=>.ok (zh9 m t xs i (cs.set c v)) | none=>.no)
theorem z8e {f:TR T.El->Rs (TR T.El)} {F:Els->Els} {G:Nat->Els->Prop} (hf:∀ r r',(f r).gives r'->G (denR T.tq r).s (denR T.tq r).xs/\denR T.tq r'=⟨(denR T.tq r).s,F (denR T.tq r).xs⟩) :
  ∀ (p:Path) (r r':TR T.El),(updT f p r).gives r'->∃ s ys,resE (denR T.tq r).s (denR T.tq r).xs p=some (s,ys)/\G s ys/\denR T.tq r'=⟨(denR T.tq r).s,updE (denR T.tq r).xs p F⟩
 | [],r,r',hg=>by obtain ⟨h1,h2⟩:=hf r r' hg;exact ⟨_,_,rfl,h1,h2⟩
 | (i,c)::p,.lit s xs,r',hg=>by
  simp only [updT] at hg;split at hg
  ·exact hg.elim
  ·rename_i x hx;split at hg
   ·exact hg.elim
   ·rename_i r0 h0;obtain ⟨r1,q1,q2⟩:=Rs.bind_gives _ hg;obtain ⟨y,hy,hr0⟩:=bind_eq_some_iff.1 h0;obtain ⟨s1,ys,t1,t2,t3⟩:=z8e hf p r0 r1 q1;split at q2
    ·rename_i v hv;cases q2;have hxe:(denR T.tq (.lit s xs)).xs[i]?=some (denL T.tq [] x):=by simp [denR,hx]
     have hce:(denL T.tq [] x)[c]?=some (.ow (denR T.tq r0).s (denR T.tq r0).xs):=by rw [z25,hy,map_some,z7e hr0]
     refine ⟨s1,ys,by simp only [resE,hxe,hce];exact t1,t2,?_⟩;have hv':=zb7 (T:=T) (h:=[]) hv;rw [t3] at hv';simp only [updE,hxe,hce];rw [zkm,map_set,zey,hv'];rfl
    ·exact q2.elim
 | (i,c)::p,.typ m t xs,r',hg=>by
  obtain ⟨z,hz,hg⟩:=hg;dsimp only at hg;split at hg
  ·exact hg.elim
  ·rename_i r0 h0;obtain ⟨r1,q1,q2⟩:=Rs.bind_gives _ hg;obtain ⟨y,hy,hr0⟩:=bind_eq_some_iff.1 h0;obtain ⟨s1,ys,t1,t2,t3⟩:=z8e hf p r0 r1 q1;split at q2
   ·rename_i v hv;cases q2;have hxe:(denR T.tq (.typ m t xs)).xs[i]?=some (T.ca m t z):=by simp [denR,hz]
    have hce:(T.ca m t z)[c]?=some (.ow (denR T.tq r0).s (denR T.tq r0).xs):=by rw [zsw,hy,map_some,z7e hr0]
    refine ⟨s1,ys,by simp only [resE,hxe,hce];exact t1,t2,?_⟩;have hv':=zb7 (T:=T) (h:=[]) hv;rw [t3] at hv';simp only [updE,hxe,hce,zde];rw [zey,hv',T.ct_ok];rfl
   ·exact q2.elim
 | (i,c)::p,.opn m t xs j cs,r',hg=>by
  obtain ⟨⟨rfl,hj⟩,hg⟩:=hg;split at hg
  ·exact hg.elim
  ·rename_i r0 h0;obtain ⟨r1,q1,q2⟩:=Rs.bind_gives _ hg;obtain ⟨y,hy,hr0⟩:=bind_eq_some_iff.1 h0;obtain ⟨s1,ys,t1,t2,t3⟩:=z8e hf p r0 r1 q1;split at q2
   ·rename_i v hv;cases q2
    have hxe:(denR T.tq (.opn m t xs i cs)).xs[i]?=some (denL T.tq [] cs):=by simp only [denR];rw [getElem?_set_self (by simpa using hj)]
    have hce:(denL T.tq [] cs)[c]?=some (.ow (denR T.tq r0).s (denR T.tq r0).xs):=by rw [z25,hy,map_some,z7e hr0]
    refine ⟨s1,ys,by simp only [resE,hxe,hce];exact t1,t2,?_⟩;have hv':=zb7 (T:=T) (h:=[]) hv;rw [t3] at hv';simp only [updE,hxe,hce,zde];rw [zey,hv',zzd,set_set]
   ·exact q2.elim
def putT (fx:Bool) (i c n:Nat) (vs:List (VT T)):TR T.El->Rs (TR T.El)
 | .lit s xs =>
  match xs[i]? with
  | some x0=>bif Nat.ble (c+n) x0.length then .ok (.lit s (xs.set i (x0.take c++vs++x0.drop (c+n)))) else .no
  | none=>.no
 | .typ m t xs=>.bnd (xs[i]?) λy =>
  bif Nat.ble (c+n) (T.ct m t y).length then
   let cs:=(T.ct m t y).take c++vs++(T.ct m t y).drop (c+n)
   match T.un m t (bif fx then fixT (T.ks m t) cs else cs) with
   | some z=>.ok (.typ m t (xs.set i z))
   | none=>bif fx then .no else .ok (.opn m t xs i cs)
  else .no
 | .opn m t xs j cs=>.need (i=j/\j<xs.length) (bif Nat.ble (c+n) cs.length then .ok (zh9 m t xs i (cs.take c++vs++cs.drop (c+n))) else .no)
def putS (fx:Bool) (i c n:Nat) (vs:List (VT T)) (r:TR T.El):Rs (TR T.El):=bif Nat.blt (denR T.tq r).s 1000000 then putT fx i c n vs r else .no
def tgR (fx:Bool):TR T.El->Nat->Option AV
 | .typ m t _=>bif fx then tgOf T (T.ks m t) else λ_=>none
 | _=>λ_=>none
theorem ycv (fx:Bool) (r:TR T.El):tgOk (tgR fx r):=by
 cases r with
 | typ m t xs=>cases fx;exact λ_ _ h=>(by cases h);exact zay _ (T.ks_sm m t)
 | _=>exact λ_ _ h=>(by cases h)
theorem zno (tg:Nat->Option AV):∀ (l:List AV) (c:Nat),(∀ a∈l,isZ a=false)->fixA tg c l=l
 | [],_,_=>rfl
 | y::l,c,h=>by rw [fixA,zno tg l (c+1) (λa ha=>h a (by simp [ha]))];have:=h y (by simp);cases y<;>simp [isZ] at this<;>rfl
theorem ydb {m:Bool} {t:Nat} {y:T.El t}:∀ a∈T.ca m t y,isZ a=false:=T.nz_ok m t y
theorem zs3 {tg:Nat->Option AV} {m:Bool} {t:Nat} (xs:List (T.El t)):(xs.map (T.ca m t)).map (fixA tg 0)=xs.map (T.ca m t):=by rw [map_map];exact map_congr_left λy _=>zno tg _ 0 ydb
theorem z4j (xs:Els):xs.map (fixA (λ_=>none) 0)=xs:=by
 conv=>rhs;rw [<- map_id xs]
 exact map_congr_left λx _=>z79 _ _ _ (λ_=>rfl)
theorem zqw {fx:Bool} {i c n:Nat} {vs:List (VT T)} (r r':TR T.El) (hg:(putT fx i c n vs r).gives r') :
  (∃ x0,(denR T.tq r).xs[i]?=some x0/\c+n<=x0.length)/\denR T.tq r'=⟨(denR T.tq r).s,(zu i c n (denL T.tq [] vs) (denR T.tq r).xs).map (fixA (tgR fx r) 0)⟩:=by
 cases r with
 | lit s xs =>
  simp only [putT] at hg;split at hg
  ·rename_i x0 hx;obtain ⟨hb,hg⟩:=ze hg;cases hg;have hxe:(denR T.tq (.lit s xs)).xs[i]?=some (denL T.tq [] x0):=by simp [denR,hx]
   refine ⟨⟨_,hxe,by rw [z1c];exact le_of_ble_eq_true hb⟩,?_⟩;simp only [zu,hxe,tgR,z4j];simp [denR,zh,map_set,map_take,map_drop]
  ·exact hg.elim
 | typ m t xs =>
  obtain ⟨y,hy,hg⟩:=hg;obtain ⟨hb,hg⟩:=ze hg;dsimp only at hg;split at hg
  ·rename_i z hz;cases hg;have hxe:(denR T.tq (.typ m t xs)).xs[i]?=some (T.ca m t y):=by simp [denR,hy]
   have hl:(T.ca m t y).length=(T.ct m t y).length:=by rw [<- T.ct_ok,z1c]
   refine ⟨⟨_,hxe,by rw [hl];exact le_of_ble_eq_true hb⟩,?_⟩;simp only [zu,hxe,tgR]
   have hzc:fixA (bif fx then tgOf T (T.ks m t) else λ_=>none) 0 ((T.ca m t y).take c++denL T.tq [] vs++(T.ca m t y).drop (c+n))=T.ca m t z:=by
    have e1:(T.ca m t y).take c++denL T.tq [] vs++(T.ca m t y).drop (c+n)=denL T.tq [] ((T.ct m t y).take c++vs++(T.ct m t y).drop (c+n)):=by simp [<- T.ct_ok,zh,map_take,map_drop]
    rw [e1,<- T.un_ok _ _ _ _ hz];cases fx
    ·simp only [cond_false];exact z79 _ _ _ (λ_=>rfl)
    ·simp only [cond_true];have:=zaj (T:=T) (h:=[]) (T.ks m t) ((T.ct m t y).take c++vs++(T.ct m t y).drop (c+n)) 0;simpa using this.symm
   simp only [denR,map_set,hzc,zs3]
  ·cases hfx:fx with
   | true=>rw [hfx] at hg;exact hg.elim
   | false =>
    rw [hfx,cond_false] at hg;cases hg;have hxe:(denR T.tq (.typ m t xs)).xs[i]?=some (T.ca m t y):=by simp [denR,hy]
    have hl:(T.ca m t y).length=(T.ct m t y).length:=by rw [<- T.ct_ok,z1c]
    refine ⟨⟨_,hxe,by rw [hl];exact le_of_ble_eq_true hb⟩,?_⟩;simp only [zu,hxe,tgR,cond_false,z4j];simp only [denR];simp [<- T.ct_ok,zh,map_take,map_drop]
 | opn m t xs j cs =>
  obtain ⟨⟨rfl,hj⟩,hg2⟩:=hg;obtain ⟨hb,hg3⟩:=ze hg2;cases hg3
  have hxe:(denR T.tq (.opn m t xs i cs)).xs[i]?=some (denL T.tq [] cs):=by simp only [denR];rw [getElem?_set_self (by simpa using hj)]
  refine ⟨⟨_,hxe,by rw [z1c];exact le_of_ble_eq_true hb⟩,?_⟩;simp only [zu,hxe,tgR,z4j,zde];simp [denR,zh,map_take,map_drop]
theorem zqv {fx:Bool} {i c n:Nat} {vs:List (VT T)} (r r':TR T.El) (hg:(putS fx i c n vs r).gives r') :
  ((denR T.tq r).s<MB/\∃ x0,(denR T.tq r).xs[i]?=some x0/\c+n<=x0.length)/\denR T.tq r'=⟨(denR T.tq r).s,(zu i c n (denL T.tq [] vs) (denR T.tq r).xs).map (fixA (tgR fx r) 0)⟩:=by
 obtain ⟨h1,h2⟩:=ze hg;obtain ⟨h3,h4⟩:=zqw r r' h2;exact ⟨⟨le_of_ble_eq_true h1,h3⟩,h4⟩
end
section
variable {T:TT}
def isZT:VT T->Bool
 | .zs=>true
 | _=>false
def setI (c:Nat) (y:Int):Nat->List (VT T)->List (Option Int)->List (VT T)
 | j,v::cs,some n::l=>.sc (.int .i64 (bif Nat.beq c j then y else n))::setI c y (j+1) cs l
 | j,v::cs,_::l=>v::setI c y (j+1) cs l
 | _,cs,_=>cs
def intX:VT T->Option Int
 | .sc (.int .i64 y)=>some y
 | .ik .i64 y=>some y
 | _=>none
theorem zzt {H0:H} {v:VT T} {y:Int} (h:intX v=some y):den T.tq H0 v = .sc (.int .i64 y):=by unfold intX at h;split at h<;>cases h<;>rfl
theorem zjm (c:Nat) (y:Int):∀ (cs:List (VT T)) (l:List (Option Int)) (j:Nat),z7u cs=some l->c<j->denL T.tq [] (setI c y j cs l)=denL T.tq [] cs
 | [],l,j,h,hc=>by cases h;rfl
 | x::cs,l,j,h,hc=>by
  unfold z7u at h;split at h
  ·rename_i r hr;have ih:=zjm c y cs r (j+1) hr (by omega);have hb:Nat.beq c j=false:=by rw [z10];simp;omega
   split at h
   ·cases h;simp only [setI,denL,ih,hb,cond_false];try rfl
   ·cases h;simp only [setI,denL,ih,hb,cond_false];try rfl
   ·cases h;simp only [setI,denL,ih]
  ·cases h
theorem zr9 (c:Nat) (y:Int):∀ (cs:List (VT T)) (l:List (Option Int)) (j i:Nat) (n:Int),z7u cs=some l->c=j+i->z2n l i=some n->denL T.tq [] (setI c y j cs l)=(denL T.tq [] cs).set i (.sc (.int .i64 y))
 | [],l,j,i,n,h,hc,hp=>by cases h;simp [z2n] at hp
 | x::cs,l,j,i,n,h,hc,hp=>by
  unfold z7u at h;split at h
  ·rename_i r hr;cases i with
   | zero =>
    have hb:Nat.beq c j=true:=by rw [z10];simp;omega
    have ih:=zjm c y cs r (j+1) hr (by omega);split at h
    ·cases h;simp only [setI,denL,ih,hb,cond_true,set_cons_zero];try rfl
    ·cases h;simp only [setI,denL,ih,hb,cond_true,set_cons_zero];try rfl
    ·cases h;simp [z2n] at hp
   | succ i =>
    have hb:Nat.beq c j=false:=by rw [z10];simp;omega
    have key:z2n r i=some n:=by split at h<;>(cases h;simpa [z2n] using hp)
    have ih:=zr9 c y cs r (j+1) i n hr (by omega) key;split at h
    ·cases h;simp only [setI,denL,ih,hb,cond_false,set_cons_succ];try rfl
    ·cases h;simp only [setI,denL,ih,hb,cond_false,set_cons_succ];try rfl
    ·cases h;simp only [setI,denL,ih,set_cons_succ]
  ·cases h
def stP (e:TE T.tq) (h:TH T.tq) (n:Nat) (k c:Nat) (x:Operand):Rs (StT T) :=
 bif Nat.beq n 1 then
  match getT h k,intX (evT e x) with
  | some (.lit s (cs::xs)),some y=>bif Nat.blt s 1000000 then match z7u cs with
   | some l=>.bnd (z2n l c) λ_=>.ok ⟨.un,λk' q=>Nat.beq k' k&&!q.isEmpty,λ_ _=>false,[k],(k,.lit s (setI c y 0 cs l::xs))::delT h k⟩
   | none=>.no
   else .no
  | _,_=>.no
 else .no
theorem y08 {α:Type} (l:List α) (c:Nat) (v:α) (h:c+1<=l.length):l.set c v=l.take c++[v]++l.drop (c+1):=by rw [List.set_eq_take_append_cons_drop,if_pos (by omega)];simp
theorem ycu {P:Program} {pro:List Nat} {e:TE T.tq} {h:TH T.tq} {d:Nat} {g:Option (Nat×Bool)} {n k c:Nat} {a x:Operand} {s:StT T} (ha:evT e a = .pp (.px k c)) (hg:(stP e h n k c x).gives s):StOk P pro T e h ⟨d,g,.st n a x⟩ s:=by
 unfold stP at hg;obtain ⟨hn,hg⟩:=ze hg;have hn:=eq_of_beq_eq_true hn;subst hn;split at hg
 ·rename_i s0 cs xs y hr hv;obtain ⟨_,hg⟩:=ze hg;obtain ⟨hsm,hg⟩:=ze hg;have hsm:=le_of_ble_eq_true hsm;split at hg
  ·rename_i l hl;obtain ⟨n0,hp,hg⟩:=hg;cases hg;have hd:=zzt (H0:=denH T.tq h) hv;have hset:=zr9 c y cs l 0 c n0 hl (by omega) hp;obtain ⟨v0,hv0,_⟩:=zf7 (H0:=[]) cs l c n0 hl hp;have hlt:c<cs.length:=(List.getElem?_eq_some_iff.1 hv0).1;have hgr:z5 (denH T.tq h) k=some ⟨s0,(cs::xs).map (denL T.tq [])⟩:=by rw [z1a,hr];rfl
   have hst:stop (ev (denE T.tq (denH T.tq h) e)) (denH T.tq h) 1 a x=some (denH T.tq ((k,.lit s0 (setI c y 0 cs l::xs))::delT h k),under k [] c 1):=by simp only [stop,za,ha,den,denP,hgr,resE,map_cons,getElem?_cons_zero,z1c];rw [if_pos ⟨by omega,hsm⟩,hd];simp only [cellsOf,List.length_singleton,if_true,absL,absC];simp only [denH,denR,map_cons,updE,zu,getElem?_cons_zero,set_cons_zero,hset,zo];rw [y08 _ _ _ (by rw [z1c];omega)];rfl
   refine ⟨λe' he=>?_,λk' q hb _=>?_,λk' hk'=>?_⟩
   ·have hcg:stop (ev e') (denH T.tq h) 1 a x=some (denH T.tq ((k,.lit s0 (setI c y 0 cs l::xs))::delT h k),under k [] c 1):=by rw [<- hst];exact zhf (z31 (x:=⟨d,g,.st 1 a x⟩) he (by simp [opsK])) (z31 (x:=⟨d,g,.st 1 a x⟩) he (by simp [opsK]))
    refine ⟨e',_,zx (under k [] c 1) e',denH T.tq ((k,.lit s0 (setI c y 0 cs l::xs))::delT h k),z6.rfl',λ_ _ h=>h,.plain (by simp only [z23,hcg]),?_⟩;refine z6.le λt=>?_;simp only [zx,upd];split
    ·exact AVle.un _
    ·refine z5p (λk' q hk=>?_) _;simp only [under,List.length_nil,take_zero,map_nil,drop_zero,beq_self_eq_true,Bool.and_true,and_eq_true] at hk;obtain ⟨hk1,hk2⟩:=hk;cases q with
     | nil=>cases hk2
     | cons z q=>simpa [z10] using hk1
   ·by_cases hk:k'=k
    ·subst hk
     have:q=[]:=by
      cases q with
      | nil=>rfl
      | cons z q=>simp [z10] at hb
     subst this;rw [z2f (r:=⟨s0,(setI c y 0 cs l::xs).map (denL T.tq [])⟩) (by simp [denH,z5,denR]),z2f hgr];simp [lenR,resE]
    ·refine zz ?_;simp only [denH,z5];rw [if_neg (λe=>hk e.symm),<- zo];exact zw hk _
   ·have hk:k'≠k:=λe=>by subst e;simp at hk'
    simp only [denH,z5];rw [if_neg (λe=>hk e.symm),<- zo];exact zw hk _
  ·exact hg.elim
 ·exact hg.elim
def stT (e:TE T.tq) (h:TH T.tq) (n:Nat) (a x:Operand):Rs (StT T) :=
 match evT e a with
 | .pp (.px k c)=>stP e h n k c x
 | .pt k p i c =>
  match getT h k,z5f (evT e x) with
  | some r,some vs=>bif Nat.beq vs.length n then
   match zdp (delT h k) [k] vs with
   | none=>.no
   | some (vs',g,h') =>
    let fx:=p.isEmpty&&vs'.any isZT
    (updT (putS fx i c n vs') p r).bind λr' =>
    .ok ⟨.un,λk' q=>under k p c n k' q||(g.contains k'&&!(Nat.beq k' k))||(fx&&Nat.beq k' k&&!q.isEmpty),λ_ _=>false,g,(k,r')::h'⟩
   else .no
  | _,_=>.no
 | _=>.no
theorem zyn {P:Program} {pro:List Nat} {e:TE T.tq} {h:TH T.tq} {d:Nat} {g:Option (Nat×Bool)} {n:Nat} {a x:Operand} {s:StT T} (hg:(stT e h n a x).gives s):StOk P pro T e h ⟨d,g,.st n a x⟩ s:=by
 unfold stT at hg;split at hg
 ·rename_i k c ha;exact ycu ha hg
 ·rename_i k p i c ha;split at hg
  ·rename_i r vs hr hvs;obtain ⟨hn,hg⟩:=ze hg;have hn:=eq_of_beq_eq_true hn;split at hg
   ·exact hg.elim
   ·rename_i vs' gg h' hab;dsimp only at hg;generalize hfx:(p.isEmpty&&vs'.any isZT)=fx at hg;obtain ⟨r',hup,hg⟩:=Rs.bind_gives _ hg;cases hg;obtain ⟨q1,q2⟩:=zb3 (H0:=denH T.tq h) _ _ _ _ _ _ z3x hab;have hv:=z6q (h:=denH T.tq h) hvs;have hgr:z5 (denH T.tq h) k=some (denR T.tq r):=by rw [z1a,hr];rfl
    have hvl:(denL T.tq [] vs').length=n:=by
     have:∀ (l l':List AV) (hp hp':H),absL hp l=some (l',hp')->l'.length=l.length:=by
      intro l
      induction l with
      | nil=>intro l' hp hp' hh;simp only [absL,Option.some.injEq,Prod.mk.injEq] at hh;rw [<- hh.1]
      | cons y l ih =>
       intro l' hp hp' hh;unfold absL at hh;split at hh
       ·split at hh
        ·rename_i h2;simp only [Option.some.injEq,Prod.mk.injEq] at hh;rw [<- hh.1,length_cons,ih _ _ _ h2,length_cons]
        ·cases hh
       ·cases hh
     rw [this _ _ _ _ q1,z1c,hn]
    have hgk:gg.contains k=true:=q2.sub k (by simp)
    obtain ⟨tg,ht,hkb,s1,ys,x0,t1,tx,tl,t3⟩:∃ tg,tgOk tg/\(fx=false->tg=λ_=>none)/\∃ s1 ys x0,resE (denR T.tq r).s (denR T.tq r).xs p=some (s1,ys)/\ys[i]?=some x0/\(c+n<=x0.length/\s1<MB) /\
      denR T.tq r'=⟨(denR T.tq r).s,(updE (denR T.tq r).xs p (zu i c n (denL T.tq [] vs'))).map (fixA tg 0)⟩:=by
     cases p with
     | nil =>obtain ⟨⟨hsm,x0,t1,t2⟩,t3⟩:=zqv r r' hup;exact ⟨tgR fx r,ycv _ _,λh=>by subst h;cases r<;>rfl,_,_,x0,rfl,t1,⟨t2,hsm⟩,t3⟩
     | cons z p =>
      have hfx:fx=false:=by rw [<- hfx];rfl
      subst hfx
      obtain ⟨s1,ys,t1,⟨hsm,x0,t2,t4⟩,t3⟩:=z8e (f:=putS false i c n vs') (F:=zu i c n (denL T.tq [] vs')) (G:=λs1 ys=>s1<MB/\∃ x0,ys[i]?=some x0/\c+n<=x0.length) (λr0 r1 h0=>by
       obtain ⟨h1,h2⟩:=zqv r0 r1 h0;refine ⟨h1,?_⟩;rw [h2];have:tgR (T:=T) false r0=λ_=>none:=by cases r0<;>rfl
       rw [this,z4j]) (z::p) r r' hup
      exact ⟨λ_=>none,λ_ _ h=>(by cases h),λ_=>rfl,s1,ys,x0,t1,t2,⟨t4,hsm⟩,by rw [t3,z4j]⟩
    have hst:stop (ev (denE T.tq (denH T.tq h) e)) (denH T.tq h) n a x=some ((k,⟨(denR T.tq r).s,updE (denR T.tq r).xs p (zu i c n (denL T.tq [] vs'))⟩)::denH T.tq h',under k p c n):=by simp only [stop,za,ha,den,hgr,t1,tx,hv,z1c,zo,q1];rw [if_pos tl,if_pos hn]
    have htch:∀ k',gg.contains k'=false->z5 (denH T.tq ((k,r')::h')) k'=z5 (denH T.tq h) k':=λk' hk'=>by
     have hne:k≠k':=λe=>by rw [<- e,hgk] at hk';cases hk'
     simp only [denH,z5];rw [if_neg hne];exact q2.same k' hk'
    refine ⟨λe' he=>?_,λk' q hb _=>?_,htch⟩
    ·have hcg:stop (ev e') (denH T.tq h) n a x=some ((k,⟨(denR T.tq r).s,updE (denR T.tq r).xs p (zu i c n (denL T.tq [] vs'))⟩)::denH T.tq h',under k p c n):=by rw [<- hst];exact zhf (z31 (x:=⟨d,g,.st n a x⟩) he (by simp [opsK])) (z31 (x:=⟨d,g,.st n a x⟩) he (by simp [opsK]))
     refine ⟨e',_,zx (under k p c n) e',(k,⟨(denR T.tq r).s,updE (denR T.tq r).xs p (zu i c n (denL T.tq [] vs'))⟩)::denH T.tq h',z6.rfl',λ_ _ h=>h,.plain (by simp only [z23,hcg]),?_⟩;refine z6.trans (z6.fix (k:=k) (r:=⟨(denR T.tq r).s,updE (denR T.tq r).xs p (zu i c n (denL T.tq [] vs'))⟩) tg ht (by simp [z5])) ?_;simp only [z7,if_true];rw [show denH T.tq ((k,r')::h')=(k,⟨(denR T.tq r).s,(updE (denR T.tq r).xs p (zu i c n (denL T.tq [] vs'))).map (fixA tg 0)⟩)::denH T.tq h' by simp only [denH,t3]];refine z6.le λt=>?_;simp only [zx,upd];split
     ·exact AVle.un _
     ·rw [z9p.1];refine z5p (λk' q hk=>?_) _;simp only [or_eq_true] at hk ⊢;rcases hk with hk | hk
      ·exact .inl (.inl hk)
      ·right;cases hf:fx with
       | false =>rw [hkb hf] at hk;simp [z3d] at hk;split at hk<;>simp at hk
       | true =>
        simp only [z3d,and_eq_true,beq_iff_eq] at hk;obtain ⟨rfl,hk⟩:=hk;cases q with
        | nil=>cases hk
        | cons _ _=>simp
    ·simp only [or_eq_false_iff] at hb;by_cases hk:k'=k
     ·subst hk;rw [z2f (r:=denR T.tq r') (by simp [denH,z5]),z2f hgr,t3];simp only;rw [zli ht];exact zfa (k:=k') hvl p _ s1 _ ys x0 q t1 tx tl.1 hb.1.1
     ·refine zz ?_;simp only [denH,z5];rw [if_neg (λe=>hk e.symm)];refine q2.same k' ?_;have:=hb.1.2;simp only [z10,hk,decide_false,Bool.not_false,Bool.and_true] at this;exact this
  ·exact hg.elim
 ·exact hg.elim
end
def eqC:Path->Path->Bool
 | [],[]=>true
 | (_,c)::p,(_,d)::q=>Nat.beq c d&&eqC p q
 | _,_=>false
theorem zr8:∀ (l:List AV) (c:Nat) (a:AV),scs? l=true->l[c]?=some a->∃ u,a = .sc u
 | [],_,_,_,h=>by simp at h
 | .sc u::l,0,a,_,h=>by simp at h;exact ⟨u,h.symm⟩
 | .sc u::l,c+1,a,hs,h=>zr8 l c a hs (by simpa using h)
theorem zjb {k nk nv:Nat} {kc vs:List AV} {F:Els->Els} (hk:kc.length=nk) (hv:vs.length=nv) (hsc:scs? kc=true):∀ (p:Path) (s s1:Nat) (xs ys:Els) (fi:Option Nat) (q:Path),resE s xs p=some (s1,ys) ->
  F ys=z9q nk nv fi kc vs ys->(∀ i,fi=some i->∃ x0,ys[i]?=some x0/\nk+nv<=x0.length)->under k p nk nv k q=false->eqC q p=false->lenR s (updE xs p F) q=lenR s xs q
 | [],s,s1,xs,ys,fi,q,hr,hF,hx,hu,he=>by
  simp only [resE,Option.some.injEq,Prod.mk.injEq] at hr;obtain ⟨_,rfl⟩:=hr;simp only [updE,hF];cases q with
  | nil=>cases he
  | cons z q =>
   obtain ⟨i',c'⟩:=z;have hc:¬ (nk<=c'/\c'<nk+nv):=λ⟨h1,h2⟩=>by simp [under,h1,h2] at hu
   cases fi with
   | some i =>
    obtain ⟨x0,hx0,hl⟩:=hx i rfl;simp only [z9q,zu,hx0];rw [z2g,z2g,getElem?_set];by_cases hi:i=i'
    ·subst hi;have hlt:=(List.getElem?_eq_some_iff.1 hx0).1;rw [if_pos rfl,if_pos hlt,hx0];simp only [Option.bind_some,zqx hl hv hc]
    ·rw [if_neg hi]
   | none =>
    simp only [z9q];rw [z2g,z2g];rcases Nat.lt_or_ge i' xs.length with hlt | hge
    ·rw [getElem?_append_left hlt]
    ·rw [getElem?_eq_none (l:=xs) hge,getElem?_append_right hge];cases h0:i' - xs.length with
     | succ n=>simp
     | zero =>
      simp only [getElem?_cons_zero,Option.bind_some,Option.bind_none];cases h1:(kc++vs)[c']? with
      | none=>rfl
      | some a =>
       have hlt:c'<nk:=by have:=(List.getElem?_eq_some_iff.1 h1).1;rw [length_append] at this;omega
       rw [getElem?_append_left (by omega)] at h1;obtain ⟨u,rfl⟩:=zr8 kc c' a hsc h1;rfl
 | (i0,c0)::p,s,s1,xs,ys,fi,q,hr,hF,hx,hu,he=>by
  simp only [resE] at hr;split at hr
  ·cases hr
  ·rename_i x hx0;split at hr
   ·rename_i s2 zs hz;simp only [updE,hx0,hz];cases q with
    | nil=>simp [lenR,resE]
    | cons z q =>
     obtain ⟨i',c'⟩:=z;rw [z2g,z2g,getElem?_set];have hlt:=(List.getElem?_eq_some_iff.1 hx0).1;have hlt2:=(List.getElem?_eq_some_iff.1 hz).1;by_cases hi:i0=i'
     ·subst hi;rw [if_pos rfl,if_pos hlt,hx0];simp only [Option.bind_some,getElem?_set];by_cases hc:c0=c'
      ·subst hc;rw [if_pos rfl,if_pos hlt2,hz];simp only;refine zjb (k:=k) hk hv hsc p s2 s1 zs ys fi q hr hF hx ?_ ?_
       ·simp only [under,length_cons,List.take_succ_cons,map_cons,List.drop_succ_cons,beq_self_eq_true,Bool.true_and] at hu ⊢
        have hc:∀ A B:List Nat,(c0::A==c0::B)=(A==B):=λA B=>by rw [Bool.eq_iff_iff];simp
        rw [hc] at hu;exact hu
       ·simp only [eqC,Nat.beq_refl,Bool.true_and] at he;exact he
      ·rw [if_neg hc]
     ·rw [if_neg hi]
   ·cases hr
section
variable {T:TT}
def mput {α:Type} (f:α->Bool) (z:α) (xs:List α):List α :=
 match z22 f xs with
 | some r=>xs.set r.1 z
 | none=>xs++[z]
def zsa (nv:Nat) (ks:List Nat) (kv:List Value) (vs:List (VT T)):TR T.El->Rs (TR T.El)
 | .typ m t xs=>bif Nat.beq (T.sz t) (z3g ks.length nv)&&(Nat.blt (ks.length+nv) 1000000&&(eqNL (T.kq t) ks&&T.kOk t kv)) then
   match T.un m t (kv.map .sc++vs) with
   | some z=>.ok (.typ m t (mput (T.kf t kv) z xs))
   | none=>.no
  else .no
 | .opn m t xs j cs=>bif Nat.beq (T.sz t) (z3g ks.length nv)&&(Nat.blt (ks.length+nv) 1000000&&(eqNL (T.kq t) ks&&(T.kOk t kv&&Nat.beq cs.length (ks.length+nv)))) then
   match T.un m t (kv.map .sc++vs),z8l (kv.map .sc) cs (z1v 0 ks) with
   | some z,some b=>.need (b=true/\(z22 (T.kf t kv) xs).map Prod.fst=some j) (.ok (.typ m t (xs.set j z)))
   | _,_=>.no
  else .no
 | .lit _ _=>.no
theorem zdv (h:H):∀ kv:List Value,denL T.tq h (kv.map .sc)=kv.map .sc
 | []=>rfl
 | v::l=>by simp only [map_cons,denL,den,zdv h l]
theorem zmw {ks:List Nat} {kc x0:List AV} (hkl:kc.length=ks.length) (h:zt kc x0 (z1v 0 ks)=some true) (hl:ks.length<=x0.length):x0.take ks.length=kc:=by
 apply ext_getElem?;intro c;by_cases hcl:c<ks.length
 ·rw [List.getElem?_take_of_lt hcl];have:=zc4 ks 0 kc x0 h c hcl;rw [Nat.zero_add] at this;exact this.1.symm
 ·rw [getElem?_eq_none (by rw [length_take];omega),getElem?_eq_none (by omega)]
theorem zix {α:Type} {f:α->Bool} {g:α->List AV} {ks:List Nat} {kc c:List AV} (hf:∀ x,zt kc (g x) (z1v 0 ks)=some (f x)) (hc:zt kc c (z1v 0 ks)=some true) :
  ∀ (xs:List α) (i j:Nat),(z22 f xs).map Prod.fst=some j->z3o ks kc ((xs.map g).set j c) i=some (some (i+j,c))
 | [],i,j,h=>by cases h
 | x::l,i,j,h=>by
  unfold z22 at h;cases hx:f x with
  | true =>rw [hx] at h;cases h;simp only [map_cons,set_cons_zero,z3o,hc,Nat.add_zero]
  | false =>
   rw [hx] at h;simp only [cond_false] at h;cases h1:z22 f l with
   | none=>rw [h1] at h;cases h
   | some r =>rw [h1] at h;cases h;simp only [map_cons,set_cons_succ,z3o,hf x,hx];rw [zix hf hc l (i+1) r.1 (by rw [h1];rfl),show i+1+r.1=i+(r.1+1) by omega]
theorem y02 {nv:Nat} {ks:List Nat} {kv:List Value} {vs:List (VT T)} (hk:kv.length=ks.length) (hv:vs.length=nv) (r r':TR T.El) (hg:(zsa nv ks kv vs r).gives r') :
  ((denR T.tq r).s=z3g ks.length nv/\∃ f,z3o ks (kv.map .sc) (denR T.tq r).xs 0=some f/\∀ i,f.map Prod.fst=some i->∃ x0,(denR T.tq r).xs[i]?=some x0/\ks.length+nv<=x0.length) /\
   denR T.tq r'=⟨(denR T.tq r).s,z4x ks.length nv ks (kv.map .sc) (denL T.tq [] vs) (denR T.tq r).xs⟩:=by
 cases r with
 | lit s xs=>exact hg.elim
 | typ m t xs =>
  obtain ⟨hc,hg⟩:=ze hg;simp only [and_eq_true] at hc;obtain ⟨c1,c0,c2,c3⟩:=hc;have c0:ks.length+nv<1000000:=le_of_ble_eq_true c0;have c1:=eq_of_beq_eq_true c1;have c2:=zdw _ _ c2;have hf:∀ x,zt (kv.map .sc) (T.ca m t x) (z1v 0 ks)=some (T.kf t kv x):=λx=>by rw [<- c2];exact T.kf_ok m t kv x c3
  split at hg
  ·rename_i z hz;cases hg;have hu:=T.un_ok m t _ z hz;rw [zh,map_append,<- zh,<- zh,zdv] at hu;have hlen:∀ x,(T.ca m t x).length=ks.length+nv:=λx=>by rw [T.ln_ok,c1];unfold z3g;omega
   have hfind:=za6 hf xs 0;simp only [denR];cases h1:z22 (T.kf t kv) xs with
   | none =>rw [h1] at hfind;refine ⟨⟨c1,none,hfind,λi hi=>by cases hi⟩,?_⟩;unfold z4x;rw [hfind];simp only [mput,h1,map_none,z9q,map_append,map_cons,map_nil,hu]
   | some jy =>
    obtain ⟨j,y⟩:=jy;rw [h1] at hfind;simp only [Nat.zero_add] at hfind;obtain ⟨g1,g2⟩:=z9i _ xs j y h1;have hxj:(xs.map (T.ca m t))[j]?=some (T.ca m t y):=by rw [getElem?_map,g1];rfl
    refine ⟨⟨c1,_,hfind,λi hi=>by cases hi;exact ⟨_,hxj,by rw [hlen];exact Nat.le_refl _⟩⟩,?_⟩;unfold z4x;rw [hfind];have htk:=zmw (kc:=kv.map .sc) (x0:=T.ca m t y) (by rw [length_map];exact hk) (by rw [hf y,g2]) (by rw [hlen];omega);simp only [mput,h1,map_some,z9q,zu,hxj,htk,map_set];rw [List.drop_eq_nil_of_le (by rw [hlen];exact Nat.le_refl _),append_nil,hu]
  ·exact hg.elim
 | opn m t xs j cs =>
  obtain ⟨hc,hg⟩:=ze hg;simp only [and_eq_true] at hc;obtain ⟨c1,c0,c2,c3,c4⟩:=hc;have c0:ks.length+nv<1000000:=le_of_ble_eq_true c0;have c1:=eq_of_beq_eq_true c1;have c2:=zdw _ _ c2;have c4:=eq_of_beq_eq_true c4;have hf:∀ x,zt (kv.map .sc) (T.ca m t x) (z1v 0 ks)=some (T.kf t kv x):=λx=>by rw [<- c2];exact T.kf_ok m t kv x c3
  split at hg
  ·rename_i z b hz hb;obtain ⟨⟨rfl,hj⟩,hg⟩:=hg;cases hg;have hu:=T.un_ok m t _ z hz;rw [zh,map_append,<- zh,<- zh,zdv] at hu;have hbc:=za5 (h:=[]) _ _ hb;rw [zdv] at hbc;have hfind:=zix (g:=T.ca m t) hf hbc xs 0 j hj;rw [Nat.zero_add] at hfind;simp only [denR]
   have hjl:j<xs.length:=by
    cases h1:z22 (T.kf t kv) xs with
    | none=>rw [h1] at hj;cases hj
    | some r =>rw [h1] at hj;cases hj;exact (List.getElem?_eq_some_iff.1 (z9i _ xs r.1 r.2 h1).1).1
   have hxj:((xs.map (T.ca m t)).set j (denL T.tq [] cs))[j]?=some (denL T.tq [] cs):=getElem?_set_self (by simpa using hjl);refine ⟨⟨c1,_,hfind,λi hi=>by cases hi;exact ⟨_,hxj,by rw [z1c];omega⟩⟩,?_⟩;unfold z4x;rw [hfind];have htk:=zmw (kc:=kv.map .sc) (x0:=denL T.tq [] cs) (by rw [length_map];exact hk) hbc (by rw [z1c];omega);simp only [map_some,z9q,zu,hxj,htk,map_set,set_set];rw [List.drop_eq_nil_of_le (by rw [z1c];omega),append_nil,hu]
  ·exact hg.elim
theorem zn8 {f g:Operand->AV} {h:H} {nv:Nat} {ks:List Nat} {x key v:Operand} (hx:f x=g x) (hk:f key=g key) (hv:f v=g v):z7x f h nv ks x key v=z7x g h nv ks x key v:=by unfold z7x;rw [hx,hk,hv]
def mstT (e:TE T.tq) (h:TH T.tq) (nv:Nat) (ks:List Nat) (x key v:Operand):Rs (StT T) :=
 match evT e x,keyV ks.length (evT e key),zd7 nv (evT e v) with
 | .pp (.mr k p),some kv,some vs =>
  match getT h k with
  | some r=>bif Nat.beq vs.length nv then
   match zdp (delT h k) [k] vs with
   | none=>.no
   | some (vs',g,h') =>
    (updT (zsa nv ks kv vs') p r).bind λr' =>
    .ok ⟨.un,λk' q=>under k p ks.length nv k' q||(g.contains k'&&!(Nat.beq k' k)),λk' q=>Nat.beq k' k&&eqC q p,g,(k,r')::h'⟩
   else .no
  | none=>.no
 | _,_,_=>.no
theorem zxw {h:H} {n:Nat} {x:VT T} {cs:List (VT T)} (hc:zd7 n x=some cs):z29 n (den T.tq h x)=some (denL T.tq h cs):=by
 cases x<;>simp [zd7,oneT] at hc
 case ag cs' =>
  cases hn:Nat.beq n 1 with
  | true=>rw [hn] at hc;simp at hc
  | false =>rw [hn] at hc;simp at hc;subst hc;simp only [den,z29];rw [if_neg (λe=>by rw [e] at hn;cases hn)]
 case sc u =>
  cases hu:u.oneCell' with
  | true=>rw [hu] at hc;simp at hc;subst hc;simp [den,z29,z36,hu,denL]
  | false=>rw [hu] at hc;simp at hc
 case ik k n=>subst hc;simp [den,z29,z36,denL,Value.oneCell']
 case bk b=>subst hc;simp [den,z29,z36,denL,Value.oneCell']
 case pp q=>subst hc;cases q<;>simp [den,denP,z29,z36,denL]
 all_goals (subst hc;simp [den,z29,z36,denL])
theorem zmo:∀ kv:List Value,scs? (kv.map .sc)=true
 | []=>rfl
 | _::l=>zmo l
theorem zk8:∀ (l l':List AV) (hp hp':H),absL hp l=some (l',hp')->l'.length=l.length
 | [],l',hp,hp',hh=>by simp only [absL,Option.some.injEq,Prod.mk.injEq] at hh;rw [<- hh.1]
 | y::l,l',hp,hp',hh=>by
  unfold absL at hh;split at hh
  ·split at hh
   ·rename_i h2;simp only [Option.some.injEq,Prod.mk.injEq] at hh;rw [<- hh.1,length_cons,zk8 l _ _ _ h2,length_cons]
   ·cases hh
  ·cases hh
theorem zqn {P:Program} {pro:List Nat} {e:TE T.tq} {h:TH T.tq} {d:Nat} {g:Option (Nat×Bool)} {nv:Nat} {ks:List Nat} {x key v:Operand} {s:StT T} (hg:(mstT e h nv ks x key v).gives s):StOk P pro T e h ⟨d,g,.mst nv ks x key v⟩ s:=by
 unfold mstT at hg;split at hg
 ·rename_i k p kv vs hx hk hvs;split at hg
  ·rename_i r hr;obtain ⟨hn,hg⟩:=ze hg;have hn:=eq_of_beq_eq_true hn;split at hg
   ·exact hg.elim
   ·rename_i vs' gg h' hab;obtain ⟨r',hup,hg⟩:=Rs.bind_gives _ hg;cases hg;obtain ⟨q1,q2⟩:=zb3 (H0:=denH T.tq h) _ _ _ _ _ _ z3x hab;obtain ⟨k1,k2⟩:=zqg (h:=denH T.tq h) hk;have hv1:=zxw (h:=denH T.tq h) hvs;have hgr:z5 (denH T.tq h) k=some (denR T.tq r):=by rw [z1a,hr];rfl
    have hvl:(denL T.tq [] vs').length=nv:=by rw [zk8 _ _ _ _ q1,z1c,hn]
    have hvl':vs'.length=nv:=by rwa [z1c] at hvl
    have hgk:gg.contains k=true:=q2.sub k (by simp);obtain ⟨s1,ys,t1,⟨t2,f,t4,t5⟩,t3⟩:=z8e (f:=zsa nv ks kv vs') (F:=z4x ks.length nv ks (kv.map .sc) (denL T.tq [] vs')) (G:=λs1 ys=>s1=z3g ks.length nv/\∃ f,z3o ks (kv.map .sc) ys 0=some f/\∀ i,f.map Prod.fst=some i->∃ x0,ys[i]?=some x0/\ks.length+nv<=x0.length) (λr0 r1 h0=>y02 k2 hvl' r0 r1 h0) p r r' hup
    have hst:z7x (ev (denE T.tq (denH T.tq h) e)) (denH T.tq h) nv ks x key v=some (denH T.tq ((k,r')::h'),under k p ks.length nv):=by simp only [z7x,za,hx,den,denP,k1,hv1,hgr,t1,t2,z1c,length_map,k2,hn,zmo,and_self,if_true,t4,zo,q1];simp only [denH,t3]
    have htch:∀ k',gg.contains k'=false->z5 (denH T.tq ((k,r')::h')) k'=z5 (denH T.tq h) k':=λk' hk'=>by
     have hne:k≠k':=λe=>by rw [<- e,hgk] at hk';cases hk'
     simp only [denH,z5];rw [if_neg hne];exact q2.same k' hk'
    refine ⟨λe' he=>?_,λk' q hb hbw=>?_,htch⟩
    ·have hcg:z7x (ev e') (denH T.tq h) nv ks x key v=some (denH T.tq ((k,r')::h'),under k p ks.length nv):=by rw [<- hst];exact zn8 (z31 (x:=⟨d,g,.mst nv ks x key v⟩) he (by simp [opsK])) (z31 (x:=⟨d,g,.mst nv ks x key v⟩) he (by simp [opsK])) (z31 (x:=⟨d,g,.mst nv ks x key v⟩) he (by simp [opsK]))
     refine ⟨e',_,zx (under k p ks.length nv) e',denH T.tq ((k,r')::h'),z6.rfl',λ_ _ h=>h,.plain (by simp only [z23,hcg]),?_⟩;refine z6.le λt=>?_;simp only [zx,upd];split
     ·exact AVle.un _
     ·exact z5p (λk' q hk=>by simp only [hk,Bool.true_or]) _
    ·simp only [or_eq_false_iff] at hb;by_cases hkk:k'=k
     ·subst hkk;rw [z2f (r:=denR T.tq r') (by simp [denH,z5]),z2f hgr,t3];simp only;simp only [Nat.beq_refl,Bool.true_and] at hbw;refine zjb (k:=k') (nk:=ks.length) (nv:=nv) (kc:=kv.map .sc) (vs:=denL T.tq [] vs') (by rw [length_map];exact k2) hvl (zmo kv) p _ s1 _ ys (f.map Prod.fst) q t1 ?_ t5 hb.1 hbw;unfold z4x;rw [t4]
     ·refine zz ?_;simp only [denH,z5];rw [if_neg (λe=>hkk e.symm)];refine q2.same k' ?_;have:=hb.2;simp only [z10,hkk,decide_false,Bool.not_false,Bool.and_true] at this;exact this
  ·exact hg.elim
 ·exact hg.elim
end
section
variable {T:TT}
def srcT (m:Bool) (t s:Nat) (e:TE T.tq) (h:TH T.tq) (y:Operand):Rs (List (T.El t)×Option Nat) :=
 bif Nat.beq (T.sz t) s then
 match evT e y with
 | .zs=>.ok ([],none)
 | .sc (.string b)=>if hh:T.u8=t then bif m then .no else .ok (hh ▸ T.bs (bytesOf b),none) else .no
 | .im t' ws=>if hh:t'=t then bif m then .no else .ok (hh ▸ ws,none) else .no
 | .sw k p=>atT h k p fun
  | .typ m' t' ws=>if hh:t'=t then
    match m',m,p with
    | false,false,_=>.ok (hh ▸ ws,none)
    | true,true,[]=>.ok (hh ▸ ws,some k)
    | _,_,_=>.no
   else .no
  | _=>.no
 | .sl k p off len=>atT h k p fun
  | .typ m' t' ws=>if hh:t'=t then bif m||m' then .no else .need (off+len<=ws.length) (.ok (((hh ▸ ws:List (T.El t)).drop off).take len,none)) else .no
  | _=>.no
 | _=>.no
 else .no
theorem zlj {t:Nat} (xs:List (T.El t)):z9j (xs.map (T.ca false t))=true:=by unfold z9j;rw [all_eq_true];intro y hy;obtain ⟨x,_,rfl⟩:=mem_map.1 hy;exact T.fl_ok t x
theorem zhz {m:Bool} {t s:Nat} {e:TE T.tq} {h:TH T.tq} {y:Operand} {ws:List (T.El t)} {mv:Option Nat} (hg:(srcT m t s e h y).gives (ws,mv)) :
  T.sz t=s/\∃ mv',srcE (denH T.tq h) s (den T.tq (denH T.tq h) (evT e y))=some (ws.map (T.ca m t),mv')/\(mv'=none\/mv'=mv):=by
 unfold srcT at hg;obtain ⟨hs,hg⟩:=ze hg;have hs:=eq_of_beq_eq_true hs;refine ⟨hs,?_⟩;split at hg
 ·rename_i hy;cases hg;exact ⟨none,by simp [hy,den,srcE],.inl rfl⟩
 ·rename_i b hy;split at hg
  ·rename_i hh;subst hh;cases m with
   | true=>exact hg.elim
   | false =>cases hg;refine ⟨none,?_,.inl rfl⟩;simp only [hy,den,srcE];rw [if_pos (by rw [<- hs];exact T.bs_sz),T.bs_ok]
  ·exact hg.elim
 ·rename_i t' ws' hy;split at hg
  ·rename_i hh;subst hh;cases m with
   | true=>exact hg.elim
   | false =>cases hg;exact ⟨none,by simp only [hy,den,srcE];rw [if_pos hs],.inl rfl⟩
  ·exact hg.elim
 ·rename_i k p hy;obtain ⟨r,hr,hg⟩:=z4c hg;have hl:zc (denH T.tq h) k p=(denR T.tq r).xs.length:=z4i hr;split at hg
  ·rename_i m' t' ws';split at hg
   ·rename_i hh;subst hh;split at hg
    ·cases hg;refine ⟨none,?_,.inl rfl⟩;simp only [hy,den,srcE,hr,hl];simp only [denR,hs];rw [if_pos ⟨trivial,by omega⟩,drop_zero,take_length,if_pos (zlj _)]
    ·cases hg;refine ⟨if z9j ((ws'.map (T.ca true t')))=true then none else some k,?_,?_⟩
     ·simp only [hy,den,srcE,hr,hl];simp only [denR,hs];rw [if_pos ⟨trivial,by omega⟩,drop_zero,take_length];split<;>simp
     ·split<;>simp
    ·exact hg.elim
   ·exact hg.elim
  ·exact hg.elim
 ·rename_i k p off len hy;obtain ⟨r,hr,hg⟩:=z4c hg;split at hg
  ·rename_i m' t' ws';split at hg
   ·rename_i hh;subst hh;cases m<;>cases m'<;>first | exact hg.elim | skip
    obtain ⟨hc,hg⟩:=hg;cases hg;refine ⟨none,?_,.inl rfl⟩;simp only [hy,den,srcE,hr];simp only [denR,hs];rw [if_pos ⟨trivial,by simpa using hc⟩];have:((ws'.map (T.ca false t')).drop off).take len=((ws'.drop off).take len).map (T.ca false t'):=by simp [map_take,map_drop]
    rw [this,if_pos (zlj _)]
   ·exact hg.elim
  ·exact hg.elim
 ·exact hg.elim
theorem zeo {a b:Nat}:∀ (h:H),z7 (z7 h a) b=z7 (z7 h b) a
 | []=>rfl
 | (k,r)::h=>by
  by_cases ha:k=a
  ·by_cases hb:k=b
   ·subst ha;subst hb;rfl
   ·simp only [z7,if_pos ha,if_neg hb]
  ·by_cases hb:k=b
   ·simp only [z7,if_neg ha,if_pos hb]
   ·simp only [z7,if_neg ha,if_neg hb,zeo h]
theorem z6.drop {P:Program} {pro:List Nat} {e:Env} {h:H} (k:Nat):z6 P pro e h e (z7 h k):=λI N _ σ a w R=>by obtain ⟨q1,q2,q3,q4⟩:=z3c R.heap k;exact ⟨σ,I,λ_ h=>h,λ_ h=>.inl h,⟨q1,R.size,R.vals,R.defers⟩,λ_ _=>rfl,Le.refl _,λ_ _ _=>rfl,λb hb=>.inl (q3 b hb)⟩
def z73 (h:TH T.tq):Option Nat->TH T.tq
 | none=>h
 | some k=>delT h k
theorem zyp {h:TH T.tq} {mv:Option Nat}:z1i (denH T.tq h) mv=denH T.tq (z73 h mv):=by
 cases mv with
 | none=>rfl
 | some k=>exact zo h k
def isO (mv:Option Nat) (k:Nat):Bool:=match mv with | some k'=>Nat.beq k' k | none=>false
def apT (ty:Option (Bool×Nat)) (pro:List Nat) (e:TE T.tq) (h:TH T.tq) (d s bytes:Nat) (x y:Operand):Rs (StT T) :=
 match evT e x with
 | .zs =>
  match ty with
  | none=>.no
  | some (m,t)=>bif pro.contains d then .no else
   (srcT m t s e h y).bind λ(ws,mv)=>bif isO mv d then .no else
    .need (ws.length * bytes<=140737488355328) (.ok ⟨.sw d [],λk _=>Nat.beq k d||isO mv k,λ_ _=>false,d::mv.toList,(d,.typ m t ws)::delT (z73 h mv) d⟩)
 | .sw k [] =>
  match getT h k with
  | some (.typ m t xs)=>bif pro.contains k then .no else
   (srcT m t s e h y).bind λ(ws,mv)=>bif isO mv k then .no else
    .need ((xs.length+ws.length) * bytes<=140737488355328) (.ok ⟨.sw k [],λk' _=>Nat.beq k' k||isO mv k',λ_ _=>false,k::mv.toList,(k,.typ m t (xs++ws))::delT (z73 h mv) k⟩)
  | _=>.no
 | .sl k [] 0 len =>
  match getT h k with
  | some (.typ m t xs)=>bif pro.contains k then .no else
   (srcT m t s e h y).bind λ(ws,mv)=>bif isO mv k then .no else
    .need (len<=xs.length/\(len+ws.length) * bytes<=140737488355328) (.ok ⟨.sw k [],λk' _=>Nat.beq k' k||isO mv k',λ_ _=>false,k::mv.toList,(k,.typ m t (xs.take len++ws))::delT (z73 h mv) k⟩)
  | _=>.no
 | _=>.no
theorem zka {P:Program} {pro:List Nat} {e:TE T.tq} {h:TH T.tq} {d s bytes k:Nat} {g:Option (Nat×Bool)} {x y:Operand} {mv mv':Option Nat} {m:Bool} {t:Nat} {zs:List (T.El t)} (hp:pro.contains k=false) (hs:T.sz t=s) (hk:isO mv k=false) (hm:mv'=none\/mv'=mv)
  (hap:apop (ev (denE T.tq (denH T.tq h) e)) (denH T.tq h) d s bytes x y=some (.sl k [] 0 zs.length,(k,⟨s,zs.map (T.ca m t)⟩)::z7 (z1i (denH T.tq h) mv') k,k)) :
  StOk P pro T e h ⟨d,g,.app s bytes x y⟩ ⟨.sw k [],λk' _=>Nat.beq k' k||isO mv k',λ_ _=>false,k::mv.toList,(k,.typ m t zs)::delT (z73 h mv) k⟩:=by
 have hsame:∀ k',k'≠k->isO mv k'=false->z5 (denH T.tq ((k,.typ m t zs)::delT (z73 h mv) k)) k'=z5 (denH T.tq h) k':=λk' h1 h2=>by
  simp only [denH,z5];rw [if_neg (λe=>h1 e.symm),<- zo,zw h1];cases mv with
  | none=>rfl
  | some k2 =>simp only [z73,<- zo];refine zw (λe=>?_) _;simp [isO,e] at h2
 refine ⟨λe' he=>?_,λk' q hb _=>zz ?_,λk' hk'=>?_⟩
 ·have hcg:=hap;rw [<- zrj (z31 (x:=⟨d,g,.app s bytes x y⟩) he (o:=x) (by simp [opsK])) (z31 (x:=⟨d,g,.app s bytes x y⟩) he (o:=y) (by simp [opsK]))] at hcg;refine ⟨e',_,upd (zx (λk' _=>k'==k) e') d (.sl k [] 0 zs.length),_,z6.rfl',λ_ _ h=>h,.plain (by simp only [z23,hcg,hp,false_eq_true,if_false];rfl),?_⟩
  have hheap:z6 P pro (upd (zx (λk' _=>k'==k) e') d (.sl k [] 0 zs.length)) ((k,⟨s,zs.map (T.ca m t)⟩)::z7 (z1i (denH T.tq h) mv') k) (upd (zx (λk' _=>k'==k) e') d (.sl k [] 0 zs.length)) (denH T.tq ((k,.typ m t zs)::delT (z73 h mv) k)):=by
   have goal:denH T.tq ((k,.typ m t zs)::delT (z73 h mv) k)=(k,⟨s,zs.map (T.ca m t)⟩)::z7 (z1i (denH T.tq h) mv) k:=by simp only [denH,denR,hs,<- zo,zyp]
   rw [goal];rcases hm with rfl | rfl
   ·cases mv with
    | none=>exact z6.rfl'
    | some k2 =>
     have hne:k2≠k:=by simp only [isO,z10,decide_eq_false_iff_not] at hk;exact hk
     have:=z6.drop (P:=P) (pro:=pro) (e:=upd (zx (λk' _=>k'==k) e') d (.sl k [] 0 zs.length)) (h:=(k,⟨s,zs.map (T.ca m t)⟩)::z7 (denH T.tq h) k) k2;simp only [z7,if_neg (Ne.symm hne)] at this;rw [zeo] at this;exact this
   ·exact z6.rfl'
  refine z6.trans hheap (z6.le λu=>?_)
  have hl:zc (denH T.tq ((k,.typ m t zs)::delT (z73 h mv) k)) k []=zs.length:=by unfold zc resA;simp [denH,z5,resE,denR]
  simp only [zx,upd];split
  ·simp only [den,hl];exact AVle.refl _
  ·exact z5p (λk' q hk'=>by simp only [beq_iff_eq] at hk';subst hk';simp) _
 ·simp only [or_eq_false_iff,z10,decide_eq_false_iff_not] at hb;exact hsame k' hb.1 hb.2
 ·simp only [contains_cons,or_eq_false_iff,beq_eq_false_iff_ne] at hk';refine hsame k' hk'.1 ?_;cases mv with
  | none=>rfl
  | some k2 =>have:=hk'.2;simp only [Option.toList,contains_cons,or_eq_false_iff,beq_eq_false_iff_ne] at this;simp only [isO,z10,decide_eq_false_iff_not];exact λe=>this.1 e.symm
theorem zss {P:Program} {ty:Option (Bool×Nat)} {pro:List Nat} {e:TE T.tq} {h:TH T.tq} {d s bytes:Nat} {g:Option (Nat×Bool)} {x y:Operand} {st:StT T} (hg:(apT ty pro e h d s bytes x y).gives st):StOk P pro T e h ⟨d,g,.app s bytes x y⟩ st:=by
 have nob:∀ {b:Bool} {X:Type} {r:Rs X} {v:X},(bif b then .no else r).gives v->b=false/\r.gives v:=λ{b _ _ _} hg=>by
  cases b
  ·exact ⟨rfl,hg⟩
  ·exact hg.elim
 have take:∀ {k:Nat} {mv mv':Option Nat} {r:TR T.El},isO mv k=false->(mv'=none\/mv'=mv)->getT h k=some r->z5 (z1i (denH T.tq h) mv') k=some (denR T.tq r):=λ{k mv mv' r} hk hm hr=>by
  have h0:z5 (denH T.tq h) k=some (denR T.tq r):=by rw [z1a,hr];rfl
  rcases hm with rfl | rfl
  ·exact h0
  ·cases mv' with
   | none=>exact h0
   | some k2 =>
    have hne:k2≠k:=by simp only [isO,z10,decide_eq_false_iff_not] at hk;exact hk
    rw [z1i,zw (Ne.symm hne),h0]
 unfold apT at hg;split at hg
 ·rename_i hx;split at hg
  ·exact hg.elim
  ·rename_i m t;obtain ⟨hp,hg⟩:=nob hg;obtain ⟨⟨ws,mv⟩,hsrc,hg⟩:=Rs.bind_gives _ hg;obtain ⟨hk,hg⟩:=nob hg;obtain ⟨hc,rfl⟩:=hg;obtain ⟨hs,mv',h1,h2⟩:=zhz hsrc;refine zka hp hs hk h2 ?_;simp only [apop,za,h1,hx,den,length_map];rw [if_pos hc]
 ·rename_i k hx;split at hg
  ·rename_i m t xs hr;obtain ⟨hp,hg⟩:=nob hg;obtain ⟨⟨ws,mv⟩,hsrc,hg⟩:=Rs.bind_gives _ hg;obtain ⟨hk,hg⟩:=nob hg;obtain ⟨hc,rfl⟩:=hg;obtain ⟨hs,mv',h1,h2⟩:=zhz hsrc;refine zka hp hs hk h2 ?_;have hgr:z5 (denH T.tq h) k=some (denR T.tq (.typ m t xs)):=by rw [z1a,hr];rfl
   have hl:zc (denH T.tq h) k []=xs.length:=by rw [z2f hgr];simp [lenR,resE,denR]
   simp only [apop,za,h1,hx,den,hl,take hk h2 hr,denR,length_map];rw [if_pos ⟨trivial,trivial⟩,if_pos ⟨hs,Nat.le_refl _,hc⟩,take_of_length_le (by simp),map_append,length_append]
  ·exact hg.elim
 ·rename_i k len hx;split at hg
  ·rename_i m t xs hr;obtain ⟨hp,hg⟩:=nob hg;obtain ⟨⟨ws,mv⟩,hsrc,hg⟩:=Rs.bind_gives _ hg;obtain ⟨hk,hg⟩:=nob hg;obtain ⟨⟨hc1,hc⟩,rfl⟩:=hg;obtain ⟨hs,mv',h1,h2⟩:=zhz hsrc;refine zka hp hs hk h2 ?_;simp only [apop,za,h1,hx,den,take hk h2 hr,denR,length_map];rw [if_pos ⟨trivial,trivial⟩,if_pos ⟨hs,hc1,hc⟩,map_append,map_take,length_append,length_take,Nat.min_eq_left hc1]
  ·exact hg.elim
 ·exact hg.elim
end
section
variable {T:TT}
mutual
theorem zan {H0 H1:H} {bad:Nat->Path->Bool} (hl:∀ k p,bad k p=false->zc H1 k p=zc H0 k p):∀ (v:VT T),kill bad (den T.tq H0 v)=den T.tq H1 (z1u bad (λ_ _=>false) v)
 | .un | .sc _ | .ik _ _ | .bk _ | .zs | .im _ _ | .ip _ _ _ | .ow _ _ _ | .oo _ _ _ _ _=>rfl
 | .pp q=>(zbx q).symm
 | .ag cs=>by simp only [den,kill,z1u,zby hl cs]
 | .tu cs=>by simp only [den,kill,z1u,zby hl cs]
 | .fn f cs=>by simp only [den,kill,z1u,zby hl cs]
 | .sl k p off len=>by simp only [den,kill,z1u];cases h1:bad k p<;>rfl
 | .pt k p i c=>by simp only [den,kill,z1u];cases h1:bad k p<;>rfl
 | .sw k p=>by
  simp only [den,kill,z1u,Bool.or_false];cases h1:bad k p with
  | true=>rfl
  | false=>simp only [false_eq_true,if_false,cond_false,den,hl k p h1]
theorem zby {H0 H1:H} {bad:Nat->Path->Bool} (hl:∀ k p,bad k p=false->zc H1 k p=zc H0 k p):∀ (l:List (VT T)),z24 bad (denL T.tq H0 l)=denL T.tq H1 (z63 bad (λ_ _=>false) l)
 | []=>rfl
 | x::l=>by simp only [denL,z24,z63,zan hl x,zby hl l]
end
mutual
theorem zf9:∀ (v:VT T),z1u (λ_ _=>false) (λ_ _=>false) v=v
 | .un | .sc _ | .ik _ _ | .bk _ | .zs | .im _ _ | .ip _ _ _ | .ow _ _ _ | .oo _ _ _ _ _ | .sl _ _ _ _ | .pt _ _ _ _ | .sw _ _=>rfl
 | .pp q=>by cases q<;>rfl
 | .ag cs=>by simp only [z1u,z9o cs]
 | .tu cs=>by simp only [z1u,z9o cs]
 | .fn f cs=>by simp only [z1u,z9o cs]
theorem z9o:∀ (l:List (VT T)),z63 (λ_ _=>false) (λ_ _=>false) l=l
 | []=>rfl
 | x::l=>by simp only [z63,zf9 x,z9o l]
end
def zrq {X:Type} (i:Nat) (K:List (VT T)->Rs X):TR T.El->Rs X
 | .lit s xs=>match xs[i]? with | some cs=>K cs | none=>.no
 | .typ m t xs=>.bnd (xs[i]?) λy=>K (T.ct m t y)
 | .opn m t xs j cs=>.need (i=j/\j<xs.length) (K cs)
theorem zze {X:Type} {i:Nat} {K:List (VT T)->Rs X} {r:TR T.El} {v:X} (hg:(zrq i K r).gives v):∃ cs,(denR T.tq r).xs[i]?=some (denL T.tq [] cs)/\(K cs).gives v:=by
 cases r with
 | lit s xs =>
  simp only [zrq] at hg;split at hg
  ·rename_i cs hcs;exact ⟨cs,by simp [denR,hcs],hg⟩
  ·exact hg.elim
 | typ m t xs =>obtain ⟨y,hy,hg⟩:=hg;exact ⟨T.ct m t y,by simp [denR,hy,T.ct_ok],hg⟩
 | opn m t xs j cs =>obtain ⟨⟨rfl,hj⟩,hg⟩:=hg;exact ⟨cs,by simp only [denR];rw [getElem?_set_self (by simpa using hj)],hg⟩
def zgt:Path->Option (Path×Nat×Nat)
 | []=>none
 | [(i,c)]=>some ([],i,c)
 | x::p=>match zgt p with | some (q,i,c)=>some (x::q,i,c) | none=>none
theorem zj8:∀ (p q:Path) (i c:Nat),zgt p=some (q,i,c)->p=q++[(i,c)]
 | [],_,_,_,h=>by cases h
 | [(i,c)],_,_,_,h=>by cases h;rfl
 | x::y::p,q,i,c,h=>by
  simp only [zgt] at h;split at h
  ·rename_i q' i' c' h';cases h;rw [zj8 (y::p) q' i c h'];rfl
  ·cases h
def detT (pro:List Nat) (h:TH T.tq) (j k:Nat) (p:Path) (i c:Nat):Rs (TH T.tq) :=
 bif pro.contains j||(h.map Prod.fst).contains j then .no else
 match getT h k with
 | none=>.no
 | some r=>z67 (zrq i λcs=>match (cs[c]?).bind zee with
  | none=>.no
  | some rj=>(updT (putT false i c 1 [.un]) p r).bind λr'=>.ok ((j,rj)::(k,r')::delT h k)) p r
def z55 (j k:Nat) (p:Path) (c:Nat) (k':Nat) (q:Path):Bool:=Nat.beq k' j||under k p c 1 k' q
theorem y42 {P:Program} {pro:List Nat} {h h1:TH T.tq} {j k i c:Nat} {p:Path} (hg:(detT pro h j k p i c).gives h1) :
  (∀ (e:Env) (t:Nat),e t = .sl k (p++[(i,c)]) 0 (zc (denH T.tq h) k (p++[(i,c)]))->z6 P pro e (denH T.tq h) (upd (zx (z55 j k p c) e) t (.sl j [] 0 (zc (denH T.tq h1) j []))) (denH T.tq h1)) /\
  (∀ k' q,z55 j k p c k' q=false->zc (denH T.tq h1) k' q=zc (denH T.tq h) k' q)/\(∀ k',k'≠j->k'≠k->z5 (denH T.tq h1) k'=z5 (denH T.tq h) k'):=by
 unfold detT at hg
 have hj:pro.contains j=false/\(h.map Prod.fst).contains j=false:=by
  cases hb:(pro.contains j||(h.map Prod.fst).contains j) with
  | true=>rw [hb] at hg;exact hg.elim
  | false=>simpa using hb
 rw [hj.1,hj.2] at hg;simp only [Bool.or_false,cond_false] at hg;split at hg
 ·exact hg.elim
 ·rename_i r hr;obtain ⟨ry,hp,hg⟩:=z4k _ _ hg;obtain ⟨cs,hcs,hg⟩:=zze hg;split at hg
  ·exact hg.elim
  ·rename_i rj hrj;obtain ⟨r',hup,hg⟩:=Rs.bind_gives _ hg;cases hg;obtain ⟨v,hv,hrow⟩:=bind_eq_some_iff.1 hrj;have hgr:z5 (denH T.tq h) k=some (denR T.tq r):=by rw [z1a,hr];rfl
   have hcell:(denL T.tq [] cs)[c]?=some (.ow (denR T.tq rj).s (denR T.tq rj).xs):=by rw [z25,hv,map_some,z7e hrow]
   have hlen:zc (denH T.tq h) k (p++[(i,c)])=(denR T.tq rj).xs.length:=by rw [z2f hgr];unfold lenR;rw [za8 p _ _ _ _ _ hp];simp [resE,hcs,hcell]
   obtain ⟨s1,ys,t1,⟨x0,t2,t4⟩,t3⟩:=z8e (f:=putT false i c 1 [.un]) (F:=zu i c 1 [.un]) (G:=λ_ ys=>∃ x0,ys[i]?=some x0/\c+1<=x0.length) (λr0 r1 h0=>by
    obtain ⟨h1,h2⟩:=zqw r0 r1 h0;refine ⟨h1,?_⟩;rw [h2];have:tgR (T:=T) false r0=λ_=>none:=by cases r0<;>rfl
    rw [this,z4j];rfl) p r r' hup
   rw [t1] at hp;simp only [Option.some.injEq,Prod.mk.injEq] at hp;obtain ⟨rfl,rfl⟩:=hp;have hx0:x0=denL T.tq [] cs:=by rw [t2] at hcs;exact Option.some.inj hcs
   have hset:updE (denR T.tq r).xs p (zu i c 1 [.un])=updE (denR T.tq r).xs p (λys=>ys.set i ((denL T.tq [] cs).set c .un)):=by refine zhi p _ _ _ _ t1 ?_;simp only [zu,t2,hx0];congr 1;rw [List.set_eq_take_append_cons_drop];rw [hx0] at t4;rw [if_pos (by omega)];simp
   have hjk:j≠k:=λe=>by
    have:(h.map Prod.fst).contains k=true:=by have:=z7t _ hgr;rw [z16] at this;simpa using this
    rw [<- e,hj.2] at this;cases this
   have hlj:zc (denH T.tq ((j,rj)::(k,r')::delT h k)) j []=(denR T.tq rj).xs.length:=by unfold zc resA;simp [denH,z5,resE]
   refine ⟨λe t ht=>?_,λk' q hb=>?_,λk' h1 h2=>by simp only [denH,z5];rw [if_neg (λe=>h1 e.symm),if_neg (λe=>h2 e.symm),<- zo,zw h2]⟩
   ·rw [hlen] at ht
    have:=z6.detachAt (P:=P) (pro:=pro) (e:=e) (h:=denH T.tq h) (t:=t) (s0:=(denR T.tq ry).s) j ht hgr t1 hcs hcell (by rw [z16];exact hj.2) (by rw [all_eq_true];intro k' hk';simp only [bne_iff_ne,ne_eq];rintro rfl;have:=hj.1;simp [hk'] at this)
    rw [hlj]
    have hh:denH T.tq ((j,rj)::(k,r')::delT h k)=(j,⟨(denR T.tq rj).s,(denR T.tq rj).xs⟩)::(k,⟨(denR T.tq r).s,updE (denR T.tq r).xs p (λys=>ys.set i ((denL T.tq [] cs).set c .un))⟩)::z7 (denH T.tq h) k:=by simp only [denH,t3,hset,zo]
    rw [hh]
    have hb:(λk' q=>k'==j||under k p c 1 k' q)=z55 j k p c:=by funext k' q;unfold z55;congr 1;rw [Bool.eq_iff_iff];simp
    rw [hb] at this;exact this
   ·simp only [z55,or_eq_false_iff,z10,decide_eq_false_iff_not] at hb;by_cases hk:k'=k
    ·subst hk;rw [z2f (r:=denR T.tq r') (by simp [denH,z5,hjk]),z2f hgr,t3];exact zfa (k:=k') rfl p _ _ _ _ x0 q t1 t2 t4 hb.2
    ·refine zz ?_;simp only [denH,z5];rw [if_neg (λe=>hb.1 e.symm),if_neg (λe=>hk e.symm),<- zo,zw hk]
def appT (ty:Option (Bool×Nat)) (pro:List Nat) (e:TE T.tq) (h:TH T.tq) (d s bytes:Nat) (x y:Operand):Rs (StT T) :=
 match evT e x,x with
 | .sw k (z::p),.tmp t =>
  match zgt (z::p) with
  | none=>.no
  | some (p,i,c) =>
   let j:=400000+d
   (detT pro h j k p i c).bind λh1 =>
    (apT ty pro (putE (z4h (z55 j k p c) (λ_ _=>false) e) t (.sw j [])) h1 d s bytes x y).bind λst =>
     .ok ⟨st.v,λk' q=>z55 j k p c k' q||st.bad k' q,st.bw,j::k::st.tch,st.h⟩
 | _,_=>apT ty pro e h d s bytes x y
theorem zsk {k i c:Nat} {p:Path}:under k p c 1 k (p++[(i,c)])=true:=by simp [under]
theorem znf {P:Program} {ty:Option (Bool×Nat)} {pro:List Nat} {e:TE T.tq} {h:TH T.tq} {d s bytes:Nat} {g:Option (Nat×Bool)} {x y:Operand} {st:StT T} (hg:(appT ty pro e h d s bytes x y).gives st):StOk P pro T e h ⟨d,g,.app s bytes x y⟩ st:=by
 unfold appT at hg;split at hg
 ·rename_i k z p0 t hx;split at hg
  ·exact hg.elim
  ·rename_i p i c hlast;obtain ⟨h1,hd,hg⟩:=Rs.bind_gives _ hg;obtain ⟨st1,ha,hg⟩:=Rs.bind_gives _ hg;cases hg;obtain ⟨d1,d2,d3⟩:=y42 (P:=P) hd;obtain ⟨a1,a2,a3⟩:=zss (P:=P) (g:=g) ha;have hp:=zj8 _ _ _ _ hlast;refine ⟨λe' he=>?_,λk' q hb hw=>?_,λk' hk'=>?_⟩
   ·have het:e' t = .sl k (p++[(i,c)]) 0 (zc (denH T.tq h) k (p++[(i,c)])):=by rw [he t (by simp [z2s,opsK,zeg])];show den T.tq _ (evT e (.tmp t))=_;rw [hx,hp];rfl
    have hgh:=d1 e' t het
    obtain ⟨e0,h0',e1,h1',g1,gb,g2,g3⟩:=a1 (upd (zx (z55 (400000+d) k p c) e') t (.sl (400000+d) [] 0 (zc (denH T.tq h1) (400000+d) []))) (λu hu=>by
     rw [zy];simp only [upd];split
     ·rfl
     ·simp only [zx,denE,z2c];rw [he u hu];exact zan d2 _)
    refine ⟨e0,h0',e1,h1',hgh.trans g1,λu b hu=>gb u b ?_,g2,g3.trans (z6.le λu=>?_)⟩
    ·simp only [upd];split
     ·rename_i hut;subst hut;rw [het] at hu;cases hu
     ·simp only [zx,hu,kill]
    simp only [upd];split
    ·exact AVle.refl _
    ·split
     ·rename_i hu;subst hu
      have:kill (λk' q=>z55 (400000+d) k p c k' q||st1.bad k' q) (e' u) = .un:=by rw [het];simp [kill,z55,zsk]
      rw [this];exact AVle.un _
     ·simp only [zx];rw [z9p.1];exact AVle.refl _
   ·simp only [or_eq_false_iff] at hb;rw [a2 k' q hb.2 hw,d2 k' q hb.1]
   ·simp only [contains_cons,or_eq_false_iff,beq_eq_false_iff_ne] at hk';rw [a3 k' hk'.2.2,d3 k' hk'.1 hk'.2.1]
 ·exact zss hg
end
section
variable {P:Program} {T:TT} {pro:List Nat}
def renP (k i c k':Nat) (p:Path):Option Path :=
 match p with
 | []=>none
 | (i',c')::q=>bif Nat.beq k' k&&(Nat.beq c' c&&Nat.beq i' i) then some q else none
mutual
def renT (k i c j:Nat):VT T->VT T
 | .sl k' p off len=>bif Nat.beq k' j then .un else match renP k i c k' p with | some q=>.sl j q off len | none=>.sl k' p off len
 | .sw k' p=>bif Nat.beq k' j then .un else match renP k i c k' p with | some q=>.sw j q | none=>.sw k' p
 | .pt k' p o c0=>bif Nat.beq k' j then .un else match renP k i c k' p with | some q=>.pt j q o c0 | none=>.pt k' p o c0
 | .ag cs=>.ag (zed k i c j cs)
 | .tu cs=>.tu (zed k i c j cs)
 | .fn f cs=>.fn f (zed k i c j cs)
 | .un=>.un
 | .sc v=>.sc v
 | .ik k n=>.ik k n
 | .bk b=>.bk b
 | .zs=>.zs
 | .im t xs=>.im t xs
 | .ip s cs c=>.ip s cs c
 | .ow m t xs=>.ow m t xs
 | .oo m t xs i cs=>.oo m t xs i cs
 | .pp q=>z8p (λk' _=>Nat.beq k' j) q
def zed (k i c j:Nat):List (VT T)->List (VT T)
 | []=>[]
 | x::l=>renT k i c j x::zed k i c j l
end
theorem zyb {k i c k':Nat} {p:Path} (h:renP k i c k' p=none):∀ q,¬ (k'=k/\p=(i,c)::q):=by rintro q ⟨rfl,rfl⟩;simp [renP] at h
theorem zyc {k i c k':Nat} {p q:Path} (h:renP k i c k' p=some q):k'=k/\p=(i,c)::q:=by
 unfold renP at h;split at h
 ·cases h
 ·rename_i i' c' q';cases hb:(Nat.beq k' k&&(Nat.beq c' c&&Nat.beq i' i)) with
  | false=>rw [hb] at h;cases h
  | true =>rw [hb] at h;cases h;simp only [and_eq_true] at hb;exact ⟨eq_of_beq_eq_true hb.1,by rw [eq_of_beq_eq_true hb.2.1,eq_of_beq_eq_true hb.2.2]⟩
theorem zqy {k i c j k':Nat} {p:Path} {off len:Nat}:renV k i c j (.sl k' p off len)=if k'=j then .un else match renP k i c k' p with | some q=>.sl j q off len | none=>.sl k' p off len:=by
 unfold renV;split
 ·rfl
 ·cases p with
  | nil=>rfl
  | cons x q =>
   obtain ⟨i',c'⟩:=x;simp only [renP,z10];by_cases h:k'=k/\i'=i/\c'=c
   ·obtain ⟨rfl,rfl,rfl⟩:=h;simp
   ·rw [if_neg h]
    have:(decide (k'=k)&&(decide (c'=c)&&decide (i'=i)))=false:=by rw [Bool.eq_false_iff];intro hb;simp only [and_eq_true,decide_eq_true_eq] at hb;exact h ⟨hb.1,hb.2.2,hb.2.1⟩
    rw [this];rfl
theorem y5q {k i c j k':Nat} {p:Path} {o c0:Nat}:renV k i c j (.pt k' p o c0)=if k'=j then .un else match renP k i c k' p with | some q=>.pt j q o c0 | none=>.pt k' p o c0:=by
 unfold renV;split
 ·rfl
 ·cases p with
  | nil=>rfl
  | cons x q =>
   obtain ⟨i',c'⟩:=x;simp only [renP,z10];by_cases h:k'=k/\i'=i/\c'=c
   ·obtain ⟨rfl,rfl,rfl⟩:=h;simp
   ·rw [if_neg h]
    have:(decide (k'=k)&&(decide (c'=c)&&decide (i'=i)))=false:=by rw [Bool.eq_false_iff];intro hb;simp only [and_eq_true,decide_eq_true_eq] at hb;exact h ⟨hb.1,hb.2.2,hb.2.1⟩
    rw [this];rfl
mutual
theorem zmi {H0 H1:H} {k i c j:Nat} (h1:∀ q,zc H1 j q=zc H0 k ((i,c)::q)) (h2:∀ k' q,k'≠j->(∀ q',¬ (k'=k/\q=(i,c)::q'))->zc H1 k' q=zc H0 k' q):∀ (v:VT T),den T.tq H1 (renT k i c j v)=renV k i c j (den T.tq H0 v)
 | .un | .sc _ | .ik _ _ | .bk _ | .zs | .im _ _ | .ip _ _ _ | .ow _ _ _ | .oo _ _ _ _ _=>by simp only [renT,den,renV]
 | .pp q=>by
  simp only [renT,den];rw [zbx];have hb:(λ(k':Nat) (_:Path)=>Nat.beq k' j)=λk' _=>k'==j:=by funext k' _;rw [z10];simp only [BEq.beq]
  rw [hb];cases q with
  | px k' c0 =>simp only [denP,kill,renV];by_cases hj:k'=j<;>simp [hj]
  | _=>rfl
 | .ag cs=>by simp only [renT,den,renV,z9v h1 h2 cs]
 | .tu cs=>by simp only [renT,den,renV,z9v h1 h2 cs]
 | .fn f cs=>by simp only [renT,den,renV,z9v h1 h2 cs]
 | .sl k' p off len=>by
  simp only [renT,den,zqy,z10];by_cases hj:k'=j
  ·simp [hj,den]
  ·simp only [hj,decide_false,cond_false,if_false];cases renP k i c k' p<;>rfl
 | .pt k' p o c0=>by
  simp only [renT,den,y5q,z10];by_cases hj:k'=j
  ·simp [hj,den]
  ·simp only [hj,decide_false,cond_false,if_false];cases renP k i c k' p<;>rfl
 | .sw k' p=>by
  simp only [renT,den,zqy,z10];by_cases hj:k'=j
  ·simp [hj,den]
  ·simp only [hj,decide_false,cond_false,if_false];cases hr:renP k i c k' p with
   | some q =>obtain ⟨rfl,rfl⟩:=zyc hr;simp only [den,h1]
   | none =>simp only [den,h2 k' p hj (zyb hr)]
theorem z9v {H0 H1:H} {k i c j:Nat} (h1:∀ q,zc H1 j q=zc H0 k ((i,c)::q)) (h2:∀ k' q,k'≠j->(∀ q',¬ (k'=k/\q=(i,c)::q'))->zc H1 k' q=zc H0 k' q):∀ (l:List (VT T)),denL T.tq H1 (zed k i c j l)=z9w k i c j (denL T.tq H0 l)
 | []=>rfl
 | x::l=>by simp only [zed,denL,z9w,zmi h1 h2 x,z9v h1 h2 l]
end
def z6x (k i c j:Nat):TE T.tq->TE T.tq
 | []=>[]
 | (t,v)::l=>(t,renT k i c j v)::z6x k i c j l
theorem zf5 {k i c j t:Nat}:∀ (e:TE T.tq),getE (z6x k i c j e) t=renT k i c j (getE e t)
 | []=>by simp [z6x,getE,renT]
 | (t',v)::l=>by have ih:=zf5 (k:=k) (i:=i) (c:=c) (j:=j) (t:=t) l;simp only [z6x,getE];cases Nat.beq t t'<;>simp [ih]
def zg3 (pro:List Nat) (h:TH T.tq) (j k i c:Nat):Option (TH T.tq) :=
 bif pro.contains j||(h.map Prod.fst).contains j then none else
 match getT h k with
 | some (.lit s xs)=>match xs[i]? with
  | some cs=>match (cs[c]?).bind zee with
   | some rj=>some ((j,rj)::(k,.lit s (xs.set i (cs.set c .un)))::delT h k)
   | none=>none
  | none=>none
 | _=>none
theorem zez {h h1:TH T.tq} {e:TE T.tq} {j k i c:Nat} (hg:zg3 pro h j k i c=some h1) :
  z6 P pro (denE T.tq (denH T.tq h) e) (denH T.tq h) (denE T.tq (denH T.tq h1) (z6x k i c j e)) (denH T.tq h1):=by
 unfold zg3 at hg
 have hj:pro.contains j=false/\(h.map Prod.fst).contains j=false:=by
  cases hb:(pro.contains j||(h.map Prod.fst).contains j) with
  | true=>rw [hb] at hg;cases hg
  | false=>simpa using hb
 rw [hj.1,hj.2] at hg;simp only [Bool.or_false,cond_false] at hg;split at hg
 ·rename_i s xs hr;split at hg
  ·rename_i cs hcs;split at hg
   ·rename_i rj hrj;cases hg;obtain ⟨v,hv,hrow⟩:=bind_eq_some_iff.1 hrj;have hgr:z5 (denH T.tq h) k=some ⟨s,xs.map (denL T.tq [])⟩:=by rw [z1a,hr];rfl
    have hx:(xs.map (denL T.tq []))[i]?=some (denL T.tq [] cs):=by simp [hcs]
    have hcell:(denL T.tq [] cs)[c]?=some (.ow (denR T.tq rj).s (denR T.tq rj).xs):=by rw [z25,hv,map_some,z7e hrow]
    have hjk:j≠k:=λe=>by
     have:(h.map Prod.fst).contains k=true:=by have:=z7t _ hgr;rw [z16] at this;simpa using this
     rw [<- e,hj.2] at this;cases this
    have:=z6.detach (P:=P) (pro:=pro) (e:=denE T.tq (denH T.tq h) e) j hgr hx hcell (by rw [z16];exact hj.2) (by rw [all_eq_true];intro k' hk';simp only [bne_iff_ne,ne_eq];rintro rfl;have:=hj.1;simp [hk'] at this)
    have hh:denH T.tq ((j,rj)::(k,TR.lit s (xs.set i (cs.set c .un)))::delT h k)=(j,⟨(denR T.tq rj).s,(denR T.tq rj).xs⟩)::(k,⟨s,(xs.map (denL T.tq [])).set i ((denL T.tq [] cs).set c .un)⟩)::z7 (denH T.tq h) k:=by simp only [denH,denR,zo,map_set];congr 3;simp only [zh,map_set];rfl
    rw [hh]
    have he:denE T.tq ((j,⟨(denR T.tq rj).s,(denR T.tq rj).xs⟩)::(k,⟨s,(xs.map (denL T.tq [])).set i ((denL T.tq [] cs).set c .un)⟩)::z7 (denH T.tq h) k) (z6x k i c j e)=λt=>renV k i c j (denE T.tq (denH T.tq h) e t):=by
     funext t;simp only [denE,zf5];refine zmi (λq=>?_) (λk' q hk hq=>?_) _
     ·unfold zc resA;rw [hgr];simp only [z5,if_true,resE,hx,hcell]
     ·by_cases hkk:k'=k
      ·subst hkk;unfold zc resA;rw [hgr];simp only [z5];rw [if_neg hjk];simp only [if_true];cases q with
       | nil=>simp [resE]
       | cons z q =>
        obtain ⟨i',c'⟩:=z;simp only [resE,getElem?_set];by_cases hi:i=i'
        ·subst hi
         have hil:i<(xs.map (denL T.tq [])).length:=by obtain ⟨hl,_⟩:=List.getElem?_eq_some_iff.1 hx;exact hl
         simp only [if_true,hil,hx];have hcc:c≠c':=λe=>by subst e;exact hq q ⟨rfl,rfl⟩
         rw [List.getElem?_set_ne hcc]
        ·simp only [hi,if_false]
      ·refine zz ?_;simp only [z5];rw [if_neg (λe=>hk e.symm),if_neg (λe=>hkk e.symm),zw hkk]
    rw [he];exact this
   ·cases hg
  ·cases hg
 ·cases hg
def yd5:VT T->Option (Nat×Nat×Nat)
 | .sw k [(i,c)]=>some (k,i,c)
 | _=>none
def zbc (pro:List Nat):Nat->TE T.tq->TH T.tq->List (VT T)->Option (TE T.tq×TH T.tq)
 | _,e,h,[]=>some (e,h)
 | j,e,h,x::l=>match yd5 x with
  | some (k,i,c)=>match zg3 pro h j k i c with | some h1=>zbc pro (j+1) (z6x k i c j e) h1 l | none=>none
  | none=>zbc pro (j+1) e h l
theorem zdd {k i c j t:Nat} {e:TE T.tq} {H0 H1:H} {b:Bool} (h:denE T.tq H0 e t=Bl b):denE T.tq H1 (z6x k i c j e) t=Bl b:=by simp only [denE,zf5] at h ⊢;cases hv:getE e t<;>rw [hv] at h<;>first | (rename_i q;cases q<;>cases h;done) | (simp [den] at h<;>simp [renT,den,h])
theorem zbd:∀ (l:List (VT T)) (j:Nat) (e e1:TE T.tq) (h h1:TH T.tq),zbc pro j e h l=some (e1,h1) ->
  z6 P pro (denE T.tq (denH T.tq h) e) (denH T.tq h) (denE T.tq (denH T.tq h1) e1) (denH T.tq h1)/\∀ t b,denE T.tq (denH T.tq h) e t=Bl b->denE T.tq (denH T.tq h1) e1 t=Bl b
 | [],j,e,e1,h,h1,hg=>by simp only [zbc,Option.some.injEq,Prod.mk.injEq] at hg;obtain ⟨rfl,rfl⟩:=hg;exact ⟨z6.rfl',λ_ _ h=>h⟩
 | x::l,j,e,e1,h,h1,hg=>by
  simp only [zbc] at hg;split at hg
  ·rename_i k i c heq;split at hg
   ·rename_i h2 hd;obtain ⟨q1,q2⟩:=zbd l (j+1) _ e1 _ h1 hg;exact ⟨(zez hd).trans q1,λt b hb=>q2 t b (zdd hb)⟩
   ·cases hg
  ·exact zbd l (j+1) e e1 h h1 hg
def zea (e:TE T.tq):List Operand->List (VT T)
 | []=>[]
 | o::l=>match z5f (evT e o) with | some cs=>cs++zea e l | none=>zea e l
end
inductive VD where
 | any
 | im (t:Nat)
 | ag (l:List VD)
 | pt (key:Nat)
 | fn (f:Nat) (l:List VD)
section
variable {T:TT}
structure Con (P:Program) (T:TT) where
 f:Nat
 X:Type
 Y:Type
 A:List VD
 H:List (Nat×List Kd)
 N:List Nat
 encA:X->List (VT T)
 encH:X->TH T.tq
 G:X->Option Y
 encR:Y->VT T
 encO:Y->TH T.tq
 strong:Bool
 ok:∀ x y,G x=some y->(strong=true->z17 P f (denL T.tq (denH T.tq (encH x)) (encA x)) (denH T.tq (encH x)) (den T.tq (denH T.tq (encO y)) (encR y)) (denH T.tq (encO y))) /\
  CallG P f (denL T.tq (denH T.tq (encH x)) (encA x)) (denH T.tq (encH x)) (den T.tq (denH T.tq (encO y)) (encR y)) (denH T.tq (encO y))
 x:Bool:=false
 V:Type:=Empty
 encV:V->Value:=by intro z;cases z
 FX:X->Option (Y⊕V):=λ_=>none
 okX:∀ x r,FX x=some r->match r with
  | .inl y=>CallG P f (denL T.tq (denH T.tq (encH x)) (encA x)) (denH T.tq (encH x)) (den T.tq (denH T.tq (encO y)) (encR y)) (denH T.tq (encO y))
  | .inr z=>z7j P f (denL T.tq (denH T.tq (encH x)) (encA x)) (denH T.tq (encH x)) (encV z):=by intro _ _ h;cases h
mutual
def yfm:VD->VT T->Option (List (Nat×Nat))
 | .pt key,.pt k [] 0 0=>some [(key,k)]
 | .pt _,_=>none
 | .fn f ds,.fn f' cs=>bif Nat.beq f f' then zhj ds cs else none
 | .fn _ _,_=>none
 | .ag ds,.ag cs=>zhj ds cs
 | .ag _,_=>none
 | .any,_=>some []
 | .im _,_=>some []
def zhj:List VD->List (VT T)->Option (List (Nat×Nat))
 | [],[]=>some []
 | d::ds,v::vs=>match yfm d v,zhj ds vs with | some a,some b=>some (a++b) | _,_=>none
 | _,_=>none
end
mutual
def zjz (rest:TH T.tq) (m:List (Nat×Nat)):VD->VT T->RT T
 | .any,.sc v=>.ok (.sc v)
 | .any,.ik k n=>.ok (.sc (.int k n))
 | .any,.bk b=>.ok (.sc (.bool b))
 | .any,.zs=>.ok .zs
 | .any,.im t xs=>.ok (.im t xs)
 | .any,_=>.no
 | .im t,.im t' xs=>bif Nat.beq t t' then .ok (.im t' xs) else .no
 | .im t,.zs=>.ok (.im t [])
 | .im t,.sw k p=>bif (m.map Prod.snd).contains k then .no else atT rest k p fun
  | .typ _ t' xs=>bif Nat.beq t t' then .ok (.im t' xs) else .no
  | _=>.no
 | .im t,.sl k p off len=>atT rest k p fun
  | .typ _ t' xs=>bif Nat.beq t t' then .need (off+len<=xs.length) (.ok (.im t' ((xs.drop off).take len))) else .no
  | _=>.no
 | .im _,_=>.no
 | .ag ds,.ag cs=>(zae rest m ds cs).bind λcs'=>.ok (.ag cs')
 | .ag _,_=>.no
 | .pt _,.pt k [] i c=>match z14 m k with | some n=>.ok (.pt n [] i c) | none=>.no
 | .pt _,_=>.no
 | .fn _ ds,.fn f cs=>(zae rest m ds cs).bind λcs'=>.ok (.fn f cs')
 | .fn _ _,_=>.no
def zae (rest:TH T.tq) (m:List (Nat×Nat)):List VD->List (VT T)->Rs (List (VT T))
 | [],[]=>.ok []
 | d::ds,v::vs=>(zjz rest m d v).bind λv'=>(zae rest m ds vs).bind λvs'=>.ok (v'::vs')
 | _,_=>.no
end
mutual
def y3f:VT T->Bool
 | .sl _ _ _ _ | .sw _ _=>true
 | .ag cs=>z2i cs
 | .tu cs=>z2i cs
 | .fn _ cs=>z2i cs
 | .un | .sc _ | .ik _ _ | .bk _ | .zs | .im _ _ | .ip _ _ _ | .pt _ _ _ _ | .ow _ _ _ | .oo _ _ _ _ _ | .pp _=>false
def z2i:List (VT T)->Bool
 | []=>false
 | x::l=>y3f x||z2i l
end
theorem z5s {m:Bool} {t:Nat} (xs:List (T.El t)):z2h (xs.map (T.ca m t))=xs.map (T.ca false t):=z2p (λx=>T.im_ok m t x) xs
mutual
theorem zzb {H0 Hn:H} {rest:TH T.tq} {m:List (Nat×Nat)} {bor:Bool} (hs:∀ k,(m.map Prod.snd).contains k=false->z5 (denH T.tq rest) k=z5 H0 k) :
  ∀ (d:VD) (v v':VT T),(zjz rest m d v).gives v'->(y3f v=true->bor=true)->∃ a,conv (denH T.tq rest) m bor (den T.tq H0 v)=some a/\AVle a (den T.tq Hn v')
 | .any,v,v',hg,hb=>by cases v<;>first | exact hg.elim | (cases hg;exact ⟨_,rfl,AVle.refl _⟩)
 | .im t,v,v',hg,hb=>by
  cases v with
  | im t' xs =>obtain ⟨h1,rfl⟩:=ze hg;exact ⟨_,rfl,AVle.refl _⟩
  | zs=>cases hg;exact ⟨_,rfl,by simp only [den,map_nil];exact AVle.zsIm _⟩
  | sw k p =>
   simp only [zjz] at hg;cases hc:(m.map Prod.snd).contains k with
   | true=>rw [hc] at hg;exact hg.elim
   | false =>
    rw [hc,cond_false] at hg;obtain ⟨r,hr,hg⟩:=z4c hg;split at hg
    ·rename_i m' t' xs;obtain ⟨h1,rfl⟩:=ze hg
     have hl:zc H0 k p=xs.length:=by
      have:res H0 k p=res (denH T.tq rest) k p:=by change resC _ _ _=resC _ _ _;unfold resC resA;rw [hs k hc]
      rw [z4i (this.trans hr)];simp [denR]
     have hbor:bor=true:=hb rfl;refine ⟨_,?_,AVle.refl _⟩;simp only [den,conv,hbor,if_true,hr,hl,denR];rw [if_pos (by simp),drop_zero,take_of_length_le (by simp),z5s]
    ·exact hg.elim
  | sl k p off len =>
   obtain ⟨r,hr,hg⟩:=z4c hg;split at hg
   ·rename_i m' t' xs;obtain ⟨h1,hc,rfl⟩:=ze hg;have hbor:bor=true:=hb rfl;refine ⟨_,?_,AVle.refl _⟩;have:(((xs.map (T.ca m' t')).drop off).take len)=((xs.drop off).take len).map (T.ca m' t'):=by simp [map_take,map_drop]
    simp only [den,conv,hbor,if_true,hr,denR];rw [if_pos (by simpa using hc),this,z5s]
   ·exact hg.elim
  | _=>exact hg.elim
 | .ag ds,v,v',hg,hb=>by
  cases v with
  | ag cs =>obtain ⟨cs',h1,h2⟩:=Rs.bind_gives _ hg;cases h2;obtain ⟨l,q1,q2⟩:=z5m (Hn:=Hn) (bor:=bor) hs ds cs cs' h1 hb;exact ⟨.ag l,by simp only [den,conv,q1],by simp only [den];exact AVle.ag q2.C⟩
  | _=>exact hg.elim
 | .pt key,v,v',hg,hb=>by
  cases v with
  | pt k p i c =>
   cases p with
   | nil =>
    simp only [zjz] at hg;split at hg
    ·rename_i n hn;cases hg;exact ⟨_,by simp only [den,conv,hn,if_true],AVle.refl _⟩
    ·exact hg.elim
   | cons _ _=>exact hg.elim
  | _=>exact hg.elim
 | .fn f ds,v,v',hg,hb=>by
  cases v with
  | fn f' cs =>obtain ⟨cs',h1,h2⟩:=Rs.bind_gives _ hg;cases h2;obtain ⟨l,q1,q2⟩:=z5m (Hn:=Hn) (bor:=bor) hs ds cs cs' h1 hb;exact ⟨.fn f' l,by simp only [den,conv,q1],by simp only [den];exact AVle.fn q2.L⟩
  | _=>exact hg.elim
theorem z5m {H0 Hn:H} {rest:TH T.tq} {m:List (Nat×Nat)} {bor:Bool} (hs:∀ k,(m.map Prod.snd).contains k=false->z5 (denH T.tq rest) k=z5 H0 k) :
  ∀ (ds:List VD) (vs vs':List (VT T)),(zae rest m ds vs).gives vs'->(z2i vs=true->bor=true)->∃ l,z1n (denH T.tq rest) m bor (denL T.tq H0 vs)=some l/\z1s l (denL T.tq Hn vs')
 | [],vs,vs',hg,hb=>by
  cases vs with
  | nil=>cases hg;exact ⟨[],rfl,.nil⟩
  | cons _ _=>exact hg.elim
 | d::ds,vs,vs',hg,hb=>by
  cases vs with
  | nil=>exact hg.elim
  | cons v vs =>obtain ⟨v1,h1,hg⟩:=Rs.bind_gives _ hg;obtain ⟨vs1,h2,hg⟩:=Rs.bind_gives _ hg;cases hg;obtain ⟨a,q1,q2⟩:=zzb (Hn:=Hn) (bor:=bor) hs d v v1 h1 (λh=>hb (by simp [z2i,h]));obtain ⟨l,q3,q4⟩:=z5m (Hn:=Hn) (bor:=bor) hs ds vs vs1 h2 (λh=>hb (by simp [z2i,h]));exact ⟨a::l,by simp only [denL,z1n,q1,q3],.cons q2 q4⟩
end
def z7g:TH T.tq->List (Nat×Nat)->Option (TH T.tq×TH T.tq)
 | h,[]=>some ([],h)
 | h,(n,o)::m =>
  match getT h o with
  | some r=>match z7g (delT h o) m with
   | some (hs,rest)=>some ((n,r)::hs,rest)
   | none=>none
  | none=>none
theorem z4p:∀ (m:List (Nat×Nat)) (h hs rest:TH T.tq),z7g h m=some (hs,rest) ->
  z1m (denH T.tq h) m=some (denH T.tq hs,denH T.tq rest)/\(∀ k,(m.map Prod.snd).contains k=false->z5 (denH T.tq rest) k=z5 (denH T.tq h) k) /\
  ∀ n o,zk (m.map Prod.fst)=true->zk (m.map Prod.snd)=true->(n,o)∈m->z5 (denH T.tq hs) n=z5 (denH T.tq h) o
 | [],h,_,_,hh=>by cases hh;exact ⟨rfl,λ_ _=>rfl,λ_ _ _ _ h=>(by cases h)⟩
 | (n,o)::m,h,_,_,hh=>by
  unfold z7g at hh;split at hh
  ·rename_i r hr;split at hh
   ·rename_i hs rest h2;cases hh;obtain ⟨q1,q2,q3⟩:=z4p m _ _ _ h2;have hgr:z5 (denH T.tq h) o=some (denR T.tq r):=by rw [z1a,hr];rfl
    refine ⟨?_,λk hk=>?_,λn' o' h1 h2 hm=>?_⟩
    ·simp only [z1m,hgr,zo,q1,denH]
    ·simp only [map_cons,contains_cons,or_eq_false_iff,beq_eq_false_iff_ne] at hk;rw [q2 k hk.2,<- zo,zw hk.1]
    ·simp only [map_cons,zk,and_eq_true,not_eq_true'] at h1 h2;rcases mem_cons.1 hm with hm | hm
     ·cases hm;simp only [denH,z5,if_true,hgr]
     ·have hn:n≠n':=λe=>by
       have:(m.map Prod.fst).contains n=true:=by rw [e];simp only [List.contains_eq_mem,decide_eq_true_eq];exact mem_map.2 ⟨_,hm,rfl⟩
       rw [h1.1] at this;cases this
      have ho:o'≠o:=λe=>by
       have:(m.map Prod.snd).contains o=true:=by rw [<- e];simp only [List.contains_eq_mem,decide_eq_true_eq];exact mem_map.2 ⟨_,hm,rfl⟩
       rw [h2.1] at this;cases this
      simp only [denH,z5];rw [if_neg hn,q3 n' o' h1.2 h2.2 hm,<- zo,zw ho]
   ·cases hh
  ·cases hh
def z1x (h:TH T.tq):List Nat->TH T.tq
 | []=>h
 | k::ks=>z1x (delT h k) ks
theorem z4g:∀ (ks:List Nat) (h:TH T.tq),z18 (denH T.tq h) ks=denH T.tq (z1x h ks)
 | [],_=>rfl
 | k::ks,h=>by simp only [z18,z1x,zo,z4g ks]
theorem z6k:∀ (ks:List Nat) (h:H) (k:Nat),ks.contains k=false->z5 (z18 h ks) k=z5 h k
 | [],_,_,_=>rfl
 | k'::ks,h,k,hk=>by simp only [contains_cons,or_eq_false_iff,beq_eq_false_iff_ne] at hk;rw [z18,z6k ks _ k hk.2,zw hk.1]
theorem z2d:∀ (a b:H) (k:Nat),z5 (a++b) k=match z5 a k with | some r=>some r | none=>z5 b k
 | [],_,_=>rfl
 | (k',r)::a,b,k=>by
  simp only [cons_append,z5];split
  ·rfl
  ·exact z2d a b k
mutual
def z2w (bm:List (Nat×Nat)):VT T->Option (VT T)
 | .sc v=>some (.sc v)
 | .zs=>some .zs
 | .un=>some .un
 | .im t xs=>some (.im t xs)
 | .sl k p off len=>match z14 bm k with | some n=>some (.sl n p off len) | none=>none
 | .sw k p=>match z14 bm k with | some n=>some (.sw n p) | none=>none
 | .pt k p i c=>match z14 bm k with | some n=>some (.pt n p i c) | none=>none
 | .ag cs=>match zac bm cs with | some cs'=>some (.ag cs') | none=>none
 | .tu vs=>match zac bm vs with | some cs'=>some (.tu cs') | none=>none
 | .fn f caps=>match zac bm caps with | some cs'=>some (.fn f cs') | none=>none
 | .ip s cs c=>some (.ip s cs c)
 | .ik _ _ | .bk _ | .ow _ _ _ | .oo _ _ _ _ _=>none
 | .pp (.fs k cs)=>match z14 bm k with | some n=>some (.pp (.fs n cs)) | none=>none
 | .pp (.xp b x c)=>some (.pp (.xp b x c))
 | .pp (.mr k p)=>match z14 bm k with | some n=>some (.pp (.mr n p)) | none=>none
 | .pp _=>none
def zac (bm:List (Nat×Nat)):List (VT T)->Option (List (VT T))
 | []=>some []
 | x::l=>match z2w bm x,zac bm l with | some x',some l'=>some (x'::l') | _,_=>none
end
mutual
theorem z8i {Ho H1:H} {bm:List (Nat×Nat)} (hl:∀ k n p,z14 bm k=some n->zc H1 n p=zc Ho k p):∀ (v v':VT T),z2w bm v=some v'->back bm (den T.tq Ho v)=some (den T.tq H1 v')
 | .sc _,_,h | .zs,_,h | .un,_,h | .im _ _,_,h | .ip _ _ _,_,h=>by cases h;rfl
 | .sl k p off len,v',h=>by
  simp only [z2w] at h;split at h
  ·rename_i n hn;cases h;simp only [den,back,hn]
  ·cases h
 | .sw k p,v',h=>by
  simp only [z2w] at h;split at h
  ·rename_i n hn;cases h;simp only [den,back,hn,hl k n p hn]
  ·cases h
 | .pt k p i c,v',h=>by
  simp only [z2w] at h;split at h
  ·rename_i n hn;cases h;simp only [den,back,hn]
  ·cases h
 | .ag cs,v',h=>by
  simp only [z2w] at h;split at h
  ·rename_i cs' hc;cases h;simp only [den,back,z99 hl cs cs' hc]
  ·cases h
 | .tu cs,v',h=>by
  simp only [z2w] at h;split at h
  ·rename_i cs' hc;cases h;simp only [den,back,z99 hl cs cs' hc]
  ·cases h
 | .fn f cs,v',h=>by
  simp only [z2w] at h;split at h
  ·rename_i cs' hc;cases h;simp only [den,back,z99 hl cs cs' hc]
  ·cases h
 | .ik _ _,_,h | .bk _,_,h | .ow _ _ _,_,h | .oo _ _ _ _ _,_,h=>by cases h
 | .pp (.xp _ _ _),_,h=>by cases h;rfl
 | .pp (.fp _ _ _),_,h | .pp (.px _ _),_,h=>by cases h
 | .pp (.mr k p),v',h=>by
  simp only [z2w] at h;split at h
  ·rename_i n hn;cases h;simp only [den,denP,back,zb4,hn]
  ·cases h
 | .pp (.fs k cs),v',h=>by
  simp only [z2w] at h;split at h
  ·rename_i n hn;cases h;simp only [den,denP,back,zb4,hn]
  ·cases h
theorem z99 {Ho H1:H} {bm:List (Nat×Nat)} (hl:∀ k n p,z14 bm k=some n->zc H1 n p=zc Ho k p):∀ (v v':List (VT T)),zac bm v=some v'->z58 bm (denL T.tq Ho v)=some (denL T.tq H1 v')
 | [],_,h=>by cases h;rfl
 | x::l,v',h=>by
  simp only [zac] at h;split at h
  ·rename_i x' l' h1 h2;cases h;simp only [denL,z58,z8i hl x x' h1,z99 hl l l' h2]
  ·cases h
end
mutual
def z9t:VT T->Bool
 | .im _ _ | .ip _ _ _ | .oo _ _ _ _ _ | .pp _=>false
 | .ow m t _=>bif m then T.po t else T.pl t
 | .ag cs=>z8w cs
 | .tu cs=>z8w cs
 | .fn _ cs=>z8w cs
 | .un | .sc _ | .ik _ _ | .bk _ | .zs | .sl _ _ _ _ | .sw _ _ | .pt _ _ _ _=>true
def z8w:List (VT T)->Bool
 | []=>true
 | x::l=>z9t x&&z8w l
end
theorem zm8 {m:Bool} {t:Nat} (h:(bif m then T.po t else T.pl t)=true) (xs:List (T.El t)):z7y (xs.map (T.ca m t))=true:=by
 refine z20 (λx=>?_) xs;cases m with
 | true=>exact T.ow_ok t x h
 | false=>exact T.pl_ok t x (by simpa using h)
mutual
theorem zc2 {h:H}:∀ (v:VT T),z9t v=true->noIm (den T.tq h v)=true
 | .un,_ | .sc _,_ | .ik _ _,_ | .bk _,_ | .zs,_ | .sl _ _ _ _,_ | .sw _ _,_ | .pt _ _ _ _,_=>rfl
 | .im _ _,hn | .ip _ _ _,hn | .oo _ _ _ _ _,hn | .pp _,hn=>by simp [z9t] at hn
 | .ow m t xs,hn=>by simp only [den,noIm];exact zm8 hn xs
 | .ag cs,hn=>by simp only [den,noIm];exact z7b cs hn
 | .tu cs,hn=>by simp only [den,noIm];exact z7b cs hn
 | .fn _ cs,hn=>by simp only [den,noIm];exact z7b cs hn
theorem z7b {h:H}:∀ (v:List (VT T)),z8w v=true->z1h (denL T.tq h v)=true
 | [],_=>rfl
 | x::l,hn=>by simp only [z8w,and_eq_true] at hn;simp only [denL,z1h,zc2 x hn.1,z7b l hn.2,Bool.and_self]
end
def zy5:TR T.El->Bool
 | .typ m t _=>bif m then T.po t else T.pl t
 | .lit _ xs=>xs.all z8w
 | .opn _ _ _ _ _=>false
def z8v (h:TH T.tq):Bool:=h.all λx=>zy5 x.2
theorem z9s:∀ (h:TH T.tq),z8v h=true->z3y (denH T.tq h)=true
 | [],_=>rfl
 | (k,r)::h,hn=>by
  simp only [z8v,all_cons,and_eq_true] at hn;have ih:=z9s h hn.2;simp only [z3y,denH,all_cons,and_eq_true];refine ⟨?_,ih⟩;cases r with
  | typ m t xs=>exact zm8 hn.1 xs
  | lit s xs =>
   have h1:=hn.1;simp only [zy5] at h1;simp only [denR];clear ih hn
   induction xs with
   | nil=>rfl
   | cons x xs ih =>simp only [all_cons,and_eq_true] at h1;simp only [map_cons,z7y,z7b x h1.1,ih h1.2,Bool.and_self]
  | opn=>cases hn.1
end
abbrev EH (T:TT):=TE T.tq×TH T.tq
def isX {T:TT} (eh:EH T):Option Value :=
 match eh.1 with
 | [(k,.sc v)]=>bif Nat.beq k 999999 then some v else none
 | _=>none
def ofX {T:TT} (u:Value):EH T:=([(999999,.sc u)],[])
def zdo {T:TT} (eh:EH T) (o:Out) (e:Env) (h:H):Prop :=
 match isX eh with
 | some u=>o = .panic u/\e=nE/\h=[]
 | none=>o = .ret/\e=denE T.tq (denH T.tq eh.2) eh.1/\h=denH T.tq eh.2
structure LCon (P:Program) (T:TT) (pro:List Nat) where
 body:IC
 X:Type
 Y:Type
 Z:Type
 encX:X->EH T
 encY:Y->EH T
 encZ:Z->EH T
 id:Nat
 ret:Bool
 G:X->Option (Bo X Y Z)
 ok:∀ x b,G x=some b->W P pro (.loop body) (λo e h=>match b with
  | .go _=>False
  | .out y=>o = .exit id/\e=denE T.tq (denH T.tq (encY y).2) (encY y).1/\h=denH T.tq (encY y).2
  | .ret z=>ret=true/\zdo (encZ z) o e h) (denE T.tq (denH T.tq (encX x).2) (encX x).1) (denH T.tq (encX x).2)
inductive Raw (P:Program) (T:TT) (pro:List Nat):Type->Type 1 where
 | leaf {L:Type} (x:L):Raw P T pro L
 | no {L:Type}:Raw P T pro L
 | ite {L:Type} (b:Bool) (x y:Raw P T pro L):Raw P T pro L
 | bnd {L A:Type} (x:Option A) (K:A->Raw P T pro L):Raw P T pro L
 | need {L:Type} (p:Prop) [Decidable p] (K:Raw P T pro L):Raw P T pro L
 | join {L S:Type} (enc:S->EH T) (B:Raw P T pro (EH T⊕L)) (K:S->Raw P T pro L):Raw P T pro L
 | call {L:Type} (C:Con P T) (args:List (VT T)) (hin:TH T.tq) (K:C.Y->Raw P T pro L):Raw P T pro L
 | callX {L:Type} (C:Con P T) (args:List (VT T)) (hin:TH T.tq) (K:C.Y->Raw P T pro L) (KX:C.V->Raw P T pro L):Raw P T pro L
 | both {L:Type} (A B:Raw P T pro L):Raw P T pro L
 | alls {L S Z:Type} (enc:S->EH T) (encV:Z->Value) (B:Raw P T pro (EH T⊕Value)) (K:S->Raw P T pro L) (KX:Z->Raw P T pro L):Raw P T pro L
 | loop {L V:Type} (c:V->LCon P T pro) (body:IC) (eh:EH T) (KY:(v:V)->(c v).Y->Raw P T pro L):Raw P T pro L
 | loopR {L V:Type} (c:V->LCon P T pro) (body:IC) (eh:EH T) (KY:(v:V)->(c v).Y->Raw P T pro L) (KZ:(v:V)->(c v).Z->Raw P T pro L):Raw P T pro L
section
variable {P:Program} {T:TT} {pro:List Nat}
def yf6 {S E L:Type} (enc:S->E) (A:S->Prop) (Q:L->Prop):E⊕L->Prop
 | .inl eh=>∃ s,enc s=eh/\A s
 | .inr l=>Q l
def boP {X Y Z:Type} (A:Y->Prop) (B:Z->Prop):Bo X Y Z->Prop
 | .go _=>False
 | .out y=>A y
 | .ret z=>B z
def zj {S R:Type} (A:S->Option R):S⊕R->Option R
 | .inl s=>A s
 | .inr r=>some r
def sumP {A B:Type} (Q:A->Prop) (Q':B->Prop):A⊕B->Prop
 | .inl y=>Q y
 | .inr z=>Q' z
def Sat:{L:Type}->Raw P T pro L->(L->Prop)->Prop
 | _,.leaf x,Q=>Q x
 | _,.no,_=>False
 | _,.ite b x y,Q=>(b=true->Sat x Q)/\(b=false->Sat y Q)
 | _,.bnd x K,Q=>∃ a,x=some a/\Sat (K a) Q
 | _,@Raw.need _ _ _ _ p _ K,Q=>p/\Sat K Q
 | _,.join enc B K,Q=>Sat B (yf6 enc (λs=>Sat (K s) Q) Q)
 | _,.call C args hin K,Q=>∃ x y,C.encA x=args/\C.encH x=hin/\C.G x=some y/\Sat (K y) Q
 | _,.callX C args hin K KX,Q=>∃ x r,C.encA x=args/\C.encH x=hin/\C.FX x=some r/\sumP (λy=>Sat (K y) Q) (λz=>Sat (KX z) Q) r
 | _,.both A B,Q=>Sat A Q/\Sat B Q
 | _,.alls (S:=S) (Z:=Z) enc encV B K KX,Q=>∃ r:S⊕Z,Sat B (λl=>l=Sum.map enc encV r)/\sumP (λs=>Sat (K s) Q) (λz=>Sat (KX z) Q) r
 | _,.loop c body eh KY,Q=>∃ v,(c v).body=body/\∃ x y,(c v).encX x=eh/\(c v).ret=false/\(c v).G x=some (.out y)/\Sat (KY v y) Q
 | _,.loopR c body eh KY KZ,Q=>∃ v,(c v).body=body/\∃ x b,(c v).encX x=eh/\(c v).G x=some b/\boP (λy=>Sat (KY v y) Q) (λz=>Sat (KZ v z) Q) b
theorem Sat.mono:∀ {L:Type} (t:Raw P T pro L) {Q Q':L->Prop},(∀ l,Q l->Q' l)->Sat t Q->Sat t Q'
 | _,.leaf x,_,_,h,hs=>h _ hs
 | _,.no,_,_,_,hs=>hs
 | _,.ite b x y,_,_,h,hs=>⟨λhb=>Sat.mono x h (hs.1 hb),λhb=>Sat.mono y h (hs.2 hb)⟩
 | _,.bnd x K,_,_,h,hs=>by obtain ⟨a,h1,h2⟩:=hs;exact ⟨a,h1,Sat.mono (K a) h h2⟩
 | _,@Raw.need _ _ _ _ p _ K,_,_,h,hs=>⟨hs.1,Sat.mono K h hs.2⟩
 | _,.join enc B K,_,_,h,hs=>Sat.mono B (λl hl=>by
  cases l with
  | inl eh=>obtain ⟨s,h1,h2⟩:=hl;exact ⟨s,h1,Sat.mono (K s) h h2⟩
  | inr l=>exact h l hl) hs
 | _,.call C args hin K,_,_,h,hs=>by obtain ⟨x,y,h1,h2,h3,h4⟩:=hs;exact ⟨x,y,h1,h2,h3,Sat.mono (K y) h h4⟩
 | _,.callX C args hin K KX,_,_,h,hs=>by
  obtain ⟨x,r,h1,h2,h3,h4⟩:=hs;refine ⟨x,r,h1,h2,h3,?_⟩;cases r with
  | inl y=>exact Sat.mono (K y) h h4
  | inr z=>exact Sat.mono (KX z) h h4
 | _,.both A B,_,_,h,hs=>⟨Sat.mono A h hs.1,Sat.mono B h hs.2⟩
 | _,.alls enc encV B K KX,_,_,h,hs=>by
  obtain ⟨r,h1,h2⟩:=hs;refine ⟨r,h1,?_⟩;cases r with
  | inl y=>exact Sat.mono (K y) h h2
  | inr z=>exact Sat.mono (KX z) h h2
 | _,.loop c body eh KY,_,_,h,hs=>by obtain ⟨v,h0,x,y,h1,hr,h2,h3⟩:=hs;exact ⟨v,h0,x,y,h1,hr,h2,Sat.mono (KY v y) h h3⟩
 | _,.loopR c body eh KY KZ,_,_,h,hs=>by
  obtain ⟨v,h0,x,b,h1,h2,h3⟩:=hs
  exact ⟨v,h0,x,b,h1,h2,by
   cases b with
   | go _=>exact h3
   | out y=>exact Sat.mono (KY v y) h h3
   | ret z=>exact Sat.mono (KZ v z) h h3⟩
def Raw.map:{L L':Type}->(L->L')->Raw P T pro L->Raw P T pro L'
 | _,_,f,.leaf x=>.leaf (f x)
 | _,_,_,.no=>.no
 | _,_,f,.ite b x y=>.ite b (x.map f) (y.map f)
 | _,_,f,.bnd x K=>.bnd x λa=>(K a).map f
 | _,_,f,@Raw.need _ _ _ _ p _ K=>.need p (K.map f)
 | _,_,f,.join enc B K=>.join enc (B.map (Sum.map id f)) λs=>(K s).map f
 | _,_,f,.call C args hin K=>.call C args hin λy=>(K y).map f
 | _,_,f,.callX C args hin K KX=>.callX C args hin (λy=>(K y).map f) (λz=>(KX z).map f)
 | _,_,f,.both A B=>.both (A.map f) (B.map f)
 | _,_,f,.alls enc encV B K KX=>.alls enc encV B (λs=>(K s).map f) (λz=>(KX z).map f)
 | _,_,f,.loop c body eh KY=>.loop c body eh λv y=>(KY v y).map f
 | _,_,f,.loopR c body eh KY KZ=>.loopR c body eh (λv y=>(KY v y).map f) (λv z=>(KZ v z).map f)
theorem Sat.map:∀ {L L':Type} (f:L->L') (t:Raw P T pro L) (Q:L'->Prop),Sat (t.map f) Q->Sat t λl=>Q (f l)
 | _,_,f,.leaf x,Q,h=>h
 | _,_,_,.no,_,h=>h
 | _,_,f,.ite b x y,Q,h=>⟨λhb=>Sat.map f x Q (h.1 hb),λhb=>Sat.map f y Q (h.2 hb)⟩
 | _,_,f,.bnd x K,Q,h=>by obtain ⟨a,h1,h2⟩:=h;exact ⟨a,h1,Sat.map f (K a) Q h2⟩
 | _,_,f,@Raw.need _ _ _ _ p _ K,Q,h=>⟨h.1,Sat.map f K Q h.2⟩
 | _,_,f,.join enc B K,Q,h=>by
  have:=Sat.map (Sum.map id f) B _ h;refine Sat.mono B (λl hl=>?_) this;cases l with
  | inl eh=>obtain ⟨s,h1,h2⟩:=hl;exact ⟨s,h1,Sat.map f (K s) Q h2⟩
  | inr l=>exact hl
 | _,_,f,.call C args hin K,Q,h=>by obtain ⟨x,y,h1,h2,h3,h4⟩:=h;exact ⟨x,y,h1,h2,h3,Sat.map f (K y) Q h4⟩
 | _,_,f,.callX C args hin K KX,Q,h=>by
  obtain ⟨x,r,h1,h2,h3,h4⟩:=h;refine ⟨x,r,h1,h2,h3,?_⟩;cases r with
  | inl y=>exact Sat.map f (K y) Q h4
  | inr z=>exact Sat.map f (KX z) Q h4
 | _,_,f,.both A B,Q,h=>⟨Sat.map f A Q h.1,Sat.map f B Q h.2⟩
 | _,_,f,.alls enc encV B K KX,Q,h=>by
  obtain ⟨r,h1,h2⟩:=h;refine ⟨r,h1,?_⟩;cases r with
  | inl y=>exact Sat.map f (K y) Q h2
  | inr z=>exact Sat.map f (KX z) Q h2
 | _,_,f,.loop c body eh KY,Q,h=>by obtain ⟨v,h0,x,y,h1,hr,h2,h3⟩:=h;exact ⟨v,h0,x,y,h1,hr,h2,Sat.map f (KY v y) Q h3⟩
 | _,_,f,.loopR c body eh KY KZ,Q,h=>by
  obtain ⟨v,h0,x,b,h1,h2,h3⟩:=h
  exact ⟨v,h0,x,b,h1,h2,by
   cases b with
   | go _=>exact h3
   | out y=>exact Sat.map f (KY v y) Q h3
   | ret z=>exact Sat.map f (KZ v z) Q h3⟩
def Raw.ofRs {L X:Type} (K:X->Raw P T pro L):Rs X->Raw P T pro L
 | .ok v=>K v
 | .no=>.no
 | .bnd x F=>.bnd x λa=>Raw.ofRs K (F a)
 | @Rs.need _ p _ F=>.need p (Raw.ofRs K F)
 | .ite b x y=>.ite b (Raw.ofRs K x) (Raw.ofRs K y)
theorem Sat.ofRs {L X:Type} {K:X->Raw P T pro L} {Q:L->Prop}:∀ (r:Rs X),Sat (Raw.ofRs K r) Q->∃ v,r.gives v/\Sat (K v) Q
 | .ok v,h=>⟨v,rfl,h⟩
 | .no,h=>h.elim
 | .bnd x F,h=>by obtain ⟨a,h1,h2⟩:=h;obtain ⟨v,h3,h4⟩:=Sat.ofRs (F a) h2;exact ⟨v,⟨a,h1,h3⟩,h4⟩
 | @Rs.need _ p _ F,h=>by obtain ⟨h1,h2⟩:=h;obtain ⟨v,h3,h4⟩:=Sat.ofRs F h2;exact ⟨v,⟨h1,h3⟩,h4⟩
 | .ite b x y,h=>by
  obtain ⟨h1,h2⟩:=h;cases b with
  | true =>obtain ⟨v,h3,h4⟩:=Sat.ofRs x (h1 rfl);exact ⟨v,.inl ⟨rfl,h3⟩,h4⟩
  | false =>obtain ⟨v,h3,h4⟩:=Sat.ofRs y (h2 rfl);exact ⟨v,.inr ⟨rfl,h3⟩,h4⟩
inductive Pt (P:Program) (T:TT) (pro:List Nat):Type->Type 1 where
 | leaf {R:Type} (x:R):Pt P T pro R
 | no {R:Type}:Pt P T pro R
 | ite {R:Type} (b:Bool) (x y:Pt P T pro R):Pt P T pro R
 | bnd {R A:Type} (x:Option A) (K:A->Pt P T pro R):Pt P T pro R
 | need {R:Type} (p:Prop) [Decidable p] (K:Pt P T pro R):Pt P T pro R
 | join {R S:Type} (enc:S->EH T) (B:Pt P T pro (S⊕R)) (K:S->Pt P T pro R):Pt P T pro R
 | call {R:Type} (C:Con P T) (x:C.X) (K:C.Y->Pt P T pro R):Pt P T pro R
 | callX {R:Type} (C:Con P T) (x:C.X) (K:C.Y->Pt P T pro R) (KX:C.V->Pt P T pro R):Pt P T pro R
 | both {R:Type} (A B:Pt P T pro R):Pt P T pro R
 | alls {R S Z:Type} (enc:S->EH T) (encV:Z->Value) (B:Pt P T pro (S⊕Z)) (K:S->Pt P T pro R) (KX:Z->Pt P T pro R):Pt P T pro R
 | loop {R V:Type} (c:V->LCon P T pro) (v:V) (x:(c v).X) (KY:(v:V)->(c v).Y->Pt P T pro R):Pt P T pro R
 | loopR {R V:Type} (c:V->LCon P T pro) (v:V) (x:(c v).X) (KY:(v:V)->(c v).Y->Pt P T pro R) (KZ:(v:V)->(c v).Z->Pt P T pro R):Pt P T pro R
def sumE {A B C:Type} (f:A->C) (g:B->C):A⊕B->C
 | .inl y=>f y
 | .inr z=>g z
open Classical in
noncomputable def twoO {R:Type} (a b:Option R):Option R:=if a=b then a else none
theorem zjr {R:Type} {a b:Option R} {r:R} (h:twoO a b=some r):a=some r/\b=some r:=by
 unfold twoO at h;split at h
 ·rename_i e;exact ⟨h,e ▸ h⟩
 ·cases h
noncomputable def Pt.run:{R:Type}->Pt P T pro R->Option R
 | _,.leaf x=>some x
 | _,.no=>none
 | _,.ite b x y=>bif b then x.run else y.run
 | _,.bnd x K=>x.bind λa=>(K a).run
 | _,@Pt.need _ _ _ _ p _ K=>Loom.need p K.run
 | _,.join enc B K=>B.run.bind (zj λs=>(K s).run)
 | _,.call C x K=>(C.G x).bind λy=>(K y).run
 | _,.callX C x K KX=>(C.FX x).bind (sumE (λy=>(K y).run) (λz=>(KX z).run))
 | _,.both A B=>twoO A.run B.run
 | _,.alls enc encV B K KX=>B.run.bind (sumE (λs=>(K s).run) (λz=>(KX z).run))
 | _,.loop c v x KY=>((c v).G x).bind (Bo.then (λy=>bif (c v).ret then none else (KY v y).run) (λ_=>none))
 | _,.loopR c v x KY KZ=>((c v).G x).bind (Bo.then (λy=>(KY v y).run) (λz=>(KZ v z).run))
def Pt.raw:{R L:Type}->(R->L)->Pt P T pro R->Raw P T pro L
 | _,_,f,.leaf x=>.leaf (f x)
 | _,_,_,.no=>.no
 | _,_,f,.ite b x y=>.ite b (x.raw f) (y.raw f)
 | _,_,f,.bnd x K=>.bnd x λa=>(K a).raw f
 | _,_,f,@Pt.need _ _ _ _ p _ K=>.need p (K.raw f)
 | _,_,f,.join enc B K=>.join enc (B.raw (Sum.map enc f)) λs=>(K s).raw f
 | _,_,f,.call C x K=>.call C (C.encA x) (C.encH x) λy=>(K y).raw f
 | _,_,f,.callX C x K KX=>.callX C (C.encA x) (C.encH x) (λy=>(K y).raw f) (λz=>(KX z).raw f)
 | _,_,f,.both A B=>.both (A.raw f) (B.raw f)
 | _,_,f,.alls enc encV B K KX=>.alls enc encV (B.raw (Sum.map enc encV)) (λs=>(K s).raw f) (λz=>(KX z).raw f)
 | _,_,f,.loop c v x KY=>.loop c (c v).body ((c v).encX x) λv y=>(KY v y).raw f
 | _,_,f,.loopR c v x KY KZ=>.loopR c (c v).body ((c v).encX x) (λv y=>(KY v y).raw f) (λv z=>(KZ v z).raw f)
theorem z1o:∀ {R L:Type} (f:R->L) (t:Pt P T pro R) (r:R),t.run=some r->Sat (t.raw f) λl=>l=f r
 | _,_,f,.leaf x,r,h=>by cases h;exact rfl
 | _,_,_,.no,_,h=>by cases h
 | _,_,f,.ite b x y,r,h=>⟨λhb=>by subst hb;exact z1o f x r h,λhb=>by subst hb;exact z1o f y r h⟩
 | _,_,f,.bnd x K,r,h=>by obtain ⟨a,h1,h2⟩:=z9 h;exact ⟨a,h1,z1o f (K a) r h2⟩
 | _,_,f,@Pt.need _ _ _ _ p _ K,r,h=>by obtain ⟨h1,h2⟩:=z7a h;exact ⟨h1,z1o f K r h2⟩
 | _,_,f,.join enc B K,r,h=>by
  simp only [Pt.run] at h;obtain ⟨b,h1,h2⟩:=z9 h;refine Sat.mono (B.raw (Sum.map enc f)) (λl hl=>?_) (z1o (Sum.map enc f) B b h1);subst hl;cases b with
  | inl s=>exact ⟨s,rfl,z1o f (K s) r h2⟩
  | inr r'=>cases h2;exact rfl
 | _,_,f,.call C x K,r,h=>by obtain ⟨y,h1,h2⟩:=z9 h;exact ⟨x,y,rfl,rfl,h1,z1o f (K y) r h2⟩
 | _,_,f,.callX C x K KX,r,h=>by
  obtain ⟨b,h1,h2⟩:=z9 h;refine ⟨x,b,rfl,rfl,h1,?_⟩;cases b with
  | inl y=>exact z1o f (K y) r h2
  | inr z=>exact z1o f (KX z) r h2
 | _,_,f,.both A B,r,h=>⟨z1o f A r (zjr h).1,z1o f B r (zjr h).2⟩
 | _,_,f,.alls enc encV B K KX,r,h=>by
  obtain ⟨b,h1,h2⟩:=z9 h;refine ⟨b,z1o (Sum.map enc encV) B b h1,?_⟩;cases b with
  | inl y=>exact z1o f (K y) r h2
  | inr z=>exact z1o f (KX z) r h2
 | _,_,f,.loop c v x KY,r,h=>by
  obtain ⟨b,h1,h2⟩:=z9 h;cases b with
  | go _=>cases h2
  | out y =>
   simp only [Bo.then] at h2;cases hr:(c v).ret with
   | true=>rw [hr] at h2;cases h2
   | false=>rw [hr] at h2;exact ⟨v,rfl,x,y,rfl,hr,h1,z1o f (KY v y) r h2⟩
  | ret z=>cases h2
 | _,_,f,.loopR c v x KY KZ,r,h=>by
  obtain ⟨b,h1,h2⟩:=z9 h;cases b with
  | go _=>cases h2
  | out y=>exact ⟨v,rfl,x,_,rfl,h1,z1o f (KY v y) r h2⟩
  | ret z=>exact ⟨v,rfl,x,_,rfl,h1,z1o f (KZ v z) r h2⟩
end
end Loom
