/- Loom,an abstract machine over the kit's calculus: rows,z13,stores,calls,regions,what they owe;and its evaluator (part 4 of 4). -/
import Derived.Test.YtdnodicbedhdfaaGreatLoomC
set_option linter.unusedVariables false
set_option linter.unusedSimpArgs false
set_option linter.unusedSectionVars false
open Bool (and_eq_true false_eq_true not_eq_true' or_eq_false_iff)
open List (all_eq_true length_map length_take map_append map_congr_left map_cons map_id' map_map map_nil mem_append mem_cons mem_map mem_range perm_iff_count range replicate)
open Nat (eq_of_beq_eq_true le_of_ble_eq_true)
open Option (map_some)
namespace Loom
open Go
section
variable {P:Program}{T:TT}{pro:List Nat}
def y3e:Kd->Bool
 | .no=>false
 | _=>true
def yjl (ks:List Kd)(c:Nat):Bool:=match ks[c]? with | some k=>y3e k | none=>false
def zks (ks:List Kd)(k:Nat)(k':Nat)(q:Path):Bool:=Nat.beq k' k&&match q with | (_,c)::_=>yjl ks c | []=>false
theorem zw7 (ks:List Kd)(k:Nat):z4e (z67 T ks) k=zks ks k:=by
 funext k' q;unfold z4e zks;have:(k'==k)=Nat.beq k' k:=by rw [Bool.eq_iff_iff];simp
 rw [this];congr 1;cases q with
 | nil=>rfl
 | cons x q =>
  obtain ⟨i,c⟩:=x;simp only [z67,yjl];cases ks[c]? with
  | none=>rfl
  | some kd=>cases kd<;>rfl
def zgy:List Kd->List (VT T)->Bool
 | k::ks,v::vs=>(y3e k&&y61 v)||zgy ks vs
 | _,_=>false
def ze2 (e:TE T.q)(h:TH T.q)(k:Nat)(ks:List Kd):Option (TE T.q×TH T.q) :=
 match z30 h k with
 | some (.lit s xs)=>bif xs.any (zgy ks) then (bif ks.all (smK T.sz) then some (z5t (zks ks k) (λ_ _=>false) e,(k,.lit s (xs.map (zfn ks)))::z12 h k) else none) else some (e,h)
 | some _=>some (e,h)
 | none=>none
theorem zhx {e e1:TE T.q}{h h1:TH T.q}{k:Nat}{ks:List Kd}(hf:ze2 e h k ks=some (e1,h1)) :
  z9 P pro (z8 T.q (z5 T.q h) e) (z5 T.q h) (z8 T.q (z5 T.q h1) e1) (z5 T.q h1):=by
 unfold ze2 at hf;split at hf
 ·rename_i s xs hr;cases hb:xs.any (zgy ks) with
  | false=>rw [hb] at hf;cases hf;exact z9.rfl'
  | true =>
   rw [hb] at hf;simp only [cond_true] at hf;cases hsm:ks.all (smK T.sz) with
   | false=>rw [hsm] at hf;cases hf
   | true =>
   rw [hsm] at hf;cases hf;have hgr:z6 (z5 T.q h) k=some ⟨s,xs.map (z7 T.q [])⟩:=by rw [z1t,hr];rfl
   have hrow:(xs.map (zfn ks)).map (z7 T.q [])=(xs.map (z7 T.q [])).map (z27 (z67 T ks) 0):=by rw [map_map,map_map];exact map_congr_left λx _=>by simpa using zcv (T:=T) (h:=[]) ks x 0
   refine z9.trans (z9.fix (z67 T ks) (zda ks hsm) hgr) ?_;simp only [z5,znx,hrow,<- zz];refine z9.le λt=>?_;simp only [z1e,z8,z3a,zw7];refine z7c (λ_ _ h=>h) (λk' q _ _=>?_) _;by_cases hk:k'=k
   ·subst hk;rw [z3c (r:=⟨s,(xs.map (z7 T.q [])).map (z27 (z67 T ks) 0)⟩) (by simp [z6]),z3c hgr];exact zou (zda ks hsm) q
   ·exact z1g (by simp only [z6];rw [if_neg (λe=>hk e.symm),z1b hk])
 ·cases hf;exact z9.rfl'
 ·cases hf
def ze3 (e:TE T.q)(h:TH T.q):List (Nat×List Kd)->Option (TE T.q×TH T.q)
 | []=>some (e,h)
 | (k,ks)::l=>match ze2 e h k ks with | some (e,h)=>ze3 e h l | none=>none
theorem ze4:∀ (l:List (Nat×List Kd)) (e e1:TE T.q) (h h1:TH T.q),ze3 e h l=some (e1,h1) ->
  z9 P pro (z8 T.q (z5 T.q h) e) (z5 T.q h) (z8 T.q (z5 T.q h1) e1) (z5 T.q h1)
 | [],_,_,_,_,hf=>by cases hf;exact z9.rfl'
 | (k,ks)::l,e,e1,h,h1,hf=>by
  unfold ze3 at hf;split at hf
  ·rename_i e2 h2 h3;exact (zhx h3).trans (ze4 l _ _ _ _ hf)
  ·cases hf
def z6w (P:Program)(e:TE T.q):IK->Option (Nat×List (VT T))
 | .call f l=>some (f,l.map (evT e))
 | .callv x l=>match evT e x with | .fn f caps=>bif zcf P f then some (f,l.map (evT e)++caps) else none | _=>none
 | _=>none
theorem zhb {e:TE T.q}{H0:H}{op:IK}{f d:Nat}{vs:List (VT T)}(ha:z6w P e op=some (f,vs)){e':Env}{h':H}(hc:zai P pro (z8 T.q H0 e) H0 d f (z7 T.q H0 vs) e' h'):z2m P pro (z8 T.q H0 e) H0 d op e' h':=by
 unfold z6w at ha;split at ha
 ·rename_i f l;cases ha;refine .call ?_;rw [zq,map_map] at hc;have:l.map (ev (z8 T.q H0 e))=l.map (den T.q H0 ∘ evT e):=map_congr_left λx _=>zg x;rw [this];exact hc
 ·rename_i x l;split at ha
  ·rename_i f caps hx;cases hf:zcf P f with
   | false=>rw [hf] at ha;cases ha
   | true =>
    rw [hf] at ha;cases ha;refine .callv (f:=f) (caps:=z7 T.q H0 caps) (by rw [zg,hx];rfl) hf ?_
    have:l.map (ev (z8 T.q H0 e))++z7 T.q H0 caps=z7 T.q H0 (l.map (evT e)++caps):=by rw [zq,zq,map_append,map_map];congr 1;exact map_congr_left λx _=>zg x
    rw [this];exact hc
  ·cases ha
 ·cases ha
def zdz (f:Nat)(args:List (VT T)):List (Con P T)->Option (Con P T×List (Nat×Nat))
 | []=>none
 | C::cs=>bif Nat.beq C.f f then match zkh C.A args with | some m=>some (C,m) | none=>zdz f args cs else zdz f args cs
theorem zap {f:Nat}{args:List (VT T)}{C:Con P T}{m:List (Nat×Nat)}:∀ (cs:List (Con P T)),zdz f args cs=some (C,m)->C.f=f
 | [],h=>by cases h
 | C'::cs,h=>by
  unfold zdz at h;cases hb:Nat.beq C'.f f with
  | true =>
   rw [hb,cond_true] at h;split at h
   ·cases h;exact eq_of_beq_eq_true hb
   ·exact zap cs h
  | false =>rw [hb,cond_false] at h;exact zap cs h
structure Pre (T:TT) where
 m:List (Nat×Nat)
 args:List (VT T)
 hin:TH T.q
 rest:TH T.q
 bor:Bool
def zl2 (C:Con P T)(m:List (Nat×Nat))(args:List (VT T))(h:TH T.q):Rs (Pre T) :=
 bif zu (m.map Prod.fst)&&zu (m.map Prod.snd) then
  match z9e h m with
  | none=>.no
  | some (hin,rest)=>(zcq rest m C.A args).bind λargs'=>.ok ⟨m,args',hin,rest,z3g args⟩
 else .no
def zum (d:Nat):List Nat->Nat->List (Nat×Nat)
 | [],_=>[]
 | k::ks,j=>(1000000+d * 100+j,k)::zum d ks (j+1)
def znn (m:List (Nat×Nat))(d:Nat)(N:List Nat):List (Nat×Nat):=(m.map λx=>(x.2,x.1))++(match N with | [k]=>[(d,k)] | N=>zum d N 0)
def ync (m bm:List (Nat×Nat))(k:Nat)(q:Path):Bool:=(bm.map Prod.fst).contains k&&!((m.map Prod.snd).contains k&&q.isEmpty)
def zna (pro:List Nat)(p:Pre T)(N:List Nat)(e:TE T.q)(d:Nat)(r:VT T)(ho:TH T.q):Option (TE T.q×TH T.q) :=
 let bm:=znn p.m d N
 bif zu (bm.map Prod.fst)&&zu (bm.map Prod.snd)&&zd4 p.m bm&&zh1 pro p.m bm&&(!p.bor||(zc0 r&&zb0 ho)) then
  match z9e ho bm,z3u bm r with
  | some (hb,_),some v=>some (z1v (z5t (ync p.m bm) (λk _=>(p.m.map Prod.snd).contains k) e) d v,hb++z2r p.rest (bm.map Prod.fst))
  | _,_=>none
 else none
theorem z90:∀ (m:List (Nat×Nat)) (h hs rest:H),z2c h m=some (hs,rest)->hs.map Prod.fst=m.map Prod.fst
 | [],h,_,_,hh=>by cases hh;rfl
 | (n,o)::m,h,_,_,hh=>by
  unfold z2c at hh;split at hh
  ·split at hh
   ·rename_i hs rest h2;cases hh;simp [z90 m _ _ _ h2]
   ·cases hh
  ·cases hh
theorem z8s:∀ (h:H) (k:Nat),k∉h.map Prod.fst->z6 h k=none
 | [],_,_=>rfl
 | (k',r)::h,k,hk=>by simp only [map_cons,mem_cons,not_or] at hk;simp only [z6];rw [if_neg (λe=>hk.1 e.symm),z8s h k hk.2]
theorem z8t:∀ (h:H) (k:Nat),k∈h.map Prod.fst->∃ r,z6 h k=some r
 | (k',r)::h,k,hk=>by
  simp only [z6];by_cases e:k'=k
  ·exact ⟨r,by rw [if_pos e]⟩
  ·rw [if_neg e];refine z8t h k ?_;simp only [map_cons,mem_cons] at hk;exact hk.resolve_left (λh=>e h.symm)
theorem z7t:∀ (m:List (Nat×Nat)) {k n:Nat},z1n m k=some n->(n,k)∈m
 | [],_,_,h=>by cases h
 | (a,b)::m,k,n,h=>by
  simp only [z1n] at h;split at h
  ·rename_i hb;cases h;subst hb;simp
  ·exact List.mem_cons_of_mem _ (z7t m h)
theorem CallG.le {f:Nat}{args args':List AV}{hin hout:H}{r:AV}(hl:z2l args args')(hc:CallG P f args' hin r hout):CallG P f args hin r hout:=λI σ w vs hh hv=>hc I σ w vs hh (hl.L I σ (bl w) vs hv)
theorem z1q.le {f:Nat}{args args':List AV}{hin hout:H}{r:AV}(hl:z2l args args')(hc:z1q P f args' hin r hout):z1q P f args hin r hout:=λI σ w vs hh hv=>hc I σ w vs hh (hl.L I σ (bl w) vs hv)
theorem zra {C:Con P T}{m:List (Nat×Nat)}{args:List (VT T)}{e e1:TE T.q}{h h1:TH T.q}{p:Pre T}{d:Nat}{N:List Nat}{x:C.X}{y:C.Y}(hp:(zl2 C m args h).gives p)
  (h1':C.encA x=p.args) (h2:C.encH x=p.hin) (hok:CallG P C.f (z7 T.q (z5 T.q (C.encH x)) (C.encA x)) (z5 T.q (C.encH x)) (den T.q (z5 T.q (C.encO y)) (C.encR y)) (z5 T.q (C.encO y))) (h4:zna pro p N e d (C.encR y) (C.encO y)=some (e1,h1)) :
  ∃ e0,zai P pro (z8 T.q (z5 T.q h) e) (z5 T.q h) d C.f (z7 T.q (z5 T.q h) args) e0 (z5 T.q h1)/\z9 P pro e0 (z5 T.q h1) (z8 T.q (z5 T.q h1) e1) (z5 T.q h1):=by
 unfold zl2 at hp;obtain ⟨hk,hp⟩:=zn hp;simp only [and_eq_true] at hk;split at hp
 ·exact hp.elim
 ·rename_i hin rest hsp;obtain ⟨args',hcv,hp⟩:=Rs.bind_gives _ hp;cases hp;obtain ⟨s1,s2,s3⟩:=z66 m h hin rest hsp;obtain ⟨l,q1,q2⟩:=z79 (Hn:=z5 T.q hin) (bor:=z3g args) s2 C.A args args' hcv (λh=>h);unfold zna at h4;dsimp only at h4 h1' h2;generalize hbm:znn m d N=bm at h4;cases hb:(zu (bm.map Prod.fst)&&zu (bm.map Prod.snd)&&zd4 m bm&&zh1 pro m bm&&(!z3g args||(zc0 (C.encR y)&&zb0 (C.encO y)))) with
  | false=>rw [hb] at h4;cases h4
  | true =>
   rw [hb,cond_true] at h4;simp only [and_eq_true] at hb;obtain ⟨⟨⟨⟨b1,b2⟩,b3⟩,b4⟩,b5⟩:=hb;split at h4
   ·rename_i hb' left v hsb hbk;cases h4;obtain ⟨t1,t2,t3⟩:=z66 bm (C.encO y) hb' left hsb;have hkeys:=z90 _ _ _ _ t1
    have hheap:z5 T.q (hb'++z2r rest (bm.map Prod.fst))=z5 T.q hb'++z1r (z5 T.q rest) (bm.map Prod.fst):=by rw [z2i,z5s]
    have hsub:∀ k,(m.map Prod.snd).contains k=true->(bm.map Prod.fst).contains k=true:=by intro k hk;simp only [List.contains_eq_mem,decide_eq_true_eq] at hk ⊢;rw [<- hbm];obtain ⟨x,hx,rfl⟩:=mem_map.1 hk;unfold znn;rw [map_append,mem_append];left;rw [map_map];exact mem_map.2 ⟨x,hx,rfl⟩
    rw [h1',h2] at hok
    have hbl:∀ k n q,z1n bm k=some n->zh (z5 T.q (hb'++z2r rest (bm.map Prod.fst))) n q=zh (z5 T.q (C.encO y)) k q:=by
     intro k n q hkn;have hm:=z7t bm hkn;have hg:=t3 n k b1 b2 hm;have hn:n∈(z5 T.q hb').map Prod.fst:=by rw [hkeys];exact mem_map.2 ⟨_,hm,rfl⟩
     obtain ⟨r,hr⟩:=z8t _ _ hn
     have:z6 (z5 T.q (hb'++z2r rest (bm.map Prod.fst))) n=z6 (z5 T.q (C.encO y)) k:=by rw [hheap,z3b,hr,<- hg,hr]
     unfold zh z1j;rw [this]
    refine ⟨upd (z1e (z78 m bm) (z8 T.q (z5 T.q h) e)) d (den T.q (z5 T.q (hb'++z2r rest (bm.map Prod.fst))) v),⟨⟨m,bm,z3g args,z5 T.q hin,z5 T.q rest,_,z5 T.q hb',z5 T.q left,l,_,_,s1,z11 _ hk.1,q1,CallG.le q2 hok,t1,z11 _ b1,b3,b4,zal hbl _ _ hbk,λhb=>?_,rfl,hheap⟩⟩,?_⟩
    ·rw [hb] at b5;simp only [Bool.not_true,Bool.false_or,and_eq_true] at b5;exact ⟨zel _ b5.1,zbz _ b5.2⟩
    ·refine z9.le λt=>?_;rw [z1f];refine zb.upd (λt=>?_) (zb.refl _) t;simp only [z1e,z8,z3a];refine z7c (λk q hq=>hq) (λk q hq hw=>?_) _;have hm:(m.map Prod.snd).contains k=false:=hw
     have hbk:(bm.map Prod.fst).contains k=false:=by have hq':z78 m bm k q=false:=hq;unfold z78 at hq';rw [hm] at hq';simpa using hq'
     refine z1g ?_
     rw [hheap,z3b,z8s _ _ (by
      rw [hkeys];intro hmem;have:(bm.map Prod.fst).contains k=true:=by simpa using hmem
      rw [this] at hbk;cases hbk)]
     simp only;rw [z8f _ _ _ hbk,s2 k hm]
   ·cases h4
def zit {L:Type}(P:Program)(pro:List Nat)(cs:List (Con P T))(e:TE T.q)(h:TH T.q)(d:Nat)(op:IK)(K:TE T.q->TH T.q->Raw P T pro L):Raw P T pro L :=
 match z6w P e op with
 | none=>.no
 | some (f,args) =>
 match zdz f args cs with
 | none=>.no
 | some (C,m) =>
 match ze3 e h (m.map λx=>(x.2,(C.H.find? λy=>Nat.beq y.1 x.1).elim [] Prod.snd)) with
 | none=>.no
 | some (e1,h1) =>
 match z6w P e1 op with
 | none=>.no
 | some (f1,args1)=>bif Nat.beq f1 f then
  Raw.ofRs (λp=>.call C p.args p.hin λy=>match zna pro p C.N e1 d (C.encR y) (C.encO y) with | some (e2,h2)=>K e2 h2 | none=>.no) (zl2 C m args1 h1)
  else .no
theorem zw6 {e e1:TE T.q}{h h1:TH T.q}{k:Nat}{ks:List Kd}(hf:ze2 e h k ks=some (e1,h1)):∀ t b,z8 T.q (z5 T.q h) e t=Bl b->z8 T.q (z5 T.q h1) e1 t=Bl b:=by
 unfold ze2 at hf;split at hf
 ·rename_i s xs hr;cases hb:xs.any (zgy ks) with
  | false=>rw [hb] at hf;cases hf;exact λ_ _ h=>h
  | true =>
   rw [hb] at hf;simp only [cond_true] at hf;cases hsm:ks.all (smK T.sz) with
   | false=>rw [hsm] at hf;cases hf
   | true =>
   rw [hsm] at hf;cases hf;intro t b ht;simp only [z8,z3a] at ht ⊢;cases hv:z1c e t<;>rw [hv] at ht<;>first | (rename_i q;cases q<;>cases ht;done) | (simp [den] at ht<;>simp [z2o,den,ht])
 ·cases hf;exact λ_ _ h=>h
 ·cases hf
theorem z9u:∀ (l:List (Nat×List Kd)) (e e1:TE T.q) (h h1:TH T.q),ze3 e h l=some (e1,h1)->∀ t b,z8 T.q (z5 T.q h) e t=Bl b->z8 T.q (z5 T.q h1) e1 t=Bl b
 | [],_,_,_,_,hf=>by cases hf;exact λ_ _ h=>h
 | (k,ks)::l,e,e1,h,h1,hf=>by
  unfold ze3 at hf;split at hf
  ·rename_i e2 h2 h3;exact λt b ht=>z9u l _ _ _ _ hf t b (zw6 h3 t b ht)
  ·cases hf
theorem zlh {L:Type}{cs:List (Con P T)}{e:TE T.q}{h:TH T.q}{d:Nat}{op:IK}{K:TE T.q->TH T.q->Raw P T pro L}{Q:L->Prop}(hs:Sat (zit P pro cs e h d op K) Q) :
  ∃ e0 h0 e1 e2 h2,z9 P pro (z8 T.q (z5 T.q h) e) (z5 T.q h) e0 h0/\z2m P pro e0 h0 d op e1 (z5 T.q h2)/\z9 P pro e1 (z5 T.q h2) (z8 T.q (z5 T.q h2) e2) (z5 T.q h2)/\Sat (K e2 h2) Q /\
   ∀ t b,z8 T.q (z5 T.q h) e t=Bl b->e0 t=Bl b:=by
 unfold zit at hs;split at hs
 ·exact hs.elim
 ·rename_i f args ha;split at hs
  ·exact hs.elim
  ·rename_i C m hf;split at hs
   ·exact hs.elim
   ·rename_i e1 h1 hfx;split at hs
    ·exact hs.elim
    ·rename_i f1 args1 ha1;cases hb:Nat.beq f1 f with
     | false=>rw [hb] at hs;exact hs.elim
     | true =>
      rw [hb,cond_true] at hs;have hb:=eq_of_beq_eq_true hb;obtain ⟨p,hp,x,y,q1,q2,q3,q4⟩:=Sat.ofRs _ hs;dsimp only at q4;split at q4
      ·rename_i e2 h2 hpost;obtain ⟨e0,c1,c2⟩:=zra hp q1 q2 (C.ok x y q3).2 hpost;have hCf:C.f=f1:=(zap cs hf).trans hb.symm;rw [hCf] at c1;exact ⟨_,_,e0,e2,h2,ze4 _ _ _ _ _ hfx,zhb ha1 c1,c2,q4,z9u _ _ _ _ _ hfx⟩
      ·exact q4.elim
theorem z9m.le {f:Nat}{args args':List AV}{hin:H}{u:Value}(hl:z2l args args')(hc:z9m P f args' hin u):z9m P f args hin u:=λI σ w vs hh hv=>hc I σ w vs hh (hl.L I σ (bl w) vs hv)
theorem y4z {C:Con P T}{m:List (Nat×Nat)}{args:List (VT T)}{h:TH T.q}{p:Pre T}{x:C.X}{z:C.V}(hp:(zl2 C m args h).gives p)
  (h1':C.encA x=p.args) (h2:C.encH x=p.hin) (h3:C.FX x=some (.inr z)) :
  ∃ hin bor args',z2c (z5 T.q h) m=some (hin,z5 T.q p.rest)/\(m.map Prod.fst).Nodup/\z2d (z5 T.q p.rest) m bor (z7 T.q (z5 T.q h) args)=some args'/\z9m P C.f args' hin (C.encV z):=by
 unfold zl2 at hp;obtain ⟨hk,hp⟩:=zn hp;simp only [and_eq_true] at hk;split at hp
 ·exact hp.elim
 ·rename_i hin rest hsp;obtain ⟨args',hcv,hp⟩:=Rs.bind_gives _ hp;cases hp;obtain ⟨s1,s2,s3⟩:=z66 m h hin rest hsp;obtain ⟨l,q1,q2⟩:=z79 (Hn:=z5 T.q hin) (bor:=z3g args) s2 C.A args args' hcv (λh=>h);dsimp only at h1' h2;have hok:z9m _ _ _ _ _:=C.okX x _ h3;rw [h1',h2] at hok;exact ⟨_,_,l,s1,z11 _ hk.1,q1,z9m.le q2 hok⟩
def y6q:VT T->VT T
 | .pt k p i c=>.pt k p i c
 | _=>.un
def ptT:TE T.q->TE T.q
 | []=>[]
 | (k,v)::l=>(k,y6q v)::ptT l
theorem zu8:∀ (e:TE T.q) (t:Nat),z1c (ptT e) t=y6q (z1c e t)
 | [],_=>rfl
 | (k,v)::l,t=>by
  simp only [ptT,z1c];cases Nat.beq t k
  ·simpa using zu8 l t
  ·rfl
theorem y3s {H0 H1:H}(e:TE T.q)(t:Nat):zb (ptE (z8 T.q H0 e) t) (z8 T.q H1 (ptT e) t):=by
 simp only [z8,zu8];cases hv:z1c e t<;>first | exact zb.un _ | skip
 simp only [y6q,ptE,z8,hv,den];exact zb.refl _
def znr {L:Type}(P:Program)(pro:List Nat)(cs:List (Con P T))(e:TE T.q)(h:TH T.q)(d:Nat)(f:Nat)(l:List Operand)(K:TE T.q->TH T.q->Raw P T pro L)(KX:Value->TE T.q->TH T.q->Raw P T pro L):Raw P T pro L :=
 match zdz f (l.map (evT e)) cs with
 | none=>.no
 | some (C,m)=>bif C.x then
  match ze3 e h (m.map λx=>(x.2,(C.H.find? λy=>Nat.beq y.1 x.1).elim [] Prod.snd)) with
  | none=>.no
  | some (e1,h1) =>
   Raw.ofRs (λp=>.callX C p.args p.hin (λy=>match zna pro p C.N e1 d (C.encR y) (C.encO y) with | some (e2,h2)=>K e2 h2 | none=>.no) (λz=>KX (C.encV z) (ptT e1) p.rest)) (zl2 C m (l.map (evT e1)) h1)
  else zit P pro cs e h d (.call f l) K
theorem zxv {L:Type}{cs:List (Con P T)}{e:TE T.q}{h:TH T.q}{d f:Nat}{l:List Operand}{K:TE T.q->TH T.q->Raw P T pro L}{KX:Value->TE T.q->TH T.q->Raw P T pro L}{Q:L->Prop}(hs:Sat (znr P pro cs e h d f l K KX) Q) :
  (∃ e0 h0 e1 e2 h2,z9 P pro (z8 T.q (z5 T.q h) e) (z5 T.q h) e0 h0/\z2m P pro e0 h0 d (.call f l) e1 (z5 T.q h2)/\z9 P pro e1 (z5 T.q h2) (z8 T.q (z5 T.q h2) e2) (z5 T.q h2)/\Sat (K e2 h2) Q /\
   ∀ t b,z8 T.q (z5 T.q h) e t=Bl b->e0 t=Bl b) \/
  (∃ e0 h0 u ex hx,z9 P pro (z8 T.q (z5 T.q h) e) (z5 T.q h) e0 h0/\(∀ t b,z8 T.q (z5 T.q h) e t=Bl b->e0 t=Bl b)/\z7j P e0 h0 (.call f l) u (z5 T.q hx)/\(∀ t,zb (ptE e0 t) (z8 T.q (z5 T.q hx) ex t))/\Sat (KX u ex hx) Q):=by
 unfold znr at hs;split at hs
 ·exact hs.elim
 ·rename_i C m hf;cases hx:C.x with
  | false =>rw [hx,cond_false] at hs;exact .inl (zlh hs)
  | true =>
   rw [hx,cond_true] at hs;split at hs
   ·exact hs.elim
   ·rename_i e1 h1 hfx;obtain ⟨p,hp,x,r,q1,q2,q3,q4⟩:=Sat.ofRs _ hs;have hCf:C.f=f:=zap cs hf;cases r with
    | inl y =>
     left;dsimp only [y72] at q4;split at q4
     ·rename_i e2 h2 hpost;obtain ⟨e0,c1,c2⟩:=zra hp q1 q2 (C.okX x _ q3) hpost;rw [hCf] at c1;exact ⟨_,_,e0,e2,h2,ze4 _ _ _ _ _ hfx,zhb (op:=.call f l) rfl c1,c2,q4,z9u _ _ _ _ _ hfx⟩
     ·exact q4.elim
    | inr z =>right;obtain ⟨hin,bor,args',c1,c2,c3,c4⟩:=y4z hp q1 q2 q3;rw [hCf] at c4;refine ⟨_,_,C.encV z,ptT e1,p.rest,ze4 _ _ _ _ _ hfx,z9u _ _ _ _ _ hfx,.call (bor:=bor) c1 c2 ?_ c4,y3s e1,q4⟩;rw [zq,map_map] at c3;have:l.map (ev (z8 T.q (z5 T.q h1) e1))=l.map (den T.q (z5 T.q h1) ∘ evT e1):=map_congr_left λx _=>zg x;rw [this];exact c3
end
section
variable {P:Program}{T:TT}{pro:List Nat}
def zvu (e:TE T.q)(h:TH T.q)(t:Nat):Rs (TE T.q×TH T.q) :=
 match z1c e t with
 | .sl k [] 0 n =>
  match z30 h k with
  | some (.typ m' t' xs)=>bif Nat.blt (T.sz t') 1000000 then .need (n<=xs.length) (.ok (z1v (z5t (λ_ _=>false) (λk' _=>Nat.beq k' k) e) t (.sw k []),(k,.typ m' t' (xs.take n))::z12 h k)) else .no
  | _=>.no
 | _=>.ok (e,h)
theorem zrc {e e1:TE T.q}{h h1:TH T.q}{t:Nat}(hg:(zvu e h t).gives (e1,h1)) :
  z9 P pro (z8 T.q (z5 T.q h) e) (z5 T.q h) (z8 T.q (z5 T.q h1) e1) (z5 T.q h1)/\∀ u b,z8 T.q (z5 T.q h) e u=Bl b->z8 T.q (z5 T.q h1) e1 u=Bl b:=by
 unfold zvu at hg;split at hg
 ·rename_i k n hz;split at hg
  ·rename_i m' t' xs hr;obtain ⟨hsm,hc,hg⟩:=zn hg;cases hg;have hgr:z6 (z5 T.q h) k=some ⟨T.sz t',xs.map (T.ca m' t')⟩:=by rw [z1t,hr];rfl
   have h1:=z9.take (P:=P) (pro:=pro) (e:=z8 T.q (z5 T.q h) e) n hgr (le_of_ble_eq_true hsm)
   have hh:z5 T.q ((k,.typ m' t' (xs.take n))::z12 h k)=(k,⟨T.sz t',(xs.map (T.ca m' t')).take n⟩)::zc (z5 T.q h) k:=by simp only [z5,za,List.map_take,zz]
   rw [hh];refine ⟨h1.trans (z9.le λu=>?_),λu b hu=>?_⟩
   ·rw [z1f];unfold upd;split
    ·rename_i hu;subst hu
     have:zh ((k,⟨T.sz t',(xs.map (T.ca m' t')).take n⟩)::zc (z5 T.q h) k) k []=n:=by simp only [zh,z1j,z6,if_true,zp,length_take,length_map];omega
     simp only [z8,hz,den,this];exact zb.refl _
    ·simp only [z8,z3a]
     have:=z7c (T:=T) (H0:=z5 T.q h) (H1:=(k,⟨T.sz t',(xs.map (T.ca m' t')).take n⟩)::zc (z5 T.q h) k) (b1:=λ_ _=>false) (bad:=λ_ _=>false) (bw:=λk' _=>Nat.beq k' k) (λ_ _ h=>h) (λk' p _ hk=>z1g (by simp only [z1h,decide_eq_false_iff_not] at hk;simp only [z6];rw [if_neg (λe=>hk e.symm),z1b hk])) (z1c e u)
     rwa [zjy] at this
   ·rw [z1f];unfold upd;split
    ·rename_i ht;subst ht;simp only [z8,hz,den] at hu;cases hu
    ·simp only [z8,z3a] at hu ⊢;cases hv:z1c e u<;>rw [hv] at hu<;>first | (rename_i q;cases q<;>cases hu;done) | (simp [den] at hu<;>simp [z2o,den,hu])
  ·exact hg.elim
 ·cases hg;exact ⟨z9.rfl',λ_ _ h=>h⟩
def cuT (pro:List Nat)(j:Nat)(e:TE T.q)(h:TH T.q)(v:Operand):Rs (TE T.q×TH T.q) :=
 match v with
 | .tmp t =>
  match z1c e t with
  | .sl k [(i,c)] 0 _=>match zj0 pro h j k i c with
   | some h1=>zvu (z8w k i c j e) h1 t
   | none=>.no
  | _=>zvu e h t
 | _=>.ok (e,h)
theorem ycg {e e1:TE T.q}{h h1:TH T.q}{j:Nat}{v:Operand}(hg:(cuT pro j e h v).gives (e1,h1)) :
  z9 P pro (z8 T.q (z5 T.q h) e) (z5 T.q h) (z8 T.q (z5 T.q h1) e1) (z5 T.q h1)/\∀ u b,z8 T.q (z5 T.q h) e u=Bl b->z8 T.q (z5 T.q h1) e1 u=Bl b:=by
 unfold cuT at hg;split at hg
 ·split at hg
  ·split at hg
   ·rename_i h2 hd;obtain ⟨q1,q2⟩:=zrc (P:=P) (pro:=pro) hg;exact ⟨(zhr hd).trans q1,λu b hu=>q2 u b (zg1 hu)⟩
   ·exact hg.elim
  ·exact zrc hg
 ·cases hg;exact ⟨z9.rfl',λ_ _ h=>h⟩
def y56 (pro:List Nat)(j:Nat)(e:TE T.q)(h:TH T.q)(v:Operand):Option (TE T.q×TH T.q) :=
 match v with
 | .tmp t=>match z1c e t with
  | .sl k [(i,c)] _ _=>match zj0 pro h j k i c with
   | some h1=>some (z8w k i c j e,h1)
   | none=>none
  | _=>some (e,h)
 | _=>some (e,h)
theorem ya4 {e e1:TE T.q}{h h1:TH T.q}{j:Nat}{v:Operand}(hg:y56 pro j e h v=some (e1,h1)) :
  z9 P pro (z8 T.q (z5 T.q h) e) (z5 T.q h) (z8 T.q (z5 T.q h1) e1) (z5 T.q h1)/\∀ u b,z8 T.q (z5 T.q h) e u=Bl b->z8 T.q (z5 T.q h1) e1 u=Bl b:=by
 unfold y56 at hg;split at hg
 ·split at hg
  ·split at hg
   ·rename_i h2 hd;simp only [Option.some.injEq,Prod.mk.injEq] at hg;obtain ⟨rfl,rfl⟩:=hg;exact ⟨zhr hd,λu b hu=>zg1 hu⟩
   ·cases hg
  ·simp only [Option.some.injEq,Prod.mk.injEq] at hg;obtain ⟨rfl,rfl⟩:=hg;exact ⟨z9.rfl',λ_ _ h=>h⟩
 ·simp only [Option.some.injEq,Prod.mk.injEq] at hg;obtain ⟨rfl,rfl⟩:=hg;exact ⟨z9.rfl',λ_ _ h=>h⟩
end
section
variable {I J:Nat->Prop}{σ:Pl}{B:zm}{w:World}{h:H}{sel:Nat->Bool}{k:Nat}
theorem Im.ceFz {p:Path}{i c:Nat}:∀ (a:AV) (v:Value),Im J B (toIm a) v->Ce J σ B k p i c (toIm a) v
 | .ow s xs,v,h=>by
  simp only [toIm] at h ⊢;split at h
  ·rename_i hm;rw [if_pos hm];exact h
  ·rename_i hm;rw [if_neg hm];exact h
 | .sc _,_,h=>h
 | .zs,_,h=>h
 | .un,_,h=>h
 | .im _ _,_,h=>h
 | .ag _,_,h=>h.elim
 | .tu _,_,h=>h.elim
 | .ip _ _ _ _,_,h=>h.elim
 | .sl _ _ _ _,_,h=>h.elim
 | .pt _ _ _ _,_,h=>h.elim
 | .fn _ _,_,h=>h.elim
def frC (sel:Nat->Bool):Nat->List AV->List AV
 | _,[]=>[]
 | c,a::as=>(bif sel c then toIm a else a)::frC sel (c+1) as
def gpC (σ:Pl)(k:Nat)(p:Path)(i:Nat)(sel:Nat->Bool):Nat->List AV->List Nat
 | _,[]=>[]
 | c,a::as=>(bif sel c then fpA σ k p i c a else [])++gpC σ k p i sel (c+1) as
def gpE (σ:Pl)(k:Nat)(p:Path)(sel:Nat->Bool):Nat->Els->List Nat
 | _,[]=>[]
 | i,x::xs=>gpC σ k p i sel 0 x++gpE σ k p sel (i+1) xs
theorem zrl:∀ (l:List AV) (c:Nat),(frC sel c l).length=l.length
 | [],_=>rfl
 | a::as,c=>by simp [frC,zrl as (c+1)]
theorem zrk:∀ (l:List AV) (c j:Nat),(frC sel c l)[j]?=(l[j]?).map λa=>bif sel (c+j) then toIm a else a
 | [],_,_=>by simp [frC]
 | a::as,c,0=>by simp [frC]
 | a::as,c,j+1=>by simp only [frC,List.getElem?_cons_succ];rw [zrk as (c+1) j,show c+1+j=c+(j+1) by omega]
theorem y5t {p:Path}{i c:Nat}(a:AV):fpA σ k p i c (toIm a)=[]/\(bif true then toIm a else a)=toIm a:=by
 cases a
 case ow s xs=>simp only [toIm];split<;>exact ⟨rfl,rfl⟩
 all_goals exact ⟨rfl,rfl⟩
theorem zyh {p:Path}{i:Nat}:∀ (l:List AV) (c:Nat),(fpC σ k p i c l).Perm (fpC σ k p i c (frC sel c l)++gpC σ k p i sel c l)
 | [],c=>by simp [fpC,frC,gpC]
 | a::as,c=>by have ih:=perm_iff_count.1 (zyh (p:=p) (i:=i) as (c+1));refine perm_iff_count.2 λx=>?_;have:=ih x;simp only [fpC,frC,gpC,List.count_append] at this ⊢;cases sel c with | true=>simp only [cond_true,(y5t a).1,List.count_nil];omega | false=>simp only [cond_false,List.count_nil];omega
theorem zyi {p:Path}:∀ (l:Els) (i:Nat),(fpE σ k p i l).Perm (fpE σ k p i (l.map (frC sel 0))++gpE σ k p sel i l)
 | [],i=>by simp [fpE,gpE]
 | x::l,i=>by have ih:=perm_iff_count.1 (zyi (p:=p) l (i+1));have i2:=perm_iff_count.1 (zyh (σ:=σ) (sel:=sel) (k:=k) (p:=p) (i:=i) x 0);refine perm_iff_count.2 λz=>?_;have:=ih z;have:=i2 z;simp only [fpE,gpE,map_cons,List.count_append] at *;omega
theorem CeC.fz {p:Path}{i:Nat}(hIJ:∀ b,I b->J b):∀ (l:List AV) (c:Nat) (cs:List Value),(∀ b∈gpC σ k p i sel c l,J b)->CeC I σ B k p i c l cs->CeC J σ B k p i c (frC sel c l) cs
 | [],_,_,_,h=>h
 | a::as,c,_,hf,h=>by
  obtain ⟨v,cs',rfl,h1,h2⟩:=h;simp only [gpC,mem_append] at hf;refine ⟨v,cs',rfl,?_,CeC.fz hIJ as (c+1) cs' (λb hb=>hf b (.inr hb)) h2⟩;cases hs:sel c with
  | true=>exact Im.ceFz a v (Ce.toIm hIJ a v (λb hb=>hf b (.inl (by rw [hs];exact hb))) h1)
  | false=>exact Ce.wide hIJ a v h1
theorem CeE.fz {p:Path}{s:Nat}(hIJ:∀ b,I b->J b):∀ (l:Els) (i:Nat) (cs:List Value),(∀ b∈gpE σ k p sel i l,J b)->CeE I σ B k p i s l cs->CeE J σ B k p i s (l.map (frC sel 0)) cs
 | [],_,_,_,_=>trivial
 | x::l,i,cs,hf,h=>by simp only [gpE,mem_append] at hf;exact ⟨by rw [zrl];exact h.1,CeC.fz hIJ x 0 _ (λb hb=>hf b (.inl hb)) h.2.1,CeE.fz hIJ l (i+1) _ (λb hb=>hf b (.inr hb)) h.2.2⟩
theorem zu9 {p:Path}{i:Nat}:∀ (l:List AV) (c0 j:Nat) (a:AV),l[j]?=some a->sel (c0+j)=true->∀ b∈fpA σ k p i (c0+j) a,b∈gpC σ k p i sel c0 l
 | [],_,_,_,h,_,_,_=>by simp at h
 | x::l,c0,0,a,h,hs,b,hb=>by simp at h;subst h;simp only [gpC,mem_append];rw [Nat.add_zero] at hs hb;rw [hs];exact .inl hb
 | x::l,c0,j+1,a,h,hs,b,hb=>by simp only [gpC,mem_append];exact .inr (zu9 l (c0+1) j a (by simpa using h) (by rwa [show c0+1+j=c0+(j+1) by omega]) b (by rwa [show c0+1+j=c0+(j+1) by omega]))
theorem zua {p:Path}:∀ (l:Els) (i0 n:Nat) (x:List AV),l[n]?=some x->∀ b∈gpC σ k p (i0+n) sel 0 x,b∈gpE σ k p sel i0 l
 | [],_,_,_,h,_,_=>by simp at h
 | y::l,i0,0,x,h,b,hb=>by simp at h;subst h;simp only [gpE,mem_append];exact .inl hb
 | y::l,i0,n+1,x,h,b,hb=>by simp only [gpE,mem_append];exact .inr (zua l (i0+1) n x (by simpa using h) b (by rwa [show i0+1+n=i0+(n+1) by omega]))
theorem Va.frozen (hh:zk I σ h w){p:Path}{s off len:Nat}{ys:Els}(hres:res h k p=some (s,ys))(hle:off+len<=ys.length)(hIJ:∀ b,I b->J b)(hb:∀ b∈fpP σ k p ys,J b){v:Value}
  (hv:Va I σ (bl w) (.sl k p off len) v):Va J σ (bl w) (.im s (z3f ((ys.drop off).take len))) v:=by
 obtain ⟨hp,_⟩:=hh.place hres;unfold z2f at hp;unfold fpP at hb;simp only [Va] at hv;cases hL:σ k p with
 | none =>simp only [hL] at hp hv;subst hp;obtain ⟨rfl,rfl,A,rfl⟩:=hv;exact ⟨A,0,by simp [z3f],by simp [z3f],λhn=>absurd (by simp [z3f]) hn⟩
 | some L =>
  simp only [hL] at hp hb hv;obtain ⟨f1,f2,cur,E,f3,f4,f5⟩:=hp;rw [if_pos (by rw [f1];exact (z83 hres).2)] at hv;obtain ⟨A,c,rfl,g1,g2,g3⟩:=hv;have hlen:((ys.drop off).take len).length=len:=by rw [length_take,List.length_drop];omega
  refine ⟨some A,c,by rw [z7f,hlen],by rw [z7f,hlen];exact g2,λhn=>?_⟩
  have hpos:0<len:=by
   rcases Nat.eq_zero_or_pos len with h0 | h0
   ·exfalso;apply hn;subst h0;simp [z3f]
   ·exact h0
  have hA:=g3 (.inl (by omega));subst hA;refine ⟨_,cur,E.t,E.fr,rfl,rfl,hb _ (by simp),f3,?_⟩;have hE:CeE I σ (bl w) k p (0+off) s ((ys.drop off).take len) (cur.toList.drop (off * s)):=CeE.take _ _ _ len (CeE.drop ys 0 _ off f5);rw [f1];refine CeE.toIm hIJ _ _ _ (λb hbb=>hb b (List.mem_cons_of_mem _ ?_)) hE;have hs1:=z70 (σ:=σ) (k:=k) (p:=p) (ys.drop off) (0+off) len
  have hs2:∀ (l:Els) (i n:Nat),(fpE σ k p (i+n) (l.drop n)).Sublist (fpE σ k p i l):=by
   intro l
   induction l with
   | nil=>intro i n;simp [fpE]
   | cons x l ih =>
    intro i n;cases n with
    | zero=>simp
    | succ n =>simp only [List.drop_succ_cons,fpE];have:=ih (i+1) n;rw [show i+1+n=i+(n+1) by omega] at this;exact this.trans (List.sublist_append_right _ _)
  exact (hs1.trans (hs2 ys 0 off)).subset hbb
end
mutual
def mapR (gs:Nat->Path->Nat->Nat->AV)(gp:Nat->Path->Nat->Nat->AV):AV->AV
 | .sl k p off len=>gs k p off len
 | .pt k p i c=>gp k p i c
 | .ag cs=>.ag (zek gs gp cs)
 | .tu cs=>.tu (zek gs gp cs)
 | .fn f cs=>.fn f (zek gs gp cs)
 | .un=>.un
 | .sc v=>.sc v
 | .zs=>.zs
 | .im s xs=>.im s xs
 | .ip s xs i c=>.ip s xs i c
 | .ow s xs=>.ow s xs
 | .pp q=>.pp q
def zek (gs:Nat->Path->Nat->Nat->AV)(gp:Nat->Path->Nat->Nat->AV):List AV->List AV
 | []=>[]
 | x::l=>mapR gs gp x::zek gs gp l
end
section
variable {I J:Nat->Prop}{σ:Pl}{B:zm}{gs gp:Nat->Path->Nat->Nat->AV}
mutual
theorem Va.mapR (hIJ:∀ b,I b->J b)(hs:∀ k p o l v,Va I σ B (.sl k p o l) v->Va J σ B (gs k p o l) v)(hp:∀ k p o l v,Va I σ B (.pt k p o l) v->Va J σ B (gp k p o l) v):∀ (a:AV) (v:Value),Va I σ B a v->Va J σ B (mapR gs gp a) v
 | .un,_,_=>trivial
 | .sc _,_,h=>h
 | .zs,_,h=>h
 | .im s xs,v,h=>Va.wide hIJ (.im s xs) v h
 | .ip s xs i c,v,h=>Va.wide hIJ (.ip s xs i c) v h
 | .sl k p o l,v,h=>hs k p o l v h
 | .pt k p o l,v,h=>hp k p o l v h
 | .ow _ _,_,h=>h.elim
 | .pp q,v,h=>VaP.wide hIJ q v h
 | .ag cs,_,h=>by obtain ⟨a,rfl,h⟩:=h;exact ⟨a,rfl,VaC.mapR hIJ hs hp cs _ h⟩
 | .tu cs,_,h=>by obtain ⟨a,rfl,h⟩:=h;exact ⟨a,rfl,VaL.mapR hIJ hs hp cs _ h⟩
 | .fn _ cs,_,h=>by obtain ⟨a,rfl,h⟩:=h;exact ⟨a,rfl,VaL.mapR hIJ hs hp cs _ h⟩
theorem VaC.mapR (hIJ:∀ b,I b->J b)(hs:∀ k p o l v,Va I σ B (.sl k p o l) v->Va J σ B (gs k p o l) v)(hp:∀ k p o l v,Va I σ B (.pt k p o l) v->Va J σ B (gp k p o l) v):∀ (l:List AV) (cs:List Value),VaC I σ B l cs->VaC J σ B (zek gs gp l) cs
 | [],_,h=>h
 | a::as,_,h=>by obtain ⟨v,cs',rfl,h0,h1,h2⟩:=h;exact ⟨v,cs',rfl,h0,Va.mapR hIJ hs hp a v h1,VaC.mapR hIJ hs hp as cs' h2⟩
theorem VaL.mapR (hIJ:∀ b,I b->J b)(hs:∀ k p o l v,Va I σ B (.sl k p o l) v->Va J σ B (gs k p o l) v)(hp:∀ k p o l v,Va I σ B (.pt k p o l) v->Va J σ B (gp k p o l) v):∀ (l:List AV) (cs:List Value),VaL I σ B l cs->VaL J σ B (zek gs gp l) cs
 | [],_,h=>h
 | a::as,_,h=>by obtain ⟨v,cs',rfl,h1,h2⟩:=h;exact ⟨v,cs',rfl,Va.mapR hIJ hs hp a v h1,VaL.mapR hIJ hs hp as cs' h2⟩
end
end
section
variable {P:Program}{pro:List Nat}{e:Env}{h:H}
def zx2 (k:Nat)(r:Row)(k':Nat)(p:Path)(o l:Nat):AV :=
 if k'=k then (if p=[] then (if o+l<=r.xs.length/\r.s<MB then .im r.s (z3f ((r.xs.drop o).take l)) else .un) else .un) else .sl k' p o l
def y6x (k:Nat)(k':Nat)(p:Path)(i c:Nat):AV:=if k'=k then .un else .pt k' p i c
theorem z9.frow {k:Nat}{r:Row}(hg:z6 h k=some r):z9 P pro e h (λt=>mapR (zx2 k r) (y6x k) (e t)) (zc h k):=λI N _ σ a w R=>by
 obtain ⟨d1,d2,d3,d4,d5,d6⟩:=R.heap.del hg;have hIJ:∀ b,I b->(I b\/b∈fpR σ k r):=λb hb=>.inl hb;refine ⟨σ,λb=>I b\/b∈fpR σ k r,hIJ,λb hb=>?_,⟨d1.wide hIJ (λb hb hJ=>?_) (λb hb=>?_),R.size,λt=>?_,R.defers⟩,λ_ _=>rfl,Le.refl _,λ_ _ _=>rfl,λb hb=>.inl (d6 b hb)⟩
 ·rcases hb with hb | hb
  ·exact .inl hb
  ·exact .inr (.inl (d5 b hb).2)
 ·rcases hJ with hJ | hJ
  ·exact (d1.apart b hb).1 hJ
  ·exact (d5 b hJ).1 hb
 ·rcases hb with hb | hb
  ·exact R.heap.low b hb
  ·exact (R.heap.apart b (d5 b hb).2).2
 ·refine Va.mapR hIJ (λk' p o l v hv=>?_) (λk' p o l v hv=>?_) _ _ (R.vals t)
  ·unfold zx2;split
   ·rename_i e;subst e;split
    ·rename_i e;subst e;split
     ·rename_i hle;exact Va.frozen R.heap (p:=[]) (s:=r.s) (ys:=r.xs) (zd6 (by unfold z1j;rw [hg];rfl) hle.2) hle.1 hIJ (λb hb=>.inr hb) hv
     ·trivial
    ·trivial
   ·exact Va.wide hIJ (.sl k' p o l) v hv
  ·unfold y6x;split
   ·trivial
   ·exact hv
def zkl (h:H)(k:Nat)(sel:Nat->Bool)(k':Nat)(p:Path)(o l:Nat):AV :=
 if k'=k then
  match p with
  | []=>.sl k' p o l
  | (i,c)::q=>if sel c=true then (if q=[] then (match res h k [(i,c)] with | some (s,ys)=>if o+l<=ys.length then .im s (z3f ((ys.drop o).take l)) else .un | none=>.un) else .un) else .sl k' p o l
 else .sl k' p o l
def zvt (k:Nat)(sel:Nat->Bool)(k':Nat)(p:Path)(i0 c0:Nat):AV :=
 if k'=k then
  match p with
  | []=>.pt k' p i0 c0
  | (i,c)::q=>if sel c=true then .un else .pt k' p i0 c0
 else .pt k' p i0 c0
theorem z9.fcol {k:Nat}{r:Row}(sel:Nat->Bool)(hg:z6 h k=some r):z9 P pro e h (λt=>mapR (zkl h k sel) (zvt k sel) (e t)) ((k,⟨r.s,r.xs.map (frC sel 0)⟩)::zc h k):=λI N _ σ a w R=>by
 obtain ⟨d1,d2,d3,d4,d5,d6⟩:=R.heap.del hg
 let g:List Nat:=match σ k [] with | none=>[] | some _=>gpE σ k [] sel 0 r.xs
 have hperm:(fpR σ k r).Perm (fpR σ k ⟨r.s,r.xs.map (frC sel 0)⟩++g):=by simp only [fpR,g];cases σ k [] with | none=>exact List.Perm.refl _ | some L=>exact List.Perm.cons _ (zyi r.xs 0)
 have hnd:=(hperm.nodup_iff).1 d4;rw [List.nodup_append] at hnd;obtain ⟨n1,n2,n3⟩:=hnd;have hgr:∀ b∈g,b∈fpR σ k r:=λb hb=>hperm.mem_iff.2 (mem_append.2 (.inr hb));have hkr:∀ b∈fpR σ k ⟨r.s,r.xs.map (frC sel 0)⟩,b∈fpR σ k r:=λb hb=>hperm.mem_iff.2 (mem_append.2 (.inl hb));have hIJ:∀ b,I b->(I b\/b∈g):=λb hb=>.inl hb
 have hlow:∀ b,(I b\/b∈g)->b<w.heap.size:=λb hb=>by
  rcases hb with hb | hb
  ·exact R.heap.low b hb
  ·exact (R.heap.apart b (d5 b (hgr b hb)).2).2
 have d1':zk (λb=>I b\/b∈g) σ (zc h k) w:=d1.wide hIJ (λb hb hJ=>by
  rcases hJ with hJ | hJ
  ·exact (d1.apart b hb).1 hJ
  ·exact (d5 b (hgr b hJ)).1 hb) hlow
 have hrow:zy (λb=>I b\/b∈g) σ (bl w) k ⟨r.s,r.xs.map (frC sel 0)⟩:=by
  unfold zy at d2 ⊢;cases hL:σ k [] with
  | none=>simp only [hL] at d2 ⊢;exact ⟨by simp [d2.1],d2.2⟩
  | some L =>simp only [hL] at d2 ⊢;obtain ⟨f1,f2,cur,E,f3,f4,f5⟩:=d2;exact ⟨f1,by simpa using f2,cur,E,f3,by rw [z76 (ys:=r.xs) (by simp)];exact f4,CeE.fz hIJ r.xs 0 _ (λb hb=>.inr (by simp only [g,hL];exact hb)) f5⟩
 have hadd:=d1'.add (σ':=σ) (w':=w) d3 (λ_ _ _=>rfl) (λ_ _ _=>rfl) (Nat.le_refl _) hrow n1 (λb hb=>⟨(d5 b (hkr b hb)).1,λhJ=>by
  rcases hJ with hJ | hJ
  ·exact (R.heap.apart b (d5 b (hkr b hb)).2).1 hJ
  ·exact n3 b hb b hJ rfl,(R.heap.apart b (d5 b (hkr b hb)).2).2⟩)
 refine ⟨σ,λb=>I b\/b∈g,hIJ,λb hb=>?_,⟨hadd,R.size,λt=>?_,R.defers⟩,λ_ _=>rfl,Le.refl _,λ_ _ _=>rfl,λb hb=>.inl ?_⟩
 ·rcases hb with hb | hb
  ·exact .inl hb
  ·exact .inr (.inl (d5 b (hgr b hb)).2)
 ·refine Va.mapR hIJ (λk' p o l v hv=>?_) (λk' p o l v hv=>?_) _ _ (R.vals t)
  ·unfold zkl;split
   ·rename_i e;subst e;split
    ·exact hv
    ·rename_i i c q;split
     ·rename_i hsel;split
      ·rename_i hq;subst hq;split
       ·rename_i s ys hres;split
        ·rename_i hle;refine Va.frozen R.heap hres hle hIJ (λb hb=>.inr ?_) hv
         replace hres:=(z83 hres).1
         unfold z1j at hres;rw [hg] at hres;simp only [zp] at hres;cases hx:r.xs[i]? with
         | none=>rw [hx] at hres;cases hres
         | some x =>
          rw [hx] at hres;simp only at hres;cases hy:x[c]? with
          | none=>rw [hy] at hres;cases hres
          | some y =>
           rw [hy] at hres;cases y with
           | ow s' ys' =>
            simp only [Option.some.injEq,Prod.mk.injEq] at hres;obtain ⟨rfl,rfl⟩:=hres
            have hn:σ k' []≠none:=λhn=>by unfold zy at d2;simp only [hn] at d2;rw [d2.1] at hx;simp at hx
            have hgg:g=gpE σ k' [] sel 0 r.xs:=by simp only [g];cases hL:σ k' [] with | none=>exact absurd hL hn | some _=>rfl
            rw [hgg];have e1:fpP σ k' [(i,c)] ys'=fpA σ k' [] i c (.ow s' ys'):=rfl;rw [e1] at hb;refine zua r.xs 0 i x hx b ?_;rw [Nat.zero_add];refine zu9 x 0 c _ hy (by rwa [Nat.zero_add]) b ?_
            rwa [Nat.zero_add]
           | _=>cases hres
        ·trivial
       ·trivial
      ·trivial
     ·exact hv
   ·exact hv
  ·unfold zvt;split
   ·split
    ·exact hv
    ·split
     ·trivial
     ·exact hv
   ·exact hv
 ·rw [z1o,mem_append] at hb;rcases hb with hb | hb
  ·exact (d5 b (hkr b hb)).2
  ·exact d6 b hb
end
section
variable {P:Program}{T:TT}{pro:List Nat}
mutual
def fzT (fw:Nat->Path->VT T)(fs fp:Nat->Path->Nat->Nat->VT T):VT T->VT T
 | .sl k p off len=>fs k p off len
 | .sw k p=>fw k p
 | .pt k p i c=>fp k p i c
 | .ag cs=>.ag (zoz fw fs fp cs)
 | .tu cs=>.tu (zoz fw fs fp cs)
 | .fn f cs=>.fn f (zoz fw fs fp cs)
 | .un=>.un
 | .sc v=>.sc v
 | .ik k n=>.ik k n
 | .bk b=>.bk b
 | .zs=>.zs
 | .im t xs=>.im t xs
 | .ip s cs c=>.ip s cs c
 | .ow m t xs=>.ow m t xs
 | .oo m t xs i cs=>.oo m t xs i cs
 | .pp (.px k c)=>fp k [] 0 c
 | .pp q=>.pp q
def zoz (fw:Nat->Path->VT T)(fs fp:Nat->Path->Nat->Nat->VT T):List (VT T)->List (VT T)
 | []=>[]
 | x::l=>fzT fw fs fp x::zoz fw fs fp l
end
def fzE (fw:Nat->Path->VT T)(fs fp:Nat->Path->Nat->Nat->VT T):TE T.q->TE T.q
 | []=>[]
 | (t,v)::l=>(t,fzT fw fs fp v)::fzE fw fs fp l
theorem zcx {fw:Nat->Path->VT T}{fs fp:Nat->Path->Nat->Nat->VT T}{t:Nat}:∀ (e:TE T.q),z1c (fzE fw fs fp e) t=fzT fw fs fp (z1c e t)
 | []=>by simp [fzE,z1c,fzT]
 | (t',v)::l=>by have ih:=zcx (fw:=fw) (fs:=fs) (fp:=fp) (t:=t) l;simp only [fzE,z1c];cases Nat.beq t t'<;>simp [ih]
mutual
theorem zgu {fw:Nat->Path->VT T}{fs fp:Nat->Path->Nat->Nat->VT T}{gs gp:Nat->Path->Nat->Nat->AV}{H0 H1:H}(hw:∀ k p,zb (gs k p 0 (zh H0 k p)) (den T.q H1 (fw k p)))(hs:∀ k p o l,zb (gs k p o l) (den T.q H1 (fs k p o l)))
  (hp:∀ k p o l,zb (gp k p o l) (den T.q H1 (fp k p o l))):∀ (v:VT T),zb (mapR gs gp (den T.q H0 v)) (den T.q H1 (fzT fw fs fp v))
 | .un | .sc _ | .ik _ _ | .bk _ | .zs | .im _ _ | .ip _ _ _ | .ow _ _ _ | .oo _ _ _ _ _=>by simp only [fzT,den,mapR];exact zb.refl _
 | .pp (.xp _ _ _) | .pp (.fs _ _) | .pp (.fp _ _ _) | .pp (.mr _ _)=>zb.refl _
 | .pp (.px k c)=>hp k [] 0 c
 | .ag cs=>by simp only [fzT,den,mapR];exact zb.ag (ze5 hw hs hp cs).C
 | .tu cs=>by simp only [fzT,den,mapR];exact zb.tu (ze5 hw hs hp cs).L
 | .fn f cs=>by simp only [fzT,den,mapR];exact zb.fn (ze5 hw hs hp cs).L
 | .sl k p o l=>hs k p o l
 | .sw k p=>hw k p
 | .pt k p o l=>hp k p o l
theorem ze5 {fw:Nat->Path->VT T}{fs fp:Nat->Path->Nat->Nat->VT T}{gs gp:Nat->Path->Nat->Nat->AV}{H0 H1:H}(hw:∀ k p,zb (gs k p 0 (zh H0 k p)) (den T.q H1 (fw k p)))(hs:∀ k p o l,zb (gs k p o l) (den T.q H1 (fs k p o l)))
  (hp:∀ k p o l,zb (gp k p o l) (den T.q H1 (fp k p o l))):∀ (l:List (VT T)),z2l (zek gs gp (z7 T.q H0 l)) (z7 T.q H1 (zoz fw fs fp l))
 | []=>.nil
 | x::l=>.cons (zgu hw hs hp x) (ze5 hw hs hp l)
end
inductive Fz where
 | row (k:Nat)
 | col (k:Nat) (cs:List Nat)
 | nest (k:Nat)
def inC (cs:List Nat)(c:Nat):Bool:=cs.any (Nat.beq c)
def zvr (cs:List Nat):Nat->List (VT T)->Option (List (VT T))
 | _,[]=>some []
 | c,v::l=>match zvr cs (c+1) l with
  | none=>none
  | some l'=>bif inC cs c then (match v with
   | .ow _ t xs=>bif Nat.blt (T.sz t) 1000000 then some (.im t xs::l') else none
   | .oo _ _ _ _ _=>none
   | v=>some (v::l')) else some (v::l')
def zvs (cs:List Nat):List (List (VT T))->Option (List (List (VT T)))
 | []=>some []
 | x::l=>match zvr cs 0 x,zvs cs l with | some x',some l'=>some (x'::l') | _,_=>none
theorem znt {cs:List Nat}:∀ (l l':List (VT T)) (c:Nat),zvr cs c l=some l'->z7 T.q [] l'=frC (inC cs) c (z7 T.q [] l)
 | [],_,_,h=>by cases h;rfl
 | v::l,l',c,h=>by
  simp only [zvr] at h;split at h
  ·cases h
  ·rename_i l1 h1;have ih:=znt l l1 (c+1) h1;cases hs:inC cs c with
   | false =>rw [hs] at h;cases h;simp only [z7,frC,hs,cond_false,ih]
   | true =>
    rw [hs] at h;simp only [cond_true] at h;split at h
    ·rename_i m0 t0 xs0;cases hsm:Nat.blt (T.sz t0) 1000000 with
     | false=>rw [hsm] at h;cases h
     | true =>
     rw [hsm] at h;cases h;simp only [z7,frC,hs,cond_true,ih,den,toIm,z7g];rw [if_pos (show T.sz t0<MB from le_of_ble_eq_true hsm)]
    ·cases h
    ·rename_i h2 h3;cases h;simp only [z7,frC,hs,cond_true,ih];congr 1;cases v<;>first | rfl | (rename_i q;cases q<;>rfl) | (exact absurd rfl (h2 _ _ _)) | (exact absurd rfl (h3 _ _ _ _ _))
theorem znu {cs:List Nat}:∀ (l l':List (List (VT T))),zvs cs l=some l'->l'.map (z7 T.q [])=(l.map (z7 T.q [])).map (frC (inC cs) 0)
 | [],_,h=>by cases h;rfl
 | x::l,l',h=>by
  simp only [zvs] at h;split at h
  ·rename_i x' l1 h1 h2;cases h;simp only [map_cons,znt _ _ _ h1,znu l l1 h2]
  ·cases h
def zow (e:TE T.q)(h:TH T.q):Fz->Option (TE T.q×TH T.q)
 | .row k=>match z30 h k with
  | some (.typ _ t xs)=>bif Nat.blt (T.sz t) 1000000 then some (fzE (λk' p=>bif Nat.beq k' k then (match p with | []=>.im t xs | _=>.un) else .sw k' p) (λk' p o l=>bif Nat.beq k' k then .un else .sl k' p o l) (λk' p o l=>bif Nat.beq k' k then .un else .pt k' p o l) e,z12 h k) else none
  | _=>none
 | .col k cs=>match z30 h k with
  | some (.lit s xs)=>match zvs cs xs with
   | some xs'=>some (fzE (λk' p=>bif Nat.beq k' k then (match p with
     | []=>.sw k' p
     | (i,c)::q=>bif inC cs c then (match q with | []=>(match (xs[i]?).bind (λx=>x[c]?) with | some (.ow _ t ys)=>bif Nat.blt (T.sz t) 1000000 then .im t ys else .un | _=>.un) | _=>.un) else .sw k' p) else .sw k' p)
    (λk' p o l=>bif Nat.beq k' k then (match p with | []=>.sl k' p o l | (_,c)::_=>bif inC cs c then .un else .sl k' p o l) else .sl k' p o l)
    (λk' p o l=>bif Nat.beq k' k then (match p with | []=>.pt k' p o l | (_,c)::_=>bif inC cs c then .un else .pt k' p o l) else .pt k' p o l) e,(k,.lit s xs')::z12 h k)
   | none=>none
  | _=>none
 | .nest k=>match z30 h k with
  | some (.typ _ t xs)=>some (fzE (λk' p=>bif Nat.beq k' k then (match p with | []=>.sw k' p | _=>.un) else .sw k' p) (λk' p o l=>bif Nat.beq k' k then (match p with | []=>.sl k' p o l | _=>.un) else .sl k' p o l)
    (λk' p o l=>bif Nat.beq k' k then (match p with | []=>.pt k' p o l | _=>.un) else .pt k' p o l) e,(k,.typ false t xs)::z12 h k)
  | _=>none
theorem zku {fw:Nat->Path->VT T}{fs fp:Nat->Path->Nat->Nat->VT T}{t:Nat}{e:TE T.q}{H0 H1:H}{b:Bool}(h:z8 T.q H0 e t=Bl b):z8 T.q H1 (fzE fw fs fp e) t=Bl b:=by simp only [z8,zcx] at h ⊢;cases hv:z1c e t<;>rw [hv] at h<;>first | (rename_i q;cases q<;>cases h;done) | (simp [den] at h<;>simp [fzT,den,h])
theorem zrj:∀ (l:List AV) (c:Nat),frC (λ_=>true) c l=z2q l
 | [],_=>rfl
 | a::l,c=>by simp only [frC,cond_true,z2q,zrj l]
theorem zqp:∀ (l:Els),z3f l=l.map z2q
 | []=>rfl
 | x::l=>by simp only [z3f,map_cons,zqp l]
theorem zux {H0:H}{k:Nat}{r:Row}{sel:Nat->Bool}(hg:z6 H0 k=some r):∀ p,(∀ i c q,p=(i,c)::q->sel c=false)->zh ((k,⟨r.s,r.xs.map (frC sel 0)⟩)::zc H0 k) k p=zh H0 k p:=by
 intro p hp;unfold zh z1j;rw [hg];simp only [z6,if_true];cases p with
 | nil=>simp only [zp,length_map]
 | cons x q =>
  obtain ⟨i,c⟩:=x;have hs:=hp i c q rfl;simp only [zp,List.getElem?_map];cases r.xs[i]? with
  | none=>rfl
  | some x =>simp only [map_some];rw [zrk x 0 c,Nat.zero_add,hs];cases x[c]? with | none=>rfl | some y=>rfl
theorem yam {e e1:TE T.q}{h h1:TH T.q}:∀ {z:Fz},zow e h z=some (e1,h1)->z9 P pro (z8 T.q (z5 T.q h) e) (z5 T.q h) (z8 T.q (z5 T.q h1) e1) (z5 T.q h1)/\∀ t b,z8 T.q (z5 T.q h) e t=Bl b->z8 T.q (z5 T.q h1) e1 t=Bl b
 | .row k,hz=>by
  simp only [zow] at hz;split at hz
  ·rename_i m t xs hr;cases hsm:Nat.blt (T.sz t) 1000000 with
   | false=>rw [hsm] at hz;cases hz
   | true =>
   rw [hsm] at hz;have hsm:=le_of_ble_eq_true hsm;simp only [cond_true,Option.some.injEq,Prod.mk.injEq] at hz;obtain ⟨rfl,rfl⟩:=hz;have hgr:z6 (z5 T.q h) k=some ⟨T.sz t,xs.map (T.ca m t)⟩:=by rw [z1t,hr];rfl
   refine ⟨?_,λ_ _ hb=>zku hb⟩;have g:=z9.frow (P:=P) (pro:=pro) (e:=z8 T.q (z5 T.q h) e) hgr;rw [zz] at g;refine g.trans (z9.le λu=>?_);simp only [z8,zcx];have hl:∀ k' p,k'≠k->zh (z5 T.q (z12 h k)) k' p=zh (z5 T.q h) k' p:=λk' p hk=>z1g (by rw [<- zz,z1b hk]);refine zgu (λk' p=>?_) (λk' p o l=>?_) (λk' p o l=>?_) _
   ·unfold zx2;simp only [z1h];by_cases hk:k'=k
    ·subst hk;simp only [decide_true,cond_true,if_true];cases p with
     | nil =>
      simp only [if_true,den];have e0:zh (z5 T.q h) k' []=xs.length:=by unfold zh z1j;rw [hgr];simp [zp]
      rw [e0];simp only [Nat.zero_add,length_map,Nat.le_refl,List.drop_zero];rw [if_pos ⟨trivial,hsm⟩,List.take_of_length_le (by simp),z7g];exact zb.refl _
     | cons _ _=>simp only [den];exact zb.un _
    ·simp only [hk,decide_false,cond_false,if_false,den,hl k' p hk];exact zb.refl _
   ·unfold zx2;simp only [z1h];by_cases hk:k'=k
    ·subst hk;simp only [decide_true,cond_true,den];exact zb.un _
    ·simp only [hk,decide_false,cond_false,if_false,den];exact zb.refl _
   ·unfold y6x;simp only [z1h];by_cases hk:k'=k
    ·subst hk;simp only [decide_true,cond_true,den];exact zb.un _
    ·simp only [hk,decide_false,cond_false,if_false,den];exact zb.refl _
  ·cases hz
 | .col k cs,hz=>by
  simp only [zow] at hz;split at hz
  ·rename_i s xs hr;split at hz
   ·rename_i xs' hx;simp only [Option.some.injEq,Prod.mk.injEq] at hz;obtain ⟨rfl,rfl⟩:=hz;have hgr:z6 (z5 T.q h) k=some ⟨s,xs.map (z7 T.q [])⟩:=by rw [z1t,hr];rfl
    refine ⟨?_,λ_ _ hb=>zku hb⟩;have g:=z9.fcol (P:=P) (pro:=pro) (e:=z8 T.q (z5 T.q h) e) (inC cs) hgr
    have hh:z5 T.q ((k,.lit s xs')::z12 h k)=(k,⟨s,(xs.map (z7 T.q [])).map (frC (inC cs) 0)⟩)::zc (z5 T.q h) k:=by simp only [z5,za,zz,znu _ _ hx]
    rw [hh];refine g.trans (z9.le λu=>?_);simp only [z8,zcx]
    have hl:∀ k' p,k'≠k->zh ((k,⟨s,(xs.map (z7 T.q [])).map (frC (inC cs) 0)⟩)::zc (z5 T.q h) k) k' p=zh (z5 T.q h) k' p:=λk' p hk=>z1g (by simp only [z6];rw [if_neg (λe=>hk e.symm),z1b hk])
    have hl2:=zux (sel:=inC cs) hgr;refine zgu (λk' p=>?_) (λk' p o l=>?_) (λk' p o l=>?_) _
    ·unfold zkl;simp only [z1h];by_cases hk:k'=k
     ·subst hk;simp only [decide_true,cond_true,if_true];cases p with
      | nil =>simp only [den];rw [hl2 [] (λ_ _ _ h=>by cases h)];exact zb.refl _
      | cons x q =>
       obtain ⟨i,c⟩:=x;simp only;cases hs:inC cs c with
       | false =>simp only [cond_false,if_false,false_eq_true,den];rw [hl2 _ (λi' c' q' he=>by cases he;exact hs)];exact zb.refl _
       | true =>
        simp only [cond_true,if_true];cases q with
        | cons _ _=>simp only [den];exact zb.un _
        | nil =>
         simp only [if_true];cases hc:(xs[i]?).bind (λx=>x[c]?) with
         | none=>simp only [den];exact zb.un _
         | some v =>
          cases v with
          | ow m t ys =>
           obtain ⟨x,h1,h2⟩:=Option.bind_eq_some_iff.1 hc;cases hsm:Nat.blt (T.sz t) 1000000 with
           | false=>simp only [hsm,cond_false,den];exact zb.un _
           | true =>
           simp only [hsm,cond_true]
           have hres:res (z5 T.q h) k' [(i,c)]=some (T.sz t,ys.map (T.ca m t)):=by refine zd6 ?_ (le_of_ble_eq_true hsm);unfold z1j;rw [hgr];simp only [zp,List.getElem?_map,h1,map_some,z31,h2,den]
           rw [hres];have e0:zh (z5 T.q h) k' [(i,c)]=ys.length:=by rw [z5u hres];simp
           rw [e0];simp only [Nat.zero_add,length_map,Nat.le_refl,if_true,List.drop_zero,den];rw [List.take_of_length_le (by simp),z7g];exact zb.refl _
          | _=>simp only [den];exact zb.un _
     ·simp only [hk,decide_false,cond_false,if_false,den,hl k' p hk];exact zb.refl _
    ·unfold zkl;simp only [z1h];by_cases hk:k'=k
     ·subst hk;simp only [decide_true,cond_true,if_true];cases p with
      | nil=>exact zb.refl _
      | cons x q =>obtain ⟨i,c⟩:=x;simp only;cases hs:inC cs c with | false=>exact zb.refl _ | true=>simp only [cond_true,den];exact zb.un _
     ·simp only [hk,decide_false,cond_false,if_false,den];exact zb.refl _
    ·unfold zvt;simp only [z1h];by_cases hk:k'=k
     ·subst hk;simp only [decide_true,cond_true,if_true];cases p with
      | nil=>exact zb.refl _
      | cons x q =>obtain ⟨i,c⟩:=x;simp only;cases hs:inC cs c with | false=>exact zb.refl _ | true=>simp only [cond_true,den];exact zb.un _
     ·simp only [hk,decide_false,cond_false,if_false,den];exact zb.refl _
   ·cases hz
  ·cases hz
 | .nest k,hz=>by
  simp only [zow] at hz;split at hz
  ·rename_i m t xs hr;simp only [Option.some.injEq,Prod.mk.injEq] at hz;obtain ⟨rfl,rfl⟩:=hz;have hgr:z6 (z5 T.q h) k=some ⟨T.sz t,xs.map (T.ca m t)⟩:=by rw [z1t,hr];rfl
   refine ⟨?_,λ_ _ hb=>zku hb⟩;have g:=z9.fcol (P:=P) (pro:=pro) (e:=z8 T.q (z5 T.q h) e) (λ_=>true) hgr
   have hh:z5 T.q ((k,.typ false t xs)::z12 h k)=(k,⟨T.sz t,(xs.map (T.ca m t)).map (frC (λ_=>true) 0)⟩)::zc (z5 T.q h) k:=by
    simp only [z5,za,zz]
    have:(xs.map (T.ca m t)).map (frC (λ_=>true) 0)=xs.map (T.ca false t):=by rw [<- z7g (m:=m),zqp];simp only [map_map];congr 1;funext x;exact zrj _ _
    rw [this]
   rw [hh];refine g.trans (z9.le λu=>?_);simp only [z8,zcx]
   have hl:∀ k' p,k'≠k->zh ((k,⟨T.sz t,(xs.map (T.ca m t)).map (frC (λ_=>true) 0)⟩)::zc (z5 T.q h) k) k' p=zh (z5 T.q h) k' p:=λk' p hk=>z1g (by simp only [z6];rw [if_neg (λe=>hk e.symm),z1b hk])
   have hl2:=zux (sel:=λ_=>true) hgr;refine zgu (λk' p=>?_) (λk' p o l=>?_) (λk' p o l=>?_) _
   ·unfold zkl;simp only [z1h];by_cases hk:k'=k
    ·subst hk;simp only [decide_true,cond_true,if_true];cases p with
     | nil =>simp only [den];rw [hl2 [] (λ_ _ _ h=>by cases h)];exact zb.refl _
     | cons x q=>simp only [den];exact zb.un _
    ·simp only [hk,decide_false,cond_false,if_false,den,hl k' p hk];exact zb.refl _
   ·unfold zkl;simp only [z1h];by_cases hk:k'=k
    ·subst hk;simp only [decide_true,cond_true,if_true];cases p with | nil=>exact zb.refl _ | cons x q=>simp only [den];exact zb.un _
    ·simp only [hk,decide_false,cond_false,if_false,den];exact zb.refl _
   ·unfold zvt;simp only [z1h];by_cases hk:k'=k
    ·subst hk;simp only [decide_true,cond_true,if_true];cases p with | nil=>exact zb.refl _ | cons x q=>simp only [den];exact zb.un _
    ·simp only [hk,decide_false,cond_false,if_false,den];exact zb.refl _
  ·cases hz
def zar:List Fz->TE T.q->TH T.q->Option (TE T.q×TH T.q)
 | [],e,h=>some (e,h)
 | z::l,e,h=>match zow e h z with | some (e1,h1)=>zar l e1 h1 | none=>zar l e h
theorem z7b:∀ (l:List Fz) {e e1:TE T.q} {h h1:TH T.q},zar l e h=some (e1,h1)->z9 P pro (z8 T.q (z5 T.q h) e) (z5 T.q h) (z8 T.q (z5 T.q h1) e1) (z5 T.q h1)/\∀ t b,z8 T.q (z5 T.q h) e t=Bl b->z8 T.q (z5 T.q h1) e1 t=Bl b
 | [],_,_,_,_,hz=>by simp only [zar,Option.some.injEq,Prod.mk.injEq] at hz;obtain ⟨rfl,rfl⟩:=hz;exact ⟨z9.rfl',λ_ _ h=>h⟩
 | z::l,_,_,_,_,hz=>by
  simp only [zar] at hz;split at hz
  ·rename_i e2 h2 h3;obtain ⟨a1,a2⟩:=yam (P:=P) (pro:=pro) h3;obtain ⟨b1,b2⟩:=z7b l hz;exact ⟨a1.trans b1,λt b hb=>b2 t b (a2 t b hb)⟩
  ·exact z7b l hz
end
def y9l {α:Type}:List (Nat×α)->Nat->Option α
 | [],_=>none
 | (k,x)::l,d=>bif Nat.beq k d then some x else y9l l d
structure Cx (P:Program) (T:TT) where
 cs:List (Con P T)
 ty:List (Nat×Bool×Nat)
 tn:List Nat
 fz:List (Nat×List Fz)
def Cx.fzAt {P:Program}{T:TT}(cx:Cx P T)(d:Nat):List Fz:=match y9l cx.fz d with | some l=>l | none=>[]
def Cx.at {P:Program}{T:TT}(cx:Cx P T)(d:Nat):Option (Bool×Nat):=(cx.ty.find? λx=>Nat.beq x.1 d).map Prod.snd
section
variable {P:Program}{T:TT}{pro:List Nat}{L:Type}
def zk8:IK->VT T
 | .st _ _ _ | .mst _ _ _ _ _=>.un
 | _=>.sc undef
theorem z9d {h:H}(op:IK):den T.q h (zk8 op)=z4k op:=by cases op<;>rfl
def zcz (e:TE T.q)(g:Option (Nat×Bool))(go skip:TE T.q->Raw P T pro L):Raw P T pro L :=
 match g with
 | none=>go e
 | some (s,want) =>
  match z1c e s with
  | .bk true=>bif want then go e else skip e
  | .bk false=>bif want then skip e else go e
  | .sc (.tuple _)=>skip e
  | .sc (.bool b)=>.ite b (bif want then go (z1v e s (.bk true)) else skip (z1v e s (.bk true))) (bif want then skip (z1v e s (.bk false)) else go (z1v e s (.bk false)))
  | _=>.no
theorem z5z {e:TE T.q}{h:H}{s:Nat}{b:Bool}(hs:z1c e s = .sc (.bool b)):z8 T.q h (z1v e s (.bk b))=z8 T.q h e:=by
 rw [z1f];funext t;unfold upd;split
 ·rename_i ht;subst ht;simp only [z8,hs,den]
 ·rfl
theorem zbs {e:TE T.q}{g:Option (Nat×Bool)}{go skip:TE T.q->Raw P T pro L}{Q:L->Prop}{H0:H}(hs:Sat (zcz e g go skip) Q) :
  ∃ e',z8 T.q H0 e'=z8 T.q H0 e/\((zx (z8 T.q H0 e) g=some true/\Sat (go e') Q)\/(zx (z8 T.q H0 e) g=some false/\Sat (skip e') Q)):=by
 unfold zcz at hs;split at hs
 ·exact ⟨e,rfl,.inl ⟨rfl,hs⟩⟩
 ·rename_i s want;have hw:∀ b,z8 T.q H0 e s = .sc (.bool b)->zx (z8 T.q H0 e) (some (s,want))=some (b==want):=λb hb=>by simp [zx,hb]
  split at hs
  ·rename_i hv;have hv':z8 T.q H0 e s = .sc (.bool true):=by simp only [z8,hv,den]
   cases want
   ·exact ⟨e,rfl,.inr ⟨by rw [hw _ hv'];rfl,hs⟩⟩
   ·exact ⟨e,rfl,.inl ⟨by rw [hw _ hv'];rfl,hs⟩⟩
  ·rename_i hv;have hv':z8 T.q H0 e s = .sc (.bool false):=by simp only [z8,hv,den]
   cases want
   ·exact ⟨e,rfl,.inl ⟨by rw [hw _ hv'];rfl,hs⟩⟩
   ·exact ⟨e,rfl,.inr ⟨by rw [hw _ hv'];rfl,hs⟩⟩
  ·rename_i a hv;have hv':z8 T.q H0 e s = .sc (.tuple a):=by simp only [z8,hv,den]
   exact ⟨e,rfl,.inr ⟨by simp [zx,hv'],hs⟩⟩
  ·rename_i b hv;have hv':z8 T.q H0 e s = .sc (.bool b):=by simp only [z8,hv,den]
   cases b with
   | true =>
    have h1:=hs.1 rfl;cases want
    ·exact ⟨_,z5z hv,.inr ⟨by rw [hw _ hv'];rfl,h1⟩⟩
    ·exact ⟨_,z5z hv,.inl ⟨by rw [hw _ hv'];rfl,h1⟩⟩
   | false =>
    have h1:=hs.2 rfl;cases want
    ·exact ⟨_,z5z hv,.inl ⟨by rw [hw _ hv'];rfl,h1⟩⟩
    ·exact ⟨_,z5z hv,.inr ⟨by rw [hw _ hv'];rfl,h1⟩⟩
  ·exact hs.elim
def zk5:TR T.El->Bool
 | .lit s (_::_)=>Nat.blt s 1000000
 | .typ _ t (_::_)=>Nat.blt (T.sz t) 1000000
 | _=>false
theorem y3z {r:TR T.El}(h:zk5 r=true):0<(za T.q r).xs.length/\(za T.q r).s<MB:=by
 unfold zk5 at h;split at h
 ·exact ⟨by simp [za],le_of_ble_eq_true h⟩
 ·exact ⟨by simp [za],le_of_ble_eq_true h⟩
 ·cases h
def zeu (d:Nat)(h:TH T.q)(s:ByteArray):StT T:=⟨.sw d [],λk _=>[d].contains k,λ_ _=>false,[d],(d,.typ false T.u8 (T.bs (bytesOf s)))::z12 h d⟩
theorem ybw {e:TE T.q}{h:TH T.q}{d:Nat}{g:Option (Nat×Bool)}{y:Operand}{s:ByteArray}(hy:evT e y = .sc (.string s))(hp:pro.contains d=false):z88 P pro T e h ⟨d,g,.s2b y⟩ (zeu d h s):=by
 obtain ⟨q1,q2,q3⟩:=zaz (T:=T) (r:=.typ false T.u8 (T.bs (bytesOf s))) (h:=h) (h':=z12 h d) (d:=d) (g:=[d]) ⟨λ_ h=>h,z55⟩
 have hlen:(T.bs (bytesOf s)).length=s.size:=by have:=congrArg List.length (T.bs_ok (bytesOf s));rw [length_map,length_map] at this;rw [this];simp [bytesOf]
 refine ⟨λe' he=>?_,λk p hk _=>q2 k p hk,q3⟩;have hu:=z3y (x:=⟨d,g,.s2b y⟩) (e:=e') (EA:=z8 T.q (z5 T.q h) e) he (o:=y) (by simp [z5x]);rw [zg,hy] at hu;refine ⟨e',_,_,_,z9.rfl',λ_ _ h=>h,.s2w hu hp,?_⟩
 have hh:z5 T.q (zeu d h s).h=(d,⟨1,(bytesOf s).map λn=>[.sc (.int .u8 n)]⟩)::zc (z5 T.q h) d:=by simp only [zeu,z5,zz,za,T.bs_sz,T.bs_ok]
 rw [<- hh];refine z9.le λt=>?_;simp only [z1e,upd];split
 ·have:den T.q (z5 T.q (zeu d h s).h) (zeu d h s).v = .sl d [] 0 s.size:=by rw [hh];simp [zeu,den,zh,z1j,z6,zp,bytesOf]
  rw [this];exact zb.refl _
 ·exact z7d (λk p hk=>by simpa [zeu] using hk) _
def znd (pro:List Nat)(cx:Cx P T)(x:Ins)(e:TE T.q)(h:TH T.q)(K:TE T.q->TH T.q->Raw P T pro L):Raw P T pro L :=
 match x.op with
 | .rd (.pick (.tmp s) a b) =>
  match z1c e s with
  | .sc (.bool t)=>.ite t (Raw.ofRs (λv=>K (z1v (z1v e s (.bk true)) x.dst v) h) (nnT (evT e a))) (Raw.ofRs (λv=>K (z1v (z1v e s (.bk false)) x.dst v) h) (nnT (evT e b)))
  | _=>Raw.ofRs (λv=>K (z1v e x.dst v) h) (rdT e h (.pick (.tmp s) a b))
 | .rd b=>Raw.ofRs (λv=>K (z1v e x.dst v) h) (rdT e h b)
 | .mk b=>match zdr pro (700000+x.dst * 100) e h (zh0 e (z38 b)) with
  | some (e1,h1)=>Raw.ofRs (λst=>K (st.env e1 x.dst) st.h) (mkT (cx.at x.dst) pro e1 h1 x.dst b)
  | none=>.no
 | .app s bytes a b=>match y56 pro (700000+x.dst * 100) e h a with
  | some (e1,h1)=>Raw.ofRs (λst=>K (st.env e1 x.dst) st.h) (zvm (cx.at x.dst) pro e1 h1 x.dst s bytes a b)
  | none=>.no
 | .st n a v=>Raw.ofRs (λ(e,h)=>match zdr pro (700000+x.dst * 100) e h (zh0 e [v]) with
  | some (e1,h1)=>Raw.ofRs (λst=>K (st.env e1 x.dst) st.h) (stT e1 h1 n a v)
  | none=>.no) (cuT pro (700000+x.dst * 100) e h v)
 | .mst nv ks a k v=>Raw.ofRs (λst=>K (st.env e x.dst) st.h) (zwt e h nv ks a k v)
 | .s2b y=>match evT e y with
  | .sc (.string s)=>match cx.at x.dst with
   | none=>K (z1v e x.dst (.im T.u8 (T.bs (bytesOf s)))) h
   | some _=>bif pro.contains x.dst then .no else K ((zeu x.dst h s).env e x.dst) (zeu x.dst h s).h
  | _=>.no
 | .mrk y=>match evT e y with
  | .sw k []=>match z30 h k with
   | some r=>bif zk5 r then K (z1v e x.dst (.sw k [])) ((k,r)::z12 h k) else .no
   | none=>.no
  | _=>.no
 | .ifn y=>match evT e y with | .sc (.iface _ _)=>K (z1v e x.dst (.bk true)) h | _=>.no
 | .tas t y=>match evT e y with | .sc (.iface t' (.agg cs))=>bif Nat.beq t' t&&cs.toList.all Value.oneCell' then K (z1v e x.dst (.tu [.ag (cs.toList.map .sc),.bk true])) h else .no | _=>.no
 | op=>zit P pro cx.cs e h x.dst op K
def z40 (P:Program)(pro:List Nat)(x:Ins)(E:Env)(H0:H)(Kp:Env->H->Prop):Prop :=
 ∃ e0 h0 e1 h1 e2 h2,z9 P pro E H0 e0 h0/\(∀ t b,E t=Bl b->e0 t=Bl b)/\z2m P pro e0 h0 x.dst x.op e1 h1/\z9 P pro e1 h1 e2 h2/\Kp e2 h2
theorem z40.pre {x:Ins}{E E1:Env}{H0 H1:H}{Kp:Env->H->Prop}(g:z9 P pro E H0 E1 H1)(gb:∀ t b,E t=Bl b->E1 t=Bl b)(h:z40 P pro x E1 H1 Kp):z40 P pro x E H0 Kp:=by obtain ⟨e0,h0,e1,h1,e2,h2,g1,b1,g2,g3,k⟩:=h;exact ⟨e0,h0,e1,h1,e2,h2,g.trans g1,λt b hb=>b1 t b (gb t b hb),g2,g3,k⟩
def KP (K:TE T.q->TH T.q->Raw P T pro L)(Q:L->Prop)(E:Env)(H0:H):Prop:=∃ e h,E=z8 T.q (z5 T.q h) e/\H0=z5 T.q h/\Sat (K e h) Q
theorem zd8 {x:Ins}{e:TE T.q}{h:TH T.q}{K:TE T.q->TH T.q->Raw P T pro L}{Q:L->Prop}{st:StT T}(hst:z88 P pro T e h x st)(hK:Sat (K (st.env e x.dst) st.h) Q) :
  z40 P pro x (z8 T.q (z5 T.q h) e) (z5 T.q h) (KP K Q):=by
 obtain ⟨e0,h0',e1,h1',g1,gb,g2,g3⟩:=hst.1 (z8 T.q (z5 T.q h) e) (λ_ _=>rfl);exact ⟨e0,h0',e1,h1',_,_,g1,gb,g2,g3.trans (StT.env_ghost hst.2.1),_,_,rfl,rfl,hK⟩
theorem zh2 {x:Ins}{b:IB}(hx:x.op = .rd b){e e':TE T.q}{h:TH T.q}{K:TE T.q->TH T.q->Raw P T pro L}{Q:L->Prop}{v:VT T}(he:z8 T.q (z5 T.q h) e'=z8 T.q (z5 T.q h) e)(hv:(rdT e h b).gives v)(hK:Sat (K (z1v e' x.dst v) h) Q) :
  z40 P pro x (z8 T.q (z5 T.q h) e) (z5 T.q h) (KP K Q):=by
 obtain ⟨av,q1,q2⟩:=zq2 hv;refine ⟨_,_,upd (z8 T.q (z5 T.q h) e) x.dst av,z5 T.q h,_,_,z9.rfl',λ_ _ h=>h,by rw [hx];exact .plain (by simp only [z2w,q1]),z9.le (e1:=z8 T.q (z5 T.q h) (z1v e' x.dst v)) λt=>?_,z1v e' x.dst v,h,rfl,rfl,hK⟩;rw [z1f,he];exact zb.upd (λt=>zb.refl _) q2 t
theorem zqj {cx:Cx P T}{x:Ins}{e:TE T.q}{h:TH T.q}{K:TE T.q->TH T.q->Raw P T pro L}{Q:L->Prop}(hs:Sat (znd pro cx x e h K) Q) :
  z40 P pro x (z8 T.q (z5 T.q h) e) (z5 T.q h) (KP K Q):=by
 obtain ⟨d,g,op⟩:=x
 have call:∀ {op:IK},Sat (zit P pro cx.cs e h d op K) Q->z40 P pro ⟨d,g,op⟩ (z8 T.q (z5 T.q h) e) (z5 T.q h) (KP K Q):=λhs=>by obtain ⟨e0,h0,e1,e2,h2,g1,g2,g3,g4,gb⟩:=zlh hs;exact ⟨e0,h0,e1,_,_,_,g1,gb,g2,g3,e2,h2,rfl,rfl,g4⟩
 unfold znd at hs;dsimp only at hs;split at hs
 ·rename_i s a b;split at hs
  ·rename_i t ht;cases t with
   | true =>obtain ⟨v,hv,hK⟩:=Sat.ofRs _ (hs.1 rfl);exact zh2 (x:=⟨d,g,_⟩) rfl (z5z ht) (by simp only [rdT,evT,ht];exact .inl ⟨rfl,hv⟩) hK
   | false =>obtain ⟨v,hv,hK⟩:=Sat.ofRs _ (hs.2 rfl);exact zh2 (x:=⟨d,g,_⟩) rfl (z5z ht) (by simp only [rdT,evT,ht];exact .inr ⟨rfl,hv⟩) hK
  ·obtain ⟨v,hv,hK⟩:=Sat.ofRs _ hs;exact zh2 (x:=⟨d,g,_⟩) rfl rfl hv hK
 ·rename_i b _;obtain ⟨v,hv,hK⟩:=Sat.ofRs _ hs;exact zh2 (x:=⟨d,g,_⟩) rfl rfl hv hK
 ·rename_i b;split at hs
  ·rename_i e1 h1 hd;obtain ⟨st,hv,hK⟩:=Sat.ofRs _ hs;exact (zds _ _ _ _ _ _ hd).elim λq1 q2=>z40.pre q1 q2 (zd8 (x:=⟨d,g,_⟩) (y3m hv) hK)
  ·exact hs.elim
 ·rename_i s bytes a b;split at hs
  ·rename_i e1 h1 hd;obtain ⟨st,hv,hK⟩:=Sat.ofRs _ hs;exact (ya4 hd).elim λq1 q2=>z40.pre q1 q2 (zd8 (x:=⟨d,g,_⟩) (zr6 hv) hK)
  ·exact hs.elim
 ·rename_i n a v;obtain ⟨⟨e0,h0⟩,hc,hs⟩:=Sat.ofRs _ hs;dsimp only at hs;refine (ycg (P:=P) (pro:=pro) hc).elim λc1 c2=>z40.pre c1 c2 ?_;split at hs
  ·rename_i e1 h1 hd;obtain ⟨st,hv,hK⟩:=Sat.ofRs _ hs;exact (zds _ _ _ _ _ _ hd).elim λq1 q2=>z40.pre q1 q2 (zd8 (x:=⟨d,g,_⟩) (y4b hv) hK)
  ·exact hs.elim
 ·obtain ⟨st,hv,hK⟩:=Sat.ofRs _ hs;exact zd8 (x:=⟨d,g,_⟩) (zul hv) hK
 ·rename_i y;split at hs
  ·rename_i s hy;split at hs
   rotate_left
   ·cases hp:pro.contains d with
    | true=>simp only [hp,cond_true] at hs;exact hs.elim
    | false =>simp only [hp,cond_false] at hs;exact zd8 (x:=⟨d,g,_⟩) (ybw hy hp) hs
   refine ⟨_,_,upd (z8 T.q (z5 T.q h) e) d (den T.q (z5 T.q h) (.im T.u8 (T.bs (bytesOf s)))),z5 T.q h,_,_,z9.rfl',λ_ _ h=>h,.plain ?_,z9.le (e1:=z8 T.q (z5 T.q h) (z1v e d (.im T.u8 (T.bs (bytesOf s))))) λt=>?_,_,h,rfl,rfl,hs⟩
   ·simp only [z2w,zg,hy,den,T.bs_ok,T.bs_sz]
   ·rw [z1f];exact zb.refl _
  ·exact hs.elim
 ·rename_i y;split at hs
  ·rename_i k hy;split at hs
   ·rename_i r hr;cases hp:zk5 r with
    | false=>rw [hp] at hs;exact hs.elim
    | true =>
     rw [hp,cond_true] at hs;have hpos:=y3z hp;have hgr:z6 (z5 T.q h) k=some (za T.q r):=by rw [z1t,hr];rfl
     have hlen:zh (z5 T.q h) k []=(za T.q r).xs.length:=by simp [zh,z1j,hgr,zp]
     have hh:z5 T.q ((k,r)::z12 h k)=(k,za T.q r)::zc (z5 T.q h) k:=by simp only [z5,zz]
     have hrow:∀ k',z6 (z5 T.q ((k,r)::z12 h k)) k'=z6 (z5 T.q h) k':=λk'=>by
      rw [hh];by_cases hk:k'=k
      ·subst hk;rw [hgr];simp [z6]
      ·simp only [z6];rw [if_neg (λe=>hk e.symm),z1b hk]
     have hden:∀ v:VT T,den T.q (z5 T.q ((k,r)::z12 h k)) v=den T.q (z5 T.q h) v:=λv=>by have:=zd0 (T:=T) (bad:=λ_ _=>false) (H0:=z5 T.q h) (H1:=z5 T.q ((k,r)::z12 h k)) (λk' q _=>z1g (hrow k')) v;rw [zjy,zi4] at this;exact this.symm
     refine ⟨_,_,upd (z8 T.q (z5 T.q h) e) d (.sl k [] 0 (za T.q r).xs.length),(k,za T.q r)::zc (z5 T.q h) k,_,_,z9.rfl',λ_ _ h=>h,.plain ?_,z9.le (e1:=z8 T.q (z5 T.q ((k,r)::z12 h k)) (z1v e d (.sw k []))) λt=>?_,_,_,rfl,hh.symm ▸ rfl,hs⟩
     ·simp only [z2w,zg,hy,den,hlen,hgr];rw [if_pos hpos]
     ·rw [z1f];refine zb.upd (λt=>?_) ?_ t
      ·rw [show z8 T.q (z5 T.q ((k,r)::z12 h k)) e t=z8 T.q (z5 T.q h) e t from hden _];exact zb.refl _
      ·rw [hden];simp only [den,hlen];exact zb.refl _
   ·exact hs.elim
  ·exact hs.elim
 ·rename_i y;split at hs
  ·rename_i a b hy;refine ⟨_,_,upd (z8 T.q (z5 T.q h) e) d (.sc (.bool true)),z5 T.q h,_,_,z9.rfl',λ_ _ h=>h,.plain ?_,z9.le (e1:=z8 T.q (z5 T.q h) (z1v e d (.bk true))) λt=>?_,_,h,rfl,rfl,hs⟩
   ·simp only [z2w,zg,hy,den]
   ·rw [z1f];exact zb.refl _
  ·exact hs.elim
 ·rename_i ty y;split at hs
  ·rename_i t' cs hy;cases hb:(Nat.beq t' ty&&cs.toList.all Value.oneCell') with
   | false=>rw [hb] at hs;exact hs.elim
   | true =>
    rw [hb,cond_true] at hs;simp only [and_eq_true] at hb;have ht:=eq_of_beq_eq_true hb.1;refine ⟨_,_,upd (z8 T.q (z5 T.q h) e) d (.tu [.ag (cs.toList.map .sc),.sc (.bool true)]),z5 T.q h,_,_,z9.rfl',λ_ _ h=>h,.plain ?_,z9.le (e1:=z8 T.q (z5 T.q h) (z1v e d (.tu [.ag (cs.toList.map .sc),.bk true]))) λt=>?_,_,h,rfl,rfl,hs⟩
    ·simp only [z2w,zg,hy,den];rw [if_pos ⟨ht,hb.2⟩]
    ·rw [z1f]
     have:den T.q (z5 T.q h) (.tu [.ag (cs.toList.map .sc),.bk true]) = .tu [.ag (cs.toList.map .sc),.sc (.bool true)]:=by simp only [den,z7,zq,map_map];rfl
     rw [this];exact zb.refl _
  ·exact hs.elim
 ·exact call hs
def evR (pro:List Nat)(cx:Cx P T):List Ins->TE T.q->TH T.q->(TE T.q->TH T.q->Raw P T pro L)->Raw P T pro L
 | [],e,h,K=>K e h
 | x::l,e,h,K=>zcz e x.guard (λe=>match zar (cx.fzAt x.dst) e h with | some (e,h)=>znd pro cx x e h λe h=>evR pro cx l e h K | none=>.no) (λe=>evR pro cx l (z1v e x.dst (zk8 x.op)) h K)
theorem zfh {cx:Cx P T}{K:TE T.q->TH T.q->Raw P T pro L}{Q:L->Prop}:∀ (l:List Ins) (e:TE T.q) (h:TH T.q),Sat (evR pro cx l e h K) Q ->
  ∃ E H',z2g P pro l (z8 T.q (z5 T.q h) e) (z5 T.q h) E H'/\KP K Q E H'
 | [],e,h,hs=>⟨_,_,.nil,e,h,rfl,rfl,hs⟩
 | x::l,e,h,hs=>by
  obtain ⟨e',he,h1 | h1⟩:=zbs (H0:=z5 T.q h) hs
  ·have h12:z40 P pro x (z8 T.q (z5 T.q h) e') (z5 T.q h) (KP (λe h=>evR pro cx l e h K) Q):=by
    have:=h1.2;split at this
    ·rename_i e5 h5 hf;obtain ⟨q1,q2⟩:=z7b (P:=P) (pro:=pro) _ hf;exact z40.pre q1 q2 (zqj this)
    ·exact this.elim
   obtain ⟨e0,h0,e1,h1',e2,h2,g1,gb,g2,g3,e4,h4,rfl,rfl,hK⟩:=h12;obtain ⟨E,H',r,k⟩:=zfh l e4 h4 hK;rw [he] at g1 gb;refine ⟨E,H',.ghost g1 (.step ?_ g2 (.ghost g3 r)),k⟩;have hw:=h1.1;cases hg:x.guard with
   | none=>rfl
   | some sw =>
    obtain ⟨s,want⟩:=sw;rw [hg] at hw;simp only [zx] at hw ⊢;split at hw
    ·rename_i b hb;rw [gb s b hb];exact hw
    ·cases hw
    ·cases hw
  ·obtain ⟨E,H',r,k⟩:=zfh l _ h h1.2;rw [z1f,he,z9d] at r;exact ⟨E,H',.skip h1.1 r,k⟩
def zqk (pro:List Nat)(cx:Cx P T)(x:Ins)(e:TE T.q)(h:TH T.q)(K:TE T.q->TH T.q->Raw P T pro L)(KX:Value->TE T.q->TH T.q->Raw P T pro L):Raw P T pro L :=
 match x.op with
 | .call f l=>znr P pro cx.cs e h x.dst f l K KX
 | _=>znd pro cx x e h K
theorem zmy {cx:Cx P T}{x:Ins}{e:TE T.q}{h:TH T.q}{K:TE T.q->TH T.q->Raw P T pro L}{KX:Value->TE T.q->TH T.q->Raw P T pro L}{Q:L->Prop}(hs:Sat (zqk pro cx x e h K KX) Q) :
  z40 P pro x (z8 T.q (z5 T.q h) e) (z5 T.q h) (KP K Q) \/
  (∃ e0 h0 u ex hx,z9 P pro (z8 T.q (z5 T.q h) e) (z5 T.q h) e0 h0/\(∀ t b,z8 T.q (z5 T.q h) e t=Bl b->e0 t=Bl b)/\z7j P e0 h0 x.op u (z5 T.q hx)/\(∀ t,zb (ptE e0 t) (z8 T.q (z5 T.q hx) ex t))/\Sat (KX u ex hx) Q):=by
 obtain ⟨d,g,op⟩:=x;cases op with
 | call f l =>
  rcases zxv hs with ⟨e0,h0,e1,e2,h2,g1,g2,g3,g4,gb⟩ | hp
  ·exact .inl ⟨e0,h0,e1,_,_,_,g1,gb,g2,g3,e2,h2,rfl,rfl,g4⟩
  ·exact .inr hp
 | _=>exact .inl (zqj (cx:=cx) hs)
def zw0 (pro:List Nat)(cx:Cx P T):List Ins->TE T.q->TH T.q->(TE T.q->TH T.q->Raw P T pro L)->(Value->TE T.q->TH T.q->Raw P T pro L)->Raw P T pro L
 | [],e,h,K,_=>K e h
 | x::l,e,h,K,KX=>zcz e x.guard (λe=>match zar (cx.fzAt x.dst) e h with | some (e,h)=>zqk pro cx x e h (λe h=>zw0 pro cx l e h K KX) KX | none=>.no) (λe=>zw0 pro cx l (z1v e x.dst (zk8 x.op)) h K KX)
theorem za6 {E e0:Env}{g:Option (Nat×Bool)}(hw:zx E g=some true)(gb:∀ t b,E t=Bl b->e0 t=Bl b):zx e0 g=some true:=by
 cases g with
 | none=>rfl
 | some sw =>
  obtain ⟨s,want⟩:=sw;simp only [zx] at hw ⊢;split at hw
  ·rename_i b hb;rw [gb s b hb];exact hw
  ·cases hw
  ·cases hw
theorem zkq {cx:Cx P T}{K:TE T.q->TH T.q->Raw P T pro L}{KX:Value->TE T.q->TH T.q->Raw P T pro L}{Q:L->Prop}:∀ (l:List Ins) (e:TE T.q) (h:TH T.q),Sat (zw0 pro cx l e h K KX) Q ->
  (∃ E H',z2g P pro l (z8 T.q (z5 T.q h) e) (z5 T.q h) E H'/\KP K Q E H')\/(∃ u E ex hx,z9f P pro u E (z5 T.q hx) l (z8 T.q (z5 T.q h) e) (z5 T.q h)/\(∀ t,zb (E t) (z8 T.q (z5 T.q hx) ex t))/\Sat (KX u ex hx) Q)
 | [],e,h,hs=>.inl ⟨_,_,.nil,e,h,rfl,rfl,hs⟩
 | x::l,e,h,hs=>by
  obtain ⟨e',he,h1 | h1⟩:=zbs (H0:=z5 T.q h) hs
  ·have this:=h1.2;split at this
   ·rename_i e5 h5 hf;obtain ⟨q1,q2⟩:=z7b (P:=P) (pro:=pro) _ hf;rcases zmy this with h12 | ⟨e0,h0,u,ex,hx,g1,gb,g2,hle,hK⟩
    ·have h12:=z40.pre q1 q2 h12;obtain ⟨e0,h0,e1,h1',e2,h2,g1,gb,g2,g3,e4,h4,rfl,rfl,hK⟩:=h12;rw [he] at g1 gb;have hw:=za6 h1.1 gb;rcases zkq l e4 h4 hK with ⟨E,H',r,k⟩ | ⟨u,E,ex,hx,r,hle,k⟩
     ·exact .inl ⟨E,H',.ghost g1 (.step hw g2 (.ghost g3 r)),k⟩
     ·exact .inr ⟨u,E,ex,hx,.ghost g1 (.step hw g2 (.ghost g3 r)),hle,k⟩
    ·rw [he] at q1 q2;exact .inr ⟨u,_,ex,hx,.ghost (q1.trans g1) (.here (za6 h1.1 λt b hb=>gb t b (q2 t b hb)) g2 rfl),hle,hK⟩
   ·exact this.elim
  ·rcases zkq l _ h h1.2 with ⟨E,H',r,k⟩ | ⟨u,E,ex,hx,r,hle,k⟩
   ·rw [z1f,he,z9d] at r;exact .inl ⟨E,H',.skip h1.1 r,k⟩
   ·rw [z1f,he,z9d] at r;exact .inr ⟨u,E,ex,hx,.skip h1.1 r,hle,k⟩
end
theorem WD.mono {P:Program}{K K':Env->H->Prop}{h0:H}(hk:∀ e h,K e h->K' e h):∀ (pre:List (Ins×List Nat)) (i:Nat) (e:Env) (acc:List (Nat×H)),WD P pre i e acc h0 K->WD P pre i e acc h0 K'
 | [],_,_,_,h=>⟨h.1,hk _ _ h.2⟩
 | _::pre,_,_,_,⟨av,rows,h1,h2⟩=>⟨av,rows,h1,WD.mono hk pre _ _ _ h2⟩
section
variable {P:Program}{T:TT}{pro:List Nat}{L:Type}
mutual
def z8o (ok:Nat->Bool):VT T->Bool
 | .sw k _=>ok k
 | .ag cs=>za5 ok cs
 | .tu cs=>za5 ok cs
 | .fn _ cs=>za5 ok cs
 | .un | .sc _ | .ik _ _ | .bk _ | .zs | .im _ _ | .ip _ _ _ | .sl _ _ _ _ | .pt _ _ _ _ | .ow _ _ _ | .oo _ _ _ _ _ | .pp _=>true
def za5 (ok:Nat->Bool):List (VT T)->Bool
 | []=>true
 | x::l=>z8o ok x&&za5 ok l
end
mutual
theorem zan {H0 H1:H}{ok:Nat->Bool}(hk:∀ k,ok k=true->z6 H1 k=z6 H0 k):∀ (v:VT T),z8o ok v=true->den T.q H1 v=den T.q H0 v
 | .sw k p,h=>by simp only [z8o] at h;simp only [den,z1g (hk k h)]
 | .ag cs,h=>by simp only [z8o] at h;simp only [den,z94 hk cs h]
 | .tu cs,h=>by simp only [z8o] at h;simp only [den,z94 hk cs h]
 | .fn _ cs,h=>by simp only [z8o] at h;simp only [den,z94 hk cs h]
 | .un,_ | .sc _,_ | .ik _ _,_ | .bk _,_ | .zs,_ | .im _ _,_ | .ip _ _ _,_ | .sl _ _ _ _,_ | .pt _ _ _ _,_ | .ow _ _ _,_ | .oo _ _ _ _ _,_ | .pp _,_=>rfl
theorem z94 {H0 H1:H}{ok:Nat->Bool}(hk:∀ k,ok k=true->z6 H1 k=z6 H0 k):∀ (v:List (VT T)),za5 ok v=true->z7 T.q H1 v=z7 T.q H0 v
 | [],_=>rfl
 | x::l,h=>by simp only [za5,and_eq_true] at h;simp only [z7,zan hk x h.1,z94 hk l h.2]
end
def zvk (ok:Nat->Bool):TE T.q->Bool
 | []=>true
 | (_,v)::l=>z8o ok v&&zvk ok l
theorem y57 {H0 H1:H}{ok:Nat->Bool}(hk:∀ k,ok k=true->z6 H1 k=z6 H0 k):∀ (e:TE T.q),zvk ok e=true->z8 T.q H1 e=z8 T.q H0 e:=by
 intro e he;funext t;unfold z8;refine zan hk _ ?_
 induction e with
 | nil=>rfl
 | cons x l ih =>
  obtain ⟨k,v⟩:=x;simp only [zvk,and_eq_true] at he;simp only [z1c];cases Nat.beq t k
  ·exact ih he.2
  ·exact he.1
def hxT (D:List Nat):List (Nat×TH T.q)->TH T.q
 | []=>[]
 | (i,r)::l=>bif D.contains i then r++hxT D l else hxT D l
def z1m:List (Nat×TH T.q)->TH T.q
 | []=>[]
 | (_,r)::l=>r++z1m l
def z7k (T:TT)(acc:List (Nat×TH T.q)):List (Nat×H):=acc.map λx=>(x.1,z5 T.q x.2)
theorem zub (D:List Nat):∀ (acc:List (Nat×TH T.q)),hx D (z7k T acc)=z5 T.q (hxT D acc)
 | []=>rfl
 | (i,r)::l=>by have ih:=zub D l;simp only [z7k,map_cons,hx,hxT];cases hc:D.contains i with | true=>simp only [if_true,cond_true,z2i];rw [<- ih];rfl | false=>simp only [false_eq_true,if_false,cond_false];rw [<- ih];rfl
theorem zjl:∀ (acc:List (Nat×TH T.q)),z3v (z7k T acc)=z5 T.q (z1m acc)
 | []=>rfl
 | (i,r)::l=>by have ih:=zjl l;simp only [z7k,map_cons,z3v,z1m,z2i];rw [<- ih];rfl
theorem z8u:∀ (acc:List (Nat×TH T.q)) (i:Nat) (r:TH T.q),z1m (acc++[(i,r)])=z1m acc++r
 | [],_,_=>by simp [z1m]
 | (_,r')::l,i,r=>by simp [z1m,z8u l]
theorem zgv (D:List Nat):∀ (acc:List (Nat×TH T.q)) (z:Nat×TR T.El),z∈hxT D acc->z∈z1m acc
 | (i,r)::l,z,hz=>by
  simp only [hxT] at hz;simp only [z1m,mem_append];cases hc:D.contains i with
  | true =>rw [hc,cond_true,mem_append] at hz;exact hz.imp id (zgv D l z)
  | false =>rw [hc,cond_false] at hz;exact .inr (zgv D l z hz)
theorem zhp:∀ (h:TH T.q) (z:Nat×Row),z∈z5 T.q h↔∃ k r,(k,r)∈h/\z=(k,za T.q r)
 | [],z=>by simp [z5]
 | (k,r)::h,z=>by
  simp only [z5,mem_cons,zhp h z];constructor
  ·rintro (rfl | ⟨k',r',h1,rfl⟩)
   ·exact ⟨k,r,.inl rfl,rfl⟩
   ·exact ⟨k',r',.inr h1,rfl⟩
  ·rintro ⟨k',r',h1 | h1,rfl⟩
   ·cases h1;exact .inl rfl
   ·exact .inr ⟨k',r',h1,rfl⟩
theorem zpx {hd ha:TH T.q}(hn:zu (ha.map Prod.fst)=true)(hs:∀ z∈hd,z∈ha)(k:Nat)(hk:(hd.map Prod.fst).contains k=true):z6 (z5 T.q ha) k=z6 (z5 T.q hd) k:=by
 have hk':k∈(z5 T.q hd).map Prod.fst:=by rw [z1p];simpa using hk
 obtain ⟨r,hr⟩:=z8t _ _ hk';rw [hr];have hm:=z6t hr;obtain ⟨k2,r2,h1,h2⟩:=(zhp hd _).1 hm;cases h2;exact z6r (by rw [z1p];exact z11 _ hn) ((zhp ha _).2 ⟨k,r2,hs _ h1,rfl⟩)
def zfK (T:TT)(ks:List Kd)(c:Nat):Option Nat:=match ks[c]? with | some (.im t)=>some (T.sz t) | _=>none
theorem zvc {f:Nat->Option Nat}:∀ (l:List AV) (c:Nat),(∀ j,f (c+j)=none)->zfA f c l=l
 | [],_,_=>rfl
 | a::l,c,h=>by
  have ih:=zvc (f:=f) l (c+1) λj=>by rw [show c+1+j=c+(j+1) by omega];exact h _
  have h0:=h 0;rw [Nat.add_zero] at h0;cases a<;>simp only [zfA,ih,h0]
theorem zm8 {f:Nat->Option Nat}:∀ (ks:List Kd) (l:List (VT T)) (c:Nat),(∀ j,f (c+j)=zfK T ks j)->z7 T.q [] (z7p ks l)=zfA f c (z7 T.q [] l)
 | [],l,c,h=>by rw [zvc _ _ λj=>by rw [h j];simp [zfK]];cases l<;>rfl
 | k::ks,[],c,h=>by cases k<;>rfl
 | k::ks,v::l,c,h=>by
  have ih:=zm8 (f:=f) ks l (c+1) λj=>by rw [show c+1+j=c+(j+1) by omega,h (j+1)];simp [zfK]
  have h0:=h 0;rw [Nat.add_zero] at h0;cases k with
  | im t =>
   have h0:f c=some (T.sz t):=by rw [h0];simp [zfK]
   cases v<;>first | (rename_i q;cases q<;>simp only [z7p,z7,den,z2j,zfA,ih,h0,map_nil];done) | simp only [z7p,z7,den,zfA,ih,h0,map_nil]
  | _ =>
   have h0:f c=none:=by rw [h0];simp [zfK]
   cases v<;>first | (rename_i q;cases q<;>simp only [z7p,z7,den,z2j,zfA,ih,h0];done) | simp only [z7p,z7,den,zfA,ih,h0]
def mkD (ty:Option (Bool×Nat))(e:TE T.q)(d:Nat)(b:IB):Rs (VT T×TR T.El) :=
 bif (z38 b).all (λo=>z8o (λ_=>false) (evT e o)) then
 match b with
 | .box s x =>
  match z6x (evT e x) with
  | none=>.no
  | some cs=>bif Nat.beq cs.length s then
   match zdg (T:=T) [] [d] [cs] with
   | some (xs,_,[])=>.ok (.pt d [] 0 0,.lit s xs)
   | _=>.no
   else .no
 | .bsl s len zero parts =>
  match zdw (replicate len (z4c zero)).flatten (parts.map λ(i,x)=>(i * s,s,evT e x)) with
  | none=>.no
  | some cs =>
   match zdg (T:=T) [] [d] (z8b s len cs) with
   | some (xs,_,[])=>.ok (.sw d [],match ty with
    | some (m,t)=>bif Nat.beq (T.sz t) s then (match unL m t xs with | some ys=>.typ m t ys | none=>.lit s xs) else .lit s xs
    | none=>.lit s xs)
   | _=>.no
 | .mks s bytes zero l =>
  match z8v (evT e l),ty with
  | some n,some (m,t)=>bif Nat.beq (T.sz t) s then
   match T.un m t (z7p (T.ks m t) (z4c zero)) with
   | some z=>.need (0<=n/\n * (bytes:Int)<=140737488355328) (.ok (.sw d [],.typ m t (replicate n.toNat z)))
   | none=>.no
   else .no
  | _,_=>.no
 | _=>.no
 else .no
theorem yjt {ty:Option (Bool×Nat)}{e:TE T.q}{d:Nat}{b:IB}{v:VT T}{r:TR T.El}(H0:H)(hg:(mkD ty e d b).gives (v,r)) :
  (∃ zf rows0,z3e (ev (z8 T.q H0 e)) [] d b=some (den T.q [(d,za T.q r)] v,rows0)/\[(d,za T.q r)]=zfH zf rows0)/\(v = .pt d [] 0 0\/v = .sw d []):=by
 have plain:∀ {b:IB} {v:VT T} {r:TR T.El},z3e (ev (z8 T.q H0 e)) [] d b=some (den T.q [(d,za T.q r)] v,[(d,za T.q r)])->∃ zf rows0,z3e (ev (z8 T.q H0 e)) [] d b=some (den T.q [(d,za T.q r)] v,rows0)/\[(d,za T.q r)]=zfH zf rows0:=λh=>⟨λ_=>none,_,h,(zqu _).symm⟩
 unfold mkD at hg;obtain ⟨hall,hg⟩:=zn hg;have hden:∀ o∈z38 b,den T.q H0 (evT e o)=den T.q [] (evT e o):=λo ho=>zan (ok:=λ_=>false) (λk h=>(by cases h)) _ (all_eq_true.1 hall o ho);have start:∀ k,[d].contains k=false->z6 (z5 T.q ([]:TH T.q)) k=z6 ([]:H) k:=λ_ _=>rfl;cases b with
 | box s x =>
  dsimp only at hg;split at hg
  ·exact hg.elim
  ·rename_i cs hcs;obtain ⟨hl,hg⟩:=zn hg;split at hg
   ·rename_i xs g ha;cases hg;obtain ⟨q1,q2,q3⟩:=zak (H0:=[]) _ _ _ _ _ _ start ha;have hc:=z8p (h:=[]) hcs;refine ⟨plain ?_,.inl rfl⟩;simp only [z3e,zg,hden x (by simp [z38]),hc,z1w];rw [if_pos (eq_of_beq_eq_true hl)];simp only [map_cons,map_nil,z5] at q1;simp only [zc,q1];simp [den,za]
   ·exact hg.elim
 | bsl s len zero parts =>
  dsimp only at hg;split at hg
  ·exact hg.elim
  ·rename_i cs hcs;split at hg
   ·rename_i xs g ha;obtain ⟨q1,q2,q3⟩:=zak (H0:=[]) _ _ _ _ _ _ start ha;have hf:=zdx (h:=[]) _ _ _ hcs;rw [map_map] at hf;have hxl:xs.length=len:=by rw [q3,zcc]
    have key:∀ r:TR T.El,za T.q r=⟨s,xs.map (z7 T.q [])⟩->z3e (ev (z8 T.q H0 e)) [] d (.bsl s len zero parts)=some (den T.q [(d,za T.q r)] (.sw d []),[(d,za T.q r)]):=by
     intro r hr
     have e0:z7 T.q [] (replicate len (z4c zero)).flatten=(replicate len (zero.map cval)).flatten:=by rw [zq,List.map_flatten,List.map_replicate,<- zq,z5r]
     have e1:(parts.map λ(i,x)=>(i * s,s,ev (z8 T.q H0 e) x))=parts.map ((λ(o,n,x)=>(o,n,den T.q [] x)) ∘ λ(i,x)=>(i * s,s,evT e x)) :=
      map_congr_left λ⟨i,x⟩ hix=>by simp only [Function.comp,zg,hden x (by simp only [z38];exact mem_map.2 ⟨(i,x),hix,rfl⟩)]
     simp only [z3e];rw [e1,<- e0,hf];simp only;rw [zdo] at q1;simp only [z5] at q1;simp only [zc,q1,hr];simp [den,zh,z1j,z6,zp,hxl]
    cases hg;refine ⟨plain (key _ ?_),.inr rfl⟩;split
    ·rename_i m t;cases hb:Nat.beq (T.sz t) s with
     | false=>rfl
     | true =>
      simp only [cond_true];split
      ·rename_i ys hy;simp only [za,zkf _ _ hy,eq_of_beq_eq_true hb]
      ·rfl
    ·rfl
   ·exact hg.elim
 | mks s bytes zero l =>
  dsimp only at hg;split at hg
  ·rename_i n m t hn _;obtain ⟨hs,hg⟩:=zn hg;split at hg
   ·rename_i z hz;obtain ⟨hc,hg⟩:=hg;cases hg;obtain ⟨kk,hi⟩:=z71 (h:=H0) hn;refine ⟨⟨zfK T (T.ks m t),[(d,⟨s,replicate n.toNat (zero.map cval)⟩)],?_,?_⟩,.inr rfl⟩
    ·simp only [z3e,zg,hi];rw [if_pos hc];simp [den,zh,z1j,z6,zp,za,eq_of_beq_eq_true hs,zc]
    ·have hz2:T.ca m t z=zfA (zfK T (T.ks m t)) 0 (zero.map cval):=by rw [<- T.un_ok _ _ _ _ hz,zm8 (f:=zfK T (T.ks m t)) _ _ 0 (λj=>by rw [Nat.zero_add]),z5r]
     simp only [zfH,za,List.map_replicate,hz2,eq_of_beq_eq_true hs]
   ·exact hg.elim
  ·exact hg.elim
 | _=>exact hg.elim
def zn6 (P:Program)(cs:List (Con P T))(e:TE T.q)(hd:TH T.q)(d:Nat)(op:IK)(K:VT T->TH T.q->Raw P T pro L):Raw P T pro L :=
 match z6w P e op with
 | none=>.no
 | some (f,args) =>
 match zdz f args cs with
 | some (C,[])=>bif (C.strong||!z3g args)&&za5 (λk=>(hd.map Prod.fst).contains k) args then
  Raw.ofRs (λargs'=>.call C args' [] λy =>
   let bm:=znn [] d C.N
   bif zu (bm.map Prod.fst)&&zu (bm.map Prod.snd)&&(!z3g args||(zc0 (C.encR y)&&zb0 (C.encO y))) then
    match z9e (C.encO y) bm,z3u bm (C.encR y) with
    | some (hb,_),some v=>K v hb
    | _,_=>.no
   else .no) (zcq hd [] C.A args)
  else .no
 | _=>.no
def zny (cx:Cx P T)(x:Ins)(e:TE T.q)(hd:TH T.q)(K:VT T->TH T.q->Raw P T pro L):Raw P T pro L :=
 match x.op with
 | .rd b=>bif (z38 b).all (λo=>z8o (λk=>(hd.map Prod.fst).contains k) (evT e o)) then Raw.ofRs (λv=>bif z8o (λk=>(hd.map Prod.fst).contains k) v then K v [] else .no) (rdT e hd b) else .no
 | .mk b=>Raw.ofRs (λ(v,r)=>K v [(x.dst,r)]) (mkD (cx.at x.dst) e x.dst b)
 | .call f l=>zn6 P cx.cs e hd x.dst (.call f l) K
 | .callv f l=>zn6 P cx.cs e hd x.dst (.callv f l) K
 | _=>.no
def zwu (ha:TH T.q)(rows:TH T.q)(e:TE T.q):Bool:=(rows.map Prod.fst).all (λk=>!(ha.map Prod.fst).contains k)&&zvk (λk=>!(rows.map Prod.fst).contains k) e
def evD (cx:Cx P T):List (Ins×List Nat)->Nat->TE T.q->List (Nat×TH T.q)->TH T.q->(TE T.q->TH T.q->Raw P T pro L)->Raw P T pro L
 | [],_,e,acc,h0,K=>bif zu ((z1m acc++h0).map Prod.fst) then K e (z1m acc++h0) else .no
 | x::l,i,e,acc,h0,K=>bif zu ((z1m acc++h0).map Prod.fst) then
  zcz e x.1.guard (λe=>zny cx x.1 e (hxT x.2 acc++h0) λv rows=>bif zwu (z1m acc++h0) rows e then evD cx l (i+1) (z1v e x.1.dst v) (acc++[(i,rows)]) h0 K else .no)
   (λe=>evD cx l (i+1) (z1v e x.1.dst (zk8 x.1.op)) (acc++[(i,[])]) h0 K)
  else .no
theorem zxz {cx:Cx P T}{x:Ins}{D:List Nat}{e:TE T.q}{hd ha:TH T.q}{K:VT T->TH T.q->Raw P T pro L}{Q:L->Prop}(hw:zx (z8 T.q (z5 T.q ha) e) x.guard=some true)
  (hn:zu (ha.map Prod.fst)=true) (hsub:∀ z∈hd,z∈ha) (hs:Sat (zny cx x e hd K) Q) :
  ∃ v rows,Sat (K v rows) Q/\∀ h1:TH T.q,(∀ k,(hd.map Prod.fst).contains k=true->z6 (z5 T.q h1) k=z6 (z5 T.q hd) k)->(∀ k,(rows.map Prod.fst).contains k=true->z6 (z5 T.q h1) k=z6 (z5 T.q rows) k) ->
   DOk P (z8 T.q (z5 T.q ha) e) (z5 T.q hd) ⟨x,D,den T.q (z5 T.q h1) v,z5 T.q rows⟩:=by
 obtain ⟨d,g,op⟩:=x;have hpart:=zpx hn hsub
 have opd:∀ o,z8o (λk=>(hd.map Prod.fst).contains k) (evT e o)=true->ev (z8 T.q (z5 T.q ha) e) o=ev (z8 T.q (z5 T.q hd) e) o:=λo ho=>by rw [zg,zg,zan hpart _ ho]
 have call:∀ {op:IK},(∀ f args,z6w P e op=some (f,args)->za5 (λk=>(hd.map Prod.fst).contains k) args=true->z4l P (z8 T.q (z5 T.q ha) e) op f (z7 T.q (z5 T.q ha) args))->Sat (zn6 P cx.cs e hd d op K) Q ->
   ∃ v rows,Sat (K v rows) Q/\∀ h1:TH T.q,(∀ k,(hd.map Prod.fst).contains k=true->z6 (z5 T.q h1) k=z6 (z5 T.q hd) k)->(∀ k,(rows.map Prod.fst).contains k=true->z6 (z5 T.q h1) k=z6 (z5 T.q rows) k) ->
    DOk P (z8 T.q (z5 T.q ha) e) (z5 T.q hd) ⟨⟨d,g,op⟩,D,den T.q (z5 T.q h1) v,z5 T.q rows⟩:=by
  intro op hca hs;unfold zn6 at hs;split at hs
  ·exact hs.elim
  ·rename_i f args hargs;split at hs
   ·rename_i C hC;cases hb:((C.strong||!z3g args)&&za5 (λk=>(hd.map Prod.fst).contains k) args) with
    | false=>rw [hb] at hs;exact hs.elim
    | true =>
     rw [hb,cond_true] at hs;simp only [and_eq_true] at hb;obtain ⟨args',hcv,x,y,q1,q2,q3,q4⟩:=Sat.ofRs _ hs;dsimp only at q4;generalize hbm:znn [] d C.N=bm at q4;cases hb2:(zu (bm.map Prod.fst)&&zu (bm.map Prod.snd)&&(!z3g args||(zc0 (C.encR y)&&zb0 (C.encO y)))) with
     | false=>rw [hb2] at q4;exact q4.elim
     | true =>
      rw [hb2,cond_true] at q4;simp only [and_eq_true] at hb2;obtain ⟨⟨b1,b2⟩,b5⟩:=hb2;split at q4
      ·rename_i hb' left v hsb hbk;refine ⟨v,hb',q4,λh1 hp1 hp2=>?_⟩;obtain ⟨l,r1,r2⟩:=z79 (H0:=z5 T.q hd) (Hn:=z5 T.q []) (rest:=hd) (m:=[]) (bor:=z3g args) (λ_ _=>rfl) C.A args args' hcv (λh=>h);have hCf:=zap cx.cs hC;have hG:=C.ok x y q3;rw [q1,q2,hCf] at hG
       have hok:z1q P f l [] (den T.q (z5 T.q (C.encO y)) (C.encR y)) (z5 T.q (C.encO y))\/z3g args=false/\CallG P f l [] (den T.q (z5 T.q (C.encO y)) (C.encR y)) (z5 T.q (C.encO y)):=by
        cases hst:C.strong with
        | true=>exact .inl (z1q.le r2 (hG.1 hst))
        | false =>rw [hst] at hb;exact .inr ⟨by simpa using hb.1,CallG.le r2 hG.2⟩
       obtain ⟨t1,t2,t3⟩:=z66 bm (C.encO y) hb' left hsb;have hkeys:=z90 _ _ _ _ t1;have hde:z7 T.q (z5 T.q ha) args=z7 T.q (z5 T.q hd) args:=z94 hpart _ hb.2;refine .call hw (hca f args hargs hb.2) (by rw [hde];exact r1) hok t1 (z11 _ b1) (zal (λk n q hkn=>?_) _ _ hbk) (λhbor=>?_)
       ·have hm:=z7t bm hkn;have hg:=t3 n k b1 b2 hm;have hn':n∈hb'.map Prod.fst:=by rw [<- z1p,hkeys];exact mem_map.2 ⟨_,hm,rfl⟩
        have:=hp2 n (by simpa using hn');unfold zh z1j;rw [this,hg]
       ·rw [hbor] at b5;simp only [Bool.not_true,Bool.false_or,and_eq_true] at b5;exact ⟨zel _ b5.1,zbz _ b5.2⟩
      ·exact q4.elim
   ·exact hs.elim
 unfold zny at hs;dsimp only at hs;split at hs
 ·rename_i b;cases hb:(z38 b).all (λo=>z8o (λk=>(hd.map Prod.fst).contains k) (evT e o)) with
  | false=>rw [hb] at hs;exact hs.elim
  | true =>
   rw [hb,cond_true] at hs;obtain ⟨v,hv,hs⟩:=Sat.ofRs _ hs;cases hsv:z8o (λk=>(hd.map Prod.fst).contains k) v with
   | false=>rw [hsv] at hs;exact hs.elim
   | true =>rw [hsv,cond_true] at hs;refine ⟨v,[],hs,λh1 hp1 hp2=>?_⟩;obtain ⟨av,r1,r2⟩:=zq2 hv;refine .rd (av:=av) hw rfl ?_ (by rw [zan hp1 v hsv];exact r2) rfl;rw [<- r1];exact z57 b λo ho=>opd o (all_eq_true.1 hb o ho)
 ·rename_i b;obtain ⟨⟨v,r⟩,hv,hs⟩:=Sat.ofRs _ hs;obtain ⟨m1,m2⟩:=yjt (z5 T.q ha) hv;obtain ⟨zf,rows0,m1,m3⟩:=m1;refine ⟨v,[(d,r)],hs,λh1 hp1 hp2=>.mk zf hw rfl (rows0:=rows0) ?_ m3⟩;simp only [m1];have hr:=hp2 d (by simp);rcases m2 with rfl | rfl
  ·rfl
  ·simp only [den];congr 2;rw [z1g hr];rfl
 ·rename_i f l;refine call (λf' args ha' hsw=>?_) hs;cases ha'
  have:z7 T.q (z5 T.q ha) (l.map (evT e))=l.map (ev (z8 T.q (z5 T.q ha) e)):=by rw [zq,map_map];exact map_congr_left λx _=>(zg x).symm
  rw [this];exact .call
 ·rename_i f l;refine call (λf' args ha' hsw=>?_) hs;simp only [z6w] at ha';split at ha'
  ·rename_i f2 caps hx;cases hf:zcf P f2 with
   | false=>rw [hf] at ha';cases ha'
   | true =>
    rw [hf] at ha';cases ha'
    have:z7 T.q (z5 T.q ha) (l.map (evT e)++caps)=l.map (ev (z8 T.q (z5 T.q ha) e))++z7 T.q (z5 T.q ha) caps:=by rw [zq,zq,map_append,map_map];congr 1;exact map_congr_left λx _=>(zg x).symm
    rw [this];exact .callv (by rw [zg,hx];rfl) hf
  ·cases ha'
 ·exact hs.elim
theorem zwc {a b c:H}{k:Nat}(hk:(b.map Prod.fst).contains k=false):z6 (a++b++c) k=z6 (a++c) k:=by have hb:z6 b k=none:=z8s b k (by intro hm;have:(b.map Prod.fst).contains k=true:=(by simpa using hm);rw [this] at hk;cases hk);rw [z3b,z3b,z3b,hb];cases z6 a k<;>rfl
theorem zj2 {cx:Cx P T}{K:TE T.q->TH T.q->Raw P T pro L}{Q:L->Prop}{h0:TH T.q}:∀ (l:List (Ins×List Nat)) (i:Nat) (e:TE T.q) (acc:List (Nat×TH T.q)),Sat (evD cx l i e acc h0 K) Q ->
  WD P l i (z8 T.q (z5 T.q (z1m acc++h0)) e) (z7k T acc) (z5 T.q h0) (KP K Q)
 | [],i,e,acc,hs=>by
  unfold evD at hs;cases hn:zu ((z1m acc++h0).map Prod.fst) with
  | false=>rw [hn] at hs;exact hs.elim
  | true =>
   rw [hn,cond_true] at hs;have e1:z3v (z7k T acc)++z5 T.q h0=z5 T.q (z1m acc++h0):=by rw [zjl,z2i]
   refine ⟨by rw [e1,z1p];exact hn,?_⟩;rw [e1];exact ⟨_,_,rfl,rfl,hs⟩
 | x::l,i,e,acc,hs=>by
  unfold evD at hs;cases hn:zu ((z1m acc++h0).map Prod.fst) with
  | false=>rw [hn] at hs;exact hs.elim
  | true =>
   rw [hn,cond_true] at hs;obtain ⟨e',he,h1 | h1⟩:=zbs (H0:=z5 T.q (z1m acc++h0)) hs
   ·obtain ⟨v,rows,hK,hd⟩:=zxz (D:=x.2) (ha:=z1m acc++h0) (by rw [he];exact h1.1) hn (λz hz=>by rw [mem_append] at hz ⊢;exact hz.imp (zgv x.2 acc z) id) h1.2
    cases hno:zwu (z1m acc++h0) rows e' with
    | false=>rw [hno] at hK;exact hK.elim
    | true =>
     rw [hno,cond_true] at hK;simp only [zwu,and_eq_true] at hno;have ih:=zj2 l (i+1) _ _ hK
     have hrow:∀ k,(rows.map Prod.fst).contains k=false->z6 (z5 T.q (z1m (acc++[(i,rows)])++h0)) k=z6 (z5 T.q (z1m acc++h0)) k:=λk hk=>by rw [z8u,z2i,z2i,z2i];exact zwc (by rw [z1p];exact hk)
     have hnew:∀ k,(rows.map Prod.fst).contains k=true->((z1m acc++h0).map Prod.fst).contains k=false:=λk hk=>by have:=all_eq_true.1 hno.1 k (by simpa using hk);simpa using this
     have hd':=hd (z1m (acc++[(i,rows)])++h0) (λk hk=>by
      have hsub:∀ z∈hxT x.2 acc++h0,z∈z1m acc++h0:=λz hz=>by rw [mem_append] at hz ⊢;exact hz.imp (zgv x.2 acc z) id
      have hk2:((z1m acc++h0).map Prod.fst).contains k=true:=by simp only [List.contains_eq_mem,decide_eq_true_eq] at hk ⊢;obtain ⟨z,hz,rfl⟩:=mem_map.1 hk;exact mem_map.2 ⟨z,hsub z hz,rfl⟩
      rw [hrow k (by
       cases hc:(rows.map Prod.fst).contains k with
       | false=>rfl
       | true=>rw [hnew k hc] at hk2;cases hk2)]
      exact zpx hn hsub k hk) (λk hk=>by
      rw [z8u,z2i,z2i]
      have ha:z6 (z5 T.q (z1m acc)) k=none:=z8s _ _ (by
       rw [z1p];intro hm;have h3:=hnew k hk
       have h4:((z1m acc++h0).map Prod.fst).contains k=true:=by simp only [map_append,List.contains_eq_mem,mem_append,decide_eq_true_eq];exact .inl hm
       rw [h3] at h4;cases h4)
      have hk':k∈(z5 T.q rows).map Prod.fst:=by rw [z1p];simpa using hk
      obtain ⟨r,hr⟩:=z8t _ _ hk';rw [List.append_assoc,z3b,ha];simp only;rw [z3b,hr])
     rw [<- he];refine ⟨den T.q (z5 T.q (z1m (acc++[(i,rows)])++h0)) v,z5 T.q rows,by rw [zub,<- z2i];exact hd',?_⟩
     ·rw [z1f,y57 (H0:=z5 T.q (z1m acc++h0)) (λk hk=>hrow k (by simpa using hk)) e' hno.2] at ih;have:z7k T (acc++[(i,rows)])=z7k T acc++[(i,z5 T.q rows)]:=by simp [z7k]
      rw [this] at ih;exact ih
   ·have ih:=zj2 l (i+1) _ _ h1.2;have hh:z1m (acc++[(i,([]:TH T.q))])=z1m acc:=by rw [z8u,List.append_nil]
    rw [z1f,hh,he,z9d] at ih;refine ⟨z4k x.1.op,[],.skip h1.1 rfl rfl,?_⟩;have:z7k T (acc++[(i,([]:TH T.q))])=z7k T acc++[(i,[])]:=by simp [z7k,z5]
    rw [this] at ih;exact ih
end
def zhn (e:Env)(h:H)(x:Ins):Prop :=
 (zx e x.guard=some false/\e x.dst=z4k x.op)\/(zx e x.guard=some true/\∀ b,x.op = .rd b->∃ hp av,(∀ z∈hp,z∈h)/\zi (ev e) (res hp) b=some av/\zb av (e x.dst))
def zqf:List Ins->Bool
 | []=>true
 | x::l=>!(z3r x).contains x.dst&&l.all (λy=>!(z3r x).contains y.dst&&!(Nat.beq y.dst x.dst))&&zqf l
theorem zhn.next {e:Env}{h h':H}{x:Ins}{d:Nat}{av:AV}(h1:d∉z3r x)(h2:d≠x.dst)(hs:∀ z∈h,z∈h')(hf:zhn e h x):zhn (upd e d av) h' x:=by
 have hw:zx (upd e d av) x.guard=zx e x.guard:=zez λs hs=>by unfold upd;rw [if_neg (by rintro rfl;exact h1 hs)]
 have hd:upd e d av x.dst=e x.dst:=by unfold upd;rw [if_neg (λe=>h2 e.symm)]
 rcases hf with ⟨f1,f2⟩ | ⟨f1,f2⟩
 ·exact .inl ⟨hw.trans f1,hd.trans f2⟩
 ·refine .inr ⟨hw.trans f1,λb hb=>?_⟩;obtain ⟨hp,a,g1,g2,g3⟩:=f2 b hb;refine ⟨hp,a,λz hz=>hs z (g1 z hz),?_,by rw [hd];exact g3⟩;rw [<- g2];exact z57 b λo ho=>z3y (x:=x) (λs hs=>by unfold upd;rw [if_neg (by rintro rfl;exact h1 hs)]) (by rw [hb];exact ho)
theorem WD.facts {P:Program}{K:Env->H->Prop}{h0:H}:∀ (pre:List (Ins×List Nat)) (i:Nat) (e:Env) (acc:List (Nat×H)) (done:List Ins),WD P pre i e acc h0 K->zqf (pre.map Prod.fst)=true->(∀ x∈done,∀ y∈pre,y.1.dst∉z3r x/\y.1.dst≠x.dst) ->
  (∀ x∈done,zhn e (z3v acc++h0) x)->WD P pre i e acc h0 (λe' h'=>K e' h'/\∀ x∈done++pre.map Prod.fst,zhn e' h' x)
 | [],i,e,acc,done,hw,_,_,hf=>⟨hw.1,hw.2,λx hx=>hf x (by simpa using hx)⟩
 | (x,D)::pre,i,e,acc,done,hw,hsep,hd,hf=>by
  obtain ⟨av,rows,hok,hw⟩:=hw;simp only [map_cons,zqf,and_eq_true,not_eq_true'] at hsep;obtain ⟨⟨s1,s2⟩,s3⟩:=hsep
  have hown:x.dst∉z3r x:=λhm=>by
   have:(z3r x).contains x.dst=true:=by simpa using hm
   rw [this] at s1;cases s1
  have hall:∀ acc:List (Nat×H),z3v (acc++[(i,rows)])=z3v acc++rows:=by
   intro acc
   induction acc with | nil=>simp [z3v] | cons y l ih=>obtain ⟨j,r⟩:=y;simp [z3v,ih]
  have hmem:∀ z∈z3v acc++h0,z∈z3v (acc++[(i,rows)])++h0:=λz hz=>by
   rw [hall];simp only [mem_append] at hz ⊢;rcases hz with hz | hz
   ·exact .inl (.inl hz)
   ·exact .inr hz
  have hhx:∀ (acc:List (Nat×H)) (z:Nat×Row),z∈hx D acc->z∈z3v acc:=by
   intro acc
   induction acc with
   | nil=>intro z hz;cases hz
   | cons y l ih =>
    obtain ⟨j,r⟩:=y;intro z hz;simp only [hx] at hz;simp only [z3v,mem_append];split at hz
    ·rw [mem_append] at hz;exact hz.imp id (ih z)
    ·exact .inr (ih z hz)
  refine ⟨av,rows,hok,?_⟩
  have hguard:zx (upd e x.dst av) x.guard=zx e x.guard:=zez λs hs=>by unfold upd;rw [if_neg (by rintro rfl;exact hown hs)]
  have hdst:upd e x.dst av x.dst=av:=by simp [upd]
  have hnew:zhn (upd e x.dst av) (z3v (acc++[(i,rows)])++h0) x:=by
   have hrd:∀ (b:IB) (a:AV),x.op = .rd b->zi (ev e) (res (hx D acc++h0)) b=some a->zb a av->∃ hp av',(∀ z∈hp,z∈z3v (acc++[(i,rows)])++h0)/\zi (ev (upd e x.dst av)) (res hp) b=some av'/\zb av' (upd e x.dst av x.dst):=by
    intro b a hb h1 h2;refine ⟨hx D acc++h0,a,λz hz=>hmem z ?_,?_,by rw [hdst];exact h2⟩
    ·rw [mem_append] at hz ⊢;exact hz.imp (hhx acc z) id
    ·rw [<- h1];exact z57 b λo ho=>z3y (x:=x) (λs hs=>by unfold upd;rw [if_neg (by rintro rfl;exact hown hs)]) (by rw [hb];exact ho)
   cases hok with
   | skip g1 g2 g3=>exact .inl ⟨hguard.trans g1,hdst.trans g2⟩
   | rd g1 g2 g3 g4 g5 =>refine .inr ⟨hguard.trans g1,λb hb=>?_⟩;simp only at g2;rw [g2] at hb;cases hb;exact hrd _ _ g2 g3 g4
   | mk zf g1 g2 g3 g4=>exact .inr ⟨hguard.trans g1,λb hb=>by simp only at g2;rw [g2] at hb;cases hb⟩
   | call g1 g2=>exact .inr ⟨hguard.trans g1,λb hb=>by simp only at g2;rw [hb] at g2;cases g2⟩
  have:=WD.facts pre (i+1) _ _ (done++[x]) hw s3 (λy hy z hz=>by
   rcases mem_append.1 hy with hy | hy
   ·exact hd y hy z (by simp [hz])
   ·simp only [List.mem_singleton] at hy;subst hy;have:=all_eq_true.1 s2 z.1 (mem_map.2 ⟨z,hz,rfl⟩);simp only [and_eq_true,not_eq_true',z1h,decide_eq_false_iff_not] at this;exact ⟨by simpa using this.1,this.2⟩) (λy hy=>by
   rcases mem_append.1 hy with hy | hy
   ·obtain ⟨q1,q2⟩:=hd y hy (x,D) (by simp);exact (hf y hy).next q1 q2 hmem
   ·simp only [List.mem_singleton] at hy;subst hy;exact hnew)
  simpa only [List.append_assoc,List.singleton_append,map_cons] using this
def y9q:AV->Option Nat
 | .pt k _ _ _=>some k
 | .sl k _ _ _=>some k
 | .pp (.mr k _)=>some k
 | _=>none
theorem y6t {f:Operand->AV}{r r':RR}{b:IB}(h:∀ o∈z38 b,∀ k,y9q (f o)=some k->∀ p,r' k p=r k p/\r'.m k p=r.m k p):zi f r' b=zi f r b:=by
 cases b with
 | iad s x i =>
  have hx:=h x (by simp [z38]);simp only [zi];cases hv:f x with
  | sl k p off len=>have h2:=(hx k (by rw [hv];rfl) p).1;split<;>simp_all
  | pt k p i c=>have h2:=(hx k (by rw [hv];rfl) p).1;split<;>simp_all
  | _=>split<;>simp_all
 | load agg n x =>
  have hx:=h x (by simp [z38]);simp only [zi];cases hv:f x with
  | sl k p off len=>have h2:=(hx k (by rw [hv];rfl) p).1;split<;>simp_all
  | pt k p i c=>have h2:=(hx k (by rw [hv];rfl) p).1;split<;>simp_all
  | _=>split<;>simp_all
 | b2s x =>
  have hx:=h x (by simp [z38]);simp only [zi];cases hv:f x with
  | sl k p off len=>have h2:=(hx k (by rw [hv];rfl) p).1;split<;>simp_all
  | pt k p i c=>have h2:=(hx k (by rw [hv];rfl) p).1;split<;>simp_all
  | _=>split<;>simp_all
 | slc s x lo hi =>
  have hx:=h x (by simp [z38]);simp only [zi];cases hv:f x with
  | sl k p off len=>have h2:=(hx k (by rw [hv];rfl) p).1;split<;>simp_all
  | pt k p i c=>have h2:=(hx k (by rw [hv];rfl) p).1;split<;>simp_all
  | _=>split<;>simp_all
 | lku nv ks agg ok zero x key =>
  have hx:=h x (by simp [z38]);simp only [zi,zpm];split
  ·rename_i k p kc hv hk;rw [(hx k (by rw [hv];rfl) p).2]
  ·rfl
 | _=>rfl
section
variable {P:Program}{T:TT}{pro:List Nat}{L:Type}
mutual
def z1u (bad:Nat->Path->Bool):VT T->Bool
 | .sl k p _ _=>!bad k p
 | .sw k p=>!bad k p
 | .pt k p _ _=>!bad k p
 | .ag cs=>z4w bad cs
 | .tu cs=>z4w bad cs
 | .fn _ cs=>z4w bad cs
 | .un | .sc _ | .ik _ _ | .bk _ | .zs | .im _ _ | .ip _ _ _ | .ow _ _ _ | .oo _ _ _ _ _=>true
 | .pp (.xp _ _ _)=>true
 | .pp (.fs k _) | .pp (.fp k _ _) | .pp (.px k _)=>!bad k []
 | .pp (.mr k p)=>!bad k p
def z4w (bad:Nat->Path->Bool):List (VT T)->Bool
 | []=>true
 | x::l=>z1u bad x&&z4w bad l
end
mutual
theorem z93 {bad:Nat->Path->Bool}{H0:H}:∀ (v:VT T),z1u bad v=true->kill bad (den T.q H0 v)=den T.q H0 v
 | .sl k p _ _,h=>by simp only [z1u,not_eq_true'] at h;simp only [den,kill,h,false_eq_true,if_false]
 | .sw k p,h=>by simp only [z1u,not_eq_true'] at h;simp only [den,kill,h,false_eq_true,if_false]
 | .pt k p _ _,h=>by simp only [z1u,not_eq_true'] at h;simp only [den,kill,h,false_eq_true,if_false]
 | .ag cs,h=>by simp only [z1u] at h;simp only [den,kill,z9p cs h]
 | .tu cs,h=>by simp only [z1u] at h;simp only [den,kill,z9p cs h]
 | .fn _ cs,h=>by simp only [z1u] at h;simp only [den,kill,z9p cs h]
 | .un,_ | .sc _,_ | .ik _ _,_ | .bk _,_ | .zs,_ | .im _ _,_ | .ip _ _ _,_ | .ow _ _ _,_ | .oo _ _ _ _ _,_ | .pp (.xp _ _ _),_=>rfl
 | .pp (.fs k _),h | .pp (.fp k _ _),h | .pp (.px k _),h | .pp (.mr k _),h=>by simp only [z1u,not_eq_true'] at h;simp only [den,z2j,kill,z3k,h,false_eq_true,if_false]
theorem z9p {bad:Nat->Path->Bool}{H0:H}:∀ (v:List (VT T)),z4w bad v=true->z2x bad (z7 T.q H0 v)=z7 T.q H0 v
 | [],_=>rfl
 | x::l,h=>by simp only [z4w,and_eq_true] at h;simp only [z7,z2x,z93 x h.1,z9p l h.2]
end
def yka:VT T->Option Nat
 | .pt k _ _ _=>some k
 | .sl k _ _ _=>some k
 | .sw k _=>some k
 | .pp (.px k _)=>some k
 | .pp (.mr k _)=>some k
 | _=>none
theorem ybq {H0:H}{v:VT T}:y9q (den T.q H0 v)=yka v:=by cases v<;>first | rfl | (rename_i q;cases q<;>rfl)
def y9u:IB->Bool
 | .iad _ _ _ | .load _ _ _ | .slc _ _ _ _ | .b2s _ | .lku _ _ _ _ _ _ _=>true
 | _=>false
def y4c (st:StT T)(e:TE T.q)(x:Ins):Bool :=
 match x.op with
 | .rd b=>(z38 b).all λo=>z1u st.bad (evT e o)&&(!y9u b||match yka (evT e o) with | some k=>!st.tch.contains k | none=>true)
 | _=>false
def eqP:Path->Path->Bool
 | [],[]=>true
 | (i,c)::p,(j,d)::q=>Nat.beq c d&&(Nat.beq i j&&eqP p q)
 | _,_=>false
theorem zy0:∀ (p q:Path),eqP p q=true->p=q
 | [],[],_=>rfl
 | (i,c)::p,(j,d)::q,h=>by simp only [eqP,and_eq_true] at h;rw [eq_of_beq_eq_true h.1,eq_of_beq_eq_true h.2.1,zy0 p q h.2.2]
 | [],_::_,h=>by cases h
 | _::_,[],h=>by cases h
def eqT:VT T->VT T->Bool
 | .sw k p,.sw k' p'=>Nat.beq k k'&&eqP p p'
 | _,_=>false
theorem yck:∀ (v w:VT T),eqT v w=true->v=w:=by
 intro v w h;unfold eqT at h;split at h
 ·simp only [and_eq_true] at h;rw [eq_of_beq_eq_true h.1,zy0 _ _ h.2]
 ·cases h
def zv9 (st:StT T)(e:TE T.q)(x:Ins):Bool :=
 match x.op with
 | .rd b=>(z38 b).all (λo=>z1u (λk p=>st.bad k p||st.bw k p) (evT e o))&&match rdT e st.h b with
  | .ok v=>eqT v (z1c e x.dst)&&z1u (λk p=>st.bad k p||st.bw k p) v
  | _=>false
 | _=>false
def zd9 (dep:List Nat)(st:StT T)(e:TE T.q):List (Ins×List Nat)->Nat->Bool
 | [],_=>true
 | (x,_)::l,i=>(dep.contains i||(y4c st e x||zv9 st e x))&&zd9 dep st e l (i+1)
theorem za7 {e:Env}{g:Option (Nat×Bool)}{b:Bool}{bad:Nat->Path->Bool}(h:zx e g=some b):zx (λt=>kill bad (e t)) g=some b:=by
 cases g with
 | none=>exact h
 | some sw =>
  obtain ⟨s,want⟩:=sw;simp only [zx] at h ⊢;split at h
  ·rename_i hb;rw [hb];simpa [kill] using h
  ·rename_i hb;rw [hb];simpa [kill] using h
  ·cases h
mutual
theorem zbj {bad:Nat->Path->Bool}{H0 H1:H}(hl:∀ k p,bad k p=false->zh H1 k p=zh H0 k p):∀ (v:VT T),z1u bad v=true->den T.q H1 v=den T.q H0 v
 | .sw k p,h=>by simp only [z1u,not_eq_true'] at h;simp only [den,hl k p h]
 | .ag cs,h=>by simp only [z1u] at h;simp only [den,z9q hl cs h]
 | .tu cs,h=>by simp only [z1u] at h;simp only [den,z9q hl cs h]
 | .fn _ cs,h=>by simp only [z1u] at h;simp only [den,z9q hl cs h]
 | .un,_ | .sc _,_ | .ik _ _,_ | .bk _,_ | .zs,_ | .im _ _,_ | .ip _ _ _,_ | .sl _ _ _ _,_ | .pt _ _ _ _,_ | .ow _ _ _,_ | .oo _ _ _ _ _,_ | .pp _,_=>rfl
theorem z9q {bad:Nat->Path->Bool}{H0 H1:H}(hl:∀ k p,bad k p=false->zh H1 k p=zh H0 k p):∀ (v:List (VT T)),z4w bad v=true->z7 T.q H1 v=z7 T.q H0 v
 | [],_=>rfl
 | x::l,h=>by simp only [z4w,and_eq_true] at h;simp only [z7,zbj hl x h.1,z9q hl l h.2]
end
mutual
theorem zbk {bad bad':Nat->Path->Bool}(hb:∀ k p,bad k p=false->bad' k p=false):∀ (v:VT T),z1u bad v=true->z1u bad' v=true
 | .sl k p _ _,h=>by simp only [z1u,not_eq_true'] at h ⊢;exact hb k p h
 | .sw k p,h=>by simp only [z1u,not_eq_true'] at h ⊢;exact hb k p h
 | .pt k p _ _,h=>by simp only [z1u,not_eq_true'] at h ⊢;exact hb k p h
 | .ag cs,h=>by simp only [z1u] at h ⊢;exact z9r hb cs h
 | .tu cs,h=>by simp only [z1u] at h ⊢;exact z9r hb cs h
 | .fn _ cs,h=>by simp only [z1u] at h ⊢;exact z9r hb cs h
 | .un,_ | .sc _,_ | .ik _ _,_ | .bk _,_ | .zs,_ | .im _ _,_ | .ip _ _ _,_ | .ow _ _ _,_ | .oo _ _ _ _ _,_ | .pp (.xp _ _ _),_=>rfl
 | .pp (.fs k _),h | .pp (.fp k _ _),h | .pp (.px k _),h=>by simp only [z1u,not_eq_true'] at h ⊢;exact hb k [] h
 | .pp (.mr k p),h=>by simp only [z1u,not_eq_true'] at h ⊢;exact hb k p h
theorem z9r {bad bad':Nat->Path->Bool}(hb:∀ k p,bad k p=false->bad' k p=false):∀ (v:List (VT T)),z4w bad v=true->z4w bad' v=true
 | [],_=>rfl
 | x::l,h=>by simp only [z4w,and_eq_true] at h ⊢;exact ⟨zbk hb x h.1,z9r hb l h.2⟩
end
theorem zka {dep:List Nat}{st:StT T}{e:TE T.q}{hA:TH T.q}(hlen:∀ k p,st.bad k p=false->st.bw k p=false->zh (z5 T.q st.h) k p=zh (z5 T.q hA) k p)(hn:zu (hA.map Prod.fst)=true)(ht:∀ k,st.tch.contains k=false->z6 (z5 T.q st.h) k=z6 (z5 T.q hA) k):∀ (l:List (Ins×List Nat)) (i:Nat),zd9 dep st e l i=true ->
  (∀ x∈l.map Prod.fst,zhn (z8 T.q (z5 T.q hA) e) (z5 T.q hA) x)->zig dep (kill st.bad) (z8 T.q (z5 T.q hA) e) (z5 T.q st.h) l i
 | [],_,_,_=>trivial
 | (x,D)::l,i,hs,hf=>by
  simp only [zd9,and_eq_true,Bool.or_eq_true] at hs;refine ⟨?_,zka hlen hn ht l (i+1) hs.2 (λy hy=>hf y (by simp [hy]))⟩;rcases hs.1 with h1 | h1 | h1
  ·exact .inl h1
  rotate_left
  ·right;unfold zv9 at h1;split at h1
   ·rename_i b hb;rcases hf x (by simp) with ⟨f1,f2⟩ | ⟨f1,f2⟩
    ·refine .inl ⟨za7 f1,?_⟩;rw [f2];cases x.op<;>rfl
    ·simp only [and_eq_true] at h1;obtain ⟨h1,h2⟩:=h1;split at h2
     ·rename_i v hv;simp only [and_eq_true] at h2
      have hlen':∀ k p,(λk p=>st.bad k p||st.bw k p) k p=false->zh (z5 T.q st.h) k p=zh (z5 T.q hA) k p:=λk p hk=>by simp only [or_eq_false_iff] at hk;exact hlen k p hk.1 hk.2
      have hsub:∀ k p,(λk p=>st.bad k p||st.bw k p) k p=false->st.bad k p=false:=λk p hk=>by simp only [or_eq_false_iff] at hk;exact hk.1
      obtain ⟨av,r1,r2⟩:=zq2 (e:=e) (h:=st.h) (b:=b) (v:=v) (by rw [hv];exact rfl)
      have hcl:∀ o∈z38 b,ev (λt=>kill st.bad (z8 T.q (z5 T.q hA) e t)) o=ev (z8 T.q (z5 T.q st.h) e) o:=λo ho=>by
       have:=all_eq_true.1 h1 o ho;cases o with
       | tmp t =>have q1:=z93 (H0:=z5 T.q hA) _ (zbk hsub _ this);have q2:=zbj hlen' _ this;exact q1.trans q2.symm
       | _=>rfl
      refine .inr ⟨za7 f1,b,av,hb,(z57 b hcl).trans r1,?_⟩;have e1:=yck _ _ h2.1;have q2:=zbj hlen' _ h2.2;have q1:=z93 (H0:=z5 T.q hA) _ (zbk hsub _ h2.2);rw [q2] at r2;show zb av (kill st.bad (den T.q (z5 T.q hA) (z1c e x.dst)));rw [<- e1,q1];exact r2
     ·cases h2
   ·cases h1
  ·right;unfold y4c at h1;split at h1
   ·rename_i b hb;rcases hf x (by simp) with ⟨f1,f2⟩ | ⟨f1,f2⟩
    ·refine .inl ⟨za7 f1,?_⟩;rw [f2];cases x.op<;>rfl
    ·obtain ⟨hp,av,g1,g2,g3⟩:=f2 b hb;refine .inr ⟨za7 f1,b,av,hb,?_,g3.trans (zb.kill _ _)⟩
     have e1:zi (ev (z8 T.q (z5 T.q hA) e)) (res (z5 T.q hA)) b=some av :=
      zmr (λk p v hv=>zq7 (by rw [z1p];exact z11 _ hn) g1 k p v hv) (λk p v hv=>zms (by rw [z1p];exact z11 _ hn) g1 k p v hv) g2
     have hcl:∀ o∈z38 b,ev (λt=>kill st.bad (z8 T.q (z5 T.q hA) e t)) o=ev (z8 T.q (z5 T.q hA) e) o:=λo ho=>by have:=all_eq_true.1 h1 o ho;simp only [and_eq_true] at this;cases o with | tmp t=>exact z93 _ this.1 | _=>rfl
     rw [z57 b hcl,<- e1];cases hrb:y9u b with
     | false=>cases b<;>first | rfl | cases hrb
     | true =>
      refine y6t λo ho k hk p=>?_;have:=all_eq_true.1 h1 o ho;simp only [and_eq_true,hrb,Bool.not_true,Bool.false_or] at this;rw [zg,ybq] at hk;rw [hk] at this;simp only [not_eq_true'] at this;constructor
      ·change z82 _ _ _=z82 _ _ _;unfold z82 z1j;rw [ht k this.2]
      ·change z8k _ _ _=z8k _ _ _;unfold z8k z1j;rw [ht k this.2]
   ·cases h1
def zg5 (pro:List Nat)(cx:Cx P T)(x:Ins)(e:TE T.q)(h:TH T.q)(K:StT T->Raw P T pro L):Raw P T pro L :=
 match x.op with
 | .mk b=>Raw.ofRs K (mkT (cx.at x.dst) pro e h x.dst b)
 | .app s bytes a b=>Raw.ofRs K (zvm (cx.at x.dst) pro e h x.dst s bytes a b)
 | .st n a v=>Raw.ofRs K (stT e h n a v)
 | .mst nv ks a k v=>Raw.ofRs K (zwt e h nv ks a k v)
 | _=>.no
def zxc (pro:List Nat)(cx:Cx P T)(x:Ins)(e:TE T.q)(h:TH T.q)(K:StT T->Raw P T pro L):Raw P T pro L :=
 match x.guard with
 | none=>zg5 pro cx x e h K
 | some (s,want)=>match z1c e s with | .bk true=>bif want then zg5 pro cx x e h K else .no | .bk false=>bif want then .no else zg5 pro cx x e h K | _=>.no
theorem y73 {cx:Cx P T}{x:Ins}{e:TE T.q}{h:TH T.q}{K:StT T->Raw P T pro L}{Q:L->Prop}(hs:Sat (zxc pro cx x e h K) Q) :
  ∃ st,Sat (K st) Q/\z88 P pro T e h x st/\zx (z8 T.q (z5 T.q h) e) x.guard=some true:=by
 obtain ⟨d,g,op⟩:=x
 have go:Sat (zg5 pro cx ⟨d,g,op⟩ e h K) Q->∃ st,Sat (K st) Q/\z88 P pro T e h ⟨d,g,op⟩ st:=λhs=>by
  unfold zg5 at hs;dsimp only at hs;split at hs
  ·obtain ⟨st,hv,hK⟩:=Sat.ofRs _ hs;exact ⟨st,hK,y3m hv⟩
  ·obtain ⟨st,hv,hK⟩:=Sat.ofRs _ hs;exact ⟨st,hK,zr6 hv⟩
  ·obtain ⟨st,hv,hK⟩:=Sat.ofRs _ hs;exact ⟨st,hK,y4b hv⟩
  ·obtain ⟨st,hv,hK⟩:=Sat.ofRs _ hs;exact ⟨st,hK,zul hv⟩
  ·exact hs.elim
 unfold zxc at hs;dsimp only at hs;split at hs
 ·obtain ⟨st,q1,q2⟩:=go hs;exact ⟨st,q1,q2,rfl⟩
 ·rename_i s want;split at hs
  ·rename_i hv;cases want with
   | false=>exact hs.elim
   | true =>obtain ⟨st,q1,q2⟩:=go hs;exact ⟨st,q1,q2,by simp [zx,z8,hv,den]⟩
  ·rename_i hv;cases want with
   | true=>exact hs.elim
   | false =>obtain ⟨st,q1,q2⟩:=go hs;exact ⟨st,q1,q2,by simp [zx,z8,hv,den]⟩
  ·exact hs.elim
theorem z88.turn {e:TE T.q}{h:TH T.q}{x:Ins}{st:StT T}(hst:z88 P pro T e h x st)(hw:zx (z8 T.q (z5 T.q h) e) x.guard=some true) :
  zik P pro x (z8 T.q (z5 T.q h) e) (z5 T.q h) (kill st.bad) (den T.q (z5 T.q st.h) st.v) (z5 T.q st.h):=λe' he=>by
 obtain ⟨e0,h0',e1,h1',g1,gb,g2,g3⟩:=hst.1 e' he;exact ⟨by rw [zez he];exact hw,e0,h0',e1,h1',g1,g2,g3⟩
def zed (keep:List Nat)(e:TE T.q):TE T.q:=keep.map λt=>(t,z1c e t)
theorem zft {H0:H}(keep:List Nat)(e:TE T.q):z8 T.q H0 (zed keep e)=z6s keep (z8 T.q H0 e):=by
 unfold z6s zed
 induction keep with
 | nil=>rfl
 | cons s l ih =>simp only [map_cons,z1a];rw [<- ih];exact z1f (e:=List.map (λt=>(t,z1c e t)) l)
def zkb (ds:List Nat)(e:TE T.q):TE T.q:=z5t (λk _=>ds.contains k) (λ_ _=>false) e
theorem zkc {ds:List Nat}{e:TE T.q}{h:TH T.q}:z8 T.q (z5 T.q (z2r h ds)) (zkb ds e)=zci ds (z8 T.q (z5 T.q h) e):=by funext t;simp only [z8,zkb,z3a,zci];have hl:∀ k p,(λk (_:Path)=>ds.contains k) k p=false->zh (z5 T.q (z2r h ds)) k p=zh (z5 T.q h) k p:=λk p hk=>z1g (by rw [<- z5s];exact z8f _ _ _ hk);exact (zd0 hl _).symm
def y3c (cx:Cx P T)(x:Ins):Bool :=
 match x.op with
 | .st _ _ _ | .app _ _ _ _ | .mst _ _ _ _ _=>true
 | .mk _=>cx.tn.contains x.dst
 | _=>false
def zc7 (cx:Cx P T):List (Ins×List Nat)->Option (List (Ins×List Nat)×(Ins×List Nat)×List (Ins×List Nat))
 | []=>none
 | x::l=>match zc7 cx l with
  | some (p,y,q)=>some (x::p,y,q)
  | none=>bif y3c cx x.1 then some ([],x,l) else none
theorem zg4 {cx:Cx P T}:∀ (l p:List (Ins×List Nat)) (y:Ins×List Nat) (q:List (Ins×List Nat)),zc7 cx l=some (p,y,q)->l=p++y::q
 | [],_,_,_,h=>by cases h
 | x::l,p,y,q,h=>by
  simp only [zc7] at h;split at h
  ·rename_i p' y' q' h';cases h;rw [zg4 l _ _ _ h'];rfl
  ·cases ht:y3c cx x.1 with | false=>rw [ht] at h;cases h | true=>rw [ht] at h;cases h;rfl
def zeo (bad:Nat->Path->Bool)(e1:TE T.q):List (Ins×List Nat)->List Nat->TE T.q->Option (TE T.q)
 | [],_,e=>some e
 | (x,_)::l,fb,e=>match x.guard,x.op with
  | none,.rd (.mov (.tmp s))=>bif !fb.contains s&&z1u bad (z1c e1 s) then
    match z1c e1 s with
    | .un=>none
    | v=>zeo bad e1 l (x.dst::fb) (z1v e x.dst v)
   else none
  | none,.rd (.mov (.const u))=>match zbm u with
    | .un=>none
    | v=>zeo bad e1 l (x.dst::fb) (z1v e x.dst v)
  | _,_=>none
theorem zia {bad0 bad:Nat->Path->Bool}{H0 H1:H}{e1:TE T.q}(hsub:∀ k p,bad k p=false->bad0 k p=false)(hl:∀ k p,bad k p=false->zh H1 k p=zh H0 k p){K:Env->Prop}:∀ (l:List (Ins×List Nat)) (fb:List Nat) (e e2:TE T.q) (E:Env),zeo bad e1 l fb e=some e2 ->
  (∀ t,fb.contains t=false->E t=kill bad0 (z8 T.q H0 e1 t))->(∀ t,zb (E t) (z8 T.q H1 e t))->(∀ E2:Env,(∀ t,zb (E2 t) (z8 T.q H1 e2 t))->K E2)->zbe P H1 K l E
 | [],fb,e,e2,E,h,_,h2,hK=>by cases h;exact hK E h2
 | (⟨d,g,op⟩,D)::l,fb,e,e2,E,h,h1,h2,hK=>by
  simp only [zeo] at h;split at h
  ·rename_i s
   obtain ⟨hb,h⟩:(!fb.contains s&&z1u bad (z1c e1 s))=true/\(match z1c e1 s with | .un=>none | v=>zeo bad e1 l (d::fb) (z1v e d v))=some e2:=by cases hb:(!fb.contains s&&z1u bad (z1c e1 s)) with | false=>rw [hb] at h;cases h | true=>rw [hb] at h;exact ⟨rfl,h⟩
   simp only [and_eq_true,not_eq_true'] at hb
   have hE:E s=den T.q H1 (z1c e1 s):=by rw [h1 s hb.1,z8,z93 _ (zbk hsub _ hb.2),zbj hl _ hb.2]
   have key:∀ v:VT T,z1c e1 s=v->v≠.un->zeo bad e1 l (d::fb) (z1v e d v)=some e2->zbe P H1 K ((⟨d,none,.rd (.mov (.tmp s))⟩,D)::l) E:=λv hv hun h=>by
    rw [hv] at hE;refine ⟨den T.q H1 v,.rd (b:=.mov (.tmp s)) (av:=den T.q H1 v) rfl rfl ?_ (zb.refl _) rfl,?_⟩
    ·simp only [zi,ev,hE];cases v<;>first | rfl | (rename_i q;cases q<;>rfl) | (exact absurd rfl hun)
    ·refine zia hsub hl l (d::fb) _ e2 _ h (λt ht=>?_) (λt=>?_) hK
     ·simp only [List.contains_cons,or_eq_false_iff,beq_eq_false_iff_ne] at ht;simp only [upd,if_neg ht.1];exact h1 t ht.2
     ·rw [z1f];exact zb.upd h2 (zb.refl _) t
   split at h
   ·cases h
   ·rename_i v hne;exact key _ rfl (λhe=>hne (by rw [he])) h
  ·rename_i u;split at h
   ·cases h
   ·rename_i v hne;have hun:(zbm u:VT T)≠.un:=λhe=>hne (by rw [he]);have hcv:ev E (.const u)=den T.q H1 (zbm u:VT T):=(zff H1 u).symm;generalize (zbm u:VT T)=v at *;refine ⟨den T.q H1 v,.rd (b:=.mov (.const u)) (av:=den T.q H1 v) rfl rfl ?_ (zb.refl _) rfl,?_⟩
    ·simp only [zi,hcv];cases v<;>first | rfl | (rename_i q;cases q<;>rfl) | (exact absurd rfl hun)
    ·refine zia hsub hl l (d::fb) _ e2 _ h (λt ht=>?_) (λt=>?_) hK
     ·simp only [List.contains_cons,or_eq_false_iff,beq_eq_false_iff_ne] at ht;simp only [upd,if_neg ht.1];exact h1 t ht.2
     ·rw [z1f];exact zb.upd h2 (zb.refl _) t
  ·cases h
def zjo (ds:List Nat)(h0 h1:TH T.q):Bool:=(h1.map Prod.fst).all (λk=>ds.contains k||(h0.map Prod.fst).contains k)
def zo2 (pro:List Nat)(cx:Cx P T)(keep:List Nat)(pre:List (Ins×List Nat))(tail:List Ins)(e:TE T.q)(h:TH T.q)(K:TE T.q->TH T.q->Raw P T pro L):Raw P T pro L :=
 let ds:=pre.map (·.1.dst)
 let e0:=zkb ds e
 let h0:=z2r h ds
 let Kt:TE T.q->TH T.q->Raw P T pro L:=λe h=>evR pro cx tail e h λe h=>K (zed keep e) h
 let plain:Raw P T pro L:=bif zu ds&&z6e ds pre 0 pre&&pro.all (λk=>!ds.contains k)&&pre.all (λx=>!z3w x.1.op) then evD cx pre 0 e0 [] h0 λe1 h1=>bif zjo ds h0 h1 then Kt e1 h1 else .no else .no
 match zc7 cx pre with
 | some (pre0,(x,dep),post) =>
   bif zu ds&&zb2 ds 0 pre&&pro.all (λk=>!ds.contains k)&&pre0.all (λx=>!z3w x.1.op)&&zb4 dep pre0 0&&!dep.contains pre0.length&&dep.all (λi=>decide (i<pre0.length))&&pre0.all (λx=>!x.2.contains pre0.length)&&post.all (λy=>isRd y.1.op&&y.2.contains pre0.length)&&zqf (pre0.map Prod.fst) then
    evD cx pre0 0 e0 [] h0 λe1 hA=>zxc pro cx x e1 hA λst =>
     bif zu (hA.map Prod.fst)&&zjo ds h0 hA&&zu (st.h.map Prod.fst)&&zd9 dep st e1 pre0 0 then (match zeo (λk p=>st.bad k p||st.bw k p) e1 post [x.dst] (st.env e1 x.dst) with | some e2=>Kt e2 st.h | none=>.no) else .no
   else .no
 | none=>plain
theorem zy1 {cx:Cx P T}{keep:List Nat}{pre:List (Ins×List Nat)}{tail:List Ins}{e:TE T.q}{h:TH T.q}{K:TE T.q->TH T.q->Raw P T pro L}{Q:L->Prop}{Q':Out->Env->H->Prop}
  (hQ:∀ E H0,KP K Q E H0->Q' .normal E H0) (hs:Sat (zo2 pro cx keep pre tail e h K) Q):W P pro (.draw keep pre tail) Q' (z8 T.q (z5 T.q h) e) (z5 T.q h):=by
 have tl:∀ (e1:TE T.q) (h1:TH T.q),Sat (evR pro cx tail e1 h1 λe h=>K (zed keep e) h) Q->RG P pro keep Q' tail (z8 T.q (z5 T.q h1) e1) (z5 T.q h1):=λe1 h1 hs=>by obtain ⟨E,H',r,e2,h2,rfl,rfl,hK⟩:=zfh tail e1 h1 hs;exact ⟨_,_,r,hQ _ _ ⟨_,_,(zft keep e2).symm,rfl,hK⟩⟩
 have plain:Sat (bif zu (pre.map (·.1.dst))&&z6e (pre.map (·.1.dst)) pre 0 pre&&pro.all (λk=>!(pre.map (·.1.dst)).contains k)&&pre.all (λx=>!z3w x.1.op) then evD cx pre 0 (zkb (pre.map (·.1.dst)) e) [] (z2r h (pre.map (·.1.dst))) λe1 h1=>bif zjo (pre.map (·.1.dst)) (z2r h (pre.map (·.1.dst))) h1 then evR pro cx tail e1 h1 (λe h=>K (zed keep e) h) else .no else .no:Raw P T pro L) Q ->
   W P pro (.draw keep pre tail) Q' (z8 T.q (z5 T.q h) e) (z5 T.q h):=λhs=>by
  cases hb:(zu (pre.map (·.1.dst))&&z6e (pre.map (·.1.dst)) pre 0 pre&&pro.all (λk=>!(pre.map (·.1.dst)).contains k)&&pre.all (λx=>!z3w x.1.op)) with
  | false=>rw [hb] at hs;exact hs.elim
  | true =>
   rw [hb,cond_true] at hs;refine W.drawG (pre.map (·.1.dst)) rfl hb ?_;have:=zj2 pre 0 _ [] hs;simp only [z1m,List.nil_append,zkc,z7k,map_nil] at this;rw [z5s];refine WD.mono (λE H0 hk=>?_) _ _ _ _ this;obtain ⟨e1,h1,rfl,rfl,hK⟩:=hk;dsimp only at hK;cases hk2:zjo (pre.map (·.1.dst)) (z2r h (pre.map (·.1.dst))) h1 with
   | false=>rw [hk2] at hK;exact hK.elim
   | true =>rw [hk2,cond_true] at hK;refine ⟨?_,tl _ _ hK⟩;unfold zjn;rw [z1p,z1p];exact hk2
 unfold zo2 at hs;dsimp only at hs;split at hs
 ·rename_i pre0 x dep post hsl;have hpre:=zg4 _ _ _ _ hsl;generalize hds:pre.map (·.1.dst)=ds at hs;cases hb:(zu ds&&zb2 ds 0 pre&&pro.all (λk=>!ds.contains k)&&pre0.all (λx=>!z3w x.1.op)&&zb4 dep pre0 0&&!dep.contains pre0.length&&dep.all (λi=>decide (i<pre0.length))&&pre0.all (λx=>!x.2.contains pre0.length)&&post.all (λy=>isRd y.1.op&&y.2.contains pre0.length)&&zqf (pre0.map Prod.fst)) with
  | false=>rw [hb] at hs;exact hs.elim
  | true =>
   rw [hb,cond_true] at hs;simp only [and_eq_true] at hb;obtain ⟨hb,hsep⟩:=hb;rw [hpre] at hds hb ⊢;refine W.turn post ds hds (by simpa only [and_eq_true] using hb) ?_;have hwd:=zj2 pre0 0 _ [] hs;simp only [z1m,List.nil_append,zkc,z7k,map_nil] at hwd;rw [z5s];have hf:=WD.facts pre0 0 _ [] [] hwd hsep (λ_ h=>(by cases h)) (λ_ h=>(by cases h));refine WD.mono (λE H0 hk=>?_) _ _ _ _ hf;obtain ⟨⟨e1,hA,rfl,rfl,hK⟩,hfacts⟩:=hk;obtain ⟨st,hK,hst,hw⟩:=y73 hK;cases hc:(zu (hA.map Prod.fst)&&zjo ds (z2r h ds) hA&&zu (st.h.map Prod.fst)&&zd9 dep st e1 pre0 0) with
   | false=>rw [hc] at hK;exact hK.elim
   | true =>
    rw [hc,cond_true] at hK;simp only [and_eq_true] at hc;obtain ⟨⟨⟨c1,c2⟩,c3⟩,c4⟩:=hc;refine ⟨kill st.bad,den T.q (z5 T.q st.h) st.v,z5 T.q st.h,?_,by rw [z1p];exact c3,hst.turn hw,zka hst.2.1 c1 hst.2.2 pre0 0 c4 (by simpa using hfacts),?_⟩
    ·unfold zjn;rw [z1p,z1p];exact c2
    ·split at hK
     ·rename_i e2 hp;refine zia (bad0:=st.bad) (λk p h=>(by simpa using h:st.bad k p=false/\_).1) (λk p h=>hst.2.1 k p (by simpa using h:st.bad k p=false/\_).1 (by simpa using h:_/\st.bw k p=false).2) post _ _ _ _ hp (λt ht=>?_) (λt=>?_) (λE2 h2=>RG.ghost (z9.le h2) (tl _ _ hK))
      ·simp only [List.contains_cons,List.contains_nil,Bool.or_false,beq_eq_false_iff_ne] at ht;simp only [upd,if_neg ht]
      ·rw [StT.env,z1f];refine zb.upd (λt=>?_) (zb.refl _) t;simp only [z8,z3a];exact z7c (λ_ _ h=>h) hst.2.1 _
     ·exact hK.elim
 ·exact plain hs
def zkp (pro:List Nat)(cx:Cx P T)(keep:List Nat)(pre:List (Ins×List Nat))(tail:List Ins)(e:TE T.q)(h:TH T.q)(K:TE T.q->TH T.q->Raw P T pro L):Raw P T pro L :=
 match zar (match pre with | x::_=>cx.fzAt (800000+x.1.dst) | []=>[]) e h with
 | some (e,h)=>zo2 pro cx keep pre tail e h K
 | none=>.no
theorem z9s {cx:Cx P T}{keep:List Nat}{pre:List (Ins×List Nat)}{tail:List Ins}{e:TE T.q}{h:TH T.q}{K:TE T.q->TH T.q->Raw P T pro L}{Q:L->Prop}{Q':Out->Env->H->Prop}
  (hQ:∀ E H0,KP K Q E H0->Q' .normal E H0) (hs:Sat (zkp pro cx keep pre tail e h K) Q):W P pro (.draw keep pre tail) Q' (z8 T.q (z5 T.q h) e) (z5 T.q h):=by
 unfold zkp at hs;split at hs
 ·rename_i e1 h1 hf;exact W.ghost (z7b _ hf).1 (zy1 hQ hs)
 ·exact hs.elim
end
inductive SD where
 | any
 | un
 | im (t:Nat)
 | own (c:Nat) (m:Bool) (t:Nat)
 | ref (c:Nat)
 | ag (l:List SD)
 | fn (l:List SD)
inductive RD where
 | any
 | fix (ks:List Kd)
 | typ (m:Bool) (t:Nat)
structure Dr where
 S:List (Nat×SD)
 R:List (Nat×RD)
section
variable {P:Program}{T:TT}{pro:List Nat}{L:Type}
mutual
def zd5:VT T->Option (VT T)
 | .un=>some .un
 | .sc v=>some (.sc v)
 | .ik k n=>some (.sc (.int k n))
 | .bk b=>some (.sc (.bool b))
 | .zs=>some .zs
 | .im t xs=>some (.im t xs)
 | .ip s cs c=>some (.ip s cs c)
 | .pp (.xp b x c)=>some (.pp (.xp b x c))
 | .pp _=>none
 | .ag cs=>match zae cs with | some cs'=>some (.ag cs') | none=>none
 | .tu cs=>match zae cs with | some cs'=>some (.tu cs') | none=>none
 | .fn f cs=>match zae cs with | some cs'=>some (.fn f cs') | none=>none
 | .sl _ _ _ _ | .sw _ _ | .pt _ _ _ _ | .ow _ _ _ | .oo _ _ _ _ _=>none
def zae:List (VT T)->Option (List (VT T))
 | []=>some []
 | x::l=>match zd5 x,zae l with | some x',some l'=>some (x'::l') | _,_=>none
end
mutual
theorem zmp {H0:H}:∀ (v v':VT T),zd5 v=some v'->den T.q H0 v=den T.q H0 v'
 | .un,_,h | .sc _,_,h | .ik _ _,_,h | .bk _,_,h | .zs,_,h | .im _ _,_,h | .ip _ _ _,_,h | .pp (.xp _ _ _),_,h=>by cases h;rfl
 | .pp (.fs _ _),_,h | .pp (.fp _ _ _),_,h | .pp (.px _ _),_,h | .pp (.mr _ _),_,h=>by cases h
 | .ag cs,_,h=>by
  simp only [zd5] at h;split at h
  ·rename_i cs' hc;cases h;simp only [den,za2 cs cs' hc]
  ·cases h
 | .tu cs,_,h=>by
  simp only [zd5] at h;split at h
  ·rename_i cs' hc;cases h;simp only [den,za2 cs cs' hc]
  ·cases h
 | .fn f cs,_,h=>by
  simp only [zd5] at h;split at h
  ·rename_i cs' hc;cases h;simp only [den,za2 cs cs' hc]
  ·cases h
 | .sl _ _ _ _,_,h | .sw _ _,_,h | .pt _ _ _ _,_,h | .ow _ _ _,_,h | .oo _ _ _ _ _,_,h=>by cases h
theorem za2 {H0:H}:∀ (v v':List (VT T)),zae v=some v'->z7 T.q H0 v=z7 T.q H0 v'
 | [],_,h=>by cases h;rfl
 | x::l,_,h=>by
  simp only [zae] at h;split at h
  ·rename_i x' l' h1 h2;cases h;simp only [z7,zmp x x' h1,za2 l l' h2]
  ·cases h
end
mutual
def zdq:SD->VT T->Option (VT T×List (Nat×Nat))
 | .any,v=>match zd5 v with | some v'=>some (v',[]) | none=>none
 | .un,_=>some (.un,[])
 | .im t,.zs=>some (.im t [],[])
 | .im _,.im t xs=>some (.im t xs,[])
 | .im _,_=>none
 | .own c _ _,.sw k []=>some (.sw k [],[(c,k)])
 | .own _ _ _,_=>none
 | .ref c,.pt k p i cc=>some (.pt k p i cc,[(c,k)])
 | .ref c,.sw k p=>some (.sw k p,[(c,k)])
 | .ref c,.sl k p off len=>some (.sl k p off len,[(c,k)])
 | .ref c,.pp (.fs k cs)=>some (.pp (.fs k cs),[(c,k)])
 | .ref c,.pp (.mr k p)=>some (.pp (.mr k p),[(c,k)])
 | .ref _,_=>none
 | .ag ds,.ag cs=>match zcr ds cs with | some (cs',b)=>some (.ag cs',b) | none=>none
 | .ag ds,.tu cs=>match zcr ds cs with | some (cs',b)=>some (.tu cs',b) | none=>none
 | .ag _,_=>none
 | .fn ds,.fn f cs=>match zcr ds cs with | some (cs',b)=>some (.fn f cs',b) | none=>none
 | .fn _,_=>none
def zcr:List SD->List (VT T)->Option (List (VT T)×List (Nat×Nat))
 | [],[]=>some ([],[])
 | d::ds,v::vs=>match zdq d v,zcr ds vs with | some (v',b),some (vs',b')=>some (v'::vs',b++b') | _,_=>none
 | _,_=>none
end
mutual
theorem znv {H0:H}:∀ (d:SD) (v v':VT T) (b:List (Nat×Nat)),zdq d v=some (v',b)->zb (den T.q H0 v) (den T.q H0 v')
 | .any,v,v',b,h=>by
  simp only [zdq] at h;split at h
  ·rename_i w hw;cases h;rw [zmp v _ hw];exact zb.refl _
  ·cases h
 | .un,v,v',b,h=>by cases h;exact zb.un _
 | .im t,v,v',b,h=>by
  cases v<;>first | (cases h;done) | skip
  ·cases h;simp only [den,map_nil];exact zb.zsIm _
  ·cases h;exact zb.refl _
 | .own c m t,v,v',b,h=>by
  cases v with
  | sw k p =>cases p with | nil=>cases h;exact zb.refl _ | cons _ _=>cases h
  | _=>cases h
 | .ref c,v,v',b,h=>by cases v<;>first | (cases h;done) | (rename_i q;cases q<;>first | (cases h;done) | (cases h;exact zb.refl _)) | (cases h;exact zb.refl _)
 | .ag ds,v,v',b,h=>by
  cases v with
  | ag cs =>
   simp only [zdq] at h;split at h
   ·rename_i cs' b' hc;cases h;simp only [den];exact zb.ag (zbl ds cs cs' _ hc).C
   ·cases h
  | tu cs =>
   simp only [zdq] at h;split at h
   ·rename_i cs' b' hc;cases h;simp only [den];exact zb.tu (zbl ds cs cs' _ hc).L
   ·cases h
  | _=>cases h
 | .fn ds,v,v',b,h=>by
  cases v with
  | fn f cs =>
   simp only [zdq] at h;split at h
   ·rename_i cs' b' hc;cases h;simp only [den];exact zb.fn (zbl ds cs cs' _ hc).L
   ·cases h
  | _=>cases h
theorem zbl {H0:H}:∀ (d:List SD) (v v':List (VT T)) (b:List (Nat×Nat)),zcr d v=some (v',b)->z2l (z7 T.q H0 v) (z7 T.q H0 v')
 | [],[],_,_,h=>by cases h;exact .nil
 | [],_::_,_,_,h=>by cases h
 | _::_,[],_,_,h=>by cases h
 | d::ds,v::vs,v',b,h=>by
  simp only [zcr] at h;split at h
  ·rename_i v1 b1 vs1 b2 h1 h2;cases h;exact .cons (znv d v v1 _ h1) (zbl ds vs vs1 _ h2)
  ·cases h
end
def Gh (P:Program)(pro:List Nat)(T:TT)(e:TE T.q)(h:TH T.q)(e1:TE T.q)(h1:TH T.q):Prop:=z9 P pro (z8 T.q (z5 T.q h) e) (z5 T.q h) (z8 T.q (z5 T.q h1) e1) (z5 T.q h1)
def zxb (pro:List Nat)(e:TE T.q)(h:TH T.q)(t:Nat)(d:SD):Rs (TE T.q×TH T.q×List (Nat×Nat)) :=
 match d,z1c e t with
 | .own c m ty,.zs =>
  bif pro.contains (500000+t)||((h.map Prod.fst).contains (500000+t)||!Nat.blt (T.sz ty) 1000000) then .no
  else .ok (z1v (z5t (λk _=>Nat.beq k (500000+t)) (λ_ _=>false) e) t (.sw (500000+t) []),(500000+t,.typ m ty [])::h,[(c,500000+t)])
 | .own c _ _,.sl k [] 0 n =>
  match z30 h k with
  | some (.typ m' t' xs)=>bif Nat.blt (T.sz t') 1000000 then .need (n<=xs.length) (.ok (z1v (z5t (λ_ _=>false) (λk' _=>Nat.beq k' k) e) t (.sw k []),(k,.typ m' t' (xs.take n))::z12 h k,[(c,k)])) else .no
  | _=>.no
 | d,v=>match zdq d v with | some (v',b)=>.ok (z1v e t v',h,b) | none=>.no
theorem y71 {e e1:TE T.q}{h h1:TH T.q}{t:Nat}{d:SD}{b:List (Nat×Nat)}(hg:(zxb pro e h t d).gives (e1,h1,b)):Gh P pro T e h e1 h1:=by
 unfold zxb at hg;split at hg
 ·rename_i c m ty hz;cases hb:(pro.contains (500000+t)||((h.map Prod.fst).contains (500000+t)||!Nat.blt (T.sz ty) 1000000)) with
  | true=>rw [hb] at hg;exact hg.elim
  | false =>
   rw [hb] at hg;cases hg;simp only [or_eq_false_iff,Bool.not_eq_false'] at hb;have hsm:=le_of_ble_eq_true hb.2.2
   have h1:=z9.nil (P:=P) (pro:=pro) (e:=z8 T.q (z5 T.q h) e) (h:=z5 T.q h) (t:=t) (d:=500000+t) (s:=T.sz ty) hsm (by simp only [z8,hz,den]) (by
    rw [z1p];intro hm;have:(h.map Prod.fst).contains (500000+t)=true:=by simpa using hm
    rw [hb.2.1] at this;cases this) (by
    rw [all_eq_true];intro k hk;simp only [bne_iff_ne,ne_eq];rintro rfl;have:pro.contains (500000+t)=true:=by simpa using hk
    rw [hb.1] at this;cases this)
   have hh:z5 T.q ((500000+t,.typ m ty [])::h)=(500000+t,⟨T.sz ty,[]⟩)::z5 T.q h:=rfl;unfold Gh;rw [hh];refine h1.trans (z9.le λu=>?_);rw [z1f];refine zb.upd (λu=>?_) ?_ u
   ·simp only [z1e,z8,z3a];refine z7c (λk p hk=>by simpa using hk) (λk p hk _=>z1g ?_) _;simp only [z1h,decide_eq_false_iff_not] at hk;simp only [z6];rw [if_neg (λe=>hk e.symm)]
   ·have:zh ((500000+t,⟨T.sz ty,[]⟩)::z5 T.q h) (500000+t) []=0:=by simp [zh,z1j,z6,zp]
    simp only [den,this];exact zb.refl _
 ·rename_i c m ty k n hz;split at hg
  ·rename_i m' t' xs hr;obtain ⟨hsm,hc,hg⟩:=zn hg;cases hg;have hgr:z6 (z5 T.q h) k=some ⟨T.sz t',xs.map (T.ca m' t')⟩:=by rw [z1t,hr];rfl
   have h1:=z9.take (P:=P) (pro:=pro) (e:=z8 T.q (z5 T.q h) e) n hgr (le_of_ble_eq_true hsm)
   have hh:z5 T.q ((k,.typ m' t' (xs.take n))::z12 h k)=(k,⟨T.sz t',(xs.map (T.ca m' t')).take n⟩)::zc (z5 T.q h) k:=by simp only [z5,za,List.map_take,zz]
   unfold Gh;rw [hh];refine h1.trans (z9.le λu=>?_);rw [z1f];unfold upd;split
   ·rename_i hu;subst hu
    have:zh ((k,⟨T.sz t',(xs.map (T.ca m' t')).take n⟩)::zc (z5 T.q h) k) k []=n:=by simp only [zh,z1j,z6,if_true,zp,length_take,length_map];omega
    simp only [z8,hz,den,this];exact zb.refl _
   ·simp only [z8,z3a]
    have:=z7c (T:=T) (H0:=z5 T.q h) (H1:=(k,⟨T.sz t',(xs.map (T.ca m' t')).take n⟩)::zc (z5 T.q h) k) (b1:=λ_ _=>false) (bad:=λ_ _=>false) (bw:=λk' _=>Nat.beq k' k) (λ_ _ h=>h) (λk' p _ hk=>z1g (by simp only [z1h,decide_eq_false_iff_not] at hk;simp only [z6];rw [if_neg (λe=>hk e.symm),z1b hk])) (z1c e u)
    rwa [zjy] at this
  ·exact hg.elim
 ·split at hg
  ·rename_i v' b' hv;cases hg;unfold Gh;refine z9.le λu=>?_;rw [z1f];unfold upd;split
   ·rename_i hu;subst hu;exact znv _ _ _ _ hv
   ·exact zb.refl _
  ·exact hg.elim
mutual
def y7e:SD->VT T->List Fz
 | .im _,.sw k []=>[.row k]
 | .im _,.sw k [(_,c)]=>[.col k [c]]
 | .ag ds,.ag cs=>zox ds cs
 | .ag ds,.tu cs=>zox ds cs
 | _,_=>[]
def zox:List SD->List (VT T)->List Fz
 | d::ds,v::vs=>y7e d v++zox ds vs
 | _,_=>[]
end
def y7d (h:TH T.q)(k:Nat)(ks:List Kd):List Fz :=
 match z30 h k with
 | some (.lit _ [cs])=>match frcC 0 ks cs with | []=>[] | l=>[.col k l]
 | _=>[]
where frcC:Nat->List Kd->List (VT T)->List Nat
 | c,.im _::ks,.ow _ _ _::l=>c::frcC (c+1) ks l
 | c,_::ks,_::l=>frcC (c+1) ks l
 | _,_,_=>[]
def yjv (h:TH T.q)(k:Nat)(m:Bool):List Fz :=
 match m,z30 h k with
 | false,some (.typ true _ _)=>[.nest k]
 | _,_=>[]
def zk9 (pro:List Nat):List (Nat×SD)->TE T.q->TH T.q->List (Nat×Nat)->Rs (TE T.q×TH T.q×List (Nat×Nat))
 | [],e,h,b=>.ok (e,h,b)
 | (t,d)::l,e,h,b=>match zar (y7e d (z1c e t)) e h with
  | some (e,h)=>(zxb pro e h t d).bind λ(e,h,b')=>zk9 pro l e h (b'++b)
  | none=>.no
theorem zmx:∀ (l:List (Nat×SD)) (e e1:TE T.q) (h h1:TH T.q) (b b1:List (Nat×Nat)),(zk9 pro l e h b).gives (e1,h1,b1)->Gh P pro T e h e1 h1
 | [],_,_,_,_,_,_,hg=>by cases hg;exact z9.rfl'
 | (t,d)::l,e,e1,h,h1,b,b1,hg=>by
  simp only [zk9] at hg;split at hg
  ·rename_i e3 h3 hf;obtain ⟨⟨e2,h2,b2⟩,q1,q2⟩:=Rs.bind_gives _ hg;exact z9.trans (z7b _ hf).1 (z9.trans (y71 q1) (zmx l _ _ _ _ _ _ q2))
  ·exact hg.elim
def zxe (h:TH T.q)(k:Nat)(m:Bool)(t:Nat):Option (TH T.q) :=
 match z30 h k with
 | some (.lit s xs)=>bif Nat.beq (T.sz t) s then match unL m t xs with | some ys=>some ((k,.typ m t ys)::z12 h k) | none=>none else none
 | some _=>some h
 | none=>none
theorem y76 {e:TE T.q}{h h1:TH T.q}{k:Nat}{m:Bool}{t:Nat}(ht:zxe h k m t=some h1):Gh P pro T e h e h1:=by
 unfold zxe at ht;split at ht
 ·rename_i s xs hr;cases hb:Nat.beq (T.sz t) s with
  | false=>rw [hb] at ht;cases ht
  | true =>
   rw [hb,cond_true] at ht;split at ht
   ·rename_i ys hy;cases ht;have hgr:z6 (z5 T.q h) k=some ⟨s,xs.map (z7 T.q [])⟩:=by rw [z1t,hr];rfl
    have hrow:za T.q (.typ m t ys)=⟨s,xs.map (z7 T.q [])⟩:=by simp only [za,zkf _ _ hy,eq_of_beq_eq_true hb]
    have hh:z5 T.q ((k,.typ m t ys)::z12 h k)=(k,⟨s,(xs.map (z7 T.q [])).map (z27 (λ_=>none) 0)⟩)::zc (z5 T.q h) k:=by rw [z5w];simp only [z5,hrow,zz]
    have h1:=z9.fix (P:=P) (pro:=pro) (e:=z8 T.q (z5 T.q h) e) (λ_=>none) (λ_ _ h=>(by cases h)) hgr;unfold Gh;rw [hh];refine h1.trans (z9.le λu=>?_)
    have hkill:z4e (λ_=>none) k=λ_ _=>false:=by funext k' q;unfold z4e;cases q<;>simp
    simp only [z1e,hkill,zjy,z8]
    have hl:∀ k' q,zh ((k,⟨s,(xs.map (z7 T.q [])).map (z27 (λ_=>none) 0)⟩)::zc (z5 T.q h) k) k' q=zh (z5 T.q h) k' q:=λk' q=>by
     refine z1g ?_;by_cases hk:k'=k
     ·subst hk;rw [z5w,hgr];simp [z6]
     ·simp only [z6];rw [if_neg (λe=>hk e.symm),z1b hk]
    have:=zd0 (T:=T) (bad:=λ_ _=>false) (λk' q _=>hl k' q) (z1c e u);rw [zjy] at this;have hid:z2o (λ_ _=>false) (λ_ _=>false) (z1c e u)=z1c e u:=zi4 _;rw [this,hid];exact zb.refl _
   ·cases ht
 ·cases ht;exact z9.rfl'
 ·cases ht
def zee (bm:List (Nat×Nat))(c:Nat):Nat:=match z36 bm c with | some k=>k | none=>c
def zes:List (Nat×RD)->TE T.q->TH T.q->List (Nat×Nat)->Option (TE T.q×TH T.q)
 | [],e,h,_=>some (e,h)
 | (c,.any)::l,e,h,b=>zes l e h b
 | (c,.fix ks)::l,e,h,b=>match zar (y7d h (zee b c) ks) e h with
  | some (e,h)=>match ze2 e h (zee b c) ks with | some (e,h)=>zes l e h b | none=>none
  | none=>none
 | (c,.typ m t)::l,e,h,b=>match zar (yjv h (zee b c) m++y7d h (zee b c) (T.ks m t)) e h with
  | some (e,h)=>match ze2 e h (zee b c) (T.ks m t) with
   | some (e,h)=>match zxe h (zee b c) m t with | some h=>zes l e h b | none=>none
   | none=>none
  | none=>none
theorem zet:∀ (l:List (Nat×RD)) (e e1:TE T.q) (h h1:TH T.q) (b:List (Nat×Nat)),zes l e h b=some (e1,h1)->Gh P pro T e h e1 h1
 | [],_,_,_,_,_,hg=>by cases hg;exact z9.rfl'
 | (c,.any)::l,e,e1,h,h1,b,hg=>zet l e e1 h h1 b hg
 | (c,.fix ks)::l,e,e1,h,h1,b,hg=>by
  simp only [zes] at hg;split at hg
  ·rename_i e3 h3 hz;split at hg
   ·rename_i e2 h2 hf;exact z9.trans (z7b _ hz).1 (z9.trans (zhx hf) (zet l _ _ _ _ b hg))
   ·cases hg
  ·cases hg
 | (c,.typ m t)::l,e,e1,h,h1,b,hg=>by
  simp only [zes] at hg;split at hg
  ·rename_i e4 h4 hz;split at hg
   ·rename_i e2 h2 hf;split at hg
    ·rename_i h3 ht;exact z9.trans (z7b _ hz).1 (z9.trans (zhx hf) (z9.trans (y76 ht) (zet l _ _ _ _ b hg)))
    ·cases hg
   ·cases hg
  ·cases hg
def zwv (pro:List Nat)(bm:List (Nat×Nat))(S:List Nat)(e:TE T.q)(h:TH T.q):Option (EH T) :=
 bif zu (bm.map Prod.fst)&&zu (bm.map Prod.snd)&&pro.all (λk=>z36 bm k==some k) then
  match z9e h bm with
  | some (hs,_)=>some (S.map λt=>(t,match z3u bm (z1c e t) with | some v=>v | none=>.un),hs)
  | none=>none
 else none
theorem y6i {bm:List (Nat×Nat)}{S:List Nat}{e:TE T.q}{h:TH T.q}{eh:EH T}(hn:zwv pro bm S e h=some eh):Gh P pro T e h eh.1 eh.2:=by
 unfold zwv at hn;cases hb:(zu (bm.map Prod.fst)&&zu (bm.map Prod.snd)&&pro.all (λk=>z36 bm k==some k)) with
 | false=>rw [hb] at hn;cases hn
 | true =>
  rw [hb,cond_true] at hn;simp only [and_eq_true] at hb;split at hn
  ·rename_i hs rest hsp;cases hn;obtain ⟨s1,s2,s3⟩:=z66 bm h hs rest hsp;have hkeys:=z90 _ _ _ _ s1
   have hno:zem pro bm S (z8 T.q (z5 T.q h) e) (z5 T.q h)=some (z1a (S.map λt=>(t,zdk bm (z8 T.q (z5 T.q h) e t))),z5 T.q hs):=by unfold zem;rw [s1];simp only;rw [if_pos (by simp only [and_eq_true];exact ⟨hb.1.1,hb.2⟩)]
   refine z9.trans (z9.norm hno) (z9.le λt=>?_)
   have hbl:∀ k n q,z1n bm k=some n->zh (z5 T.q hs) n q=zh (z5 T.q h) k q:=λk n q hkn=>by have:=s3 n k hb.1.1 hb.1.2 (z7t bm hkn);unfold zh z1j;rw [this]
   have hv:∀ t,zb (zdk bm (z8 T.q (z5 T.q h) e t)) (den T.q (z5 T.q hs) (match z3u bm (z1c e t) with | some v=>v | none=>.un)):=λt=>by
    split
    ·rename_i v hv;have:=zal (T:=T) hbl _ _ hv;unfold zdk;simp only [z8,this];exact zb.refl _
    ·exact zb.un _
   clear hno
   induction S with
   | nil=>exact zb.refl _
   | cons s S ih =>
    simp only [map_cons,z1a];rw [show z8 T.q (z5 T.q hs) ((s,match z3u bm (z1c e s) with | some v=>v | none=>.un)::S.map λt=>(t,match z3u bm (z1c e t) with | some v=>v | none=>.un))=upd (z8 T.q (z5 T.q hs) (S.map λt=>(t,match z3u bm (z1c e t) with | some v=>v | none=>.un))) s (den T.q (z5 T.q hs) (match z3u bm (z1c e s) with | some v=>v | none=>.un)) from z1f];unfold upd;split
    ·exact hv s
    ·exact ih
  ·cases hn
def cnv (pro:List Nat)(D:Dr)(e:TE T.q)(h:TH T.q):Rs (EH T) :=
 (zk9 pro D.S e h []).bind λ(e,h,b) =>
  match zes D.R e h b with
  | some (e,h)=>match zwv pro (D.R.map λx=>(x.1,zee b x.1)) (D.S.map Prod.fst) e h with
   | some eh=>.ok eh
   | none=>.no
  | none=>.no
theorem z7n {D:Dr}{e:TE T.q}{h:TH T.q}{eh:EH T}(hg:(cnv pro D e h).gives eh):Gh P pro T e h eh.1 eh.2:=by
 obtain ⟨⟨e1,h1,b⟩,q1,q2⟩:=Rs.bind_gives _ hg;dsimp only at q2;split at q2
 ·rename_i e2 h2 hr;split at q2
  ·rename_i eh' hn;cases q2;exact z9.trans (zmx _ _ _ _ _ _ _ q1) (z9.trans (zet _ _ _ _ _ _ hr) (y6i hn))
  ·exact q2.elim
 ·exact q2.elim
end
inductive An (P:Program) (T:TT) (pro:List Nat):Type 1 where
 | no
 | two (a b:An P T pro)
 | join (S:Type) (enc:S->EH T) (D:Dr) (a b:An P T pro)
 | loop (V:Type) (c:V->z15 P T pro) (ret:Bool) (D:Dr)
 | alls (S Z:Type) (enc:S->EH T) (encV:Z->Value) (D:Dr)
section
variable {P:Program}{T:TT}{pro:List Nat}
def An.l:An P T pro->An P T pro
 | .two a _=>a
 | _=>.no
def An.r:An P T pro->An P T pro
 | .two _ b=>b
 | _=>.no
def ymq {L:Type}(pro:List Nat)(D:Dr)(K:Out->TE T.q->TH T.q->Raw P T pro L):Out->TE T.q->TH T.q->Raw P T pro (EH T⊕L)
 | .normal,e,h=>Raw.ofRs (λeh=>.leaf (.inl eh)) (cnv pro D e h)
 | o,e,h=>(K o e h).map .inr
def ykd {L:Type}(A:TE T.q->TH T.q->Raw P T pro L)(K:Out->TE T.q->TH T.q->Raw P T pro L):Out->TE T.q->TH T.q->Raw P T pro L
 | .normal=>A
 | o=>K o
def zxt {L:Type}(id:Nat)(K:Out->TE T.q->TH T.q->Raw P T pro L):Out->TE T.q->TH T.q->Raw P T pro L
 | .exit id'=>bif Nat.beq id' id then K .normal else K (.exit id')
 | o=>K o
def y6u {L:Type}(K:Out->TE T.q->TH T.q->Raw P T pro L)(eh:EH T):Raw P T pro L :=
 match isX eh with
 | some u=>K (.panic u) [] []
 | none=>K .ret eh.1 eh.2
theorem KP.none {L:Type}{K:TE T.q->TH T.q->Raw P T pro L}{Q:L->Prop}(h:Sat (K [] []) Q):KP K Q nE []:=⟨[],[],rfl,rfl,h⟩
theorem ybt {L:Type}{K:Out->TE T.q->TH T.q->Raw P T pro L}{Q:L->Prop}{eh:EH T}{o:Out}{E:Env}{H0:H}(hr:zge eh o E H0)(hs:Sat (y6u K eh) Q):KP (K o) Q E H0:=by
 unfold zge at hr;unfold y6u at hs;cases hx:isX eh with
 | none =>rw [hx] at hr hs;obtain ⟨rfl,rfl,rfl⟩:=hr;exact ⟨_,_,rfl,rfl,hs⟩
 | some u =>rw [hx] at hr hs;obtain ⟨rfl,rfl,rfl⟩:=hr;exact KP.none hs
def zx8:List (VT T)->Option (List Value)
 | []=>some []
 | x::l=>match asc x,zx8 l with | some v,some vs=>some (v::vs) | _,_=>none
def y6n:VT T->Option Value
 | .ag cs=>match zx8 cs with | some vs=>some (.agg vs.toArray) | none=>none
 | v=>asc v
theorem zv5 {H0:H}:∀ (l:List (VT T)) (vs:List Value),zx8 l=some vs->scL (z7 T.q H0 l)=some vs
 | [],_,h=>by cases h;rfl
 | x::l,vs,h=>by
  unfold zx8 at h;split at h
  ·rename_i v vs' h1 h2;cases h;simp only [z7,z2t h1,scL,zv5 l vs' h2]
  ·cases h
theorem ybm {H0:H}{v:VT T}{u:Value}(h:y6n v=some u):zl6 (den T.q H0 v)=some u:=by
 unfold y6n at h;split at h
 ·split at h
  ·rename_i vs hv;cases h;simp only [den,zl6,zv5 _ _ hv]
  ·cases h
 ·rw [z2t h];rfl
def zw9 {L:Type}:List (Raw P T pro L)->Raw P T pro L
 | []=>.no
 | [a]=>a
 | a::l=>.both a (zw9 l)
theorem zma {L:Type}{Q:L->Prop}:∀ (l:List (Raw P T pro L)),Sat (zw9 l) Q->∀ a∈l,Sat a Q
 | [],h,a,ha=>(nomatch ha)
 | [x],h,a,ha=>by
  have:a=x:=by simpa using ha
  rw [this];exact h
 | x::y::l,h,a,ha=>by
  rcases mem_cons.1 ha with rfl | ha
  ·exact h.1
  ·exact zma (y::l) h.2 a ha
def zq5 (pre:List (Ins×List Nat))(D:List Nat):List Nat:=(range pre.length).filter λi=>!D.contains i&&(match pre[i]? with | some x=>x.2.all D.contains | none=>false)
def evA (pro:List Nat)(cx:Cx P T)(pre:List (Ins×List Nat))(D:Dr):Nat->List Nat->TE T.q->TH T.q->Raw P T pro (EH T⊕Value)
 | 0,_,_,_=>.no
 | n+1,dn,e,h=>bif (range pre.length).all dn.contains then Raw.ofRs (λeh=>.leaf (.inl eh)) (cnv pro D e h)
  else zw9 ((zq5 pre dn).map λi=>match pre[i]? with
   | some x=>zcz e x.1.guard (λe=>zqk pro cx x.1 e h (λe h=>evA pro cx pre D n (i::dn) e h) (λu _ _=>.leaf (.inr u))) (λe=>evA pro cx pre D n (i::dn) (z1v e x.1.dst (zk8 x.1.op)) h)
   | none=>.no)
def FN (P:Program)(pro:List Nat)(r:EH T⊕Value)(E:Env)(H0:H):Prop:=∃ eh,r = .inl eh/\z9 P pro E H0 (z8 T.q (z5 T.q eh.2) eh.1) (z5 T.q eh.2)
theorem z5j.mono {pre:List (Ins×List Nat)}{F F':Env->H->Prop}{FX FX':Value->Prop}(hF:∀ e h,F e h->F' e h)(hX:∀ u,FX u->FX' u):∀ (n:Nat) (D:List Nat) (e:Env) (h:H),z5j P pro pre F FX n D e h->z5j P pro pre F' FX' n D e h
 | 0,D,e,h,hr=>⟨hr.1,hF _ _ hr.2⟩
 | n+1,D,e,h,hr=>by
  rcases hr with ⟨h1,h2⟩ | ⟨h1,h2⟩
  ·exact .inl ⟨h1,hF _ _ h2⟩
  ·refine .inr ⟨h1,λi x hx hi hd=>?_⟩;obtain ⟨e0,h0,g,hr⟩:=h2 i x hx hi hd;refine ⟨e0,h0,g,?_⟩;rcases hr with ⟨hw,hr⟩ | ⟨hw,e1,h1',hs,hr⟩ | ⟨hw,u,hx,hp,hu⟩
   ·exact .inl ⟨hw,z5j.mono hF hX n _ _ _ hr⟩
   ·exact .inr (.inl ⟨hw,e1,h1',hs,z5j.mono hF hX n _ _ _ hr⟩)
   ·exact .inr (.inr ⟨hw,u,hx,hp,hX u hu⟩)
theorem z5j.ghost {pre:List (Ins×List Nat)}{F:Env->H->Prop}{FX:Value->Prop}(hF:∀ e h e1 h1,z9 P pro e h e1 h1->F e1 h1->F e h){n:Nat}{D:List Nat}{e e1:Env}{h h1:H}(g:z9 P pro e h e1 h1)(hr:z5j P pro pre F FX n D e1 h1):z5j P pro pre F FX n D e h:=by
 cases n with
 | zero=>exact ⟨hr.1,hF _ _ _ _ g hr.2⟩
 | succ n =>
  rcases hr with ⟨h1,h2⟩ | ⟨h1,h2⟩
  ·exact .inl ⟨h1,hF _ _ _ _ g h2⟩
  ·refine .inr ⟨h1,λi x hx hi hd=>?_⟩;obtain ⟨e0,h0,g',hr⟩:=h2 i x hx hi hd;exact ⟨e0,h0,g.trans g',hr⟩
theorem FN.ghost {r:EH T⊕Value}{E E1:Env}{H0 H1:H}(g:z9 P pro E H0 E1 H1)(h:FN P pro r E1 H1):FN P pro r E H0:=by obtain ⟨eh,h1,h2⟩:=h;exact ⟨eh,h1,g.trans h2⟩
theorem zo1 {cx:Cx P T}{pre:List (Ins×List Nat)}{D:Dr}{r:EH T⊕Value}:∀ (n:Nat) (dn:List Nat) (e:TE T.q) (h:TH T.q),Sat (evA pro cx pre D n dn e h) (λl=>l=r) ->
  z5j P pro pre (FN P pro r) (λu=>r = .inr u) n dn (z8 T.q (z5 T.q h) e) (z5 T.q h)
 | 0,_,_,_,hs=>hs.elim
 | n+1,dn,e,h,hs=>by
  simp only [evA] at hs;cases hb:(range pre.length).all dn.contains with
  | true =>rw [hb,cond_true] at hs;obtain ⟨eh,q1,q2⟩:=Sat.ofRs _ hs;have q2:Sum.inl eh=r:=q2;exact .inl ⟨λi hi=>by simpa using all_eq_true.1 hb i (mem_range.2 hi),eh,q2.symm,z7n q1⟩
  | false =>
   rw [hb,cond_false] at hs;refine .inr ⟨?_,λi x hx hi hd=>?_⟩
   ·rw [List.all_eq_false] at hb;obtain ⟨i,h1,h2⟩:=hb;exact ⟨i,mem_range.1 h1,by simpa using h2⟩
   ·have hlt:i<pre.length:=(List.getElem?_eq_some_iff.1 hx).1
    have hm:i∈zq5 pre dn:=by unfold zq5;rw [List.mem_filter];refine ⟨mem_range.2 hlt,?_⟩;simp only [hx,and_eq_true,not_eq_true',all_eq_true];exact ⟨by simpa using hi,λd hdd=>by simpa using hd d hdd⟩
    have hone:=zma _ hs _ (mem_map.2 ⟨i,hm,rfl⟩);simp only [hx] at hone;obtain ⟨e',he,h1 | h1⟩:=zbs (H0:=z5 T.q h) hone
    ·rcases zmy h1.2 with ⟨e0,h0,e1,h1',e2,h2,g1,gb,g2,g3,e4,h4,rfl,rfl,hK⟩ | ⟨e0,h0,u,ex,hx,g1,gb,g2,_,hK⟩
     ·rw [he] at g1 gb;have hK:Sat (evA pro cx pre D n (i::dn) e4 h4) (λl=>l=r):=hK;exact ⟨e0,h0,g1,.inr (.inl ⟨za6 h1.1 gb,e1,h1',g2,z5j.ghost (λ_ _ _ _=>FN.ghost) g3 (zo1 n (i::dn) e4 h4 hK)⟩)⟩
     ·rw [he] at g1 gb;have hK:Sum.inr u=r:=hK;exact ⟨e0,h0,g1,.inr (.inr ⟨za6 h1.1 gb,u,_,g2,hK.symm⟩)⟩
    ·have:=zo1 n (i::dn) _ h h1.2;rw [z1f,he,z9d] at this;exact ⟨_,_,z9.rfl',.inl ⟨h1.1,this⟩⟩
def zwm (e:TE T.q)(c:Operand)(b:Bool):TE T.q:=match c with | .tmp s=>z1v e s (.bk b) | _=>e
def evC (cx:Cx P T):IC->An P T pro->{L:Type}->TE T.q->TH T.q->(Out->TE T.q->TH T.q->Raw P T pro L)->Raw P T pro L
 | .reg keep l,_,_,e,h,K=>zw0 pro cx l e h (λe h=>K .normal (zed keep e) h) (λu e h=>K (.panic u) e h)
 | .pan l d t x,_,_,e,h,K=>evR pro cx l e h λe h=>match y6n (evT e x) with | some u=>K (.panic (.iface t u)) (ptT (z1v e d .un)) h | none=>.no
 | .draw keep pre tail,an,_,e,h,K =>
  match an with
  | .alls S Z enc encV D=>.alls enc encV (evA pro cx pre D (pre.length+1) [] e h) (λs=>evR pro cx tail (enc s).1 (enc s).2 λe h=>K .normal (zed keep e) h) (λz=>K (.panic (encV z)) [] [])
  | _=>zkp pro cx keep pre tail e h (K .normal)
 | .bad,_,_,_,_,_=>.no
 | .skip,_,_,e,h,K=>K .normal e h
 | .ret,_,_,e,h,K=>K .ret e h
 | .exit id,_,_,e,h,K=>K (.exit id) e h
 | .seq x y,an,_,e,h,K =>
  match an with
  | .join S enc D a b=>.join enc (evC cx x a e h (ymq pro D K)) λs=>evC cx y b (enc s).1 (enc s).2 K
  | an=>evC cx x an.l e h (ykd (λe h=>evC cx y an.r e h K) K)
 | .cond c x y,an,_,e,h,K =>
  match evT e c with
  | .bk true=>evC cx x an.l e h K
  | .bk false=>evC cx y an.r e h K
  | .sc (.bool b)=>.ite b (evC cx x an.l (zwm e c true) h K) (evC cx y an.r (zwm e c false) h K)
  | _=>.no
 | .block id x,an,_,e,h,K=>evC cx x an.l e h (zxt id K)
 | .loop x,an,_,e,h,K =>
  match an with
  | .loop _ c ret D=>Raw.ofRs (λeh=>bif ret then .loopR c x eh (λv y=>K (.exit (c v).id) ((c v).encY y).1 ((c v).encY y).2) (λv z=>y6u K ((c v).encZ z))
    else .loop c x eh (λv y=>K (.exit (c v).id) ((c v).encY y).1 ((c v).encY y).2)) (cnv pro D e h)
  | _=>.no
theorem zpk {e:TE T.q}{H0:H}{c:Operand}{b:Bool}(hc:evT e c = .sc (.bool b)):z8 T.q H0 (zwm e c b)=z8 T.q H0 e:=by cases c with | tmp s=>exact z5z hc | _=>rfl
theorem z59 {cx:Cx P T}:∀ (c:IC) (an:An P T pro) {L:Type} (e:TE T.q) (h:TH T.q) (K:Out->TE T.q->TH T.q->Raw P T pro L) (Q:L->Prop),Sat (evC cx c an e h K) Q ->
  W P pro c (λo E H0=>KP (K o) Q E H0) (z8 T.q (z5 T.q h) e) (z5 T.q h)
 | .reg keep l,_,_,e,h,K,Q,hs=>by
  rcases zkq l e h hs with ⟨E,H',r,e2,h2,rfl,rfl,hK⟩ | ⟨u,E,ex,hx,r,hle,hK⟩
  ·exact W.regG ⟨_,_,r,_,_,(zft keep e2).symm,rfl,hK⟩
  ·exact ⟨_,_,_,.after (.regX r) (z9.le hle),ex,hx,rfl,rfl,hK⟩
 | .pan l d t x,_,_,e,h,K,Q,hs=>by
  obtain ⟨E,H',r,e2,h2,rfl,rfl,hK⟩:=zfh l e h hs;dsimp only at hK;split at hK
  ·rename_i u hu
   exact ⟨_,_,_,.after (.pan r (by rw [zg];exact ybm hu)) (z9.le λt=>by
    have:=y3s (T:=T) (H0:=z5 T.q h2) (H1:=z5 T.q h2) (z1v e2 d .un) t
    rwa [z1f] at this),_,h2,rfl,rfl,hK⟩
  ·exact hK.elim
 | .draw keep pre tail,an,_,e,h,K,Q,hs=>by
  cases an with
  | alls S Z enc encV D =>
   obtain ⟨r,h1,h2⟩:=hs;have ha:=zo1 (r:=Sum.map enc encV r) (pre.length+1) [] e h h1;cases r with
   | inl s =>
    obtain ⟨E,H',hr,e2,h2',rfl,rfl,hK⟩:=zfh tail _ _ h2;refine ⟨.normal,_,_,.allN (F:=λE H0=>z9 P pro E H0 (z8 T.q (z5 T.q (enc s).2) (enc s).1) (z5 T.q (enc s).2)) (λe1 h1 g=>.ghost g hr) (z5j.mono (λE H0 hf=>?_) (λu hu=>?_) _ _ _ _ ha),_,_,(zft keep e2).symm,rfl,hK⟩
    ·obtain ⟨eh,q1,q2⟩:=hf;cases q1;exact q2
    ·cases hu
   | inr z =>exact ⟨.panic (encV z),_,_,.allX (z5j.mono (λE H0 hf=>by obtain ⟨eh,q1,q2⟩:=hf;cases q1) (λu hu=>by cases hu;rfl) _ _ _ _ ha),KP.none h2⟩
  | no=>exact z9s (Q':=λo E H0=>KP (K o) Q E H0) (λE H0 hk=>hk) hs
  | two _ _=>exact z9s (Q':=λo E H0=>KP (K o) Q E H0) (λE H0 hk=>hk) hs
  | join _ _ _ _ _=>exact z9s (Q':=λo E H0=>KP (K o) Q E H0) (λE H0 hk=>hk) hs
  | loop _ _ _ _=>exact z9s (Q':=λo E H0=>KP (K o) Q E H0) (λE H0 hk=>hk) hs
 | .bad,_,_,_,_,_,_,hs=>hs.elim
 | .skip,_,_,e,h,K,Q,hs=>W.skip ⟨e,h,rfl,rfl,hs⟩
 | .ret,_,_,e,h,K,Q,hs=>W.ret ⟨e,h,rfl,rfl,hs⟩
 | .exit id,_,_,e,h,K,Q,hs=>W.exit ⟨e,h,rfl,rfl,hs⟩
 | .seq x y,an,L,e,h,K,Q,hs=>by
  have plain:∀ (a b:An P T pro),Sat (evC cx x a e h (ykd (λe h=>evC cx y b e h K) K)) Q->W P pro (.seq x y) (λo E H0=>KP (K o) Q E H0) (z8 T.q (z5 T.q h) e) (z5 T.q h):=λa b hs=>by
   refine W.seq (W.mono (z59 x a e h _ Q hs) λo E H0 hk=>?_);cases o with
   | normal =>obtain ⟨e1,h1,rfl,rfl,hK⟩:=hk;exact z59 y b e1 h1 K Q hK
   | exit id=>exact hk
   | ret=>exact hk
   | panic u=>exact hk
  cases an with
  | alls _ _ _ _ _=>exact plain _ _ hs
  | join S enc D a b =>
   have ih:=z59 x a e h _ _ hs;refine W.seq (W.mono ih λo E H0 hk=>?_);cases o with
   | normal =>obtain ⟨e1,h1,rfl,rfl,hK⟩:=hk;obtain ⟨eh,q1,s,q2,q3⟩:=Sat.ofRs _ hK;subst q2;exact W.ghost (z7n q1) (z59 y b _ _ K Q q3)
   | exit id =>obtain ⟨e1,h1,rfl,rfl,hK⟩:=hk;exact ⟨e1,h1,rfl,rfl,Sat.map (L:=L) (L':=EH T⊕L) Sum.inr (K _ e1 h1) _ hK⟩
   | ret =>obtain ⟨e1,h1,rfl,rfl,hK⟩:=hk;exact ⟨e1,h1,rfl,rfl,Sat.map (L:=L) (L':=EH T⊕L) Sum.inr (K _ e1 h1) _ hK⟩
   | panic u =>obtain ⟨e1,h1,rfl,rfl,hK⟩:=hk;exact ⟨e1,h1,rfl,rfl,Sat.map (L:=L) (L':=EH T⊕L) Sum.inr (K _ e1 h1) _ hK⟩
  | no=>exact plain _ _ hs
  | two a b=>exact plain _ _ hs
  | loop V c ret D=>exact plain _ _ hs
 | .cond c x y,an,_,e,h,K,Q,hs=>by
  simp only [evC] at hs;split at hs
  ·rename_i hv;exact W.condT (by rw [zg,hv];rfl) (z59 x an.l e h K Q hs)
  ·rename_i hv;exact W.condF (by rw [zg,hv];rfl) (z59 y an.r e h K Q hs)
  ·rename_i b hv;refine W.cond (b:=b) (by rw [zg,hv];rfl) (λhb=>?_) (λhb=>?_)
   ·subst hb;have:=z59 x an.l _ h K Q (hs.1 rfl)
    rwa [zpk hv] at this
   ·subst hb;have:=z59 y an.r _ h K Q (hs.2 rfl)
    rwa [zpk hv] at this
  ·exact hs.elim
 | .block id x,an,_,e,h,K,Q,hs=>by
  refine W.block (W.mono (z59 x an.l e h _ Q hs) λo E H0 hk=>?_);cases o with
  | normal=>exact hk
  | ret=>exact hk
  | panic u=>exact hk
  | exit id' =>
   simp only [ze8];simp only [zxt,z1h] at hk;split
   ·rename_i e;simpa [e] using hk
   ·rename_i e;simpa [e] using hk
 | .loop x,an,_,e,h,K,Q,hs=>by
  cases an with
  | loop V c ret D =>
   obtain ⟨eh,q1,q2⟩:=Sat.ofRs _ hs;refine W.ghost (z7n q1) ?_;cases ret with
   | true =>
    obtain ⟨v,hb,x',b,q3,q4,q5⟩:=q2;subst hb q3;refine W.mono ((c v).ok x' b q4) λo E H0 hk=>?_;cases b with
    | go _=>exact hk.elim
    | out y =>obtain ⟨rfl,rfl,rfl⟩:=hk;exact ⟨_,_,rfl,rfl,q5⟩
    | ret z=>exact ybt hk.2 q5
   | false =>obtain ⟨v,hb,x',y,q3,_,q4,q5⟩:=q2;subst hb q3;refine W.mono ((c v).ok x' _ q4) λo E H0 hk=>?_;obtain ⟨rfl,rfl,rfl⟩:=hk;exact ⟨_,_,rfl,rfl,q5⟩
  | no=>exact hs.elim
  | alls _ _ _ _ _=>exact hs.elim
  | two _ _=>exact hs.elim
  | join _ _ _ _ _=>exact hs.elim
def y9m (pro:List Nat)(id:Nat)(DX DY DZ:Dr):Out->TE T.q->TH T.q->Raw P T pro (Bo (EH T) (EH T) (EH T))
 | .normal,e,h=>Raw.ofRs (λeh=>.leaf (.go eh)) (cnv pro DX e h)
 | .exit id',e,h=>bif Nat.beq id' id then Raw.ofRs (λeh=>.leaf (.out eh)) (cnv pro DY e h) else .no
 | .ret,e,h=>Raw.ofRs (λeh=>match isX eh with | none=>.leaf (.ret eh) | some _=>.no) (cnv pro DZ e h)
 | .panic u,_,_=>.leaf (.ret (ofX u))
def zvz {X Y Z E:Type}(a:X->E)(b:Y->E)(c:Z->E):Bo X Y Z->Bo E E E
 | .go x=>.go (a x)
 | .out y=>.out (b y)
 | .ret z=>.ret (c z)
noncomputable def z1d {X Y Z:Type}(cx:Cx P T)(x:IC)(an:X->An P T pro)(id:Nat)(ret:Bool)(DX DY DZ:Dr)(encX:X->EH T)(encY:Y->EH T)(encZ:Z->EH T)(n:Nat)(t:X->Pt P T pro (Bo X Y Z))(hret:ret=false->Z->False:=by first | (intro h;cases h;done) | (intro _ z;cases z))
  (ht:∀ s,evC cx x (an s) (encX s).1 (encX s).2 (y9m pro id DX DY DZ)=(t s).raw (zvz encX encY encZ):=by intro s;kernel_rfl):z15 P T pro where
 body:=x
 X:=X
 Y:=Y
 Z:=Z
 encX:=encX
 encY:=encY
 encZ:=encZ
 id:=id
 ret:=ret
 G:=zl (λs=>(t s).run) n
 ok:=by
  have round:∀ s b,(t s).run=some b->W P pro x (λo E H0=>match b with
    | .go x'=>o = .normal/\∃ e h,Gh P pro T e h (encX x').1 (encX x').2/\E=z8 T.q (z5 T.q h) e/\H0=z5 T.q h
    | .out y=>o = .exit id/\∃ e h,Gh P pro T e h (encY y).1 (encY y).2/\E=z8 T.q (z5 T.q h) e/\H0=z5 T.q h
    | .ret z=>o≠.normal/\∃ E1 H1,z9 P pro E H0 E1 H1/\zge (encZ z) o E1 H1) (z8 T.q (z5 T.q (encX s).2) (encX s).1) (z5 T.q (encX s).2):=by
   intro s b hb;have h1:=z2e (zvz encX encY encZ) (t s) b hb;rw [<- ht s] at h1;refine W.mono (z59 x (an s) _ _ _ _ h1) λo E H0 hk=>?_;obtain ⟨e,h,rfl,rfl,hK⟩:=hk;cases o with
   | normal =>
    obtain ⟨eh,q1,q2⟩:=Sat.ofRs _ hK;cases b<;>cases q2
    exact ⟨rfl,e,h,z7n q1,rfl,rfl⟩
   | exit id' =>
    simp only [y9m,z1h] at hK;by_cases hid:id'=id
    ·subst hid;simp only [decide_true,cond_true] at hK;obtain ⟨eh,q1,q2⟩:=Sat.ofRs _ hK;cases b<;>cases q2
     exact ⟨rfl,e,h,z7n q1,rfl,rfl⟩
    ·simp only [hid,decide_false,cond_false] at hK;exact hK.elim
   | ret =>
    obtain ⟨eh,q1,q2⟩:=Sat.ofRs _ hK;split at q2
    ·rename_i hx;cases b<;>cases q2
     refine ⟨by simp,_,_,z7n q1,?_⟩;unfold zge;rw [hx];exact ⟨rfl,rfl,rfl⟩
    ·exact q2.elim
   | panic u =>
    have hK:Bo.ret (ofX u)=zvz encX encY encZ b:=hK;cases b with
    | go _=>cases hK
    | out _=>cases hK
    | ret z =>simp only [zvz,Bo.ret.injEq] at hK;refine ⟨by simp,nE,[],z9.fell,?_⟩;unfold zge;rw [<- hK];exact ⟨rfl,rfl,rfl⟩
  intro s
  induction n generalizing s with
  | zero=>intro b hb;cases hb
  | succ k ih =>
   intro b hb;unfold zl at hb;split at hb
   ·rename_i s' hs;refine W.loop (W.mono (round s _ hs) λo E H0 hq=>?_);obtain ⟨rfl,e,h,g,rfl,rfl⟩:=hq;exact W.ghost g (ih s' b hb)
   ·rename_i hne;have hr:=round s _ hb;cases b with
    | go s'=>exact absurd hb (hne s')
    | out y =>obtain ⟨o,E,H0,hex,rfl,e,h,g,rfl,rfl⟩:=hr;exact ⟨_,_,_,.loopX (by simp) (.after hex g),rfl,rfl,rfl⟩
    | ret z =>obtain ⟨o,E,H0,hex,hno,E1,H1,g,hri⟩:=hr;refine ⟨_,_,_,.loopX hno (.after hex g),?_,hri⟩;cases hret':ret with | true=>rfl | false=>exact (hret hret' z).elim
end
def fnC (P:Program)(f:Nat)(ks:List (List Nat)):IC :=
 match P.funcs[f]? with
 | some fn=>match fn.body with
  | some code=>match z4t P fn.ntmps code ks with | some (c,_)=>c | none=>.skip
  | none=>.skip
 | none=>.skip
def y5s (P:Program)(f:Nat):List RS :=
 match P.funcs[f]? with
 | some fn=>match z3i P fn.results.toList with | some ts=>ts | none=>[]
 | none=>[]
def fnN (P:Program)(f:Nat):Nat:=match P.funcs[f]? with | some fn=>fn.ntmps | none=>0
def zw8 (P:Program)(f:Nat)(ks:List (List Nat)):Bool :=
 match P.funcs[f]? with
 | some fn=>match fn.body with
  | some code=>(z4t P fn.ntmps code ks).isSome&&(z3i P fn.results.toList).isSome
  | none=>false
 | none=>false
theorem yal {P:Program}{f:Nat}{ks:List (List Nat)}(h:zw8 P f ks=true):y4k P f (fnN P f) (fnC P f ks) (y5s P f):=by
 unfold zw8 at h;split at h
 ·rename_i fn hfn;split at h
  ·rename_i code hc;simp only [and_eq_true,Option.isSome_iff_exists] at h;obtain ⟨⟨⟨c,ks'⟩,h1⟩,⟨ts,h2⟩⟩:=h;refine ⟨fn,code,hfn,hc,?_,?_,ks,ks',?_⟩
   ·simp [fnN,hfn]
   ·simp [y5s,hfn,h2]
   ·have:fnC P f ks=c:=by simp [fnC,hfn,hc,h1]
    rw [this];simp only [fnN,hfn];exact h1
  ·cases h
 ·cases h
def z16:List Nat->IC->IC
 | [],c=>c
 | 0::p,.seq x _=>z16 p x
 | 0::p,.cond _ x _=>z16 p x
 | 0::p,.block _ x=>z16 p x
 | 0::p,.loop x=>z16 p x
 | _::p,.seq _ y=>z16 p y
 | _::p,.cond _ _ y=>z16 p y
 | _,c=>c
section
variable {P:Program}{T:TT}{pro:List Nat}
def znl:Nat->List (VT T)->TE T.q
 | _,[]=>[]
 | n,x::l=>(n,x)::znl (n+1) l
theorem znm {H0:H}:∀ (l:List (VT T)) (n:Nat),z8 T.q H0 (znl n l)=z89 n (z7 T.q H0 l)
 | [],_=>rfl
 | x::l,n=>by simp only [znl,z7,z89,<- znm l (n+1)];exact z1f (e:=znl (n+1) l)
def ynd (pro:List Nat)(D:Dr):Out->TE T.q->TH T.q->Raw P T pro (EH T)
 | .exit _,_,_=>.no
 | .panic _,_,_=>.no
 | _,e,h=>Raw.ofRs .leaf (cnv pro D e h)
def rsT (e:TE T.q)(h:TH T.q):RS->Option (VT T)
 | .t s=>some (z1c e s)
 | .c s agg n =>
  match z1c e s with
  | .pt k [] i c=>match z30 h k with
   | some (.lit s' xs)=>bif Nat.blt s' 1000000 then match xs[i]? with
    | some cs=>match zgx agg n k [] i c cs with | .ok v=>some v | _=>none
    | none=>none
    else none
   | _=>none
  | _=>none
def zx4 (e:TE T.q)(h:TH T.q):List RS->Option (List (VT T))
 | []=>some []
 | r::l=>match rsT e h r,zx4 e h l with | some x,some xs=>some (x::xs) | _,_=>none
def y6v (ts:List RS)(keys:List Nat)(eh:EH T):Option (VT T×TH T.q) :=
 match zx4 eh.1 eh.2 ts,z9e eh.2 (keys.map λk=>(k,k)) with
 | some l,some (ho,_)=>match z3u (keys.map λk=>(k,k)) (match l with | [x]=>x | l=>.tu l) with
  | some r=>bif zu keys then some (r,ho) else none
  | none=>none
 | _,_=>none
theorem ykb {e:TE T.q}{h:TH T.q}{r:RS}{v:VT T}(hr:rsT e h r=some v):zl5 (z8 T.q (z5 T.q h) e) (z5 T.q h) r=some (den T.q (z5 T.q h) v):=by
 cases r with
 | t s=>cases hr;rfl
 | c s agg n =>
  simp only [rsT] at hr;split at hr
  ·rename_i k i c hp;split at hr
   ·rename_i s' xs hg;cases hsm:Nat.blt s' 1000000 with
    | false=>rw [hsm] at hr;cases hr
    | true =>
    rw [hsm] at hr;simp only [cond_true] at hr;split at hr
    ·rename_i cs hcs;split at hr
     ·rename_i w hl;cases hr;have hgr:z6 (z5 T.q h) k=some ⟨s',xs.map (z7 T.q [])⟩:=by rw [z1t,hg];rfl
      have hres:res (z5 T.q h) k []=some (s',xs.map (z7 T.q [])):=zd6 (by unfold z1j;rw [hgr];rfl) (le_of_ble_eq_true hsm);have:=zej (T:=T) (agg:=agg) (n:=n) (k:=k) (i:=i) (c:=c) (p:=[]) (cs:=cs) (v:=v) hres (by simp [hcs]) (by rw [hl];exact rfl);simp only [zl5,zi,ev,z8,hp,den,hres];exact this
     ·cases hr
    ·cases hr
   ·cases hr
  ·cases hr
theorem zv1 {e:TE T.q}{h:TH T.q}:∀ (ts:List RS) (l:List (VT T)),zx4 e h ts=some l->z8y (z8 T.q (z5 T.q h) e) (z5 T.q h) ts=some (z7 T.q (z5 T.q h) l)
 | [],_,h=>by cases h;rfl
 | r::ts,l,hr=>by
  simp only [zx4] at hr;split at hr
  ·rename_i x xs h1 h2;cases hr;simp only [z8y,ykb h1,zv1 ts xs h2,z7]
  ·cases hr
theorem zui:∀ (ks:List Nat) (k:Nat),k∈ks->z36 (ks.map λk=>(k,k)) k=some k
 | [],_,h=>by cases h
 | k'::ks,k,h=>by
  simp only [map_cons,z36];split
  ·rename_i e;rw [e]
  ·rename_i hne;refine zui ks k ?_;rcases mem_cons.1 h with h | h
   ·exact absurd h.symm hne
   ·exact h
theorem zju:∀ (ks:List Nat) (k n:Nat),z1n (ks.map λk=>(k,k)) k=some n->n=k/\k∈ks
 | [],_,_,h=>by cases h
 | k'::ks,k,n,h=>by
  simp only [map_cons,z1n] at h;split at h
  ·rename_i e;cases h;exact ⟨e,by simp [e]⟩
  ·obtain ⟨q1,q2⟩:=zju ks k n h;exact ⟨q1,List.mem_cons_of_mem _ q2⟩
theorem zuy {ts:List RS}{keys:List Nat}{eh:EH T}{r:VT T}{ho hin:TH T.q}(hr:y6v ts keys eh=some (r,ho))(hin':(hin.map Prod.fst).all (λk=>keys.contains k)=true){o:Out}(hno:(match o with | .exit _=>False | .panic _=>False | _=>True)) :
  zvf ts (z5 T.q hin) (den T.q (z5 T.q ho) r) (z5 T.q ho) o (z8 T.q (z5 T.q eh.2) eh.1) (z5 T.q eh.2):=by
 unfold y6v at hr;split at hr
 ·rename_i l ho' left h1 h2;split at hr
  ·rename_i r' hb;cases hn:zu keys with
   | false=>rw [hn] at hr;cases hr
   | true =>
    rw [hn] at hr;cases hr;obtain ⟨s1,s2,s3⟩:=z66 _ _ _ _ h2;have hk1:(keys.map λk=>(k,k)).map Prod.fst=keys:=by rw [map_map];exact map_id' _
    have hk2:(keys.map λk=>(k,k)).map Prod.snd=keys:=by rw [map_map];exact map_id' _
    refine ⟨hno,keys.map λk=>(k,k),_,z5 T.q left,?_,s1,by rw [hk1];exact hn,zal (Ho:=z5 T.q eh.2) (λk n q hkn=>?_) _ _ hb,?_⟩
    ·unfold z81;rw [zv1 _ _ h1];cases l with
     | nil=>rfl
     | cons x l=>cases l<;>rfl
    ·obtain ⟨e1,hk⟩:=zju keys k n hkn;subst e1;have:=s3 n n (by rw [hk1];exact hn) (by rw [hk2];exact hn) (mem_map.2 ⟨n,hk,rfl⟩);unfold zh z1j;rw [this]
    ·rw [z1p,all_eq_true];intro k hk;have:=all_eq_true.1 hin' k hk;rw [zui keys k (by simpa using this)];simp
  ·cases hr
 ·cases hr
noncomputable def zj {X R:Type}(cx:Cx P T)(f:Nat)(ks:List (List Nat))(an:X->An P T pro)(A:List VD)(Hd:List (Nat×List Kd))(Nk:List Nat)(D:Dr)(keys:List Nat)(strong:Bool)
  (encA:X->List (VT T)) (encH:X->TH T.q) (encE:R->EH T) (encR:R->VT T) (encO:R->TH T.q) (t:X->Pt P T pro R)
  (hf:zw8 P f ks=true:=by kernel_rfl)
  (ht:∀ x,evC cx (fnC P f ks) (an x) (znl 0 (encA x)) (encH x) (ynd pro D)=(t x).raw encE:=by intro x;kernel_rfl)
  (hp:∀ x,(encH x).map Prod.fst=pro:=by intro x;kernel_rfl) (hk:pro.all (λk=>keys.contains k)=true:=by kernel_rfl)
  (hr:∀ y,y6v (y5s P f) keys (encE y)=some (encR y,encO y):=by intro y;kernel_rfl)
  (hs:strong=true->∀ y,(zc0 (encR y)&&zb0 (encO y))=true:=by first | (intro h;cases h;done) | (intro _ y;kernel_rfl)):Con P T where
 f:=f
 X:=X
 Y:=R
 A:=A
 H:=Hd
 N:=Nk
 encA:=encA
 encH:=encH
 G:=λx=>(t x).run
 encR:=encR
 encO:=encO
 strong:=strong
 ok:=λx y hx=>by
  have h1:=z2e encE (t x) y hx;rw [<- ht x] at h1;have h2:=z59 _ (an x) _ _ _ _ h1;rw [znm] at h2
  have hG:CallG P f (z7 T.q (z5 T.q (encH x)) (encA x)) (z5 T.q (encH x)) (den T.q (z5 T.q (encO y)) (encR y)) (z5 T.q (encO y)):=by
   refine .of_E (yal hf) ?_;rw [z1p,hp x];obtain ⟨o,E,H0,hex,e,h,rfl,rfl,hK⟩:=h2;cases o with
   | exit id=>exact hK.elim
   | panic u=>exact hK.elim
   | normal =>obtain ⟨eh,q1,q2⟩:=Sat.ofRs _ hK;cases q2;exact ⟨_,_,_,.after hex (z7n q1),zuy (hr y) (by rw [hp x];exact hk) trivial⟩
   | ret =>obtain ⟨eh,q1,q2⟩:=Sat.ofRs _ hK;cases q2;exact ⟨_,_,_,.after hex (z7n q1),zuy (hr y) (by rw [hp x];exact hk) trivial⟩
  refine ⟨λhst=>?_,hG⟩;have:=hs hst y;simp only [and_eq_true] at this;exact CallG.narrow hG (zel _ this.1) (zbz _ this.2)
end
section
variable {El:Nat->Type}{T:TT0}
def gI (k:IntKind):TV El->Option Int
 | .sc (.int k' n)=>if k'=k then some n else none
 | .ik k' n=>if k'=k then some n else none
 | _=>none
def gB:TV El->Option Bool
 | .sc (.bool b)=>some b
 | .bk b=>some b
 | _=>none
def gS:TV El->Option ByteArray
 | .sc (.string b)=>some b
 | _=>none
def gM (t:Nat):TV El->Option (List (El t))
 | .im t' xs=>if h:t'=t then some (h ▸ xs) else none
 | _=>none
def gO (m:Bool)(t:Nat):TV El->Option (List (El t))
 | .ow m' t' xs=>if h:t'=t then (bif m==m' then some (h ▸ xs) else none) else none
 | _=>none
theorem z1x {k:IntKind}{v:TV T.El}{n:Int}{h:H}(hv:gI k v=some n):den T h v = .sc (.int k n):=by
 unfold gI at hv;split at hv
 ·split at hv
  ·rename_i hk;cases hv;subst hk;rfl
  ·cases hv
 ·split at hv
  ·rename_i hk;cases hv;subst hk;rfl
  ·cases hv
 ·cases hv
theorem y9i {v:TV T.El}{b:Bool}{h:H}(hv:gB v=some b):den T h v = .sc (.bool b):=by
 unfold gB at hv;split at hv
 ·cases hv;rfl
 ·cases hv;rfl
 ·cases hv
theorem ymp {v:TV T.El}{b:ByteArray}{h:H}(hv:gS v=some b):den T h v = .sc (.string b):=by
 unfold gS at hv;split at hv
 ·cases hv;rfl
 ·cases hv
theorem z8r {t:Nat}{v:TV T.El}{xs:List (T.El t)}{h:H}(hv:gM t v=some xs):den T h v = .im (T.sz t) (xs.map (T.ca false t)):=by
 unfold gM at hv;split at hv
 ·split at hv
  ·rename_i hk;subst hk;cases hv;rfl
  ·cases hv
 ·cases hv
theorem z7q {m:Bool}{t:Nat}{v:TV T.El}{xs:List (T.El t)}{h:H}(hv:gO m t v=some xs):den T h v = .ow (T.sz t) (xs.map (T.ca m t)):=by
 unfold gO at hv;split at hv
 ·split at hv
  ·rename_i m' _ _ hk;subst hk;cases hm:m==m' with
   | false=>rw [hm] at hv;cases hv
   | true =>
    rw [hm] at hv;cases hv;have:m=m':=by simpa using hm
    subst this;rfl
  ·cases hv
 ·cases hv
theorem z3n {l:List AV}(h:l.all (λa=>!isZ a)=true):∀ a∈l,isZ a=false:=λa ha=>by have:=all_eq_true.1 h a ha;simpa using this
end
end Loom
namespace Loom
attribute [local instance] Dfs.none
open Go
section
variable {P:Program}{N:Nat}
theorem Now.callR {f:Nat}{fn:Func}{code:Code}{ts:List RS}{args:List AV}{r:AV}{hout:H}(h1:P.funcs[f]?=some fn)(h2:fn.body=some code)(h3:fn.ntmps=N)(h4:z3i P fn.results.toList=some ts)(hni:z45 r=true)(hnh:z56 hout=true)
  (hw:∀ (a:Act) (w0:World) (Q:Exit->Act->World->Prop),Now N w0 none (z89 0 args) [] a w0->(∀ e' a' w',z81 e' hout ts=some r->Now N w0 none e' hout a' w'->Q .ret a' w')->code.wp P Q a w0):z1q P f args [] r hout:=by
 intro I σ w vs hh hv;apply calls_of_wp h1 h2
 have R:Rel I N σ (z89 0 args) [] { tmps:=vs.toArray++Array.replicate (fn.ntmps - vs.toArray.size) undef,defers:=[] } w:=by
  refine ⟨hh,?_,λt=>?_,rfl⟩
  ·simp only [Array.size_append,Array.size_replicate,List.size_toArray];omega
  ·have:=zgg (I:=I) (σ:=σ) (B:=bl w) args 0 [] vs (replicate (fn.ntmps - vs.toArray.size) undef) rfl hv t
   have e2:(vs.toArray++Array.replicate (fn.ntmps - vs.toArray.size) undef)=(vs++replicate (fn.ntmps - vs.toArray.size) undef).toArray:=by apply Array.ext';simp
   simp only [e2];simpa [Array.getD_eq_getD_getElem?,List.getD_eq_getElem?_getD] using this
 refine hw _ w _ ⟨⟨I,σ,R,(λx hx=>by cases hx),λb ks hb=>by cases hb⟩,(λb ks hb=>by cases hb),Le.refl w,λ_ _=>rfl⟩ λe' a' w' hr n=>?_;obtain ⟨⟨I',σ',R',hf,-⟩,-,le,old⟩:=n;obtain ⟨u,q1,q2⟩:=z8x R' fn h4 hr;have ls:=le.size
 have hJ:zk (λb=>I' b\/I b) σ' hout w':=R'.heap.wide (λb hb=>.inl hb) (λb hb h=>by
  rcases h with h | h
  ·exact (R'.heap.apart b hb).1 h
  ·have:=hh.low b h;have:=hf b hb;omega) (λb hb=>by
  rcases hb with h | h
  ·exact R'.heap.low b h
  ·have:=hh.low b h;omega)
 exact ⟨R'.defers,u,q1,u,σ',rfl,zk.narrow (λb hb=>.inr hb) hnh hJ,Va.narrow _ _ hni (Va.wide (J:=λb=>I' b\/I b) (λb hb=>.inl hb) _ _ q2),(λk hk=>by cases hk),le,(λb hb _=>old b hb),λb hb=>.inr (hf b hb)⟩
theorem ya7 (w:World)(t e:TypeId)(a:Option Addr)(n c:Nat)(h:P.underlying t=some (.slice e)):(binOp .eql t (.slice a n c) (.slice none 0 0)).run P w = .ok (.bool a.isNone) w:=by
 have key:∀ d,(Op.equalIn (d+1) t (.slice a n c) (.slice none 0 0)).run P w = .ok a.isNone w:=λd=>by cases a<;>simp [Op.equalIn,run_underlying h]
 simp only [binOp];simp [Op.equal,Op.maxDepth,key 9999]
theorem zdp {T:TT}{f:Nat}{fn:Func}{b:Code}{t el ty:Nat}(h1:P.funcs[f]?=some fn)(h2:fn.body=some b)(h3:fn.ntmps=8)(h4:z3i P fn.results.toList=some [.t 2])
  (hb:b = .seq (lf b) (.seq (.seq (.region (rid (lf (lf (rt b)))) (z8l (lf (lf (rt b)))) false) (.cond (.tmp 4) (lf (rt (lf (rt b)))) .skip)) (rt (rt b))))
  (i0:IsC P 8 (lf b) (.reg [0] [⟨2,none,.rd (.mov (.const (.slice none 0 0)))⟩]))
  (hn:range (z8l (lf (lf (rt b)))).size=[0,1])
  (o0:((z8l (lf (lf (rt b))))[0]?).bind (comp P 8 (z8l (lf (lf (rt b)))))=some ⟨3,none,.rd (.mov (.tmp 0))⟩)
  (o1:((z8l (lf (lf (rt b))))[1]?).map (λo=>(o.guard,o.dst,o.op))=some (none,some 4,.binOp .eql t (.tmp 3) (.const (.slice none 0 0)) t))
  (i2:IsC P 8 (lf (rt (lf (rt b)))) (.seq (.reg [2] [⟨2,none,.rd (.mov (.const (.slice none 0 0)))⟩]) .ret))
  {c3:IC} (i3:IsC P 8 (rt (rt b)) c3) (hu:P.underlying t=some (.slice el)) (hpl:T.pl ty=true) (xs:List (T.El ty))
  (hW:W P [] c3 (λo e h=>o = .ret/\e 2 = .sl 100000 [] 0 xs.length/\h=[(100000,⟨T.sz ty,xs.map (T.ca false ty)⟩)]) (z1a [(0,.im (T.sz ty) (xs.map (T.ca false ty)))]) []) (hsm:Nat.blt (T.sz ty) 1000000=true:=by rfl) :
  z1q P f [.im (T.sz ty) (xs.map (T.ca false ty))] [] (.sl 100000 [] 0 xs.length) [(100000,⟨T.sz ty,xs.map (T.ca false ty)⟩)]:=by
 have hni:z56 [(100000,(⟨T.sz ty,xs.map (T.ca false ty)⟩:Row))]=true:=by simp only [z56,List.all_cons,List.all_nil,Bool.and_true];exact z2u (λx=>T.pl_ok ty x hpl) xs
 refine Now.callR (N:=8) (fn:=fn) (ts:=[.t 2]) h1 h2 h3 h4 rfl hni λa w0 Q nw hr=>?_;have fin:∀ e' a' w',e' 2 = .sl 100000 [] 0 xs.length->Now 8 w0 none e' [(100000,⟨T.sz ty,xs.map (T.ca false ty)⟩)] a' w'->Q .ret a' w':=λe' a' w' he n=>hr e' a' w' (by simp only [z81,z8y,zl5,he]) n;rw [hb];refine wp_seq (nw.ex (c:=.reg [0] [⟨2,none,.rd (.mov (.const (.slice none 0 0)))⟩]) (R:=λo e h=>o = .normal/\e=z1a [(0,.im (T.sz ty) (xs.map (T.ca false ty)))]/\h=[]) i0 (W.regG (RG.fin 1 [] (z1a [(0,.im (T.sz ty) (xs.map (T.ca false ty)))]) [] rfl ⟨rfl,rfl,rfl⟩)) ?_);rintro o e h a w ⟨rfl,rfl,rfl⟩ nw;show (Code.seq _ _).wp _ _ _ _;refine wp_seq ?_;refine wp_seq (wp_region ?_);rw [hn];refine nw.rda (d:=3) (b:=.mov (.tmp 0)) (.im (T.sz ty) (xs.map (T.ca false ty))) o0 rfl λa w nw=>?_;obtain ⟨o,ho,hgd,hd,hop⟩:=zk3 o1
 obtain ⟨A,L,c,hv,hxs⟩:∃ (A:Option Addr) (L c:Nat),a.eval (.tmp 3) = .slice A L c/\(A=none->xs=[]):=by
  obtain ⟨⟨I,σ,R,-,-⟩,-,-,-⟩:=nw;have:=R.vals 3;simp only [upd,if_true] at this;obtain ⟨A,c,h5,h6,h7⟩:=this;refine ⟨A,_,c,h5,λhA=>?_⟩;cases xs with
  | nil=>rfl
  | cons x xs =>obtain ⟨A',_,_,_,h8,_⟩:=h7 (by simp);rw [hA] at h8;cases h8
 refine nw.val (v:=.bool A.isNone) ho hgd hd (by decide) (by have hc:a.eval (.const (.slice none 0 0)) = .slice none 0 0:=rfl;simp only [execOp,hop,hv,hc,eqGuard,Sem.run_bind,Sem.run_pure,Result.andThen_ok];simp [ya7 w t el A L c hu]) λa nw=>?_
 have hic:IsC P 8 (.cond (.tmp 4) (lf (rt (lf (rt b)))) .skip) (.cond (.tmp 4) (.seq (.reg [2] [⟨2,none,.rd (.mov (.const (.slice none 0 0)))⟩]) .ret) .skip):=by obtain ⟨ks,ks',hc⟩:=i2;exact ⟨ks,ks',by simp only [z4t,hc]⟩
 cases hA:A.isNone with
 | true =>
  have:xs=[]:=hxs (by simpa using hA);subst this;rw [hA] at nw;have nw:=nw.gh (P:=P) (e1:=z1a [(4,Bl true)]) (h1:=[]) (z9.norm (bm:=[]) (S:=[4]) rfl)
  refine nw.ex (code:=.cond (.tmp 4) (lf (rt (lf (rt b)))) .skip) (c:=.cond (.tmp 4) (.seq (.reg [2] [⟨2,none,.rd (.mov (.const (.slice none 0 0)))⟩]) .ret) .skip)
   (R:=λo e h=>o = .ret/\e 2 = .sl 100000 [] 0 0/\h=[(100000,⟨T.sz ty,[]⟩)]) ?_ (W.condT rfl (W.seq (W.regG (RG.fin 1 [] (z1a [(2,.zs)]) [] rfl ?_)))) ?_
  ·exact hic
  ·refine W.ghost (z9.nil (t:=2) (d:=100000) (s:=T.sz ty) (le_of_ble_eq_true hsm) rfl (by simp) (by simp)) (W.ret ⟨rfl,?_,rfl⟩);simp [upd]
  ·rintro o e h a w ⟨rfl,he,rfl⟩ nw;exact fin _ _ _ he nw
 | false =>
  rw [hA] at nw;have nw:=nw.gh (P:=P) (e1:=z1a [(0,.im (T.sz ty) (xs.map (T.ca false ty))),(4,Bl false)]) (h1:=[]) (z9.norm (bm:=[]) (S:=[0,4]) rfl)
  refine nw.ex (code:=.cond (.tmp 4) (lf (rt (lf (rt b)))) .skip) (c:=.cond (.tmp 4) (.seq (.reg [2] [⟨2,none,.rd (.mov (.const (.slice none 0 0)))⟩]) .ret) .skip)
   (R:=λo e h=>o = .normal/\e=z1a [(0,.im (T.sz ty) (xs.map (T.ca false ty))),(4,Bl false)]/\h=[]) ?_ (W.condF rfl (W.skip ⟨rfl,rfl,rfl⟩)) ?_
  ·exact hic
  ·rintro o e h a w ⟨rfl,rfl,rfl⟩ nw;have nw:=nw.gh (P:=P) (e1:=z1a [(0,.im (T.sz ty) (xs.map (T.ca false ty)))]) (h1:=[]) (z9.norm (bm:=[]) (S:=[0]) rfl);refine nw.ex i3 hW ?_;rintro o e h a w ⟨rfl,he,rfl⟩ nw;exact fin _ _ _ he nw
def ycc:Dr:=⟨[(2,.ref 100000)],[(100000,.any)]⟩
def zcp {T:TT}:Out->TE T.q->TH T.q->Raw P T [] (EH T)
 | .normal,e,h=>Raw.ofRs .leaf (cnv [] ycc e h)
 | _,_,_=>.no
theorem zgi {T:TT}{creg:IC}{cx:Cx P T}{ty:Nat}{xs:List (T.El ty)}(hs:Sat (evC cx creg .no [(0,.im ty xs)] [] zcp) (λeh=>eh=([(2,.sw 100000 [])],[(100000,.typ false ty xs)]))) :
  W P [] (.seq creg .ret) (λo e h=>o = .ret/\e 2 = .sl 100000 [] 0 xs.length/\h=[(100000,⟨T.sz ty,xs.map (T.ca false ty)⟩)]) (z1a [(0,.im (T.sz ty) (xs.map (T.ca false ty)))]) []:=by
 refine W.seq ?_;have h:=z59 (pro:=[]) creg .no [(0,.im ty xs)] [] zcp _ hs
 have e0:z8 T.q (z5 T.q []) [(0,.im ty xs)]=z1a [(0,.im (T.sz ty) (xs.map (T.ca false ty)))]:=by rw [show ([(0,TV.im ty xs)]:TE T.q)=z1v [] 0 (.im ty xs) from rfl,z1f];rfl
 rw [e0] at h;refine W.mono h λo E H0 hk=>?_;obtain ⟨e',h',rfl,rfl,hk⟩:=hk;cases o with
 | normal =>obtain ⟨eh,q1,q2⟩:=Sat.ofRs _ hk;have q2:eh=_:=q2;subst q2;refine W.ghost (z7n q1) (W.ret ⟨rfl,?_,rfl⟩);simp [z8,z1c,den,zh,z1j,z6,zp,z5,za]
 | exit _=>exact hk.elim
 | ret=>exact hk.elim
 | panic _=>exact hk.elim
end
end Loom
