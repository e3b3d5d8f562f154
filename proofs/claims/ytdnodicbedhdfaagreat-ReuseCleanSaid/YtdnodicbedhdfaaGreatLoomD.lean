/- Loom,an abstract machine over the kit's calculus: rows,z12,stores,calls,regions,what they owe;and its evaluator (part 4 of 4). -/
import Derived.Test.YtdnodicbedhdfaaGreatLoomC
set_option linter.unusedVariables false
set_option linter.unusedSimpArgs false
set_option linter.unusedSectionVars false
open Bool (and_eq_true false_eq_true not_eq_true' or_eq_false_iff)
open List (all_eq_true length_map length_take map_append map_congr_left map_cons map_id' map_map map_nil mem_append mem_cons mem_map mem_range perm_iff_count range replicate)
open Nat (eq_of_beq_eq_true le_of_ble_eq_true)
open Option (map_some)
namespace Loom
open Go
section
variable {P:Program}{T:TT}{pro:List Nat}
def y3m:Kd->Bool
 | .no=>false
 | _=>true
def ykf (ks:List Kd)(c:Nat):Bool:=match ks[c]? with | some k=>y3m k | none=>false
def zkz (ks:List Kd)(k:Nat)(k':Nat)(q:Path):Bool:=Nat.beq k' k&&match q with | (_,c)::_=>ykf ks c | []=>false
theorem zwg (ks:List Kd)(k:Nat):z4g (z6c T ks) k=zkz ks k:=by
 funext k' q;unfold z4g zkz;have:(k'==k)=Nat.beq k' k:=by rw [Bool.eq_iff_iff];simp
 rw [this];congr 1;cases q with
 | nil=>rfl
 | cons x q =>
  obtain ⟨i,c⟩:=x;simp only [z6c,ykf];cases ks[c]? with
  | none=>rfl
  | some kd=>cases kd<;>rfl
def zh5:List Kd->List (VT T)->Bool
 | k::ks,v::vs=>(y3m k&&y6b v)||zh5 ks vs
 | _,_=>false
def ze3 (e:TE T.q)(h:TH T.q)(k:Nat)(ks:List Kd):Option (TE T.q×TH T.q) :=
 match z2z h k with
 | some (.lit s xs)=>bif xs.any (zh5 ks) then (bif ks.all (smK T.sz) then some (z5y (zkz ks k) (λ_ _=>false) e,(k,.lit s (xs.map (zft ks)))::z11 h k) else none) else some (e,h)
 | some _=>some (e,h)
 | none=>none
theorem zi4 {e e1:TE T.q}{h h1:TH T.q}{k:Nat}{ks:List Kd}(hf:ze3 e h k ks=some (e1,h1)) :
  z8 P pro (z7 T.q (z4 T.q h) e) (z4 T.q h) (z7 T.q (z4 T.q h1) e1) (z4 T.q h1):=by
 unfold ze3 at hf;split at hf
 ·rename_i s xs hr;cases hb:xs.any (zh5 ks) with
  | false=>rw [hb] at hf;cases hf;exact z8.rfl'
  | true =>
   rw [hb] at hf;simp only [cond_true] at hf;cases hsm:ks.all (smK T.sz) with
   | false=>rw [hsm] at hf;cases hf
   | true =>
   rw [hsm] at hf;cases hf;have hgr:z5 (z4 T.q h) k=some ⟨s,xs.map (z6 T.q [])⟩:=by rw [z1s,hr];rfl
   have hrow:(xs.map (zft ks)).map (z6 T.q [])=(xs.map (z6 T.q [])).map (z25 (z6c T ks) 0):=by rw [map_map,map_map];exact map_congr_left λx _=>by simpa using zcz (T:=T) (h:=[]) ks x 0
   refine z8.trans (z8.fix (z6c T ks) (zdc ks hsm) hgr) ?_;simp only [z4,zo7,hrow,<- zz];refine z8.le λt=>?_;simp only [z1c,z7,z39,zwg];refine z7h (λ_ _ h=>h) (λk' q _ _=>?_) _;by_cases hk:k'=k
   ·subst hk;rw [z3b (r:=⟨s,(xs.map (z6 T.q [])).map (z25 (z6c T ks) 0)⟩) (by simp [z5]),z3b hgr];exact zp1 (zdc ks hsm) q
   ·exact z1e (by simp only [z5];rw [if_neg (λe=>hk e.symm),z1a hk])
 ·cases hf;exact z8.rfl'
 ·cases hf
def ze4 (e:TE T.q)(h:TH T.q):List (Nat×List Kd)->Option (TE T.q×TH T.q)
 | []=>some (e,h)
 | (k,ks)::l=>match ze3 e h k ks with | some (e,h)=>ze4 e h l | none=>none
theorem ze5:∀ (l:List (Nat×List Kd)) (e e1:TE T.q) (h h1:TH T.q),ze4 e h l=some (e1,h1) ->
  z8 P pro (z7 T.q (z4 T.q h) e) (z4 T.q h) (z7 T.q (z4 T.q h1) e1) (z4 T.q h1)
 | [],_,_,_,_,hf=>by cases hf;exact z8.rfl'
 | (k,ks)::l,e,e1,h,h1,hf=>by
  unfold ze4 at hf;split at hf
  ·rename_i e2 h2 h3;exact (zi4 h3).trans (ze5 l _ _ _ _ hf)
  ·cases hf
def z72 (P:Program)(e:TE T.q):IK->Option (Nat×List (VT T))
 | .call f l=>some (f,l.map (evT e))
 | .callv x l=>match evT e x with | .fn f caps=>bif zci P f then some (f,l.map (evT e)++caps) else none | _=>none
 | _=>none
theorem zhi {e:TE T.q}{H0:H}{op:IK}{f d:Nat}{vs:List (VT T)}(ha:z72 P e op=some (f,vs)){e':Env}{h':H}(hc:zal P pro (z7 T.q H0 e) H0 d f (z6 T.q H0 vs) e' h'):z2l P pro (z7 T.q H0 e) H0 d op e' h':=by
 unfold z72 at ha;split at ha
 ·rename_i f l;cases ha;refine .call ?_;rw [zp,map_map] at hc;have:l.map (ev (z7 T.q H0 e))=l.map (den T.q H0 ∘ evT e):=map_congr_left λx _=>ze x;rw [this];exact hc
 ·rename_i x l;split at ha
  ·rename_i f caps hx;cases hf:zci P f with
   | false=>rw [hf] at ha;cases ha
   | true =>
    rw [hf] at ha;cases ha;refine .callv (f:=f) (caps:=z6 T.q H0 caps) (by rw [ze,hx];rfl) hf ?_
    have:l.map (ev (z7 T.q H0 e))++z6 T.q H0 caps=z6 T.q H0 (l.map (evT e)++caps):=by rw [zp,zp,map_append,map_map];congr 1;exact map_congr_left λx _=>ze x
    rw [this];exact hc
  ·cases ha
 ·cases ha
def ze0 (f:Nat)(args:List (VT T)):List (Con P T)->Option (Con P T×List (Nat×Nat))
 | []=>none
 | C::cs=>bif Nat.beq C.f f then match zko C.A args with | some m=>some (C,m) | none=>ze0 f args cs else ze0 f args cs
theorem zas {f:Nat}{args:List (VT T)}{C:Con P T}{m:List (Nat×Nat)}:∀ (cs:List (Con P T)),ze0 f args cs=some (C,m)->C.f=f
 | [],h=>by cases h
 | C'::cs,h=>by
  unfold ze0 at h;cases hb:Nat.beq C'.f f with
  | true =>
   rw [hb,cond_true] at h;split at h
   ·cases h;exact eq_of_beq_eq_true hb
   ·exact zas cs h
  | false =>rw [hb,cond_false] at h;exact zas cs h
structure Pre (T:TT) where
 m:List (Nat×Nat)
 args:List (VT T)
 hin:TH T.q
 rest:TH T.q
 bor:Bool
def zl9 (C:Con P T)(m:List (Nat×Nat))(args:List (VT T))(h:TH T.q):Rs (Pre T) :=
 bif zt (m.map Prod.fst)&&zt (m.map Prod.snd) then
  match z9g h m with
  | none=>.no
  | some (hin,rest)=>(zcu rest m C.A args).bind λargs'=>.ok ⟨m,args',hin,rest,z3f args⟩
 else .no
def zv0 (d:Nat):List Nat->Nat->List (Nat×Nat)
 | [],_=>[]
 | k::ks,j=>(1000000+d * 100+j,k)::zv0 d ks (j+1)
def znw (m:List (Nat×Nat))(d:Nat)(N:List Nat):List (Nat×Nat):=(m.map λx=>(x.2,x.1))++(match N with | [k]=>[(d,k)] | N=>zv0 d N 0)
def yo8 (m bm:List (Nat×Nat))(k:Nat)(q:Path):Bool:=(bm.map Prod.fst).contains k&&!((m.map Prod.snd).contains k&&q.isEmpty)
def znh (pro:List Nat)(p:Pre T)(N:List Nat)(e:TE T.q)(d:Nat)(r:VT T)(ho:TH T.q):Option (TE T.q×TH T.q) :=
 let bm:=znw p.m d N
 bif zt (bm.map Prod.fst)&&zt (bm.map Prod.snd)&&zd7 p.m bm&&zh8 pro p.m bm&&(!p.bor||(zc3 r&&zb3 ho)) then
  match z9g ho bm,z3t bm r with
  | some (hb,_),some v=>some (z1u (z5y (yo8 p.m bm) (λk _=>(p.m.map Prod.snd).contains k) e) d v,hb++z2r p.rest (bm.map Prod.fst))
  | _,_=>none
 else none
theorem z92:∀ (m:List (Nat×Nat)) (h hs rest:H),z28 h m=some (hs,rest)->hs.map Prod.fst=m.map Prod.fst
 | [],h,_,_,hh=>by cases hh;rfl
 | (n,o)::m,h,_,_,hh=>by
  unfold z28 at hh;split at hh
  ·split at hh
   ·rename_i hs rest h2;cases hh;simp [z92 m _ _ _ h2]
   ·cases hh
  ·cases hh
theorem z8v:∀ (h:H) (k:Nat),k∉h.map Prod.fst->z5 h k=none
 | [],_,_=>rfl
 | (k',r)::h,k,hk=>by simp only [map_cons,mem_cons,not_or] at hk;simp only [z5];rw [if_neg (λe=>hk.1 e.symm),z8v h k hk.2]
theorem z8w:∀ (h:H) (k:Nat),k∈h.map Prod.fst->∃ r,z5 h k=some r
 | (k',r)::h,k,hk=>by
  simp only [z5];by_cases e:k'=k
  ·exact ⟨r,by rw [if_pos e]⟩
  ·rw [if_neg e];refine z8w h k ?_;simp only [map_cons,mem_cons] at hk;exact hk.resolve_left (λh=>e h.symm)
theorem z7y:∀ (m:List (Nat×Nat)) {k n:Nat},z1m m k=some n->(n,k)∈m
 | [],_,_,h=>by cases h
 | (a,b)::m,k,n,h=>by
  simp only [z1m] at h;split at h
  ·rename_i hb;cases h;subst hb;simp
  ·exact List.mem_cons_of_mem _ (z7y m h)
theorem CallG.le {f:Nat}{args args':List AV}{hin hout:H}{r:AV}(hl:z2k args args')(hc:CallG P f args' hin r hout):CallG P f args hin r hout:=λI σ w vs hh hv=>hc I σ w vs hh (hl.L I σ (bl w) vs hv)
theorem z1p.le {f:Nat}{args args':List AV}{hin hout:H}{r:AV}(hl:z2k args args')(hc:z1p P f args' hin r hout):z1p P f args hin r hout:=λI σ w vs hh hv=>hc I σ w vs hh (hl.L I σ (bl w) vs hv)
theorem zrj {C:Con P T}{m:List (Nat×Nat)}{args:List (VT T)}{e e1:TE T.q}{h h1:TH T.q}{p:Pre T}{d:Nat}{N:List Nat}{x:C.X}{y:C.Y}(hp:(zl9 C m args h).gives p)
  (h1':C.encA x=p.args) (h2:C.encH x=p.hin) (hok:CallG P C.f (z6 T.q (z4 T.q (C.encH x)) (C.encA x)) (z4 T.q (C.encH x)) (den T.q (z4 T.q (C.encO y)) (C.encR y)) (z4 T.q (C.encO y))) (h4:znh pro p N e d (C.encR y) (C.encO y)=some (e1,h1)) :
  ∃ e0,zal P pro (z7 T.q (z4 T.q h) e) (z4 T.q h) d C.f (z6 T.q (z4 T.q h) args) e0 (z4 T.q h1)/\z8 P pro e0 (z4 T.q h1) (z7 T.q (z4 T.q h1) e1) (z4 T.q h1):=by
 unfold zl9 at hp;obtain ⟨hk,hp⟩:=zn hp;simp only [and_eq_true] at hk;split at hp
 ·exact hp.elim
 ·rename_i hin rest hsp;obtain ⟨args',hcv,hp⟩:=Rs.bind_gives _ hp;cases hp;obtain ⟨s1,s2,s3⟩:=z6b m h hin rest hsp;obtain ⟨l,q1,q2⟩:=z7f (Hn:=z4 T.q hin) (bor:=z3f args) s2 C.A args args' hcv (λh=>h);unfold znh at h4;dsimp only at h4 h1' h2;generalize hbm:znw m d N=bm at h4;cases hb:(zt (bm.map Prod.fst)&&zt (bm.map Prod.snd)&&zd7 m bm&&zh8 pro m bm&&(!z3f args||(zc3 (C.encR y)&&zb3 (C.encO y)))) with
  | false=>rw [hb] at h4;cases h4
  | true =>
   rw [hb,cond_true] at h4;simp only [and_eq_true] at hb;obtain ⟨⟨⟨⟨b1,b2⟩,b3⟩,b4⟩,b5⟩:=hb;split at h4
   ·rename_i hb' left v hsb hbk;cases h4;obtain ⟨t1,t2,t3⟩:=z6b bm (C.encO y) hb' left hsb;have hkeys:=z92 _ _ _ _ t1
    have hheap:z4 T.q (hb'++z2r rest (bm.map Prod.fst))=z4 T.q hb'++z1q (z4 T.q rest) (bm.map Prod.fst):=by rw [z2h,z5x]
    have hsub:∀ k,(m.map Prod.snd).contains k=true->(bm.map Prod.fst).contains k=true:=by intro k hk;simp only [List.contains_eq_mem,decide_eq_true_eq] at hk ⊢;rw [<- hbm];obtain ⟨x,hx,rfl⟩:=mem_map.1 hk;unfold znw;rw [map_append,mem_append];left;rw [map_map];exact mem_map.2 ⟨x,hx,rfl⟩
    rw [h1',h2] at hok
    have hbl:∀ k n q,z1m bm k=some n->zh (z4 T.q (hb'++z2r rest (bm.map Prod.fst))) n q=zh (z4 T.q (C.encO y)) k q:=by
     intro k n q hkn;have hm:=z7y bm hkn;have hg:=t3 n k b1 b2 hm;have hn:n∈(z4 T.q hb').map Prod.fst:=by rw [hkeys];exact mem_map.2 ⟨_,hm,rfl⟩
     obtain ⟨r,hr⟩:=z8w _ _ hn
     have:z5 (z4 T.q (hb'++z2r rest (bm.map Prod.fst))) n=z5 (z4 T.q (C.encO y)) k:=by rw [hheap,z3a,hr,<- hg,hr]
     unfold zh z1j;rw [this]
    refine ⟨upd (z1c (z7e m bm) (z7 T.q (z4 T.q h) e)) d (den T.q (z4 T.q (hb'++z2r rest (bm.map Prod.fst))) v),⟨⟨m,bm,z3f args,z4 T.q hin,z4 T.q rest,_,z4 T.q hb',z4 T.q left,l,_,_,s1,z10 _ hk.1,q1,CallG.le q2 hok,t1,z10 _ b1,b3,b4,zao hbl _ _ hbk,λhb=>?_,rfl,hheap⟩⟩,?_⟩
    ·rw [hb] at b5;simp only [Bool.not_true,Bool.false_or,and_eq_true] at b5;exact ⟨zeo _ b5.1,zc2 _ b5.2⟩
    ·refine z8.le λt=>?_;rw [z1d];refine za.upd (λt=>?_) (za.refl _) t;simp only [z1c,z7,z39];refine z7h (λk q hq=>hq) (λk q hq hw=>?_) _;have hm:(m.map Prod.snd).contains k=false:=hw
     have hbk:(bm.map Prod.fst).contains k=false:=by have hq':z7e m bm k q=false:=hq;unfold z7e at hq';rw [hm] at hq';simpa using hq'
     refine z1e ?_
     rw [hheap,z3a,z8v _ _ (by
      rw [hkeys];intro hmem;have:(bm.map Prod.fst).contains k=true:=by simpa using hmem
      rw [this] at hbk;cases hbk)]
     simp only;rw [z8i _ _ _ hbk,s2 k hm]
   ·cases h4
def ziz {L:Type}(P:Program)(pro:List Nat)(cs:List (Con P T))(e:TE T.q)(h:TH T.q)(d:Nat)(op:IK)(K:TE T.q->TH T.q->Raw P T pro L):Raw P T pro L :=
 match z72 P e op with
 | none=>.no
 | some (f,args) =>
 match ze0 f args cs with
 | none=>.no
 | some (C,m) =>
 match ze4 e h (m.map λx=>(x.2,(C.H.find? λy=>Nat.beq y.1 x.1).elim [] Prod.snd)) with
 | none=>.no
 | some (e1,h1) =>
 match z72 P e1 op with
 | none=>.no
 | some (f1,args1)=>bif Nat.beq f1 f then
  Raw.ofRs (λp=>.call C p.args p.hin λy=>match znh pro p C.N e1 d (C.encR y) (C.encO y) with | some (e2,h2)=>K e2 h2 | none=>.no) (zl9 C m args1 h1)
  else .no
theorem zwf {e e1:TE T.q}{h h1:TH T.q}{k:Nat}{ks:List Kd}(hf:ze3 e h k ks=some (e1,h1)):∀ t b,z7 T.q (z4 T.q h) e t=Bl b->z7 T.q (z4 T.q h1) e1 t=Bl b:=by
 unfold ze3 at hf;split at hf
 ·rename_i s xs hr;cases hb:xs.any (zh5 ks) with
  | false=>rw [hb] at hf;cases hf;exact λ_ _ h=>h
  | true =>
   rw [hb] at hf;simp only [cond_true] at hf;cases hsm:ks.all (smK T.sz) with
   | false=>rw [hsm] at hf;cases hf
   | true =>
   rw [hsm] at hf;cases hf;intro t b ht;simp only [z7,z39] at ht ⊢;cases hv:z1b e t<;>rw [hv] at ht<;>first | (rename_i q;cases q<;>cases ht;done) | (simp [den] at ht<;>simp [z2o,den,ht])
 ·cases hf;exact λ_ _ h=>h
 ·cases hf
theorem z9x:∀ (l:List (Nat×List Kd)) (e e1:TE T.q) (h h1:TH T.q),ze4 e h l=some (e1,h1)->∀ t b,z7 T.q (z4 T.q h) e t=Bl b->z7 T.q (z4 T.q h1) e1 t=Bl b
 | [],_,_,_,_,hf=>by cases hf;exact λ_ _ h=>h
 | (k,ks)::l,e,e1,h,h1,hf=>by
  unfold ze4 at hf;split at hf
  ·rename_i e2 h2 h3;exact λt b ht=>z9x l _ _ _ _ hf t b (zwf h3 t b ht)
  ·cases hf
theorem zlp {L:Type}{cs:List (Con P T)}{e:TE T.q}{h:TH T.q}{d:Nat}{op:IK}{K:TE T.q->TH T.q->Raw P T pro L}{Q:L->Prop}(hs:Sat (ziz P pro cs e h d op K) Q) :
  ∃ e0 h0 e1 e2 h2,z8 P pro (z7 T.q (z4 T.q h) e) (z4 T.q h) e0 h0/\z2l P pro e0 h0 d op e1 (z4 T.q h2)/\z8 P pro e1 (z4 T.q h2) (z7 T.q (z4 T.q h2) e2) (z4 T.q h2)/\Sat (K e2 h2) Q /\
   ∀ t b,z7 T.q (z4 T.q h) e t=Bl b->e0 t=Bl b:=by
 unfold ziz at hs;split at hs
 ·exact hs.elim
 ·rename_i f args ha;split at hs
  ·exact hs.elim
  ·rename_i C m hf;split at hs
   ·exact hs.elim
   ·rename_i e1 h1 hfx;split at hs
    ·exact hs.elim
    ·rename_i f1 args1 ha1;cases hb:Nat.beq f1 f with
     | false=>rw [hb] at hs;exact hs.elim
     | true =>
      rw [hb,cond_true] at hs;have hb:=eq_of_beq_eq_true hb;obtain ⟨p,hp,x,y,q1,q2,q3,q4⟩:=Sat.ofRs _ hs;dsimp only at q4;split at q4
      ·rename_i e2 h2 hpost;obtain ⟨e0,c1,c2⟩:=zrj hp q1 q2 (C.ok x y q3).2 hpost;have hCf:C.f=f1:=(zas cs hf).trans hb.symm;rw [hCf] at c1;exact ⟨_,_,e0,e2,h2,ze5 _ _ _ _ _ hfx,zhi ha1 c1,c2,q4,z9x _ _ _ _ _ hfx⟩
      ·exact q4.elim
theorem z9p.le {f:Nat}{args args':List AV}{hin:H}{u:Value}(hl:z2k args args')(hc:z9p P f args' hin u):z9p P f args hin u:=λI σ w vs hh hv=>hc I σ w vs hh (hl.L I σ (bl w) vs hv)
theorem y54 {C:Con P T}{m:List (Nat×Nat)}{args:List (VT T)}{h:TH T.q}{p:Pre T}{x:C.X}{z:C.V}(hp:(zl9 C m args h).gives p)
  (h1':C.encA x=p.args) (h2:C.encH x=p.hin) (h3:C.FX x=some (.inr z)) :
  ∃ hin bor args',z28 (z4 T.q h) m=some (hin,z4 T.q p.rest)/\(m.map Prod.fst).Nodup/\z2a (z4 T.q p.rest) m bor (z6 T.q (z4 T.q h) args)=some args'/\z9p P C.f args' hin (C.encV z):=by
 unfold zl9 at hp;obtain ⟨hk,hp⟩:=zn hp;simp only [and_eq_true] at hk;split at hp
 ·exact hp.elim
 ·rename_i hin rest hsp;obtain ⟨args',hcv,hp⟩:=Rs.bind_gives _ hp;cases hp;obtain ⟨s1,s2,s3⟩:=z6b m h hin rest hsp;obtain ⟨l,q1,q2⟩:=z7f (Hn:=z4 T.q hin) (bor:=z3f args) s2 C.A args args' hcv (λh=>h);dsimp only at h1' h2;have hok:z9p _ _ _ _ _:=C.okX x _ h3;rw [h1',h2] at hok;exact ⟨_,_,l,s1,z10 _ hk.1,q1,z9p.le q2 hok⟩
def y71:VT T->VT T
 | .pt k p i c=>.pt k p i c
 | _=>.un
def ptT:TE T.q->TE T.q
 | []=>[]
 | (k,v)::l=>(k,y71 v)::ptT l
theorem zum:∀ (e:TE T.q) (t:Nat),z1b (ptT e) t=y71 (z1b e t)
 | [],_=>rfl
 | (k,v)::l,t=>by
  simp only [ptT,z1b];cases Nat.beq t k
  ·simpa using zum l t
  ·rfl
theorem y41 {H0 H1:H}(e:TE T.q)(t:Nat):za (ptE (z7 T.q H0 e) t) (z7 T.q H1 (ptT e) t):=by
 simp only [z7,zum];cases hv:z1b e t<;>first | exact za.un _ | skip
 simp only [y71,ptE,z7,hv,den];exact za.refl _
def zo0 {L:Type}(P:Program)(pro:List Nat)(cs:List (Con P T))(e:TE T.q)(h:TH T.q)(d:Nat)(f:Nat)(l:List Operand)(K:TE T.q->TH T.q->Raw P T pro L)(KX:Value->TE T.q->TH T.q->Raw P T pro L):Raw P T pro L :=
 match ze0 f (l.map (evT e)) cs with
 | none=>.no
 | some (C,m)=>bif C.x then
  match ze4 e h (m.map λx=>(x.2,(C.H.find? λy=>Nat.beq y.1 x.1).elim [] Prod.snd)) with
  | none=>.no
  | some (e1,h1) =>
   Raw.ofRs (λp=>.callX C p.args p.hin (λy=>match znh pro p C.N e1 d (C.encR y) (C.encO y) with | some (e2,h2)=>K e2 h2 | none=>.no) (λz=>KX (C.encV z) (ptT e1) p.rest)) (zl9 C m (l.map (evT e1)) h1)
  else ziz P pro cs e h d (.call f l) K
theorem zxz {L:Type}{cs:List (Con P T)}{e:TE T.q}{h:TH T.q}{d f:Nat}{l:List Operand}{K:TE T.q->TH T.q->Raw P T pro L}{KX:Value->TE T.q->TH T.q->Raw P T pro L}{Q:L->Prop}(hs:Sat (zo0 P pro cs e h d f l K KX) Q) :
  (∃ e0 h0 e1 e2 h2,z8 P pro (z7 T.q (z4 T.q h) e) (z4 T.q h) e0 h0/\z2l P pro e0 h0 d (.call f l) e1 (z4 T.q h2)/\z8 P pro e1 (z4 T.q h2) (z7 T.q (z4 T.q h2) e2) (z4 T.q h2)/\Sat (K e2 h2) Q /\
   ∀ t b,z7 T.q (z4 T.q h) e t=Bl b->e0 t=Bl b) \/
  (∃ e0 h0 u ex hx,z8 P pro (z7 T.q (z4 T.q h) e) (z4 T.q h) e0 h0/\(∀ t b,z7 T.q (z4 T.q h) e t=Bl b->e0 t=Bl b)/\z7o P e0 h0 (.call f l) u (z4 T.q hx)/\(∀ t,za (ptE e0 t) (z7 T.q (z4 T.q hx) ex t))/\Sat (KX u ex hx) Q):=by
 unfold zo0 at hs;split at hs
 ·exact hs.elim
 ·rename_i C m hf;cases hx:C.x with
  | false =>rw [hx,cond_false] at hs;exact .inl (zlp hs)
  | true =>
   rw [hx,cond_true] at hs;split at hs
   ·exact hs.elim
   ·rename_i e1 h1 hfx;obtain ⟨p,hp,x,r,q1,q2,q3,q4⟩:=Sat.ofRs _ hs;have hCf:C.f=f:=zas cs hf;cases r with
    | inl y =>
     left;dsimp only [y7g] at q4;split at q4
     ·rename_i e2 h2 hpost;obtain ⟨e0,c1,c2⟩:=zrj hp q1 q2 (C.okX x _ q3) hpost;rw [hCf] at c1;exact ⟨_,_,e0,e2,h2,ze5 _ _ _ _ _ hfx,zhi (op:=.call f l) rfl c1,c2,q4,z9x _ _ _ _ _ hfx⟩
     ·exact q4.elim
    | inr z =>right;obtain ⟨hin,bor,args',c1,c2,c3,c4⟩:=y54 hp q1 q2 q3;rw [hCf] at c4;refine ⟨_,_,C.encV z,ptT e1,p.rest,ze5 _ _ _ _ _ hfx,z9x _ _ _ _ _ hfx,.call (bor:=bor) c1 c2 ?_ c4,y41 e1,q4⟩;rw [zp,map_map] at c3;have:l.map (ev (z7 T.q (z4 T.q h1) e1))=l.map (den T.q (z4 T.q h1) ∘ evT e1):=map_congr_left λx _=>ze x;rw [this];exact c3
end
section
variable {P:Program}{T:TT}{pro:List Nat}
def zw6 (e:TE T.q)(h:TH T.q)(t:Nat):Rs (TE T.q×TH T.q) :=
 match z1b e t with
 | .sl k [] 0 n =>
  match z2z h k with
  | some (.typ m' t' xs)=>bif Nat.blt (T.sz t') 1000000 then .need (n<=xs.length) (.ok (z1u (z5y (λ_ _=>false) (λk' _=>Nat.beq k' k) e) t (.sw k []),(k,.typ m' t' (xs.take n))::z11 h k)) else .no
  | _=>.no
 | _=>.ok (e,h)
theorem zrl {e e1:TE T.q}{h h1:TH T.q}{t:Nat}(hg:(zw6 e h t).gives (e1,h1)) :
  z8 P pro (z7 T.q (z4 T.q h) e) (z4 T.q h) (z7 T.q (z4 T.q h1) e1) (z4 T.q h1)/\∀ u b,z7 T.q (z4 T.q h) e u=Bl b->z7 T.q (z4 T.q h1) e1 u=Bl b:=by
 unfold zw6 at hg;split at hg
 ·rename_i k n hz;split at hg
  ·rename_i m' t' xs hr;obtain ⟨hsm,hc,hg⟩:=zn hg;cases hg;have hgr:z5 (z4 T.q h) k=some ⟨T.sz t',xs.map (T.ca m' t')⟩:=by rw [z1s,hr];rfl
   have h1:=z8.take (P:=P) (pro:=pro) (e:=z7 T.q (z4 T.q h) e) n hgr (le_of_ble_eq_true hsm)
   have hh:z4 T.q ((k,.typ m' t' (xs.take n))::z11 h k)=(k,⟨T.sz t',(xs.map (T.ca m' t')).take n⟩)::zb (z4 T.q h) k:=by simp only [z4,z9,List.map_take,zz]
   rw [hh];refine ⟨h1.trans (z8.le λu=>?_),λu b hu=>?_⟩
   ·rw [z1d];unfold upd;split
    ·rename_i hu;subst hu
     have:zh ((k,⟨T.sz t',(xs.map (T.ca m' t')).take n⟩)::zb (z4 T.q h) k) k []=n:=by simp only [zh,z1j,z5,if_true,zo,length_take,length_map];omega
     simp only [z7,hz,den,this];exact za.refl _
    ·simp only [z7,z39]
     have:=z7h (T:=T) (H0:=z4 T.q h) (H1:=(k,⟨T.sz t',(xs.map (T.ca m' t')).take n⟩)::zb (z4 T.q h) k) (b1:=λ_ _=>false) (bad:=λ_ _=>false) (bw:=λk' _=>Nat.beq k' k) (λ_ _ h=>h) (λk' p _ hk=>z1e (by simp only [z1h,decide_eq_false_iff_not] at hk;simp only [z5];rw [if_neg (λe=>hk e.symm),z1a hk])) (z1b e u)
     rwa [zk4] at this
   ·rw [z1d];unfold upd;split
    ·rename_i ht;subst ht;simp only [z7,hz,den] at hu;cases hu
    ·simp only [z7,z39] at hu ⊢;cases hv:z1b e u<;>rw [hv] at hu<;>first | (rename_i q;cases q<;>cases hu;done) | (simp [den] at hu<;>simp [z2o,den,hu])
  ·exact hg.elim
 ·cases hg;exact ⟨z8.rfl',λ_ _ h=>h⟩
def cuT (pro:List Nat)(j:Nat)(e:TE T.q)(h:TH T.q)(v:Operand):Rs (TE T.q×TH T.q) :=
 match v with
 | .tmp t =>
  match z1b e t with
  | .sl k [(i,c)] 0 _=>match zj6 pro h j k i c with
   | some h1=>zw6 (z8z k i c j e) h1 t
   | none=>.no
  | _=>zw6 e h t
 | _=>.ok (e,h)
theorem ycz {e e1:TE T.q}{h h1:TH T.q}{j:Nat}{v:Operand}(hg:(cuT pro j e h v).gives (e1,h1)) :
  z8 P pro (z7 T.q (z4 T.q h) e) (z4 T.q h) (z7 T.q (z4 T.q h1) e1) (z4 T.q h1)/\∀ u b,z7 T.q (z4 T.q h) e u=Bl b->z7 T.q (z4 T.q h1) e1 u=Bl b:=by
 unfold cuT at hg;split at hg
 ·split at hg
  ·split at hg
   ·rename_i h2 hd;obtain ⟨q1,q2⟩:=zrl (P:=P) (pro:=pro) hg;exact ⟨(zhz hd).trans q1,λu b hu=>q2 u b (zg6 hu)⟩
   ·exact hg.elim
  ·exact zrl hg
 ·cases hg;exact ⟨z8.rfl',λ_ _ h=>h⟩
def y5b (pro:List Nat)(j:Nat)(e:TE T.q)(h:TH T.q)(v:Operand):Option (TE T.q×TH T.q) :=
 match v with
 | .tmp t=>match z1b e t with
  | .sl k [(i,c)] _ _=>match zj6 pro h j k i c with
   | some h1=>some (z8z k i c j e,h1)
   | none=>none
  | _=>some (e,h)
 | _=>some (e,h)
theorem yaj {e e1:TE T.q}{h h1:TH T.q}{j:Nat}{v:Operand}(hg:y5b pro j e h v=some (e1,h1)) :
  z8 P pro (z7 T.q (z4 T.q h) e) (z4 T.q h) (z7 T.q (z4 T.q h1) e1) (z4 T.q h1)/\∀ u b,z7 T.q (z4 T.q h) e u=Bl b->z7 T.q (z4 T.q h1) e1 u=Bl b:=by
 unfold y5b at hg;split at hg
 ·split at hg
  ·split at hg
   ·rename_i h2 hd;simp only [Option.some.injEq,Prod.mk.injEq] at hg;obtain ⟨rfl,rfl⟩:=hg;exact ⟨zhz hd,λu b hu=>zg6 hu⟩
   ·cases hg
  ·simp only [Option.some.injEq,Prod.mk.injEq] at hg;obtain ⟨rfl,rfl⟩:=hg;exact ⟨z8.rfl',λ_ _ h=>h⟩
 ·simp only [Option.some.injEq,Prod.mk.injEq] at hg;obtain ⟨rfl,rfl⟩:=hg;exact ⟨z8.rfl',λ_ _ h=>h⟩
end
section
variable {I J:Nat->Prop}{σ:Pl}{B:zm}{w:World}{h:H}{sel:Nat->Bool}{k:Nat}
theorem Im.ceFz {p:Path}{i c:Nat}:∀ (a:AV) (v:Value),Im J B (toIm a) v->Ce J σ B k p i c (toIm a) v
 | .ow s xs,v,h=>by
  simp only [toIm] at h ⊢;split at h
  ·rename_i hm;rw [if_pos hm];exact h
  ·rename_i hm;rw [if_neg hm];exact h
 | .sc _,_,h=>h
 | .zs,_,h=>h
 | .un,_,h=>h
 | .im _ _,_,h=>h
 | .ag _,_,h=>h.elim
 | .tu _,_,h=>h.elim
 | .ip _ _ _ _,_,h=>h.elim
 | .sl _ _ _ _,_,h=>h.elim
 | .pt _ _ _ _,_,h=>h.elim
 | .fn _ _,_,h=>h.elim
def frC (sel:Nat->Bool):Nat->List AV->List AV
 | _,[]=>[]
 | c,a::as=>(bif sel c then toIm a else a)::frC sel (c+1) as
def gpC (σ:Pl)(k:Nat)(p:Path)(i:Nat)(sel:Nat->Bool):Nat->List AV->List Nat
 | _,[]=>[]
 | c,a::as=>(bif sel c then fpA σ k p i c a else [])++gpC σ k p i sel (c+1) as
def gpE (σ:Pl)(k:Nat)(p:Path)(sel:Nat->Bool):Nat->Els->List Nat
 | _,[]=>[]
 | i,x::xs=>gpC σ k p i sel 0 x++gpE σ k p sel (i+1) xs
theorem zrs:∀ (l:List AV) (c:Nat),(frC sel c l).length=l.length
 | [],_=>rfl
 | a::as,c=>by simp [frC,zrs as (c+1)]
theorem zrr:∀ (l:List AV) (c j:Nat),(frC sel c l)[j]?=(l[j]?).map λa=>bif sel (c+j) then toIm a else a
 | [],_,_=>by simp [frC]
 | a::as,c,0=>by simp [frC]
 | a::as,c,j+1=>by simp only [frC,List.getElem?_cons_succ];rw [zrr as (c+1) j,show c+1+j=c+(j+1) by omega]
theorem y63 {p:Path}{i c:Nat}(a:AV):fpA σ k p i c (toIm a)=[]/\(bif true then toIm a else a)=toIm a:=by
 cases a
 case ow s xs=>simp only [toIm];split<;>exact ⟨rfl,rfl⟩
 all_goals exact ⟨rfl,rfl⟩
theorem zyn {p:Path}{i:Nat}:∀ (l:List AV) (c:Nat),(fpC σ k p i c l).Perm (fpC σ k p i c (frC sel c l)++gpC σ k p i sel c l)
 | [],c=>by simp [fpC,frC,gpC]
 | a::as,c=>by have ih:=perm_iff_count.1 (zyn (p:=p) (i:=i) as (c+1));refine perm_iff_count.2 λx=>?_;have:=ih x;simp only [fpC,frC,gpC,List.count_append] at this ⊢;cases sel c with | true=>simp only [cond_true,(y63 a).1,List.count_nil];omega | false=>simp only [cond_false,List.count_nil];omega
theorem zyo {p:Path}:∀ (l:Els) (i:Nat),(fpE σ k p i l).Perm (fpE σ k p i (l.map (frC sel 0))++gpE σ k p sel i l)
 | [],i=>by simp [fpE,gpE]
 | x::l,i=>by have ih:=perm_iff_count.1 (zyo (p:=p) l (i+1));have i2:=perm_iff_count.1 (zyn (σ:=σ) (sel:=sel) (k:=k) (p:=p) (i:=i) x 0);refine perm_iff_count.2 λz=>?_;have:=ih z;have:=i2 z;simp only [fpE,gpE,map_cons,List.count_append] at *;omega
theorem CeC.fz {p:Path}{i:Nat}(hIJ:∀ b,I b->J b):∀ (l:List AV) (c:Nat) (cs:List Value),(∀ b∈gpC σ k p i sel c l,J b)->CeC I σ B k p i c l cs->CeC J σ B k p i c (frC sel c l) cs
 | [],_,_,_,h=>h
 | a::as,c,_,hf,h=>by
  obtain ⟨v,cs',rfl,h1,h2⟩:=h;simp only [gpC,mem_append] at hf;refine ⟨v,cs',rfl,?_,CeC.fz hIJ as (c+1) cs' (λb hb=>hf b (.inr hb)) h2⟩;cases hs:sel c with
  | true=>exact Im.ceFz a v (Ce.toIm hIJ a v (λb hb=>hf b (.inl (by rw [hs];exact hb))) h1)
  | false=>exact Ce.wide hIJ a v h1
theorem CeE.fz {p:Path}{s:Nat}(hIJ:∀ b,I b->J b):∀ (l:Els) (i:Nat) (cs:List Value),(∀ b∈gpE σ k p sel i l,J b)->CeE I σ B k p i s l cs->CeE J σ B k p i s (l.map (frC sel 0)) cs
 | [],_,_,_,_=>trivial
 | x::l,i,cs,hf,h=>by simp only [gpE,mem_append] at hf;exact ⟨by rw [zrs];exact h.1,CeC.fz hIJ x 0 _ (λb hb=>hf b (.inl hb)) h.2.1,CeE.fz hIJ l (i+1) _ (λb hb=>hf b (.inr hb)) h.2.2⟩
theorem zun {p:Path}{i:Nat}:∀ (l:List AV) (c0 j:Nat) (a:AV),l[j]?=some a->sel (c0+j)=true->∀ b∈fpA σ k p i (c0+j) a,b∈gpC σ k p i sel c0 l
 | [],_,_,_,h,_,_,_=>by simp at h
 | x::l,c0,0,a,h,hs,b,hb=>by simp at h;subst h;simp only [gpC,mem_append];rw [Nat.add_zero] at hs hb;rw [hs];exact .inl hb
 | x::l,c0,j+1,a,h,hs,b,hb=>by simp only [gpC,mem_append];exact .inr (zun l (c0+1) j a (by simpa using h) (by rwa [show c0+1+j=c0+(j+1) by omega]) b (by rwa [show c0+1+j=c0+(j+1) by omega]))
theorem zuo {p:Path}:∀ (l:Els) (i0 n:Nat) (x:List AV),l[n]?=some x->∀ b∈gpC σ k p (i0+n) sel 0 x,b∈gpE σ k p sel i0 l
 | [],_,_,_,h,_,_=>by simp at h
 | y::l,i0,0,x,h,b,hb=>by simp at h;subst h;simp only [gpE,mem_append];exact .inl hb
 | y::l,i0,n+1,x,h,b,hb=>by simp only [gpE,mem_append];exact .inr (zuo l (i0+1) n x (by simpa using h) b (by rwa [show i0+1+n=i0+(n+1) by omega]))
theorem Va.frozen (hh:zj I σ h w){p:Path}{s off len:Nat}{ys:Els}(hres:res h k p=some (s,ys))(hle:off+len<=ys.length)(hIJ:∀ b,I b->J b)(hb:∀ b∈fpP σ k p ys,J b){v:Value}
  (hv:Va I σ (bl w) (.sl k p off len) v):Va J σ (bl w) (.im s (z3e ((ys.drop off).take len))) v:=by
 obtain ⟨hp,_⟩:=hh.place hres;unfold z2d at hp;unfold fpP at hb;simp only [Va] at hv;cases hL:σ k p with
 | none =>simp only [hL] at hp hv;subst hp;obtain ⟨rfl,rfl,A,rfl⟩:=hv;exact ⟨A,0,by simp [z3e],by simp [z3e],λhn=>absurd (by simp [z3e]) hn⟩
 | some L =>
  simp only [hL] at hp hb hv;obtain ⟨f1,f2,cur,E,f3,f4,f5⟩:=hp;rw [if_pos (by rw [f1];exact (z87 hres).2)] at hv;obtain ⟨A,c,rfl,g1,g2,g3⟩:=hv;have hlen:((ys.drop off).take len).length=len:=by rw [length_take,List.length_drop];omega
  refine ⟨some A,c,by rw [z7k,hlen],by rw [z7k,hlen];exact g2,λhn=>?_⟩
  have hpos:0<len:=by
   rcases Nat.eq_zero_or_pos len with h0 | h0
   ·exfalso;apply hn;subst h0;simp [z3e]
   ·exact h0
  have hA:=g3 (.inl (by omega));subst hA;refine ⟨_,cur,E.t,E.fr,rfl,rfl,hb _ (by simp),f3,?_⟩;have hE:CeE I σ (bl w) k p (0+off) s ((ys.drop off).take len) (cur.toList.drop (off * s)):=CeE.take _ _ _ len (CeE.drop ys 0 _ off f5);rw [f1];refine CeE.toIm hIJ _ _ _ (λb hbb=>hb b (List.mem_cons_of_mem _ ?_)) hE;have hs1:=z76 (σ:=σ) (k:=k) (p:=p) (ys.drop off) (0+off) len
  have hs2:∀ (l:Els) (i n:Nat),(fpE σ k p (i+n) (l.drop n)).Sublist (fpE σ k p i l):=by
   intro l
   induction l with
   | nil=>intro i n;simp [fpE]
   | cons x l ih =>
    intro i n;cases n with
    | zero=>simp
    | succ n =>simp only [List.drop_succ_cons,fpE];have:=ih (i+1) n;rw [show i+1+n=i+(n+1) by omega] at this;exact this.trans (List.sublist_append_right _ _)
  exact (hs1.trans (hs2 ys 0 off)).subset hbb
end
mutual
def mapR (gs:Nat->Path->Nat->Nat->AV)(gp:Nat->Path->Nat->Nat->AV):AV->AV
 | .sl k p off len=>gs k p off len
 | .pt k p i c=>gp k p i c
 | .ag cs=>.ag (zen gs gp cs)
 | .tu cs=>.tu (zen gs gp cs)
 | .fn f cs=>.fn f (zen gs gp cs)
 | .un=>.un
 | .sc v=>.sc v
 | .zs=>.zs
 | .im s xs=>.im s xs
 | .ip s xs i c=>.ip s xs i c
 | .ow s xs=>.ow s xs
 | .pp q=>.pp q
def zen (gs:Nat->Path->Nat->Nat->AV)(gp:Nat->Path->Nat->Nat->AV):List AV->List AV
 | []=>[]
 | x::l=>mapR gs gp x::zen gs gp l
end
section
variable {I J:Nat->Prop}{σ:Pl}{B:zm}{gs gp:Nat->Path->Nat->Nat->AV}
mutual
theorem Va.mapR (hIJ:∀ b,I b->J b)(hs:∀ k p o l v,Va I σ B (.sl k p o l) v->Va J σ B (gs k p o l) v)(hp:∀ k p o l v,Va I σ B (.pt k p o l) v->Va J σ B (gp k p o l) v):∀ (a:AV) (v:Value),Va I σ B a v->Va J σ B (mapR gs gp a) v
 | .un,_,_=>trivial
 | .sc _,_,h=>h
 | .zs,_,h=>h
 | .im s xs,v,h=>Va.wide hIJ (.im s xs) v h
 | .ip s xs i c,v,h=>Va.wide hIJ (.ip s xs i c) v h
 | .sl k p o l,v,h=>hs k p o l v h
 | .pt k p o l,v,h=>hp k p o l v h
 | .ow _ _,_,h=>h.elim
 | .pp q,v,h=>VaP.wide hIJ q v h
 | .ag cs,_,h=>by obtain ⟨a,rfl,h⟩:=h;exact ⟨a,rfl,VaC.mapR hIJ hs hp cs _ h⟩
 | .tu cs,_,h=>by obtain ⟨a,rfl,h⟩:=h;exact ⟨a,rfl,VaL.mapR hIJ hs hp cs _ h⟩
 | .fn _ cs,_,h=>by obtain ⟨a,rfl,h⟩:=h;exact ⟨a,rfl,VaL.mapR hIJ hs hp cs _ h⟩
theorem VaC.mapR (hIJ:∀ b,I b->J b)(hs:∀ k p o l v,Va I σ B (.sl k p o l) v->Va J σ B (gs k p o l) v)(hp:∀ k p o l v,Va I σ B (.pt k p o l) v->Va J σ B (gp k p o l) v):∀ (l:List AV) (cs:List Value),VaC I σ B l cs->VaC J σ B (zen gs gp l) cs
 | [],_,h=>h
 | a::as,_,h=>by obtain ⟨v,cs',rfl,h0,h1,h2⟩:=h;exact ⟨v,cs',rfl,h0,Va.mapR hIJ hs hp a v h1,VaC.mapR hIJ hs hp as cs' h2⟩
theorem VaL.mapR (hIJ:∀ b,I b->J b)(hs:∀ k p o l v,Va I σ B (.sl k p o l) v->Va J σ B (gs k p o l) v)(hp:∀ k p o l v,Va I σ B (.pt k p o l) v->Va J σ B (gp k p o l) v):∀ (l:List AV) (cs:List Value),VaL I σ B l cs->VaL J σ B (zen gs gp l) cs
 | [],_,h=>h
 | a::as,_,h=>by obtain ⟨v,cs',rfl,h1,h2⟩:=h;exact ⟨v,cs',rfl,Va.mapR hIJ hs hp a v h1,VaL.mapR hIJ hs hp as cs' h2⟩
end
end
section
variable {P:Program}{pro:List Nat}{e:Env}{h:H}
def zx9 (k:Nat)(r:Row)(k':Nat)(p:Path)(o l:Nat):AV :=
 if k'=k then (if p=[] then (if o+l<=r.xs.length/\r.s<MB then .im r.s (z3e ((r.xs.drop o).take l)) else .un) else .un) else .sl k' p o l
def y7b (k:Nat)(k':Nat)(p:Path)(i c:Nat):AV:=if k'=k then .un else .pt k' p i c
theorem z8.frow {k:Nat}{r:Row}(hg:z5 h k=some r):z8 P pro e h (λt=>mapR (zx9 k r) (y7b k) (e t)) (zb h k):=λI N _ σ a w R=>by
 obtain ⟨d1,d2,d3,d4,d5,d6⟩:=R.heap.del hg;have hIJ:∀ b,I b->(I b\/b∈fpR σ k r):=λb hb=>.inl hb;refine ⟨σ,λb=>I b\/b∈fpR σ k r,hIJ,λb hb=>?_,⟨d1.wide hIJ (λb hb hJ=>?_) (λb hb=>?_),R.size,λt=>?_,R.defers⟩,λ_ _=>rfl,Le.refl _,λ_ _ _=>rfl,λb hb=>.inl (d6 b hb)⟩
 ·rcases hb with hb | hb
  ·exact .inl hb
  ·exact .inr (.inl (d5 b hb).2)
 ·rcases hJ with hJ | hJ
  ·exact (d1.apart b hb).1 hJ
  ·exact (d5 b hJ).1 hb
 ·rcases hb with hb | hb
  ·exact R.heap.low b hb
  ·exact (R.heap.apart b (d5 b hb).2).2
 ·refine Va.mapR hIJ (λk' p o l v hv=>?_) (λk' p o l v hv=>?_) _ _ (R.vals t)
  ·unfold zx9;split
   ·rename_i e;subst e;split
    ·rename_i e;subst e;split
     ·rename_i hle;exact Va.frozen R.heap (p:=[]) (s:=r.s) (ys:=r.xs) (zd9 (by unfold z1j;rw [hg];rfl) hle.2) hle.1 hIJ (λb hb=>.inr hb) hv
     ·trivial
    ·trivial
   ·exact Va.wide hIJ (.sl k' p o l) v hv
  ·unfold y7b;split
   ·trivial
   ·exact hv
def zkr (h:H)(k:Nat)(sel:Nat->Bool)(k':Nat)(p:Path)(o l:Nat):AV :=
 if k'=k then
  match p with
  | []=>.sl k' p o l
  | (i,c)::q=>if sel c=true then (if q=[] then (match res h k [(i,c)] with | some (s,ys)=>if o+l<=ys.length then .im s (z3e ((ys.drop o).take l)) else .un | none=>.un) else .un) else .sl k' p o l
 else .sl k' p o l
def zw5 (k:Nat)(sel:Nat->Bool)(k':Nat)(p:Path)(i0 c0:Nat):AV :=
 if k'=k then
  match p with
  | []=>.pt k' p i0 c0
  | (i,c)::q=>if sel c=true then .un else .pt k' p i0 c0
 else .pt k' p i0 c0
theorem z8.fcol {k:Nat}{r:Row}(sel:Nat->Bool)(hg:z5 h k=some r):z8 P pro e h (λt=>mapR (zkr h k sel) (zw5 k sel) (e t)) ((k,⟨r.s,r.xs.map (frC sel 0)⟩)::zb h k):=λI N _ σ a w R=>by
 obtain ⟨d1,d2,d3,d4,d5,d6⟩:=R.heap.del hg
 let g:List Nat:=match σ k [] with | none=>[] | some _=>gpE σ k [] sel 0 r.xs
 have hperm:(fpR σ k r).Perm (fpR σ k ⟨r.s,r.xs.map (frC sel 0)⟩++g):=by simp only [fpR,g];cases σ k [] with | none=>exact List.Perm.refl _ | some L=>exact List.Perm.cons _ (zyo r.xs 0)
 have hnd:=(hperm.nodup_iff).1 d4;rw [List.nodup_append] at hnd;obtain ⟨n1,n2,n3⟩:=hnd;have hgr:∀ b∈g,b∈fpR σ k r:=λb hb=>hperm.mem_iff.2 (mem_append.2 (.inr hb));have hkr:∀ b∈fpR σ k ⟨r.s,r.xs.map (frC sel 0)⟩,b∈fpR σ k r:=λb hb=>hperm.mem_iff.2 (mem_append.2 (.inl hb));have hIJ:∀ b,I b->(I b\/b∈g):=λb hb=>.inl hb
 have hlow:∀ b,(I b\/b∈g)->b<w.heap.size:=λb hb=>by
  rcases hb with hb | hb
  ·exact R.heap.low b hb
  ·exact (R.heap.apart b (d5 b (hgr b hb)).2).2
 have d1':zj (λb=>I b\/b∈g) σ (zb h k) w:=d1.wide hIJ (λb hb hJ=>by
  rcases hJ with hJ | hJ
  ·exact (d1.apart b hb).1 hJ
  ·exact (d5 b (hgr b hJ)).1 hb) hlow
 have hrow:zy (λb=>I b\/b∈g) σ (bl w) k ⟨r.s,r.xs.map (frC sel 0)⟩:=by
  unfold zy at d2 ⊢;cases hL:σ k [] with
  | none=>simp only [hL] at d2 ⊢;exact ⟨by simp [d2.1],d2.2⟩
  | some L =>simp only [hL] at d2 ⊢;obtain ⟨f1,f2,cur,E,f3,f4,f5⟩:=d2;exact ⟨f1,by simpa using f2,cur,E,f3,by rw [z7c (ys:=r.xs) (by simp)];exact f4,CeE.fz hIJ r.xs 0 _ (λb hb=>.inr (by simp only [g,hL];exact hb)) f5⟩
 have hadd:=d1'.add (σ':=σ) (w':=w) d3 (λ_ _ _=>rfl) (λ_ _ _=>rfl) (Nat.le_refl _) hrow n1 (λb hb=>⟨(d5 b (hkr b hb)).1,λhJ=>by
  rcases hJ with hJ | hJ
  ·exact (R.heap.apart b (d5 b (hkr b hb)).2).1 hJ
  ·exact n3 b hb b hJ rfl,(R.heap.apart b (d5 b (hkr b hb)).2).2⟩)
 refine ⟨σ,λb=>I b\/b∈g,hIJ,λb hb=>?_,⟨hadd,R.size,λt=>?_,R.defers⟩,λ_ _=>rfl,Le.refl _,λ_ _ _=>rfl,λb hb=>.inl ?_⟩
 ·rcases hb with hb | hb
  ·exact .inl hb
  ·exact .inr (.inl (d5 b (hgr b hb)).2)
 ·refine Va.mapR hIJ (λk' p o l v hv=>?_) (λk' p o l v hv=>?_) _ _ (R.vals t)
  ·unfold zkr;split
   ·rename_i e;subst e;split
    ·exact hv
    ·rename_i i c q;split
     ·rename_i hsel;split
      ·rename_i hq;subst hq;split
       ·rename_i s ys hres;split
        ·rename_i hle;refine Va.frozen R.heap hres hle hIJ (λb hb=>.inr ?_) hv
         replace hres:=(z87 hres).1
         unfold z1j at hres;rw [hg] at hres;simp only [zo] at hres;cases hx:r.xs[i]? with
         | none=>rw [hx] at hres;cases hres
         | some x =>
          rw [hx] at hres;simp only at hres;cases hy:x[c]? with
          | none=>rw [hy] at hres;cases hres
          | some y =>
           rw [hy] at hres;cases y with
           | ow s' ys' =>
            simp only [Option.some.injEq,Prod.mk.injEq] at hres;obtain ⟨rfl,rfl⟩:=hres
            have hn:σ k' []≠none:=λhn=>by unfold zy at d2;simp only [hn] at d2;rw [d2.1] at hx;simp at hx
            have hgg:g=gpE σ k' [] sel 0 r.xs:=by simp only [g];cases hL:σ k' [] with | none=>exact absurd hL hn | some _=>rfl
            rw [hgg];have e1:fpP σ k' [(i,c)] ys'=fpA σ k' [] i c (.ow s' ys'):=rfl;rw [e1] at hb;refine zuo r.xs 0 i x hx b ?_;rw [Nat.zero_add];refine zun x 0 c _ hy (by rwa [Nat.zero_add]) b ?_
            rwa [Nat.zero_add]
           | _=>cases hres
        ·trivial
       ·trivial
      ·trivial
     ·exact hv
   ·exact hv
  ·unfold zw5;split
   ·split
    ·exact hv
    ·split
     ·trivial
     ·exact hv
   ·exact hv
 ·rw [z1n,mem_append] at hb;rcases hb with hb | hb
  ·exact (d5 b (hkr b hb)).2
  ·exact d6 b hb
end
section
variable {P:Program}{T:TT}{pro:List Nat}
mutual
def fzT (fw:Nat->Path->VT T)(fs fp:Nat->Path->Nat->Nat->VT T):VT T->VT T
 | .sl k p off len=>fs k p off len
 | .sw k p=>fw k p
 | .pt k p i c=>fp k p i c
 | .ag cs=>.ag (zp5 fw fs fp cs)
 | .tu cs=>.tu (zp5 fw fs fp cs)
 | .fn f cs=>.fn f (zp5 fw fs fp cs)
 | .un=>.un
 | .sc v=>.sc v
 | .ik k n=>.ik k n
 | .bk b=>.bk b
 | .zs=>.zs
 | .im t xs=>.im t xs
 | .ip s cs c=>.ip s cs c
 | .ow m t xs=>.ow m t xs
 | .oo m t xs i cs=>.oo m t xs i cs
 | .pp (.px k c)=>fp k [] 0 c
 | .pp q=>.pp q
def zp5 (fw:Nat->Path->VT T)(fs fp:Nat->Path->Nat->Nat->VT T):List (VT T)->List (VT T)
 | []=>[]
 | x::l=>fzT fw fs fp x::zp5 fw fs fp l
end
def fzE (fw:Nat->Path->VT T)(fs fp:Nat->Path->Nat->Nat->VT T):TE T.q->TE T.q
 | []=>[]
 | (t,v)::l=>(t,fzT fw fs fp v)::fzE fw fs fp l
theorem zd0 {fw:Nat->Path->VT T}{fs fp:Nat->Path->Nat->Nat->VT T}{t:Nat}:∀ (e:TE T.q),z1b (fzE fw fs fp e) t=fzT fw fs fp (z1b e t)
 | []=>by simp [fzE,z1b,fzT]
 | (t',v)::l=>by have ih:=zd0 (fw:=fw) (fs:=fs) (fp:=fp) (t:=t) l;simp only [fzE,z1b];cases Nat.beq t t'<;>simp [ih]
mutual
theorem zh1 {fw:Nat->Path->VT T}{fs fp:Nat->Path->Nat->Nat->VT T}{gs gp:Nat->Path->Nat->Nat->AV}{H0 H1:H}(hw:∀ k p,za (gs k p 0 (zh H0 k p)) (den T.q H1 (fw k p)))(hs:∀ k p o l,za (gs k p o l) (den T.q H1 (fs k p o l)))
  (hp:∀ k p o l,za (gp k p o l) (den T.q H1 (fp k p o l))):∀ (v:VT T),za (mapR gs gp (den T.q H0 v)) (den T.q H1 (fzT fw fs fp v))
 | .un | .sc _ | .ik _ _ | .bk _ | .zs | .im _ _ | .ip _ _ _ | .ow _ _ _ | .oo _ _ _ _ _=>by simp only [fzT,den,mapR];exact za.refl _
 | .pp (.xp _ _ _) | .pp (.fs _ _) | .pp (.fp _ _ _) | .pp (.mr _ _)=>za.refl _
 | .pp (.px k c)=>hp k [] 0 c
 | .ag cs=>by simp only [fzT,den,mapR];exact za.ag (ze6 hw hs hp cs).C
 | .tu cs=>by simp only [fzT,den,mapR];exact za.tu (ze6 hw hs hp cs).L
 | .fn f cs=>by simp only [fzT,den,mapR];exact za.fn (ze6 hw hs hp cs).L
 | .sl k p o l=>hs k p o l
 | .sw k p=>hw k p
 | .pt k p o l=>hp k p o l
theorem ze6 {fw:Nat->Path->VT T}{fs fp:Nat->Path->Nat->Nat->VT T}{gs gp:Nat->Path->Nat->Nat->AV}{H0 H1:H}(hw:∀ k p,za (gs k p 0 (zh H0 k p)) (den T.q H1 (fw k p)))(hs:∀ k p o l,za (gs k p o l) (den T.q H1 (fs k p o l)))
  (hp:∀ k p o l,za (gp k p o l) (den T.q H1 (fp k p o l))):∀ (l:List (VT T)),z2k (zen gs gp (z6 T.q H0 l)) (z6 T.q H1 (zp5 fw fs fp l))
 | []=>.nil
 | x::l=>.cons (zh1 hw hs hp x) (ze6 hw hs hp l)
end
inductive Fz where
 | row (k:Nat)
 | col (k:Nat) (cs:List Nat)
 | nest (k:Nat)
def inC (cs:List Nat)(c:Nat):Bool:=cs.any (Nat.beq c)
def zw3 (cs:List Nat):Nat->List (VT T)->Option (List (VT T))
 | _,[]=>some []
 | c,v::l=>match zw3 cs (c+1) l with
  | none=>none
  | some l'=>bif inC cs c then (match v with
   | .ow _ t xs=>bif Nat.blt (T.sz t) 1000000 then some (.im t xs::l') else none
   | .oo _ _ _ _ _=>none
   | v=>some (v::l')) else some (v::l')
def zw4 (cs:List Nat):List (List (VT T))->Option (List (List (VT T)))
 | []=>some []
 | x::l=>match zw3 cs 0 x,zw4 cs l with | some x',some l'=>some (x'::l') | _,_=>none
theorem zo3 {cs:List Nat}:∀ (l l':List (VT T)) (c:Nat),zw3 cs c l=some l'->z6 T.q [] l'=frC (inC cs) c (z6 T.q [] l)
 | [],_,_,h=>by cases h;rfl
 | v::l,l',c,h=>by
  simp only [zw3] at h;split at h
  ·cases h
  ·rename_i l1 h1;have ih:=zo3 l l1 (c+1) h1;cases hs:inC cs c with
   | false =>rw [hs] at h;cases h;simp only [z6,frC,hs,cond_false,ih]
   | true =>
    rw [hs] at h;simp only [cond_true] at h;split at h
    ·rename_i m0 t0 xs0;cases hsm:Nat.blt (T.sz t0) 1000000 with
     | false=>rw [hsm] at h;cases h
     | true =>
     rw [hsm] at h;cases h;simp only [z6,frC,hs,cond_true,ih,den,toIm,z7l];rw [if_pos (show T.sz t0<MB from le_of_ble_eq_true hsm)]
    ·cases h
    ·rename_i h2 h3;cases h;simp only [z6,frC,hs,cond_true,ih];congr 1;cases v<;>first | rfl | (rename_i q;cases q<;>rfl) | (exact absurd rfl (h2 _ _ _)) | (exact absurd rfl (h3 _ _ _ _ _))
theorem zo4 {cs:List Nat}:∀ (l l':List (List (VT T))),zw4 cs l=some l'->l'.map (z6 T.q [])=(l.map (z6 T.q [])).map (frC (inC cs) 0)
 | [],_,h=>by cases h;rfl
 | x::l,l',h=>by
  simp only [zw4] at h;split at h
  ·rename_i x' l1 h1 h2;cases h;simp only [map_cons,zo3 _ _ _ h1,zo4 l l1 h2]
  ·cases h
def zp3 (e:TE T.q)(h:TH T.q):Fz->Option (TE T.q×TH T.q)
 | .row k=>match z2z h k with
  | some (.typ _ t xs)=>bif Nat.blt (T.sz t) 1000000 then some (fzE (λk' p=>bif Nat.beq k' k then (match p with | []=>.im t xs | _=>.un) else .sw k' p) (λk' p o l=>bif Nat.beq k' k then .un else .sl k' p o l) (λk' p o l=>bif Nat.beq k' k then .un else .pt k' p o l) e,z11 h k) else none
  | _=>none
 | .col k cs=>match z2z h k with
  | some (.lit s xs)=>match zw4 cs xs with
   | some xs'=>some (fzE (λk' p=>bif Nat.beq k' k then (match p with
     | []=>.sw k' p
     | (i,c)::q=>bif inC cs c then (match q with | []=>(match (xs[i]?).bind (λx=>x[c]?) with | some (.ow _ t ys)=>bif Nat.blt (T.sz t) 1000000 then .im t ys else .un | _=>.un) | _=>.un) else .sw k' p) else .sw k' p)
    (λk' p o l=>bif Nat.beq k' k then (match p with | []=>.sl k' p o l | (_,c)::_=>bif inC cs c then .un else .sl k' p o l) else .sl k' p o l)
    (λk' p o l=>bif Nat.beq k' k then (match p with | []=>.pt k' p o l | (_,c)::_=>bif inC cs c then .un else .pt k' p o l) else .pt k' p o l) e,(k,.lit s xs')::z11 h k)
   | none=>none
  | _=>none
 | .nest k=>match z2z h k with
  | some (.typ _ t xs)=>some (fzE (λk' p=>bif Nat.beq k' k then (match p with | []=>.sw k' p | _=>.un) else .sw k' p) (λk' p o l=>bif Nat.beq k' k then (match p with | []=>.sl k' p o l | _=>.un) else .sl k' p o l)
    (λk' p o l=>bif Nat.beq k' k then (match p with | []=>.pt k' p o l | _=>.un) else .pt k' p o l) e,(k,.typ false t xs)::z11 h k)
  | _=>none
theorem zl1 {fw:Nat->Path->VT T}{fs fp:Nat->Path->Nat->Nat->VT T}{t:Nat}{e:TE T.q}{H0 H1:H}{b:Bool}(h:z7 T.q H0 e t=Bl b):z7 T.q H1 (fzE fw fs fp e) t=Bl b:=by simp only [z7,zd0] at h ⊢;cases hv:z1b e t<;>rw [hv] at h<;>first | (rename_i q;cases q<;>cases h;done) | (simp [den] at h<;>simp [fzT,den,h])
theorem zrq:∀ (l:List AV) (c:Nat),frC (λ_=>true) c l=z2q l
 | [],_=>rfl
 | a::l,c=>by simp only [frC,cond_true,z2q,zrq l]
theorem zqx:∀ (l:Els),z3e l=l.map z2q
 | []=>rfl
 | x::l=>by simp only [z3e,map_cons,zqx l]
theorem zvb {H0:H}{k:Nat}{r:Row}{sel:Nat->Bool}(hg:z5 H0 k=some r):∀ p,(∀ i c q,p=(i,c)::q->sel c=false)->zh ((k,⟨r.s,r.xs.map (frC sel 0)⟩)::zb H0 k) k p=zh H0 k p:=by
 intro p hp;unfold zh z1j;rw [hg];simp only [z5,if_true];cases p with
 | nil=>simp only [zo,length_map]
 | cons x q =>
  obtain ⟨i,c⟩:=x;have hs:=hp i c q rfl;simp only [zo,List.getElem?_map];cases r.xs[i]? with
  | none=>rfl
  | some x =>simp only [map_some];rw [zrr x 0 c,Nat.zero_add,hs];cases x[c]? with | none=>rfl | some y=>rfl
theorem yb5 {e e1:TE T.q}{h h1:TH T.q}:∀ {z:Fz},zp3 e h z=some (e1,h1)->z8 P pro (z7 T.q (z4 T.q h) e) (z4 T.q h) (z7 T.q (z4 T.q h1) e1) (z4 T.q h1)/\∀ t b,z7 T.q (z4 T.q h) e t=Bl b->z7 T.q (z4 T.q h1) e1 t=Bl b
 | .row k,hz=>by
  simp only [zp3] at hz;split at hz
  ·rename_i m t xs hr;cases hsm:Nat.blt (T.sz t) 1000000 with
   | false=>rw [hsm] at hz;cases hz
   | true =>
   rw [hsm] at hz;have hsm:=le_of_ble_eq_true hsm;simp only [cond_true,Option.some.injEq,Prod.mk.injEq] at hz;obtain ⟨rfl,rfl⟩:=hz;have hgr:z5 (z4 T.q h) k=some ⟨T.sz t,xs.map (T.ca m t)⟩:=by rw [z1s,hr];rfl
   refine ⟨?_,λ_ _ hb=>zl1 hb⟩;have g:=z8.frow (P:=P) (pro:=pro) (e:=z7 T.q (z4 T.q h) e) hgr;rw [zz] at g;refine g.trans (z8.le λu=>?_);simp only [z7,zd0];have hl:∀ k' p,k'≠k->zh (z4 T.q (z11 h k)) k' p=zh (z4 T.q h) k' p:=λk' p hk=>z1e (by rw [<- zz,z1a hk]);refine zh1 (λk' p=>?_) (λk' p o l=>?_) (λk' p o l=>?_) _
   ·unfold zx9;simp only [z1h];by_cases hk:k'=k
    ·subst hk;simp only [decide_true,cond_true,if_true];cases p with
     | nil =>
      simp only [if_true,den];have e0:zh (z4 T.q h) k' []=xs.length:=by unfold zh z1j;rw [hgr];simp [zo]
      rw [e0];simp only [Nat.zero_add,length_map,Nat.le_refl,List.drop_zero];rw [if_pos ⟨trivial,hsm⟩,List.take_of_length_le (by simp),z7l];exact za.refl _
     | cons _ _=>simp only [den];exact za.un _
    ·simp only [hk,decide_false,cond_false,if_false,den,hl k' p hk];exact za.refl _
   ·unfold zx9;simp only [z1h];by_cases hk:k'=k
    ·subst hk;simp only [decide_true,cond_true,den];exact za.un _
    ·simp only [hk,decide_false,cond_false,if_false,den];exact za.refl _
   ·unfold y7b;simp only [z1h];by_cases hk:k'=k
    ·subst hk;simp only [decide_true,cond_true,den];exact za.un _
    ·simp only [hk,decide_false,cond_false,if_false,den];exact za.refl _
  ·cases hz
 | .col k cs,hz=>by
  simp only [zp3] at hz;split at hz
  ·rename_i s xs hr;split at hz
   ·rename_i xs' hx;simp only [Option.some.injEq,Prod.mk.injEq] at hz;obtain ⟨rfl,rfl⟩:=hz;have hgr:z5 (z4 T.q h) k=some ⟨s,xs.map (z6 T.q [])⟩:=by rw [z1s,hr];rfl
    refine ⟨?_,λ_ _ hb=>zl1 hb⟩;have g:=z8.fcol (P:=P) (pro:=pro) (e:=z7 T.q (z4 T.q h) e) (inC cs) hgr
    have hh:z4 T.q ((k,.lit s xs')::z11 h k)=(k,⟨s,(xs.map (z6 T.q [])).map (frC (inC cs) 0)⟩)::zb (z4 T.q h) k:=by simp only [z4,z9,zz,zo4 _ _ hx]
    rw [hh];refine g.trans (z8.le λu=>?_);simp only [z7,zd0]
    have hl:∀ k' p,k'≠k->zh ((k,⟨s,(xs.map (z6 T.q [])).map (frC (inC cs) 0)⟩)::zb (z4 T.q h) k) k' p=zh (z4 T.q h) k' p:=λk' p hk=>z1e (by simp only [z5];rw [if_neg (λe=>hk e.symm),z1a hk])
    have hl2:=zvb (sel:=inC cs) hgr;refine zh1 (λk' p=>?_) (λk' p o l=>?_) (λk' p o l=>?_) _
    ·unfold zkr;simp only [z1h];by_cases hk:k'=k
     ·subst hk;simp only [decide_true,cond_true,if_true];cases p with
      | nil =>simp only [den];rw [hl2 [] (λ_ _ _ h=>by cases h)];exact za.refl _
      | cons x q =>
       obtain ⟨i,c⟩:=x;simp only;cases hs:inC cs c with
       | false =>simp only [cond_false,if_false,false_eq_true,den];rw [hl2 _ (λi' c' q' he=>by cases he;exact hs)];exact za.refl _
       | true =>
        simp only [cond_true,if_true];cases q with
        | cons _ _=>simp only [den];exact za.un _
        | nil =>
         simp only [if_true];cases hc:(xs[i]?).bind (λx=>x[c]?) with
         | none=>simp only [den];exact za.un _
         | some v =>
          cases v with
          | ow m t ys =>
           obtain ⟨x,h1,h2⟩:=Option.bind_eq_some_iff.1 hc;cases hsm:Nat.blt (T.sz t) 1000000 with
           | false=>simp only [hsm,cond_false,den];exact za.un _
           | true =>
           simp only [hsm,cond_true]
           have hres:res (z4 T.q h) k' [(i,c)]=some (T.sz t,ys.map (T.ca m t)):=by refine zd9 ?_ (le_of_ble_eq_true hsm);unfold z1j;rw [hgr];simp only [zo,List.getElem?_map,h1,map_some,z30,h2,den]
           rw [hres];have e0:zh (z4 T.q h) k' [(i,c)]=ys.length:=by rw [z5z hres];simp
           rw [e0];simp only [Nat.zero_add,length_map,Nat.le_refl,if_true,List.drop_zero,den];rw [List.take_of_length_le (by simp),z7l];exact za.refl _
          | _=>simp only [den];exact za.un _
     ·simp only [hk,decide_false,cond_false,if_false,den,hl k' p hk];exact za.refl _
    ·unfold zkr;simp only [z1h];by_cases hk:k'=k
     ·subst hk;simp only [decide_true,cond_true,if_true];cases p with
      | nil=>exact za.refl _
      | cons x q =>obtain ⟨i,c⟩:=x;simp only;cases hs:inC cs c with | false=>exact za.refl _ | true=>simp only [cond_true,den];exact za.un _
     ·simp only [hk,decide_false,cond_false,if_false,den];exact za.refl _
    ·unfold zw5;simp only [z1h];by_cases hk:k'=k
     ·subst hk;simp only [decide_true,cond_true,if_true];cases p with
      | nil=>exact za.refl _
      | cons x q =>obtain ⟨i,c⟩:=x;simp only;cases hs:inC cs c with | false=>exact za.refl _ | true=>simp only [cond_true,den];exact za.un _
     ·simp only [hk,decide_false,cond_false,if_false,den];exact za.refl _
   ·cases hz
  ·cases hz
 | .nest k,hz=>by
  simp only [zp3] at hz;split at hz
  ·rename_i m t xs hr;simp only [Option.some.injEq,Prod.mk.injEq] at hz;obtain ⟨rfl,rfl⟩:=hz;have hgr:z5 (z4 T.q h) k=some ⟨T.sz t,xs.map (T.ca m t)⟩:=by rw [z1s,hr];rfl
   refine ⟨?_,λ_ _ hb=>zl1 hb⟩;have g:=z8.fcol (P:=P) (pro:=pro) (e:=z7 T.q (z4 T.q h) e) (λ_=>true) hgr
   have hh:z4 T.q ((k,.typ false t xs)::z11 h k)=(k,⟨T.sz t,(xs.map (T.ca m t)).map (frC (λ_=>true) 0)⟩)::zb (z4 T.q h) k:=by
    simp only [z4,z9,zz]
    have:(xs.map (T.ca m t)).map (frC (λ_=>true) 0)=xs.map (T.ca false t):=by rw [<- z7l (m:=m),zqx];simp only [map_map];congr 1;funext x;exact zrq _ _
    rw [this]
   rw [hh];refine g.trans (z8.le λu=>?_);simp only [z7,zd0]
   have hl:∀ k' p,k'≠k->zh ((k,⟨T.sz t,(xs.map (T.ca m t)).map (frC (λ_=>true) 0)⟩)::zb (z4 T.q h) k) k' p=zh (z4 T.q h) k' p:=λk' p hk=>z1e (by simp only [z5];rw [if_neg (λe=>hk e.symm),z1a hk])
   have hl2:=zvb (sel:=λ_=>true) hgr;refine zh1 (λk' p=>?_) (λk' p o l=>?_) (λk' p o l=>?_) _
   ·unfold zkr;simp only [z1h];by_cases hk:k'=k
    ·subst hk;simp only [decide_true,cond_true,if_true];cases p with
     | nil =>simp only [den];rw [hl2 [] (λ_ _ _ h=>by cases h)];exact za.refl _
     | cons x q=>simp only [den];exact za.un _
    ·simp only [hk,decide_false,cond_false,if_false,den,hl k' p hk];exact za.refl _
   ·unfold zkr;simp only [z1h];by_cases hk:k'=k
    ·subst hk;simp only [decide_true,cond_true,if_true];cases p with | nil=>exact za.refl _ | cons x q=>simp only [den];exact za.un _
    ·simp only [hk,decide_false,cond_false,if_false,den];exact za.refl _
   ·unfold zw5;simp only [z1h];by_cases hk:k'=k
    ·subst hk;simp only [decide_true,cond_true,if_true];cases p with | nil=>exact za.refl _ | cons x q=>simp only [den];exact za.un _
    ·simp only [hk,decide_false,cond_false,if_false,den];exact za.refl _
  ·cases hz
def zau:List Fz->TE T.q->TH T.q->Option (TE T.q×TH T.q)
 | [],e,h=>some (e,h)
 | z::l,e,h=>match zp3 e h z with | some (e1,h1)=>zau l e1 h1 | none=>zau l e h
theorem z7g:∀ (l:List Fz) {e e1:TE T.q} {h h1:TH T.q},zau l e h=some (e1,h1)->z8 P pro (z7 T.q (z4 T.q h) e) (z4 T.q h) (z7 T.q (z4 T.q h1) e1) (z4 T.q h1)/\∀ t b,z7 T.q (z4 T.q h) e t=Bl b->z7 T.q (z4 T.q h1) e1 t=Bl b
 | [],_,_,_,_,hz=>by simp only [zau,Option.some.injEq,Prod.mk.injEq] at hz;obtain ⟨rfl,rfl⟩:=hz;exact ⟨z8.rfl',λ_ _ h=>h⟩
 | z::l,_,_,_,_,hz=>by
  simp only [zau] at hz;split at hz
  ·rename_i e2 h2 h3;obtain ⟨a1,a2⟩:=yb5 (P:=P) (pro:=pro) h3;obtain ⟨b1,b2⟩:=z7g l hz;exact ⟨a1.trans b1,λt b hb=>b2 t b (a2 t b hb)⟩
  ·exact z7g l hz
end
def ya0 {α:Type}:List (Nat×α)->Nat->Option α
 | [],_=>none
 | (k,x)::l,d=>bif Nat.beq k d then some x else ya0 l d
structure Cx (P:Program) (T:TT) where
 cs:List (Con P T)
 ty:List (Nat×Bool×Nat)
 tn:List Nat
 fz:List (Nat×List Fz)
def Cx.fzAt {P:Program}{T:TT}(cx:Cx P T)(d:Nat):List Fz:=match ya0 cx.fz d with | some l=>l | none=>[]
def Cx.at {P:Program}{T:TT}(cx:Cx P T)(d:Nat):Option (Bool×Nat):=(cx.ty.find? λx=>Nat.beq x.1 d).map Prod.snd
section
variable {P:Program}{T:TT}{pro:List Nat}{L:Type}
def zkf:IK->VT T
 | .st _ _ _ | .mst _ _ _ _ _=>.un
 | _=>.sc undef
theorem z9f {h:H}(op:IK):den T.q h (zkf op)=z4m op:=by cases op<;>rfl
def zd2 (e:TE T.q)(g:Option (Nat×Bool))(go skip:TE T.q->Raw P T pro L):Raw P T pro L :=
 match g with
 | none=>go e
 | some (s,want) =>
  match z1b e s with
  | .bk true=>bif want then go e else skip e
  | .bk false=>bif want then skip e else go e
  | .sc (.tuple _)=>skip e
  | .sc (.bool b)=>.ite b (bif want then go (z1u e s (.bk true)) else skip (z1u e s (.bk true))) (bif want then skip (z1u e s (.bk false)) else go (z1u e s (.bk false)))
  | _=>.no
theorem z64 {e:TE T.q}{h:H}{s:Nat}{b:Bool}(hs:z1b e s = .sc (.bool b)):z7 T.q h (z1u e s (.bk b))=z7 T.q h e:=by
 rw [z1d];funext t;unfold upd;split
 ·rename_i ht;subst ht;simp only [z7,hs,den]
 ·rfl
theorem zbv {e:TE T.q}{g:Option (Nat×Bool)}{go skip:TE T.q->Raw P T pro L}{Q:L->Prop}{H0:H}(hs:Sat (zd2 e g go skip) Q) :
  ∃ e',z7 T.q H0 e'=z7 T.q H0 e/\((zw (z7 T.q H0 e) g=some true/\Sat (go e') Q)\/(zw (z7 T.q H0 e) g=some false/\Sat (skip e') Q)):=by
 unfold zd2 at hs;split at hs
 ·exact ⟨e,rfl,.inl ⟨rfl,hs⟩⟩
 ·rename_i s want;have hw:∀ b,z7 T.q H0 e s = .sc (.bool b)->zw (z7 T.q H0 e) (some (s,want))=some (b==want):=λb hb=>by simp [zw,hb]
  split at hs
  ·rename_i hv;have hv':z7 T.q H0 e s = .sc (.bool true):=by simp only [z7,hv,den]
   cases want
   ·exact ⟨e,rfl,.inr ⟨by rw [hw _ hv'];rfl,hs⟩⟩
   ·exact ⟨e,rfl,.inl ⟨by rw [hw _ hv'];rfl,hs⟩⟩
  ·rename_i hv;have hv':z7 T.q H0 e s = .sc (.bool false):=by simp only [z7,hv,den]
   cases want
   ·exact ⟨e,rfl,.inl ⟨by rw [hw _ hv'];rfl,hs⟩⟩
   ·exact ⟨e,rfl,.inr ⟨by rw [hw _ hv'];rfl,hs⟩⟩
  ·rename_i a hv;have hv':z7 T.q H0 e s = .sc (.tuple a):=by simp only [z7,hv,den]
   exact ⟨e,rfl,.inr ⟨by simp [zw,hv'],hs⟩⟩
  ·rename_i b hv;have hv':z7 T.q H0 e s = .sc (.bool b):=by simp only [z7,hv,den]
   cases b with
   | true =>
    have h1:=hs.1 rfl;cases want
    ·exact ⟨_,z64 hv,.inr ⟨by rw [hw _ hv'];rfl,h1⟩⟩
    ·exact ⟨_,z64 hv,.inl ⟨by rw [hw _ hv'];rfl,h1⟩⟩
   | false =>
    have h1:=hs.2 rfl;cases want
    ·exact ⟨_,z64 hv,.inl ⟨by rw [hw _ hv'];rfl,h1⟩⟩
    ·exact ⟨_,z64 hv,.inr ⟨by rw [hw _ hv'];rfl,h1⟩⟩
  ·exact hs.elim
def zkc:TR T.El->Bool
 | .lit s (_::_)=>Nat.blt s 1000000
 | .typ _ t (_::_)=>Nat.blt (T.sz t) 1000000
 | _=>false
theorem y47 {r:TR T.El}(h:zkc r=true):0<(z9 T.q r).xs.length/\(z9 T.q r).s<MB:=by
 unfold zkc at h;split at h
 ·exact ⟨by simp [z9],le_of_ble_eq_true h⟩
 ·exact ⟨by simp [z9],le_of_ble_eq_true h⟩
 ·cases h
def zey (d:Nat)(h:TH T.q)(s:ByteArray):StT T:=⟨.sw d [],λk _=>[d].contains k,λ_ _=>false,[d],(d,.typ false T.u8 (T.bs (bytesOf s)))::z11 h d⟩
theorem yce {e:TE T.q}{h:TH T.q}{d:Nat}{g:Option (Nat×Bool)}{y:Operand}{s:ByteArray}(hy:evT e y = .sc (.string s))(hp:pro.contains d=false):z8c P pro T e h ⟨d,g,.s2b y⟩ (zey d h s):=by
 obtain ⟨q1,q2,q3⟩:=zb2 (T:=T) (r:=.typ false T.u8 (T.bs (bytesOf s))) (h:=h) (h':=z11 h d) (d:=d) (g:=[d]) ⟨λ_ h=>h,z5b⟩
 have hlen:(T.bs (bytesOf s)).length=s.size:=by have:=congrArg List.length (T.bs_ok (bytesOf s));rw [length_map,length_map] at this;rw [this];simp [bytesOf]
 refine ⟨λe' he=>?_,λk p hk _=>q2 k p hk,q3⟩;have hu:=z3y (x:=⟨d,g,.s2b y⟩) (e:=e') (EA:=z7 T.q (z4 T.q h) e) he (o:=y) (by simp [z62]);rw [ze,hy] at hu;refine ⟨e',_,_,_,z8.rfl',λ_ _ h=>h,.s2w hu hp,?_⟩
 have hh:z4 T.q (zey d h s).h=(d,⟨1,(bytesOf s).map λn=>[.sc (.int .u8 n)]⟩)::zb (z4 T.q h) d:=by simp only [zey,z4,zz,z9,T.bs_sz,T.bs_ok]
 rw [<- hh];refine z8.le λt=>?_;simp only [z1c,upd];split
 ·have:den T.q (z4 T.q (zey d h s).h) (zey d h s).v = .sl d [] 0 s.size:=by rw [hh];simp [zey,den,zh,z1j,z5,zo,bytesOf]
  rw [this];exact za.refl _
 ·exact z7i (λk p hk=>by simpa [zey] using hk) _
def znk (pro:List Nat)(cx:Cx P T)(x:Ins)(e:TE T.q)(h:TH T.q)(K:TE T.q->TH T.q->Raw P T pro L):Raw P T pro L :=
 match x.op with
 | .rd (.pick (.tmp s) a b) =>
  match z1b e s with
  | .sc (.bool t)=>.ite t (Raw.ofRs (λv=>K (z1u (z1u e s (.bk true)) x.dst v) h) (nnT (evT e a))) (Raw.ofRs (λv=>K (z1u (z1u e s (.bk false)) x.dst v) h) (nnT (evT e b)))
  | _=>Raw.ofRs (λv=>K (z1u e x.dst v) h) (rdT e h (.pick (.tmp s) a b))
 | .rd b=>Raw.ofRs (λv=>K (z1u e x.dst v) h) (rdT e h b)
 | .mk b=>match zds pro (700000+x.dst * 100) e h (zh7 e (z37 b)) with
  | some (e1,h1)=>Raw.ofRs (λst=>K (st.env e1 x.dst) st.h) (mkT (cx.at x.dst) pro e1 h1 x.dst b)
  | none=>.no
 | .app s bytes a b=>match y5b pro (700000+x.dst * 100) e h a with
  | some (e1,h1)=>Raw.ofRs (λst=>K (st.env e1 x.dst) st.h) (zvy (cx.at x.dst) pro e1 h1 x.dst s bytes a b)
  | none=>.no
 | .st n a v=>Raw.ofRs (λ(e,h)=>match zds pro (700000+x.dst * 100) e h (zh7 e [v]) with
  | some (e1,h1)=>Raw.ofRs (λst=>K (st.env e1 x.dst) st.h) (stT e1 h1 n a v)
  | none=>.no) (cuT pro (700000+x.dst * 100) e h v)
 | .mst nv ks a k v=>Raw.ofRs (λst=>K (st.env e x.dst) st.h) (zx1 e h nv ks a k v)
 | .s2b y=>match evT e y with
  | .sc (.string s)=>match cx.at x.dst with
   | none=>K (z1u e x.dst (.im T.u8 (T.bs (bytesOf s)))) h
   | some _=>bif pro.contains x.dst then .no else K ((zey x.dst h s).env e x.dst) (zey x.dst h s).h
  | _=>.no
 | .mrk y=>match evT e y with
  | .sw k []=>match z2z h k with
   | some r=>bif zkc r then K (z1u e x.dst (.sw k [])) ((k,r)::z11 h k) else .no
   | none=>.no
  | _=>.no
 | .ifn y=>match evT e y with | .sc (.iface _ _)=>K (z1u e x.dst (.bk true)) h | _=>.no
 | .tas t y=>match evT e y with | .sc (.iface t' (.agg cs))=>bif Nat.beq t' t&&cs.toList.all Value.oneCell' then K (z1u e x.dst (.tu [.ag (cs.toList.map .sc),.bk true])) h else .no | _=>.no
 | op=>ziz P pro cx.cs e h x.dst op K
def z40 (P:Program)(pro:List Nat)(x:Ins)(E:Env)(H0:H)(Kp:Env->H->Prop):Prop :=
 ∃ e0 h0 e1 h1 e2 h2,z8 P pro E H0 e0 h0/\(∀ t b,E t=Bl b->e0 t=Bl b)/\z2l P pro e0 h0 x.dst x.op e1 h1/\z8 P pro e1 h1 e2 h2/\Kp e2 h2
theorem z40.pre {x:Ins}{E E1:Env}{H0 H1:H}{Kp:Env->H->Prop}(g:z8 P pro E H0 E1 H1)(gb:∀ t b,E t=Bl b->E1 t=Bl b)(h:z40 P pro x E1 H1 Kp):z40 P pro x E H0 Kp:=by obtain ⟨e0,h0,e1,h1,e2,h2,g1,b1,g2,g3,k⟩:=h;exact ⟨e0,h0,e1,h1,e2,h2,g.trans g1,λt b hb=>b1 t b (gb t b hb),g2,g3,k⟩
def KP (K:TE T.q->TH T.q->Raw P T pro L)(Q:L->Prop)(E:Env)(H0:H):Prop:=∃ e h,E=z7 T.q (z4 T.q h) e/\H0=z4 T.q h/\Sat (K e h) Q
theorem zda {x:Ins}{e:TE T.q}{h:TH T.q}{K:TE T.q->TH T.q->Raw P T pro L}{Q:L->Prop}{st:StT T}(hst:z8c P pro T e h x st)(hK:Sat (K (st.env e x.dst) st.h) Q) :
  z40 P pro x (z7 T.q (z4 T.q h) e) (z4 T.q h) (KP K Q):=by
 obtain ⟨e0,h0',e1,h1',g1,gb,g2,g3⟩:=hst.1 (z7 T.q (z4 T.q h) e) (λ_ _=>rfl);exact ⟨e0,h0',e1,h1',_,_,g1,gb,g2,g3.trans (StT.env_ghost hst.2.1),_,_,rfl,rfl,hK⟩
theorem zh9 {x:Ins}{b:IB}(hx:x.op = .rd b){e e':TE T.q}{h:TH T.q}{K:TE T.q->TH T.q->Raw P T pro L}{Q:L->Prop}{v:VT T}(he:z7 T.q (z4 T.q h) e'=z7 T.q (z4 T.q h) e)(hv:(rdT e h b).gives v)(hK:Sat (K (z1u e' x.dst v) h) Q) :
  z40 P pro x (z7 T.q (z4 T.q h) e) (z4 T.q h) (KP K Q):=by
 obtain ⟨av,q1,q2⟩:=zqd hv;refine ⟨_,_,upd (z7 T.q (z4 T.q h) e) x.dst av,z4 T.q h,_,_,z8.rfl',λ_ _ h=>h,by rw [hx];exact .plain (by simp only [z2v,q1]),z8.le (e1:=z7 T.q (z4 T.q h) (z1u e' x.dst v)) λt=>?_,z1u e' x.dst v,h,rfl,rfl,hK⟩;rw [z1d,he];exact za.upd (λt=>za.refl _) q2 t
theorem zqr {cx:Cx P T}{x:Ins}{e:TE T.q}{h:TH T.q}{K:TE T.q->TH T.q->Raw P T pro L}{Q:L->Prop}(hs:Sat (znk pro cx x e h K) Q) :
  z40 P pro x (z7 T.q (z4 T.q h) e) (z4 T.q h) (KP K Q):=by
 obtain ⟨d,g,op⟩:=x
 have call:∀ {op:IK},Sat (ziz P pro cx.cs e h d op K) Q->z40 P pro ⟨d,g,op⟩ (z7 T.q (z4 T.q h) e) (z4 T.q h) (KP K Q):=λhs=>by obtain ⟨e0,h0,e1,e2,h2,g1,g2,g3,g4,gb⟩:=zlp hs;exact ⟨e0,h0,e1,_,_,_,g1,gb,g2,g3,e2,h2,rfl,rfl,g4⟩
 unfold znk at hs;dsimp only at hs;split at hs
 ·rename_i s a b;split at hs
  ·rename_i t ht;cases t with
   | true =>obtain ⟨v,hv,hK⟩:=Sat.ofRs _ (hs.1 rfl);exact zh9 (x:=⟨d,g,_⟩) rfl (z64 ht) (by simp only [rdT,evT,ht];exact .inl ⟨rfl,hv⟩) hK
   | false =>obtain ⟨v,hv,hK⟩:=Sat.ofRs _ (hs.2 rfl);exact zh9 (x:=⟨d,g,_⟩) rfl (z64 ht) (by simp only [rdT,evT,ht];exact .inr ⟨rfl,hv⟩) hK
  ·obtain ⟨v,hv,hK⟩:=Sat.ofRs _ hs;exact zh9 (x:=⟨d,g,_⟩) rfl rfl hv hK
 ·rename_i b _;obtain ⟨v,hv,hK⟩:=Sat.ofRs _ hs;exact zh9 (x:=⟨d,g,_⟩) rfl rfl hv hK
 ·rename_i b;split at hs
  ·rename_i e1 h1 hd;obtain ⟨st,hv,hK⟩:=Sat.ofRs _ hs;exact (zdt _ _ _ _ _ _ hd).elim λq1 q2=>z40.pre q1 q2 (zda (x:=⟨d,g,_⟩) (y3u hv) hK)
  ·exact hs.elim
 ·rename_i s bytes a b;split at hs
  ·rename_i e1 h1 hd;obtain ⟨st,hv,hK⟩:=Sat.ofRs _ hs;exact (yaj hd).elim λq1 q2=>z40.pre q1 q2 (zda (x:=⟨d,g,_⟩) (zre hv) hK)
  ·exact hs.elim
 ·rename_i n a v;obtain ⟨⟨e0,h0⟩,hc,hs⟩:=Sat.ofRs _ hs;dsimp only at hs;refine (ycz (P:=P) (pro:=pro) hc).elim λc1 c2=>z40.pre c1 c2 ?_;split at hs
  ·rename_i e1 h1 hd;obtain ⟨st,hv,hK⟩:=Sat.ofRs _ hs;exact (zdt _ _ _ _ _ _ hd).elim λq1 q2=>z40.pre q1 q2 (zda (x:=⟨d,g,_⟩) (y4f hv) hK)
  ·exact hs.elim
 ·obtain ⟨st,hv,hK⟩:=Sat.ofRs _ hs;exact zda (x:=⟨d,g,_⟩) (zuz hv) hK
 ·rename_i y;split at hs
  ·rename_i s hy;split at hs
   rotate_left
   ·cases hp:pro.contains d with
    | true=>simp only [hp,cond_true] at hs;exact hs.elim
    | false =>simp only [hp,cond_false] at hs;exact zda (x:=⟨d,g,_⟩) (yce hy hp) hs
   refine ⟨_,_,upd (z7 T.q (z4 T.q h) e) d (den T.q (z4 T.q h) (.im T.u8 (T.bs (bytesOf s)))),z4 T.q h,_,_,z8.rfl',λ_ _ h=>h,.plain ?_,z8.le (e1:=z7 T.q (z4 T.q h) (z1u e d (.im T.u8 (T.bs (bytesOf s))))) λt=>?_,_,h,rfl,rfl,hs⟩
   ·simp only [z2v,ze,hy,den,T.bs_ok,T.bs_sz]
   ·rw [z1d];exact za.refl _
  ·exact hs.elim
 ·rename_i y;split at hs
  ·rename_i k hy;split at hs
   ·rename_i r hr;cases hp:zkc r with
    | false=>rw [hp] at hs;exact hs.elim
    | true =>
     rw [hp,cond_true] at hs;have hpos:=y47 hp;have hgr:z5 (z4 T.q h) k=some (z9 T.q r):=by rw [z1s,hr];rfl
     have hlen:zh (z4 T.q h) k []=(z9 T.q r).xs.length:=by simp [zh,z1j,hgr,zo]
     have hh:z4 T.q ((k,r)::z11 h k)=(k,z9 T.q r)::zb (z4 T.q h) k:=by simp only [z4,zz]
     have hrow:∀ k',z5 (z4 T.q ((k,r)::z11 h k)) k'=z5 (z4 T.q h) k':=λk'=>by
      rw [hh];by_cases hk:k'=k
      ·subst hk;rw [hgr];simp [z5]
      ·simp only [z5];rw [if_neg (λe=>hk e.symm),z1a hk]
     have hden:∀ v:VT T,den T.q (z4 T.q ((k,r)::z11 h k)) v=den T.q (z4 T.q h) v:=λv=>by have:=zd3 (T:=T) (bad:=λ_ _=>false) (H0:=z4 T.q h) (H1:=z4 T.q ((k,r)::z11 h k)) (λk' q _=>z1e (hrow k')) v;rw [zk4,zia] at this;exact this.symm
     refine ⟨_,_,upd (z7 T.q (z4 T.q h) e) d (.sl k [] 0 (z9 T.q r).xs.length),(k,z9 T.q r)::zb (z4 T.q h) k,_,_,z8.rfl',λ_ _ h=>h,.plain ?_,z8.le (e1:=z7 T.q (z4 T.q ((k,r)::z11 h k)) (z1u e d (.sw k []))) λt=>?_,_,_,rfl,hh.symm ▸ rfl,hs⟩
     ·simp only [z2v,ze,hy,den,hlen,hgr];rw [if_pos hpos]
     ·rw [z1d];refine za.upd (λt=>?_) ?_ t
      ·rw [show z7 T.q (z4 T.q ((k,r)::z11 h k)) e t=z7 T.q (z4 T.q h) e t from hden _];exact za.refl _
      ·rw [hden];simp only [den,hlen];exact za.refl _
   ·exact hs.elim
  ·exact hs.elim
 ·rename_i y;split at hs
  ·rename_i a b hy;refine ⟨_,_,upd (z7 T.q (z4 T.q h) e) d (.sc (.bool true)),z4 T.q h,_,_,z8.rfl',λ_ _ h=>h,.plain ?_,z8.le (e1:=z7 T.q (z4 T.q h) (z1u e d (.bk true))) λt=>?_,_,h,rfl,rfl,hs⟩
   ·simp only [z2v,ze,hy,den]
   ·rw [z1d];exact za.refl _
  ·exact hs.elim
 ·rename_i ty y;split at hs
  ·rename_i t' cs hy;cases hb:(Nat.beq t' ty&&cs.toList.all Value.oneCell') with
   | false=>rw [hb] at hs;exact hs.elim
   | true =>
    rw [hb,cond_true] at hs;simp only [and_eq_true] at hb;have ht:=eq_of_beq_eq_true hb.1;refine ⟨_,_,upd (z7 T.q (z4 T.q h) e) d (.tu [.ag (cs.toList.map .sc),.sc (.bool true)]),z4 T.q h,_,_,z8.rfl',λ_ _ h=>h,.plain ?_,z8.le (e1:=z7 T.q (z4 T.q h) (z1u e d (.tu [.ag (cs.toList.map .sc),.bk true]))) λt=>?_,_,h,rfl,rfl,hs⟩
    ·simp only [z2v,ze,hy,den];rw [if_pos ⟨ht,hb.2⟩]
    ·rw [z1d]
     have:den T.q (z4 T.q h) (.tu [.ag (cs.toList.map .sc),.bk true]) = .tu [.ag (cs.toList.map .sc),.sc (.bool true)]:=by simp only [den,z6,zp,map_map];rfl
     rw [this];exact za.refl _
  ·exact hs.elim
 ·exact call hs
def evR (pro:List Nat)(cx:Cx P T):List Ins->TE T.q->TH T.q->(TE T.q->TH T.q->Raw P T pro L)->Raw P T pro L
 | [],e,h,K=>K e h
 | x::l,e,h,K=>zd2 e x.guard (λe=>match zau (cx.fzAt x.dst) e h with | some (e,h)=>znk pro cx x e h λe h=>evR pro cx l e h K | none=>.no) (λe=>evR pro cx l (z1u e x.dst (zkf x.op)) h K)
theorem zfn {cx:Cx P T}{K:TE T.q->TH T.q->Raw P T pro L}{Q:L->Prop}:∀ (l:List Ins) (e:TE T.q) (h:TH T.q),Sat (evR pro cx l e h K) Q ->
  ∃ E H',z2e P pro l (z7 T.q (z4 T.q h) e) (z4 T.q h) E H'/\KP K Q E H'
 | [],e,h,hs=>⟨_,_,.nil,e,h,rfl,rfl,hs⟩
 | x::l,e,h,hs=>by
  obtain ⟨e',he,h1 | h1⟩:=zbv (H0:=z4 T.q h) hs
  ·have h12:z40 P pro x (z7 T.q (z4 T.q h) e') (z4 T.q h) (KP (λe h=>evR pro cx l e h K) Q):=by
    have:=h1.2;split at this
    ·rename_i e5 h5 hf;obtain ⟨q1,q2⟩:=z7g (P:=P) (pro:=pro) _ hf;exact z40.pre q1 q2 (zqr this)
    ·exact this.elim
   obtain ⟨e0,h0,e1,h1',e2,h2,g1,gb,g2,g3,e4,h4,rfl,rfl,hK⟩:=h12;obtain ⟨E,H',r,k⟩:=zfn l e4 h4 hK;rw [he] at g1 gb;refine ⟨E,H',.ghost g1 (.step ?_ g2 (.ghost g3 r)),k⟩;have hw:=h1.1;cases hg:x.guard with
   | none=>rfl
   | some sw =>
    obtain ⟨s,want⟩:=sw;rw [hg] at hw;simp only [zw] at hw ⊢;split at hw
    ·rename_i b hb;rw [gb s b hb];exact hw
    ·cases hw
    ·cases hw
  ·obtain ⟨E,H',r,k⟩:=zfn l _ h h1.2;rw [z1d,he,z9f] at r;exact ⟨E,H',.skip h1.1 r,k⟩
def zqs (pro:List Nat)(cx:Cx P T)(x:Ins)(e:TE T.q)(h:TH T.q)(K:TE T.q->TH T.q->Raw P T pro L)(KX:Value->TE T.q->TH T.q->Raw P T pro L):Raw P T pro L :=
 match x.op with
 | .call f l=>zo0 P pro cx.cs e h x.dst f l K KX
 | _=>znk pro cx x e h K
theorem zn4 {cx:Cx P T}{x:Ins}{e:TE T.q}{h:TH T.q}{K:TE T.q->TH T.q->Raw P T pro L}{KX:Value->TE T.q->TH T.q->Raw P T pro L}{Q:L->Prop}(hs:Sat (zqs pro cx x e h K KX) Q) :
  z40 P pro x (z7 T.q (z4 T.q h) e) (z4 T.q h) (KP K Q) \/
  (∃ e0 h0 u ex hx,z8 P pro (z7 T.q (z4 T.q h) e) (z4 T.q h) e0 h0/\(∀ t b,z7 T.q (z4 T.q h) e t=Bl b->e0 t=Bl b)/\z7o P e0 h0 x.op u (z4 T.q hx)/\(∀ t,za (ptE e0 t) (z7 T.q (z4 T.q hx) ex t))/\Sat (KX u ex hx) Q):=by
 obtain ⟨d,g,op⟩:=x;cases op with
 | call f l =>
  rcases zxz hs with ⟨e0,h0,e1,e2,h2,g1,g2,g3,g4,gb⟩ | hp
  ·exact .inl ⟨e0,h0,e1,_,_,_,g1,gb,g2,g3,e2,h2,rfl,rfl,g4⟩
  ·exact .inr hp
 | _=>exact .inl (zqr (cx:=cx) hs)
def zwc (pro:List Nat)(cx:Cx P T):List Ins->TE T.q->TH T.q->(TE T.q->TH T.q->Raw P T pro L)->(Value->TE T.q->TH T.q->Raw P T pro L)->Raw P T pro L
 | [],e,h,K,_=>K e h
 | x::l,e,h,K,KX=>zd2 e x.guard (λe=>match zau (cx.fzAt x.dst) e h with | some (e,h)=>zqs pro cx x e h (λe h=>zwc pro cx l e h K KX) KX | none=>.no) (λe=>zwc pro cx l (z1u e x.dst (zkf x.op)) h K KX)
theorem za9 {E e0:Env}{g:Option (Nat×Bool)}(hw:zw E g=some true)(gb:∀ t b,E t=Bl b->e0 t=Bl b):zw e0 g=some true:=by
 cases g with
 | none=>rfl
 | some sw =>
  obtain ⟨s,want⟩:=sw;simp only [zw] at hw ⊢;split at hw
  ·rename_i b hb;rw [gb s b hb];exact hw
  ·cases hw
  ·cases hw
theorem zkw {cx:Cx P T}{K:TE T.q->TH T.q->Raw P T pro L}{KX:Value->TE T.q->TH T.q->Raw P T pro L}{Q:L->Prop}:∀ (l:List Ins) (e:TE T.q) (h:TH T.q),Sat (zwc pro cx l e h K KX) Q ->
  (∃ E H',z2e P pro l (z7 T.q (z4 T.q h) e) (z4 T.q h) E H'/\KP K Q E H')\/(∃ u E ex hx,z9h P pro u E (z4 T.q hx) l (z7 T.q (z4 T.q h) e) (z4 T.q h)/\(∀ t,za (E t) (z7 T.q (z4 T.q hx) ex t))/\Sat (KX u ex hx) Q)
 | [],e,h,hs=>.inl ⟨_,_,.nil,e,h,rfl,rfl,hs⟩
 | x::l,e,h,hs=>by
  obtain ⟨e',he,h1 | h1⟩:=zbv (H0:=z4 T.q h) hs
  ·have this:=h1.2;split at this
   ·rename_i e5 h5 hf;obtain ⟨q1,q2⟩:=z7g (P:=P) (pro:=pro) _ hf;rcases zn4 this with h12 | ⟨e0,h0,u,ex,hx,g1,gb,g2,hle,hK⟩
    ·have h12:=z40.pre q1 q2 h12;obtain ⟨e0,h0,e1,h1',e2,h2,g1,gb,g2,g3,e4,h4,rfl,rfl,hK⟩:=h12;rw [he] at g1 gb;have hw:=za9 h1.1 gb;rcases zkw l e4 h4 hK with ⟨E,H',r,k⟩ | ⟨u,E,ex,hx,r,hle,k⟩
     ·exact .inl ⟨E,H',.ghost g1 (.step hw g2 (.ghost g3 r)),k⟩
     ·exact .inr ⟨u,E,ex,hx,.ghost g1 (.step hw g2 (.ghost g3 r)),hle,k⟩
    ·rw [he] at q1 q2;exact .inr ⟨u,_,ex,hx,.ghost (q1.trans g1) (.here (za9 h1.1 λt b hb=>gb t b (q2 t b hb)) g2 rfl),hle,hK⟩
   ·exact this.elim
  ·rcases zkw l _ h h1.2 with ⟨E,H',r,k⟩ | ⟨u,E,ex,hx,r,hle,k⟩
   ·rw [z1d,he,z9f] at r;exact .inl ⟨E,H',.skip h1.1 r,k⟩
   ·rw [z1d,he,z9f] at r;exact .inr ⟨u,E,ex,hx,.skip h1.1 r,hle,k⟩
end
theorem WD.mono {P:Program}{K K':Env->H->Prop}{h0:H}(hk:∀ e h,K e h->K' e h):∀ (pre:List (Ins×List Nat)) (i:Nat) (e:Env) (acc:List (Nat×H)),WD P pre i e acc h0 K->WD P pre i e acc h0 K'
 | [],_,_,_,h=>⟨h.1,hk _ _ h.2⟩
 | _::pre,_,_,_,⟨av,rows,h1,h2⟩=>⟨av,rows,h1,WD.mono hk pre _ _ _ h2⟩
section
variable {P:Program}{T:TT}{pro:List Nat}{L:Type}
mutual
def z8r (ok:Nat->Bool):VT T->Bool
 | .sw k _=>ok k
 | .ag cs=>za8 ok cs
 | .tu cs=>za8 ok cs
 | .fn _ cs=>za8 ok cs
 | .un | .sc _ | .ik _ _ | .bk _ | .zs | .im _ _ | .ip _ _ _ | .sl _ _ _ _ | .pt _ _ _ _ | .ow _ _ _ | .oo _ _ _ _ _ | .pp _=>true
def za8 (ok:Nat->Bool):List (VT T)->Bool
 | []=>true
 | x::l=>z8r ok x&&za8 ok l
end
mutual
theorem zaq {H0 H1:H}{ok:Nat->Bool}(hk:∀ k,ok k=true->z5 H1 k=z5 H0 k):∀ (v:VT T),z8r ok v=true->den T.q H1 v=den T.q H0 v
 | .sw k p,h=>by simp only [z8r] at h;simp only [den,z1e (hk k h)]
 | .ag cs,h=>by simp only [z8r] at h;simp only [den,z96 hk cs h]
 | .tu cs,h=>by simp only [z8r] at h;simp only [den,z96 hk cs h]
 | .fn _ cs,h=>by simp only [z8r] at h;simp only [den,z96 hk cs h]
 | .un,_ | .sc _,_ | .ik _ _,_ | .bk _,_ | .zs,_ | .im _ _,_ | .ip _ _ _,_ | .sl _ _ _ _,_ | .pt _ _ _ _,_ | .ow _ _ _,_ | .oo _ _ _ _ _,_ | .pp _,_=>rfl
theorem z96 {H0 H1:H}{ok:Nat->Bool}(hk:∀ k,ok k=true->z5 H1 k=z5 H0 k):∀ (v:List (VT T)),za8 ok v=true->z6 T.q H1 v=z6 T.q H0 v
 | [],_=>rfl
 | x::l,h=>by simp only [za8,and_eq_true] at h;simp only [z6,zaq hk x h.1,z96 hk l h.2]
end
def zvw (ok:Nat->Bool):TE T.q->Bool
 | []=>true
 | (_,v)::l=>z8r ok v&&zvw ok l
theorem y5c {H0 H1:H}{ok:Nat->Bool}(hk:∀ k,ok k=true->z5 H1 k=z5 H0 k):∀ (e:TE T.q),zvw ok e=true->z7 T.q H1 e=z7 T.q H0 e:=by
 intro e he;funext t;unfold z7;refine zaq hk _ ?_
 induction e with
 | nil=>rfl
 | cons x l ih =>
  obtain ⟨k,v⟩:=x;simp only [zvw,and_eq_true] at he;simp only [z1b];cases Nat.beq t k
  ·exact ih he.2
  ·exact he.1
def hxT (D:List Nat):List (Nat×TH T.q)->TH T.q
 | []=>[]
 | (i,r)::l=>bif D.contains i then r++hxT D l else hxT D l
def z1l:List (Nat×TH T.q)->TH T.q
 | []=>[]
 | (_,r)::l=>r++z1l l
def z7p (T:TT)(acc:List (Nat×TH T.q)):List (Nat×H):=acc.map λx=>(x.1,z4 T.q x.2)
theorem zup (D:List Nat):∀ (acc:List (Nat×TH T.q)),hx D (z7p T acc)=z4 T.q (hxT D acc)
 | []=>rfl
 | (i,r)::l=>by have ih:=zup D l;simp only [z7p,map_cons,hx,hxT];cases hc:D.contains i with | true=>simp only [if_true,cond_true,z2h];rw [<- ih];rfl | false=>simp only [false_eq_true,if_false,cond_false];rw [<- ih];rfl
theorem zjr:∀ (acc:List (Nat×TH T.q)),z3u (z7p T acc)=z4 T.q (z1l acc)
 | []=>rfl
 | (i,r)::l=>by have ih:=zjr l;simp only [z7p,map_cons,z3u,z1l,z2h];rw [<- ih];rfl
theorem z8x:∀ (acc:List (Nat×TH T.q)) (i:Nat) (r:TH T.q),z1l (acc++[(i,r)])=z1l acc++r
 | [],_,_=>by simp [z1l]
 | (_,r')::l,i,r=>by simp [z1l,z8x l]
theorem zh2 (D:List Nat):∀ (acc:List (Nat×TH T.q)) (z:Nat×TR T.El),z∈hxT D acc->z∈z1l acc
 | (i,r)::l,z,hz=>by
  simp only [hxT] at hz;simp only [z1l,mem_append];cases hc:D.contains i with
  | true =>rw [hc,cond_true,mem_append] at hz;exact hz.imp id (zh2 D l z)
  | false =>rw [hc,cond_false] at hz;exact .inr (zh2 D l z hz)
theorem zhx:∀ (h:TH T.q) (z:Nat×Row),z∈z4 T.q h↔∃ k r,(k,r)∈h/\z=(k,z9 T.q r)
 | [],z=>by simp [z4]
 | (k,r)::h,z=>by
  simp only [z4,mem_cons,zhx h z];constructor
  ·rintro (rfl | ⟨k',r',h1,rfl⟩)
   ·exact ⟨k,r,.inl rfl,rfl⟩
   ·exact ⟨k',r',.inr h1,rfl⟩
  ·rintro ⟨k',r',h1 | h1,rfl⟩
   ·cases h1;exact .inl rfl
   ·exact .inr ⟨k',r',h1,rfl⟩
theorem zq8 {hd ha:TH T.q}(hn:zt (ha.map Prod.fst)=true)(hs:∀ z∈hd,z∈ha)(k:Nat)(hk:(hd.map Prod.fst).contains k=true):z5 (z4 T.q ha) k=z5 (z4 T.q hd) k:=by
 have hk':k∈(z4 T.q hd).map Prod.fst:=by rw [z1o];simpa using hk
 obtain ⟨r,hr⟩:=z8w _ _ hk';rw [hr];have hm:=z6y hr;obtain ⟨k2,r2,h1,h2⟩:=(zhx hd _).1 hm;cases h2;exact z6w (by rw [z1o];exact z10 _ hn) ((zhx ha _).2 ⟨k,r2,hs _ h1,rfl⟩)
def zfK (T:TT)(ks:List Kd)(c:Nat):Option Nat:=match ks[c]? with | some (.im t)=>some (T.sz t) | _=>none
theorem zvo {f:Nat->Option Nat}:∀ (l:List AV) (c:Nat),(∀ j,f (c+j)=none)->zfA f c l=l
 | [],_,_=>rfl
 | a::l,c,h=>by
  have ih:=zvo (f:=f) l (c+1) λj=>by rw [show c+1+j=c+(j+1) by omega];exact h _
  have h0:=h 0;rw [Nat.add_zero] at h0;cases a<;>simp only [zfA,ih,h0]
theorem zmc {f:Nat->Option Nat}:∀ (ks:List Kd) (l:List (VT T)) (c:Nat),(∀ j,f (c+j)=zfK T ks j)->z6 T.q [] (z7u ks l)=zfA f c (z6 T.q [] l)
 | [],l,c,h=>by rw [zvo _ _ λj=>by rw [h j];simp [zfK]];cases l<;>rfl
 | k::ks,[],c,h=>by cases k<;>rfl
 | k::ks,v::l,c,h=>by
  have ih:=zmc (f:=f) ks l (c+1) λj=>by rw [show c+1+j=c+(j+1) by omega,h (j+1)];simp [zfK]
  have h0:=h 0;rw [Nat.add_zero] at h0;cases k with
  | im t =>
   have h0:f c=some (T.sz t):=by rw [h0];simp [zfK]
   cases v<;>first | (rename_i q;cases q<;>simp only [z7u,z6,den,z2i,zfA,ih,h0,map_nil];done) | simp only [z7u,z6,den,zfA,ih,h0,map_nil]
  | _ =>
   have h0:f c=none:=by rw [h0];simp [zfK]
   cases v<;>first | (rename_i q;cases q<;>simp only [z7u,z6,den,z2i,zfA,ih,h0];done) | simp only [z7u,z6,den,zfA,ih,h0]
def mkD (ty:Option (Bool×Nat))(e:TE T.q)(d:Nat)(b:IB):Rs (VT T×TR T.El) :=
 bif (z37 b).all (λo=>z8r (λ_=>false) (evT e o)) then
 match b with
 | .box s x =>
  match z73 (evT e x) with
  | none=>.no
  | some cs=>bif Nat.beq cs.length s then
   match zdh (T:=T) [] [d] [cs] with
   | some (xs,_,[])=>.ok (.pt d [] 0 0,.lit s xs)
   | _=>.no
   else .no
 | .bsl s len zero parts =>
  match zdx (replicate len (z4d zero)).flatten (parts.map λ(i,x)=>(i * s,s,evT e x)) with
  | none=>.no
  | some cs =>
   match zdh (T:=T) [] [d] (z8e s len cs) with
   | some (xs,_,[])=>.ok (.sw d [],match ty with
    | some (m,t)=>bif Nat.beq (T.sz t) s then (match unL m t xs with | some ys=>.typ m t ys | none=>.lit s xs) else .lit s xs
    | none=>.lit s xs)
   | _=>.no
 | .mks s bytes zero l =>
  match z8y (evT e l),ty with
  | some n,some (m,t)=>bif Nat.beq (T.sz t) s then
   match T.un m t (z7u (T.ks m t) (z4d zero)) with
   | some z=>.need (0<=n/\n * (bytes:Int)<=140737488355328) (.ok (.sw d [],.typ m t (replicate n.toNat z)))
   | none=>.no
   else .no
  | _,_=>.no
 | _=>.no
 else .no
theorem ykm {ty:Option (Bool×Nat)}{e:TE T.q}{d:Nat}{b:IB}{v:VT T}{r:TR T.El}(H0:H)(hg:(mkD ty e d b).gives (v,r)) :
  (∃ zf rows0,z3d (ev (z7 T.q H0 e)) [] d b=some (den T.q [(d,z9 T.q r)] v,rows0)/\[(d,z9 T.q r)]=zfH zf rows0)/\(v = .pt d [] 0 0\/v = .sw d []):=by
 have plain:∀ {b:IB} {v:VT T} {r:TR T.El},z3d (ev (z7 T.q H0 e)) [] d b=some (den T.q [(d,z9 T.q r)] v,[(d,z9 T.q r)])->∃ zf rows0,z3d (ev (z7 T.q H0 e)) [] d b=some (den T.q [(d,z9 T.q r)] v,rows0)/\[(d,z9 T.q r)]=zfH zf rows0:=λh=>⟨λ_=>none,_,h,(zr2 _).symm⟩
 unfold mkD at hg;obtain ⟨hall,hg⟩:=zn hg;have hden:∀ o∈z37 b,den T.q H0 (evT e o)=den T.q [] (evT e o):=λo ho=>zaq (ok:=λ_=>false) (λk h=>(by cases h)) _ (all_eq_true.1 hall o ho);have start:∀ k,[d].contains k=false->z5 (z4 T.q ([]:TH T.q)) k=z5 ([]:H) k:=λ_ _=>rfl;cases b with
 | box s x =>
  dsimp only at hg;split at hg
  ·exact hg.elim
  ·rename_i cs hcs;obtain ⟨hl,hg⟩:=zn hg;split at hg
   ·rename_i xs g ha;cases hg;obtain ⟨q1,q2,q3⟩:=zan (H0:=[]) _ _ _ _ _ _ start ha;have hc:=z8s (h:=[]) hcs;refine ⟨plain ?_,.inl rfl⟩;simp only [z3d,ze,hden x (by simp [z37]),hc,z1v];rw [if_pos (eq_of_beq_eq_true hl)];simp only [map_cons,map_nil,z4] at q1;simp only [zb,q1];simp [den,z9]
   ·exact hg.elim
 | bsl s len zero parts =>
  dsimp only at hg;split at hg
  ·exact hg.elim
  ·rename_i cs hcs;split at hg
   ·rename_i xs g ha;obtain ⟨q1,q2,q3⟩:=zan (H0:=[]) _ _ _ _ _ _ start ha;have hf:=zdy (h:=[]) _ _ _ hcs;rw [map_map] at hf;have hxl:xs.length=len:=by rw [q3,zcf]
    have key:∀ r:TR T.El,z9 T.q r=⟨s,xs.map (z6 T.q [])⟩->z3d (ev (z7 T.q H0 e)) [] d (.bsl s len zero parts)=some (den T.q [(d,z9 T.q r)] (.sw d []),[(d,z9 T.q r)]):=by
     intro r hr
     have e0:z6 T.q [] (replicate len (z4d zero)).flatten=(replicate len (zero.map cval)).flatten:=by rw [zp,List.map_flatten,List.map_replicate,<- zp,z5w]
     have e1:(parts.map λ(i,x)=>(i * s,s,ev (z7 T.q H0 e) x))=parts.map ((λ(o,n,x)=>(o,n,den T.q [] x)) ∘ λ(i,x)=>(i * s,s,evT e x)) :=
      map_congr_left λ⟨i,x⟩ hix=>by simp only [Function.comp,ze,hden x (by simp only [z37];exact mem_map.2 ⟨(i,x),hix,rfl⟩)]
     simp only [z3d];rw [e1,<- e0,hf];simp only;rw [zdp] at q1;simp only [z4] at q1;simp only [zb,q1,hr];simp [den,zh,z1j,z5,zo,hxl]
    cases hg;refine ⟨plain (key _ ?_),.inr rfl⟩;split
    ·rename_i m t;cases hb:Nat.beq (T.sz t) s with
     | false=>rfl
     | true =>
      simp only [cond_true];split
      ·rename_i ys hy;simp only [z9,zkm _ _ hy,eq_of_beq_eq_true hb]
      ·rfl
    ·rfl
   ·exact hg.elim
 | mks s bytes zero l =>
  dsimp only at hg;split at hg
  ·rename_i n m t hn _;obtain ⟨hs,hg⟩:=zn hg;split at hg
   ·rename_i z hz;obtain ⟨hc,hg⟩:=hg;cases hg;obtain ⟨kk,hi⟩:=z77 (h:=H0) hn;refine ⟨⟨zfK T (T.ks m t),[(d,⟨s,replicate n.toNat (zero.map cval)⟩)],?_,?_⟩,.inr rfl⟩
    ·simp only [z3d,ze,hi];rw [if_pos hc];simp [den,zh,z1j,z5,zo,z9,eq_of_beq_eq_true hs,zb]
    ·have hz2:T.ca m t z=zfA (zfK T (T.ks m t)) 0 (zero.map cval):=by rw [<- T.un_ok _ _ _ _ hz,zmc (f:=zfK T (T.ks m t)) _ _ 0 (λj=>by rw [Nat.zero_add]),z5w]
     simp only [zfH,z9,List.map_replicate,hz2,eq_of_beq_eq_true hs]
   ·exact hg.elim
  ·exact hg.elim
 | _=>exact hg.elim
def znd (P:Program)(cs:List (Con P T))(e:TE T.q)(hd:TH T.q)(d:Nat)(op:IK)(K:VT T->TH T.q->Raw P T pro L):Raw P T pro L :=
 match z72 P e op with
 | none=>.no
 | some (f,args) =>
 match ze0 f args cs with
 | some (C,[])=>bif (C.strong||!z3f args)&&za8 (λk=>(hd.map Prod.fst).contains k) args then
  Raw.ofRs (λargs'=>.call C args' [] λy =>
   let bm:=znw [] d C.N
   bif zt (bm.map Prod.fst)&&zt (bm.map Prod.snd)&&(!z3f args||(zc3 (C.encR y)&&zb3 (C.encO y))) then
    match z9g (C.encO y) bm,z3t bm (C.encR y) with
    | some (hb,_),some v=>K v hb
    | _,_=>.no
   else .no) (zcu hd [] C.A args)
  else .no
 | _=>.no
def zo8 (cx:Cx P T)(x:Ins)(e:TE T.q)(hd:TH T.q)(K:VT T->TH T.q->Raw P T pro L):Raw P T pro L :=
 match x.op with
 | .rd b=>bif (z37 b).all (λo=>z8r (λk=>(hd.map Prod.fst).contains k) (evT e o)) then Raw.ofRs (λv=>bif z8r (λk=>(hd.map Prod.fst).contains k) v then K v [] else .no) (rdT e hd b) else .no
 | .mk b=>Raw.ofRs (λ(v,r)=>K v [(x.dst,r)]) (mkD (cx.at x.dst) e x.dst b)
 | .call f l=>znd P cx.cs e hd x.dst (.call f l) K
 | .callv f l=>znd P cx.cs e hd x.dst (.callv f l) K
 | _=>.no
def zx2 (ha:TH T.q)(rows:TH T.q)(e:TE T.q):Bool:=(rows.map Prod.fst).all (λk=>!(ha.map Prod.fst).contains k)&&zvw (λk=>!(rows.map Prod.fst).contains k) e
def evD (cx:Cx P T):List (Ins×List Nat)->Nat->TE T.q->List (Nat×TH T.q)->TH T.q->(TE T.q->TH T.q->Raw P T pro L)->Raw P T pro L
 | [],_,e,acc,h0,K=>bif zt ((z1l acc++h0).map Prod.fst) then K e (z1l acc++h0) else .no
 | x::l,i,e,acc,h0,K=>bif zt ((z1l acc++h0).map Prod.fst) then
  zd2 e x.1.guard (λe=>zo8 cx x.1 e (hxT x.2 acc++h0) λv rows=>bif zx2 (z1l acc++h0) rows e then evD cx l (i+1) (z1u e x.1.dst v) (acc++[(i,rows)]) h0 K else .no)
   (λe=>evD cx l (i+1) (z1u e x.1.dst (zkf x.1.op)) (acc++[(i,[])]) h0 K)
  else .no
theorem zy4 {cx:Cx P T}{x:Ins}{D:List Nat}{e:TE T.q}{hd ha:TH T.q}{K:VT T->TH T.q->Raw P T pro L}{Q:L->Prop}(hw:zw (z7 T.q (z4 T.q ha) e) x.guard=some true)
  (hn:zt (ha.map Prod.fst)=true) (hsub:∀ z∈hd,z∈ha) (hs:Sat (zo8 cx x e hd K) Q) :
  ∃ v rows,Sat (K v rows) Q/\∀ h1:TH T.q,(∀ k,(hd.map Prod.fst).contains k=true->z5 (z4 T.q h1) k=z5 (z4 T.q hd) k)->(∀ k,(rows.map Prod.fst).contains k=true->z5 (z4 T.q h1) k=z5 (z4 T.q rows) k) ->
   DOk P (z7 T.q (z4 T.q ha) e) (z4 T.q hd) ⟨x,D,den T.q (z4 T.q h1) v,z4 T.q rows⟩:=by
 obtain ⟨d,g,op⟩:=x;have hpart:=zq8 hn hsub
 have opd:∀ o,z8r (λk=>(hd.map Prod.fst).contains k) (evT e o)=true->ev (z7 T.q (z4 T.q ha) e) o=ev (z7 T.q (z4 T.q hd) e) o:=λo ho=>by rw [ze,ze,zaq hpart _ ho]
 have call:∀ {op:IK},(∀ f args,z72 P e op=some (f,args)->za8 (λk=>(hd.map Prod.fst).contains k) args=true->z4n P (z7 T.q (z4 T.q ha) e) op f (z6 T.q (z4 T.q ha) args))->Sat (znd P cx.cs e hd d op K) Q ->
   ∃ v rows,Sat (K v rows) Q/\∀ h1:TH T.q,(∀ k,(hd.map Prod.fst).contains k=true->z5 (z4 T.q h1) k=z5 (z4 T.q hd) k)->(∀ k,(rows.map Prod.fst).contains k=true->z5 (z4 T.q h1) k=z5 (z4 T.q rows) k) ->
    DOk P (z7 T.q (z4 T.q ha) e) (z4 T.q hd) ⟨⟨d,g,op⟩,D,den T.q (z4 T.q h1) v,z4 T.q rows⟩:=by
  intro op hca hs;unfold znd at hs;split at hs
  ·exact hs.elim
  ·rename_i f args hargs;split at hs
   ·rename_i C hC;cases hb:((C.strong||!z3f args)&&za8 (λk=>(hd.map Prod.fst).contains k) args) with
    | false=>rw [hb] at hs;exact hs.elim
    | true =>
     rw [hb,cond_true] at hs;simp only [and_eq_true] at hb;obtain ⟨args',hcv,x,y,q1,q2,q3,q4⟩:=Sat.ofRs _ hs;dsimp only at q4;generalize hbm:znw [] d C.N=bm at q4;cases hb2:(zt (bm.map Prod.fst)&&zt (bm.map Prod.snd)&&(!z3f args||(zc3 (C.encR y)&&zb3 (C.encO y)))) with
     | false=>rw [hb2] at q4;exact q4.elim
     | true =>
      rw [hb2,cond_true] at q4;simp only [and_eq_true] at hb2;obtain ⟨⟨b1,b2⟩,b5⟩:=hb2;split at q4
      ·rename_i hb' left v hsb hbk;refine ⟨v,hb',q4,λh1 hp1 hp2=>?_⟩;obtain ⟨l,r1,r2⟩:=z7f (H0:=z4 T.q hd) (Hn:=z4 T.q []) (rest:=hd) (m:=[]) (bor:=z3f args) (λ_ _=>rfl) C.A args args' hcv (λh=>h);have hCf:=zas cx.cs hC;have hG:=C.ok x y q3;rw [q1,q2,hCf] at hG
       have hok:z1p P f l [] (den T.q (z4 T.q (C.encO y)) (C.encR y)) (z4 T.q (C.encO y))\/z3f args=false/\CallG P f l [] (den T.q (z4 T.q (C.encO y)) (C.encR y)) (z4 T.q (C.encO y)):=by
        cases hst:C.strong with
        | true=>exact .inl (z1p.le r2 (hG.1 hst))
        | false =>rw [hst] at hb;exact .inr ⟨by simpa using hb.1,CallG.le r2 hG.2⟩
       obtain ⟨t1,t2,t3⟩:=z6b bm (C.encO y) hb' left hsb;have hkeys:=z92 _ _ _ _ t1;have hde:z6 T.q (z4 T.q ha) args=z6 T.q (z4 T.q hd) args:=z96 hpart _ hb.2;refine .call hw (hca f args hargs hb.2) (by rw [hde];exact r1) hok t1 (z10 _ b1) (zao (λk n q hkn=>?_) _ _ hbk) (λhbor=>?_)
       ·have hm:=z7y bm hkn;have hg:=t3 n k b1 b2 hm;have hn':n∈hb'.map Prod.fst:=by rw [<- z1o,hkeys];exact mem_map.2 ⟨_,hm,rfl⟩
        have:=hp2 n (by simpa using hn');unfold zh z1j;rw [this,hg]
       ·rw [hbor] at b5;simp only [Bool.not_true,Bool.false_or,and_eq_true] at b5;exact ⟨zeo _ b5.1,zc2 _ b5.2⟩
      ·exact q4.elim
   ·exact hs.elim
 unfold zo8 at hs;dsimp only at hs;split at hs
 ·rename_i b;cases hb:(z37 b).all (λo=>z8r (λk=>(hd.map Prod.fst).contains k) (evT e o)) with
  | false=>rw [hb] at hs;exact hs.elim
  | true =>
   rw [hb,cond_true] at hs;obtain ⟨v,hv,hs⟩:=Sat.ofRs _ hs;cases hsv:z8r (λk=>(hd.map Prod.fst).contains k) v with
   | false=>rw [hsv] at hs;exact hs.elim
   | true =>rw [hsv,cond_true] at hs;refine ⟨v,[],hs,λh1 hp1 hp2=>?_⟩;obtain ⟨av,r1,r2⟩:=zqd hv;refine .rd (av:=av) hw rfl ?_ (by rw [zaq hp1 v hsv];exact r2) rfl;rw [<- r1];exact z5d b λo ho=>opd o (all_eq_true.1 hb o ho)
 ·rename_i b;obtain ⟨⟨v,r⟩,hv,hs⟩:=Sat.ofRs _ hs;obtain ⟨m1,m2⟩:=ykm (z4 T.q ha) hv;obtain ⟨zf,rows0,m1,m3⟩:=m1;refine ⟨v,[(d,r)],hs,λh1 hp1 hp2=>.mk zf hw rfl (rows0:=rows0) ?_ m3⟩;simp only [m1];have hr:=hp2 d (by simp);rcases m2 with rfl | rfl
  ·rfl
  ·simp only [den];congr 2;rw [z1e hr];rfl
 ·rename_i f l;refine call (λf' args ha' hsw=>?_) hs;cases ha'
  have:z6 T.q (z4 T.q ha) (l.map (evT e))=l.map (ev (z7 T.q (z4 T.q ha) e)):=by rw [zp,map_map];exact map_congr_left λx _=>(ze x).symm
  rw [this];exact .call
 ·rename_i f l;refine call (λf' args ha' hsw=>?_) hs;simp only [z72] at ha';split at ha'
  ·rename_i f2 caps hx;cases hf:zci P f2 with
   | false=>rw [hf] at ha';cases ha'
   | true =>
    rw [hf] at ha';cases ha'
    have:z6 T.q (z4 T.q ha) (l.map (evT e)++caps)=l.map (ev (z7 T.q (z4 T.q ha) e))++z6 T.q (z4 T.q ha) caps:=by rw [zp,zp,map_append,map_map];congr 1;exact map_congr_left λx _=>(ze x).symm
    rw [this];exact .callv (by rw [ze,hx];rfl) hf
  ·cases ha'
 ·exact hs.elim
theorem zwl {a b c:H}{k:Nat}(hk:(b.map Prod.fst).contains k=false):z5 (a++b++c) k=z5 (a++c) k:=by have hb:z5 b k=none:=z8v b k (by intro hm;have:(b.map Prod.fst).contains k=true:=(by simpa using hm);rw [this] at hk;cases hk);rw [z3a,z3a,z3a,hb];cases z5 a k<;>rfl
theorem zj8 {cx:Cx P T}{K:TE T.q->TH T.q->Raw P T pro L}{Q:L->Prop}{h0:TH T.q}:∀ (l:List (Ins×List Nat)) (i:Nat) (e:TE T.q) (acc:List (Nat×TH T.q)),Sat (evD cx l i e acc h0 K) Q ->
  WD P l i (z7 T.q (z4 T.q (z1l acc++h0)) e) (z7p T acc) (z4 T.q h0) (KP K Q)
 | [],i,e,acc,hs=>by
  unfold evD at hs;cases hn:zt ((z1l acc++h0).map Prod.fst) with
  | false=>rw [hn] at hs;exact hs.elim
  | true =>
   rw [hn,cond_true] at hs;have e1:z3u (z7p T acc)++z4 T.q h0=z4 T.q (z1l acc++h0):=by rw [zjr,z2h]
   refine ⟨by rw [e1,z1o];exact hn,?_⟩;rw [e1];exact ⟨_,_,rfl,rfl,hs⟩
 | x::l,i,e,acc,hs=>by
  unfold evD at hs;cases hn:zt ((z1l acc++h0).map Prod.fst) with
  | false=>rw [hn] at hs;exact hs.elim
  | true =>
   rw [hn,cond_true] at hs;obtain ⟨e',he,h1 | h1⟩:=zbv (H0:=z4 T.q (z1l acc++h0)) hs
   ·obtain ⟨v,rows,hK,hd⟩:=zy4 (D:=x.2) (ha:=z1l acc++h0) (by rw [he];exact h1.1) hn (λz hz=>by rw [mem_append] at hz ⊢;exact hz.imp (zh2 x.2 acc z) id) h1.2
    cases hno:zx2 (z1l acc++h0) rows e' with
    | false=>rw [hno] at hK;exact hK.elim
    | true =>
     rw [hno,cond_true] at hK;simp only [zx2,and_eq_true] at hno;have ih:=zj8 l (i+1) _ _ hK
     have hrow:∀ k,(rows.map Prod.fst).contains k=false->z5 (z4 T.q (z1l (acc++[(i,rows)])++h0)) k=z5 (z4 T.q (z1l acc++h0)) k:=λk hk=>by rw [z8x,z2h,z2h,z2h];exact zwl (by rw [z1o];exact hk)
     have hnew:∀ k,(rows.map Prod.fst).contains k=true->((z1l acc++h0).map Prod.fst).contains k=false:=λk hk=>by have:=all_eq_true.1 hno.1 k (by simpa using hk);simpa using this
     have hd':=hd (z1l (acc++[(i,rows)])++h0) (λk hk=>by
      have hsub:∀ z∈hxT x.2 acc++h0,z∈z1l acc++h0:=λz hz=>by rw [mem_append] at hz ⊢;exact hz.imp (zh2 x.2 acc z) id
      have hk2:((z1l acc++h0).map Prod.fst).contains k=true:=by simp only [List.contains_eq_mem,decide_eq_true_eq] at hk ⊢;obtain ⟨z,hz,rfl⟩:=mem_map.1 hk;exact mem_map.2 ⟨z,hsub z hz,rfl⟩
      rw [hrow k (by
       cases hc:(rows.map Prod.fst).contains k with
       | false=>rfl
       | true=>rw [hnew k hc] at hk2;cases hk2)]
      exact zq8 hn hsub k hk) (λk hk=>by
      rw [z8x,z2h,z2h]
      have ha:z5 (z4 T.q (z1l acc)) k=none:=z8v _ _ (by
       rw [z1o];intro hm;have h3:=hnew k hk
       have h4:((z1l acc++h0).map Prod.fst).contains k=true:=by simp only [map_append,List.contains_eq_mem,mem_append,decide_eq_true_eq];exact .inl hm
       rw [h3] at h4;cases h4)
      have hk':k∈(z4 T.q rows).map Prod.fst:=by rw [z1o];simpa using hk
      obtain ⟨r,hr⟩:=z8w _ _ hk';rw [List.append_assoc,z3a,ha];simp only;rw [z3a,hr])
     rw [<- he];refine ⟨den T.q (z4 T.q (z1l (acc++[(i,rows)])++h0)) v,z4 T.q rows,by rw [zup,<- z2h];exact hd',?_⟩
     ·rw [z1d,y5c (H0:=z4 T.q (z1l acc++h0)) (λk hk=>hrow k (by simpa using hk)) e' hno.2] at ih;have:z7p T (acc++[(i,rows)])=z7p T acc++[(i,z4 T.q rows)]:=by simp [z7p]
      rw [this] at ih;exact ih
   ·have ih:=zj8 l (i+1) _ _ h1.2;have hh:z1l (acc++[(i,([]:TH T.q))])=z1l acc:=by rw [z8x,List.append_nil]
    rw [z1d,hh,he,z9f] at ih;refine ⟨z4m x.1.op,[],.skip h1.1 rfl rfl,?_⟩;have:z7p T (acc++[(i,([]:TH T.q))])=z7p T acc++[(i,[])]:=by simp [z7p,z4]
    rw [this] at ih;exact ih
end
def zht (e:Env)(h:H)(x:Ins):Prop :=
 (zw e x.guard=some false/\e x.dst=z4m x.op)\/(zw e x.guard=some true/\∀ b,x.op = .rd b->∃ hp av,(∀ z∈hp,z∈h)/\zi (ev e) (res hp) b=some av/\za av (e x.dst))
def zqn:List Ins->Bool
 | []=>true
 | x::l=>!(z3p x).contains x.dst&&l.all (λy=>!(z3p x).contains y.dst&&!(Nat.beq y.dst x.dst))&&zqn l
theorem zht.next {e:Env}{h h':H}{x:Ins}{d:Nat}{av:AV}(h1:d∉z3p x)(h2:d≠x.dst)(hs:∀ z∈h,z∈h')(hf:zht e h x):zht (upd e d av) h' x:=by
 have hw:zw (upd e d av) x.guard=zw e x.guard:=zf5 λs hs=>by unfold upd;rw [if_neg (by rintro rfl;exact h1 hs)]
 have hd:upd e d av x.dst=e x.dst:=by unfold upd;rw [if_neg (λe=>h2 e.symm)]
 rcases hf with ⟨f1,f2⟩ | ⟨f1,f2⟩
 ·exact .inl ⟨hw.trans f1,hd.trans f2⟩
 ·refine .inr ⟨hw.trans f1,λb hb=>?_⟩;obtain ⟨hp,a,g1,g2,g3⟩:=f2 b hb;refine ⟨hp,a,λz hz=>hs z (g1 z hz),?_,by rw [hd];exact g3⟩;rw [<- g2];exact z5d b λo ho=>z3y (x:=x) (λs hs=>by unfold upd;rw [if_neg (by rintro rfl;exact h1 hs)]) (by rw [hb];exact ho)
theorem WD.facts {P:Program}{K:Env->H->Prop}{h0:H}:∀ (pre:List (Ins×List Nat)) (i:Nat) (e:Env) (acc:List (Nat×H)) (done:List Ins),WD P pre i e acc h0 K->zqn (pre.map Prod.fst)=true->(∀ x∈done,∀ y∈pre,y.1.dst∉z3p x/\y.1.dst≠x.dst) ->
  (∀ x∈done,zht e (z3u acc++h0) x)->WD P pre i e acc h0 (λe' h'=>K e' h'/\∀ x∈done++pre.map Prod.fst,zht e' h' x)
 | [],i,e,acc,done,hw,_,_,hf=>⟨hw.1,hw.2,λx hx=>hf x (by simpa using hx)⟩
 | (x,D)::pre,i,e,acc,done,hw,hsep,hd,hf=>by
  obtain ⟨av,rows,hok,hw⟩:=hw;simp only [map_cons,zqn,and_eq_true,not_eq_true'] at hsep;obtain ⟨⟨s1,s2⟩,s3⟩:=hsep
  have hown:x.dst∉z3p x:=λhm=>by
   have:(z3p x).contains x.dst=true:=by simpa using hm
   rw [this] at s1;cases s1
  have hall:∀ acc:List (Nat×H),z3u (acc++[(i,rows)])=z3u acc++rows:=by
   intro acc
   induction acc with | nil=>simp [z3u] | cons y l ih=>obtain ⟨j,r⟩:=y;simp [z3u,ih]
  have hmem:∀ z∈z3u acc++h0,z∈z3u (acc++[(i,rows)])++h0:=λz hz=>by
   rw [hall];simp only [mem_append] at hz ⊢;rcases hz with hz | hz
   ·exact .inl (.inl hz)
   ·exact .inr hz
  have hhx:∀ (acc:List (Nat×H)) (z:Nat×Row),z∈hx D acc->z∈z3u acc:=by
   intro acc
   induction acc with
   | nil=>intro z hz;cases hz
   | cons y l ih =>
    obtain ⟨j,r⟩:=y;intro z hz;simp only [hx] at hz;simp only [z3u,mem_append];split at hz
    ·rw [mem_append] at hz;exact hz.imp id (ih z)
    ·exact .inr (ih z hz)
  refine ⟨av,rows,hok,?_⟩
  have hguard:zw (upd e x.dst av) x.guard=zw e x.guard:=zf5 λs hs=>by unfold upd;rw [if_neg (by rintro rfl;exact hown hs)]
  have hdst:upd e x.dst av x.dst=av:=by simp [upd]
  have hnew:zht (upd e x.dst av) (z3u (acc++[(i,rows)])++h0) x:=by
   have hrd:∀ (b:IB) (a:AV),x.op = .rd b->zi (ev e) (res (hx D acc++h0)) b=some a->za a av->∃ hp av',(∀ z∈hp,z∈z3u (acc++[(i,rows)])++h0)/\zi (ev (upd e x.dst av)) (res hp) b=some av'/\za av' (upd e x.dst av x.dst):=by
    intro b a hb h1 h2;refine ⟨hx D acc++h0,a,λz hz=>hmem z ?_,?_,by rw [hdst];exact h2⟩
    ·rw [mem_append] at hz ⊢;exact hz.imp (hhx acc z) id
    ·rw [<- h1];exact z5d b λo ho=>z3y (x:=x) (λs hs=>by unfold upd;rw [if_neg (by rintro rfl;exact hown hs)]) (by rw [hb];exact ho)
   cases hok with
   | skip g1 g2 g3=>exact .inl ⟨hguard.trans g1,hdst.trans g2⟩
   | rd g1 g2 g3 g4 g5 =>refine .inr ⟨hguard.trans g1,λb hb=>?_⟩;simp only at g2;rw [g2] at hb;cases hb;exact hrd _ _ g2 g3 g4
   | mk zf g1 g2 g3 g4=>exact .inr ⟨hguard.trans g1,λb hb=>by simp only at g2;rw [g2] at hb;cases hb⟩
   | call g1 g2=>exact .inr ⟨hguard.trans g1,λb hb=>by simp only at g2;rw [hb] at g2;cases g2⟩
  have:=WD.facts pre (i+1) _ _ (done++[x]) hw s3 (λy hy z hz=>by
   rcases mem_append.1 hy with hy | hy
   ·exact hd y hy z (by simp [hz])
   ·simp only [List.mem_singleton] at hy;subst hy;have:=all_eq_true.1 s2 z.1 (mem_map.2 ⟨z,hz,rfl⟩);simp only [and_eq_true,not_eq_true',z1h,decide_eq_false_iff_not] at this;exact ⟨by simpa using this.1,this.2⟩) (λy hy=>by
   rcases mem_append.1 hy with hy | hy
   ·obtain ⟨q1,q2⟩:=hd y hy (x,D) (by simp);exact (hf y hy).next q1 q2 hmem
   ·simp only [List.mem_singleton] at hy;subst hy;exact hnew)
  simpa only [List.append_assoc,List.singleton_append,map_cons] using this
def ya5:AV->Option Nat
 | .pt k _ _ _=>some k
 | .sl k _ _ _=>some k
 | .pp (.mr k _)=>some k
 | _=>none
theorem y74 {f:Operand->AV}{r r':RR}{b:IB}(h:∀ o∈z37 b,∀ k,ya5 (f o)=some k->∀ p,r' k p=r k p/\r'.m k p=r.m k p):zi f r' b=zi f r b:=by
 cases b with
 | iad s x i =>
  have hx:=h x (by simp [z37]);simp only [zi];cases hv:f x with
  | sl k p off len=>have h2:=(hx k (by rw [hv];rfl) p).1;split<;>simp_all
  | pt k p i c=>have h2:=(hx k (by rw [hv];rfl) p).1;split<;>simp_all
  | _=>split<;>simp_all
 | load agg n x =>
  have hx:=h x (by simp [z37]);simp only [zi];cases hv:f x with
  | sl k p off len=>have h2:=(hx k (by rw [hv];rfl) p).1;split<;>simp_all
  | pt k p i c=>have h2:=(hx k (by rw [hv];rfl) p).1;split<;>simp_all
  | _=>split<;>simp_all
 | b2s x =>
  have hx:=h x (by simp [z37]);simp only [zi];cases hv:f x with
  | sl k p off len=>have h2:=(hx k (by rw [hv];rfl) p).1;split<;>simp_all
  | pt k p i c=>have h2:=(hx k (by rw [hv];rfl) p).1;split<;>simp_all
  | _=>split<;>simp_all
 | slc s x lo hi =>
  have hx:=h x (by simp [z37]);simp only [zi];cases hv:f x with
  | sl k p off len=>have h2:=(hx k (by rw [hv];rfl) p).1;split<;>simp_all
  | pt k p i c=>have h2:=(hx k (by rw [hv];rfl) p).1;split<;>simp_all
  | _=>split<;>simp_all
 | lku nv ks agg ok zero x key =>
  have hx:=h x (by simp [z37]);simp only [zi,zpw];split
  ·rename_i k p kc hv hk;rw [(hx k (by rw [hv];rfl) p).2]
  ·rfl
 | _=>rfl
section
variable {P:Program}{T:TT}{pro:List Nat}{L:Type}
mutual
def z1t (bad:Nat->Path->Bool):VT T->Bool
 | .sl k p _ _=>!bad k p
 | .sw k p=>!bad k p
 | .pt k p _ _=>!bad k p
 | .ag cs=>z4y bad cs
 | .tu cs=>z4y bad cs
 | .fn _ cs=>z4y bad cs
 | .un | .sc _ | .ik _ _ | .bk _ | .zs | .im _ _ | .ip _ _ _ | .ow _ _ _ | .oo _ _ _ _ _=>true
 | .pp (.xp _ _ _)=>true
 | .pp (.fs k _) | .pp (.fp k _ _) | .pp (.px k _)=>!bad k []
 | .pp (.mr k p)=>!bad k p
def z4y (bad:Nat->Path->Bool):List (VT T)->Bool
 | []=>true
 | x::l=>z1t bad x&&z4y bad l
end
mutual
theorem z95 {bad:Nat->Path->Bool}{H0:H}:∀ (v:VT T),z1t bad v=true->kill bad (den T.q H0 v)=den T.q H0 v
 | .sl k p _ _,h=>by simp only [z1t,not_eq_true'] at h;simp only [den,kill,h,false_eq_true,if_false]
 | .sw k p,h=>by simp only [z1t,not_eq_true'] at h;simp only [den,kill,h,false_eq_true,if_false]
 | .pt k p _ _,h=>by simp only [z1t,not_eq_true'] at h;simp only [den,kill,h,false_eq_true,if_false]
 | .ag cs,h=>by simp only [z1t] at h;simp only [den,kill,z9s cs h]
 | .tu cs,h=>by simp only [z1t] at h;simp only [den,kill,z9s cs h]
 | .fn _ cs,h=>by simp only [z1t] at h;simp only [den,kill,z9s cs h]
 | .un,_ | .sc _,_ | .ik _ _,_ | .bk _,_ | .zs,_ | .im _ _,_ | .ip _ _ _,_ | .ow _ _ _,_ | .oo _ _ _ _ _,_ | .pp (.xp _ _ _),_=>rfl
 | .pp (.fs k _),h | .pp (.fp k _ _),h | .pp (.px k _),h | .pp (.mr k _),h=>by simp only [z1t,not_eq_true'] at h;simp only [den,z2i,kill,z3j,h,false_eq_true,if_false]
theorem z9s {bad:Nat->Path->Bool}{H0:H}:∀ (v:List (VT T)),z4y bad v=true->z2w bad (z6 T.q H0 v)=z6 T.q H0 v
 | [],_=>rfl
 | x::l,h=>by simp only [z4y,and_eq_true] at h;simp only [z6,z2w,z95 x h.1,z9s l h.2]
end
def yl5:VT T->Option Nat
 | .pt k _ _ _=>some k
 | .sl k _ _ _=>some k
 | .sw k _=>some k
 | .pp (.px k _)=>some k
 | .pp (.mr k _)=>some k
 | _=>none
theorem yc9 {H0:H}{v:VT T}:ya5 (den T.q H0 v)=yl5 v:=by cases v<;>first | rfl | (rename_i q;cases q<;>rfl)
def ya9:IB->Bool
 | .iad _ _ _ | .load _ _ _ | .slc _ _ _ _ | .b2s _ | .lku _ _ _ _ _ _ _=>true
 | _=>false
def y4g (st:StT T)(e:TE T.q)(x:Ins):Bool :=
 match x.op with
 | .rd b=>(z37 b).all λo=>z1t st.bad (evT e o)&&(!ya9 b||match yl5 (evT e o) with | some k=>!st.tch.contains k | none=>true)
 | _=>false
def eqP:Path->Path->Bool
 | [],[]=>true
 | (i,c)::p,(j,d)::q=>Nat.beq c d&&(Nat.beq i j&&eqP p q)
 | _,_=>false
theorem zy5:∀ (p q:Path),eqP p q=true->p=q
 | [],[],_=>rfl
 | (i,c)::p,(j,d)::q,h=>by simp only [eqP,and_eq_true] at h;rw [eq_of_beq_eq_true h.1,eq_of_beq_eq_true h.2.1,zy5 p q h.2.2]
 | [],_::_,h=>by cases h
 | _::_,[],h=>by cases h
def eqT:VT T->VT T->Bool
 | .sw k p,.sw k' p'=>Nat.beq k k'&&eqP p p'
 | _,_=>false
theorem yd3:∀ (v w:VT T),eqT v w=true->v=w:=by
 intro v w h;unfold eqT at h;split at h
 ·simp only [and_eq_true] at h;rw [eq_of_beq_eq_true h.1,zy5 _ _ h.2]
 ·cases h
def zvn (st:StT T)(e:TE T.q)(x:Ins):Bool :=
 match x.op with
 | .rd b=>(z37 b).all (λo=>z1t (λk p=>st.bad k p||st.bw k p) (evT e o))&&match rdT e st.h b with
  | .ok v=>eqT v (z1b e x.dst)&&z1t (λk p=>st.bad k p||st.bw k p) v
  | _=>false
 | _=>false
def zdb (dep:List Nat)(st:StT T)(e:TE T.q):List (Ins×List Nat)->Nat->Bool
 | [],_=>true
 | (x,_)::l,i=>(dep.contains i||(y4g st e x||zvn st e x))&&zdb dep st e l (i+1)
theorem zaa {e:Env}{g:Option (Nat×Bool)}{b:Bool}{bad:Nat->Path->Bool}(h:zw e g=some b):zw (λt=>kill bad (e t)) g=some b:=by
 cases g with
 | none=>exact h
 | some sw =>
  obtain ⟨s,want⟩:=sw;simp only [zw] at h ⊢;split at h
  ·rename_i hb;rw [hb];simpa [kill] using h
  ·rename_i hb;rw [hb];simpa [kill] using h
  ·cases h
mutual
theorem zbn {bad:Nat->Path->Bool}{H0 H1:H}(hl:∀ k p,bad k p=false->zh H1 k p=zh H0 k p):∀ (v:VT T),z1t bad v=true->den T.q H1 v=den T.q H0 v
 | .sw k p,h=>by simp only [z1t,not_eq_true'] at h;simp only [den,hl k p h]
 | .ag cs,h=>by simp only [z1t] at h;simp only [den,z9t hl cs h]
 | .tu cs,h=>by simp only [z1t] at h;simp only [den,z9t hl cs h]
 | .fn _ cs,h=>by simp only [z1t] at h;simp only [den,z9t hl cs h]
 | .un,_ | .sc _,_ | .ik _ _,_ | .bk _,_ | .zs,_ | .im _ _,_ | .ip _ _ _,_ | .sl _ _ _ _,_ | .pt _ _ _ _,_ | .ow _ _ _,_ | .oo _ _ _ _ _,_ | .pp _,_=>rfl
theorem z9t {bad:Nat->Path->Bool}{H0 H1:H}(hl:∀ k p,bad k p=false->zh H1 k p=zh H0 k p):∀ (v:List (VT T)),z4y bad v=true->z6 T.q H1 v=z6 T.q H0 v
 | [],_=>rfl
 | x::l,h=>by simp only [z4y,and_eq_true] at h;simp only [z6,zbn hl x h.1,z9t hl l h.2]
end
mutual
theorem zbo {bad bad':Nat->Path->Bool}(hb:∀ k p,bad k p=false->bad' k p=false):∀ (v:VT T),z1t bad v=true->z1t bad' v=true
 | .sl k p _ _,h=>by simp only [z1t,not_eq_true'] at h ⊢;exact hb k p h
 | .sw k p,h=>by simp only [z1t,not_eq_true'] at h ⊢;exact hb k p h
 | .pt k p _ _,h=>by simp only [z1t,not_eq_true'] at h ⊢;exact hb k p h
 | .ag cs,h=>by simp only [z1t] at h ⊢;exact z9u hb cs h
 | .tu cs,h=>by simp only [z1t] at h ⊢;exact z9u hb cs h
 | .fn _ cs,h=>by simp only [z1t] at h ⊢;exact z9u hb cs h
 | .un,_ | .sc _,_ | .ik _ _,_ | .bk _,_ | .zs,_ | .im _ _,_ | .ip _ _ _,_ | .ow _ _ _,_ | .oo _ _ _ _ _,_ | .pp (.xp _ _ _),_=>rfl
 | .pp (.fs k _),h | .pp (.fp k _ _),h | .pp (.px k _),h=>by simp only [z1t,not_eq_true'] at h ⊢;exact hb k [] h
 | .pp (.mr k p),h=>by simp only [z1t,not_eq_true'] at h ⊢;exact hb k p h
theorem z9u {bad bad':Nat->Path->Bool}(hb:∀ k p,bad k p=false->bad' k p=false):∀ (v:List (VT T)),z4y bad v=true->z4y bad' v=true
 | [],_=>rfl
 | x::l,h=>by simp only [z4y,and_eq_true] at h ⊢;exact ⟨zbo hb x h.1,z9u hb l h.2⟩
end
theorem zkh {dep:List Nat}{st:StT T}{e:TE T.q}{hA:TH T.q}(hlen:∀ k p,st.bad k p=false->st.bw k p=false->zh (z4 T.q st.h) k p=zh (z4 T.q hA) k p)(hn:zt (hA.map Prod.fst)=true)(ht:∀ k,st.tch.contains k=false->z5 (z4 T.q st.h) k=z5 (z4 T.q hA) k):∀ (l:List (Ins×List Nat)) (i:Nat),zdb dep st e l i=true ->
  (∀ x∈l.map Prod.fst,zht (z7 T.q (z4 T.q hA) e) (z4 T.q hA) x)->zim dep (kill st.bad) (z7 T.q (z4 T.q hA) e) (z4 T.q st.h) l i
 | [],_,_,_=>trivial
 | (x,D)::l,i,hs,hf=>by
  simp only [zdb,and_eq_true,Bool.or_eq_true] at hs;refine ⟨?_,zkh hlen hn ht l (i+1) hs.2 (λy hy=>hf y (by simp [hy]))⟩;rcases hs.1 with h1 | h1 | h1
  ·exact .inl h1
  rotate_left
  ·right;unfold zvn at h1;split at h1
   ·rename_i b hb;rcases hf x (by simp) with ⟨f1,f2⟩ | ⟨f1,f2⟩
    ·refine .inl ⟨zaa f1,?_⟩;rw [f2];cases x.op<;>rfl
    ·simp only [and_eq_true] at h1;obtain ⟨h1,h2⟩:=h1;split at h2
     ·rename_i v hv;simp only [and_eq_true] at h2
      have hlen':∀ k p,(λk p=>st.bad k p||st.bw k p) k p=false->zh (z4 T.q st.h) k p=zh (z4 T.q hA) k p:=λk p hk=>by simp only [or_eq_false_iff] at hk;exact hlen k p hk.1 hk.2
      have hsub:∀ k p,(λk p=>st.bad k p||st.bw k p) k p=false->st.bad k p=false:=λk p hk=>by simp only [or_eq_false_iff] at hk;exact hk.1
      obtain ⟨av,r1,r2⟩:=zqd (e:=e) (h:=st.h) (b:=b) (v:=v) (by rw [hv];exact rfl)
      have hcl:∀ o∈z37 b,ev (λt=>kill st.bad (z7 T.q (z4 T.q hA) e t)) o=ev (z7 T.q (z4 T.q st.h) e) o:=λo ho=>by
       have:=all_eq_true.1 h1 o ho;cases o with
       | tmp t =>have q1:=z95 (H0:=z4 T.q hA) _ (zbo hsub _ this);have q2:=zbn hlen' _ this;exact q1.trans q2.symm
       | _=>rfl
      refine .inr ⟨zaa f1,b,av,hb,(z5d b hcl).trans r1,?_⟩;have e1:=yd3 _ _ h2.1;have q2:=zbn hlen' _ h2.2;have q1:=z95 (H0:=z4 T.q hA) _ (zbo hsub _ h2.2);rw [q2] at r2;show za av (kill st.bad (den T.q (z4 T.q hA) (z1b e x.dst)));rw [<- e1,q1];exact r2
     ·cases h2
   ·cases h1
  ·right;unfold y4g at h1;split at h1
   ·rename_i b hb;rcases hf x (by simp) with ⟨f1,f2⟩ | ⟨f1,f2⟩
    ·refine .inl ⟨zaa f1,?_⟩;rw [f2];cases x.op<;>rfl
    ·obtain ⟨hp,av,g1,g2,g3⟩:=f2 b hb;refine .inr ⟨zaa f1,b,av,hb,?_,g3.trans (za.kill _ _)⟩
     have e1:zi (ev (z7 T.q (z4 T.q hA) e)) (res (z4 T.q hA)) b=some av :=
      zmv (λk p v hv=>zqi (by rw [z1o];exact z10 _ hn) g1 k p v hv) (λk p v hv=>zmw (by rw [z1o];exact z10 _ hn) g1 k p v hv) g2
     have hcl:∀ o∈z37 b,ev (λt=>kill st.bad (z7 T.q (z4 T.q hA) e t)) o=ev (z7 T.q (z4 T.q hA) e) o:=λo ho=>by have:=all_eq_true.1 h1 o ho;simp only [and_eq_true] at this;cases o with | tmp t=>exact z95 _ this.1 | _=>rfl
     rw [z5d b hcl,<- e1];cases hrb:ya9 b with
     | false=>cases b<;>first | rfl | cases hrb
     | true =>
      refine y74 λo ho k hk p=>?_;have:=all_eq_true.1 h1 o ho;simp only [and_eq_true,hrb,Bool.not_true,Bool.false_or] at this;rw [ze,yc9] at hk;rw [hk] at this;simp only [not_eq_true'] at this;constructor
      ·change z86 _ _ _=z86 _ _ _;unfold z86 z1j;rw [ht k this.2]
      ·change z8n _ _ _=z8n _ _ _;unfold z8n z1j;rw [ht k this.2]
   ·cases h1
def zga (pro:List Nat)(cx:Cx P T)(x:Ins)(e:TE T.q)(h:TH T.q)(K:StT T->Raw P T pro L):Raw P T pro L :=
 match x.op with
 | .mk b=>Raw.ofRs K (mkT (cx.at x.dst) pro e h x.dst b)
 | .app s bytes a b=>Raw.ofRs K (zvy (cx.at x.dst) pro e h x.dst s bytes a b)
 | .st n a v=>Raw.ofRs K (stT e h n a v)
 | .mst nv ks a k v=>Raw.ofRs K (zx1 e h nv ks a k v)
 | _=>.no
def zxi (pro:List Nat)(cx:Cx P T)(x:Ins)(e:TE T.q)(h:TH T.q)(K:StT T->Raw P T pro L):Raw P T pro L :=
 match x.guard with
 | none=>zga pro cx x e h K
 | some (s,want)=>match z1b e s with | .bk true=>bif want then zga pro cx x e h K else .no | .bk false=>bif want then .no else zga pro cx x e h K | _=>.no
theorem y7h {cx:Cx P T}{x:Ins}{e:TE T.q}{h:TH T.q}{K:StT T->Raw P T pro L}{Q:L->Prop}(hs:Sat (zxi pro cx x e h K) Q) :
  ∃ st,Sat (K st) Q/\z8c P pro T e h x st/\zw (z7 T.q (z4 T.q h) e) x.guard=some true:=by
 obtain ⟨d,g,op⟩:=x
 have go:Sat (zga pro cx ⟨d,g,op⟩ e h K) Q->∃ st,Sat (K st) Q/\z8c P pro T e h ⟨d,g,op⟩ st:=λhs=>by
  unfold zga at hs;dsimp only at hs;split at hs
  ·obtain ⟨st,hv,hK⟩:=Sat.ofRs _ hs;exact ⟨st,hK,y3u hv⟩
  ·obtain ⟨st,hv,hK⟩:=Sat.ofRs _ hs;exact ⟨st,hK,zre hv⟩
  ·obtain ⟨st,hv,hK⟩:=Sat.ofRs _ hs;exact ⟨st,hK,y4f hv⟩
  ·obtain ⟨st,hv,hK⟩:=Sat.ofRs _ hs;exact ⟨st,hK,zuz hv⟩
  ·exact hs.elim
 unfold zxi at hs;dsimp only at hs;split at hs
 ·obtain ⟨st,q1,q2⟩:=go hs;exact ⟨st,q1,q2,rfl⟩
 ·rename_i s want;split at hs
  ·rename_i hv;cases want with
   | false=>exact hs.elim
   | true =>obtain ⟨st,q1,q2⟩:=go hs;exact ⟨st,q1,q2,by simp [zw,z7,hv,den]⟩
  ·rename_i hv;cases want with
   | true=>exact hs.elim
   | false =>obtain ⟨st,q1,q2⟩:=go hs;exact ⟨st,q1,q2,by simp [zw,z7,hv,den]⟩
  ·exact hs.elim
theorem z8c.turn {e:TE T.q}{h:TH T.q}{x:Ins}{st:StT T}(hst:z8c P pro T e h x st)(hw:zw (z7 T.q (z4 T.q h) e) x.guard=some true) :
  zir P pro x (z7 T.q (z4 T.q h) e) (z4 T.q h) (kill st.bad) (den T.q (z4 T.q st.h) st.v) (z4 T.q st.h):=λe' he=>by
 obtain ⟨e0,h0',e1,h1',g1,gb,g2,g3⟩:=hst.1 e' he;exact ⟨by rw [zf5 he];exact hw,e0,h0',e1,h1',g1,g2,g3⟩
def zef (keep:List Nat)(e:TE T.q):TE T.q:=keep.map λt=>(t,z1b e t)
theorem zfy {H0:H}(keep:List Nat)(e:TE T.q):z7 T.q H0 (zef keep e)=z6x keep (z7 T.q H0 e):=by
 unfold z6x zef
 induction keep with
 | nil=>rfl
 | cons s l ih =>simp only [map_cons,z19];rw [<- ih];exact z1d (e:=List.map (λt=>(t,z1b e t)) l)
def zki (ds:List Nat)(e:TE T.q):TE T.q:=z5y (λk _=>ds.contains k) (λ_ _=>false) e
theorem zkj {ds:List Nat}{e:TE T.q}{h:TH T.q}:z7 T.q (z4 T.q (z2r h ds)) (zki ds e)=zck ds (z7 T.q (z4 T.q h) e):=by funext t;simp only [z7,zki,z39,zck];have hl:∀ k p,(λk (_:Path)=>ds.contains k) k p=false->zh (z4 T.q (z2r h ds)) k p=zh (z4 T.q h) k p:=λk p hk=>z1e (by rw [<- z5x];exact z8i _ _ _ hk);exact (zd3 hl _).symm
def y3k (cx:Cx P T)(x:Ins):Bool :=
 match x.op with
 | .st _ _ _ | .app _ _ _ _ | .mst _ _ _ _ _=>true
 | .mk _=>cx.tn.contains x.dst
 | _=>false
def zca (cx:Cx P T):List (Ins×List Nat)->Option (List (Ins×List Nat)×(Ins×List Nat)×List (Ins×List Nat))
 | []=>none
 | x::l=>match zca cx l with
  | some (p,y,q)=>some (x::p,y,q)
  | none=>bif y3k cx x.1 then some ([],x,l) else none
theorem zg9 {cx:Cx P T}:∀ (l p:List (Ins×List Nat)) (y:Ins×List Nat) (q:List (Ins×List Nat)),zca cx l=some (p,y,q)->l=p++y::q
 | [],_,_,_,h=>by cases h
 | x::l,p,y,q,h=>by
  simp only [zca] at h;split at h
  ·rename_i p' y' q' h';cases h;rw [zg9 l _ _ _ h'];rfl
  ·cases ht:y3k cx x.1 with | false=>rw [ht] at h;cases h | true=>rw [ht] at h;cases h;rfl
def zer (bad:Nat->Path->Bool)(e1:TE T.q):List (Ins×List Nat)->List Nat->TE T.q->Option (TE T.q)
 | [],_,e=>some e
 | (x,_)::l,fb,e=>match x.guard,x.op with
  | none,.rd (.mov (.tmp s))=>bif !fb.contains s&&z1t bad (z1b e1 s) then
    match z1b e1 s with
    | .un=>none
    | v=>zer bad e1 l (x.dst::fb) (z1u e x.dst v)
   else none
  | none,.rd (.mov (.const u))=>match zbq u with
    | .un=>none
    | v=>zer bad e1 l (x.dst::fb) (z1u e x.dst v)
  | _,_=>none
theorem zig {bad0 bad:Nat->Path->Bool}{H0 H1:H}{e1:TE T.q}(hsub:∀ k p,bad k p=false->bad0 k p=false)(hl:∀ k p,bad k p=false->zh H1 k p=zh H0 k p){K:Env->Prop}:∀ (l:List (Ins×List Nat)) (fb:List Nat) (e e2:TE T.q) (E:Env),zer bad e1 l fb e=some e2 ->
  (∀ t,fb.contains t=false->E t=kill bad0 (z7 T.q H0 e1 t))->(∀ t,za (E t) (z7 T.q H1 e t))->(∀ E2:Env,(∀ t,za (E2 t) (z7 T.q H1 e2 t))->K E2)->zbi P H1 K l E
 | [],fb,e,e2,E,h,_,h2,hK=>by cases h;exact hK E h2
 | (⟨d,g,op⟩,D)::l,fb,e,e2,E,h,h1,h2,hK=>by
  simp only [zer] at h;split at h
  ·rename_i s
   obtain ⟨hb,h⟩:(!fb.contains s&&z1t bad (z1b e1 s))=true/\(match z1b e1 s with | .un=>none | v=>zer bad e1 l (d::fb) (z1u e d v))=some e2:=by cases hb:(!fb.contains s&&z1t bad (z1b e1 s)) with | false=>rw [hb] at h;cases h | true=>rw [hb] at h;exact ⟨rfl,h⟩
   simp only [and_eq_true,not_eq_true'] at hb
   have hE:E s=den T.q H1 (z1b e1 s):=by rw [h1 s hb.1,z7,z95 _ (zbo hsub _ hb.2),zbn hl _ hb.2]
   have key:∀ v:VT T,z1b e1 s=v->v≠.un->zer bad e1 l (d::fb) (z1u e d v)=some e2->zbi P H1 K ((⟨d,none,.rd (.mov (.tmp s))⟩,D)::l) E:=λv hv hun h=>by
    rw [hv] at hE;refine ⟨den T.q H1 v,.rd (b:=.mov (.tmp s)) (av:=den T.q H1 v) rfl rfl ?_ (za.refl _) rfl,?_⟩
    ·simp only [zi,ev,hE];cases v<;>first | rfl | (rename_i q;cases q<;>rfl) | (exact absurd rfl hun)
    ·refine zig hsub hl l (d::fb) _ e2 _ h (λt ht=>?_) (λt=>?_) hK
     ·simp only [List.contains_cons,or_eq_false_iff,beq_eq_false_iff_ne] at ht;simp only [upd,if_neg ht.1];exact h1 t ht.2
     ·rw [z1d];exact za.upd h2 (za.refl _) t
   split at h
   ·cases h
   ·rename_i v hne;exact key _ rfl (λhe=>hne (by rw [he])) h
  ·rename_i u;split at h
   ·cases h
   ·rename_i v hne;have hun:(zbq u:VT T)≠.un:=λhe=>hne (by rw [he]);have hcv:ev E (.const u)=den T.q H1 (zbq u:VT T):=(zfl H1 u).symm;generalize (zbq u:VT T)=v at *;refine ⟨den T.q H1 v,.rd (b:=.mov (.const u)) (av:=den T.q H1 v) rfl rfl ?_ (za.refl _) rfl,?_⟩
    ·simp only [zi,hcv];cases v<;>first | rfl | (rename_i q;cases q<;>rfl) | (exact absurd rfl hun)
    ·refine zig hsub hl l (d::fb) _ e2 _ h (λt ht=>?_) (λt=>?_) hK
     ·simp only [List.contains_cons,or_eq_false_iff,beq_eq_false_iff_ne] at ht;simp only [upd,if_neg ht.1];exact h1 t ht.2
     ·rw [z1d];exact za.upd h2 (za.refl _) t
  ·cases h
def zju (ds:List Nat)(h0 h1:TH T.q):Bool:=(h1.map Prod.fst).all (λk=>ds.contains k||(h0.map Prod.fst).contains k)
def zoc (pro:List Nat)(cx:Cx P T)(keep:List Nat)(pre:List (Ins×List Nat))(tail:List Ins)(e:TE T.q)(h:TH T.q)(K:TE T.q->TH T.q->Raw P T pro L):Raw P T pro L :=
 let ds:=pre.map (·.1.dst)
 let e0:=zki ds e
 let h0:=z2r h ds
 let Kt:TE T.q->TH T.q->Raw P T pro L:=λe h=>evR pro cx tail e h λe h=>K (zef keep e) h
 let plain:Raw P T pro L:=bif zt ds&&z6i ds pre 0 pre&&pro.all (λk=>!ds.contains k)&&pre.all (λx=>!z3v x.1.op) then evD cx pre 0 e0 [] h0 λe1 h1=>bif zju ds h0 h1 then Kt e1 h1 else .no else .no
 match zca cx pre with
 | some (pre0,(x,dep),post) =>
   bif zt ds&&zb5 ds 0 pre&&pro.all (λk=>!ds.contains k)&&pre0.all (λx=>!z3v x.1.op)&&zb7 dep pre0 0&&!dep.contains pre0.length&&dep.all (λi=>decide (i<pre0.length))&&pre0.all (λx=>!x.2.contains pre0.length)&&post.all (λy=>isRd y.1.op&&y.2.contains pre0.length)&&zqn (pre0.map Prod.fst) then
    evD cx pre0 0 e0 [] h0 λe1 hA=>zxi pro cx x e1 hA λst =>
     bif zt (hA.map Prod.fst)&&zju ds h0 hA&&zt (st.h.map Prod.fst)&&zdb dep st e1 pre0 0 then (match zer (λk p=>st.bad k p||st.bw k p) e1 post [x.dst] (st.env e1 x.dst) with | some e2=>Kt e2 st.h | none=>.no) else .no
   else .no
 | none=>plain
theorem zy6 {cx:Cx P T}{keep:List Nat}{pre:List (Ins×List Nat)}{tail:List Ins}{e:TE T.q}{h:TH T.q}{K:TE T.q->TH T.q->Raw P T pro L}{Q:L->Prop}{Q':Out->Env->H->Prop}
  (hQ:∀ E H0,KP K Q E H0->Q' .normal E H0) (hs:Sat (zoc pro cx keep pre tail e h K) Q):W P pro (.draw keep pre tail) Q' (z7 T.q (z4 T.q h) e) (z4 T.q h):=by
 have tl:∀ (e1:TE T.q) (h1:TH T.q),Sat (evR pro cx tail e1 h1 λe h=>K (zef keep e) h) Q->RG P pro keep Q' tail (z7 T.q (z4 T.q h1) e1) (z4 T.q h1):=λe1 h1 hs=>by obtain ⟨E,H',r,e2,h2,rfl,rfl,hK⟩:=zfn tail e1 h1 hs;exact ⟨_,_,r,hQ _ _ ⟨_,_,(zfy keep e2).symm,rfl,hK⟩⟩
 have plain:Sat (bif zt (pre.map (·.1.dst))&&z6i (pre.map (·.1.dst)) pre 0 pre&&pro.all (λk=>!(pre.map (·.1.dst)).contains k)&&pre.all (λx=>!z3v x.1.op) then evD cx pre 0 (zki (pre.map (·.1.dst)) e) [] (z2r h (pre.map (·.1.dst))) λe1 h1=>bif zju (pre.map (·.1.dst)) (z2r h (pre.map (·.1.dst))) h1 then evR pro cx tail e1 h1 (λe h=>K (zef keep e) h) else .no else .no:Raw P T pro L) Q ->
   W P pro (.draw keep pre tail) Q' (z7 T.q (z4 T.q h) e) (z4 T.q h):=λhs=>by
  cases hb:(zt (pre.map (·.1.dst))&&z6i (pre.map (·.1.dst)) pre 0 pre&&pro.all (λk=>!(pre.map (·.1.dst)).contains k)&&pre.all (λx=>!z3v x.1.op)) with
  | false=>rw [hb] at hs;exact hs.elim
  | true =>
   rw [hb,cond_true] at hs;refine W.drawG (pre.map (·.1.dst)) rfl hb ?_;have:=zj8 pre 0 _ [] hs;simp only [z1l,List.nil_append,zkj,z7p,map_nil] at this;rw [z5x];refine WD.mono (λE H0 hk=>?_) _ _ _ _ this;obtain ⟨e1,h1,rfl,rfl,hK⟩:=hk;dsimp only at hK;cases hk2:zju (pre.map (·.1.dst)) (z2r h (pre.map (·.1.dst))) h1 with
   | false=>rw [hk2] at hK;exact hK.elim
   | true =>rw [hk2,cond_true] at hK;refine ⟨?_,tl _ _ hK⟩;unfold zjt;rw [z1o,z1o];exact hk2
 unfold zoc at hs;dsimp only at hs;split at hs
 ·rename_i pre0 x dep post hsl;have hpre:=zg9 _ _ _ _ hsl;generalize hds:pre.map (·.1.dst)=ds at hs;cases hb:(zt ds&&zb5 ds 0 pre&&pro.all (λk=>!ds.contains k)&&pre0.all (λx=>!z3v x.1.op)&&zb7 dep pre0 0&&!dep.contains pre0.length&&dep.all (λi=>decide (i<pre0.length))&&pre0.all (λx=>!x.2.contains pre0.length)&&post.all (λy=>isRd y.1.op&&y.2.contains pre0.length)&&zqn (pre0.map Prod.fst)) with
  | false=>rw [hb] at hs;exact hs.elim
  | true =>
   rw [hb,cond_true] at hs;simp only [and_eq_true] at hb;obtain ⟨hb,hsep⟩:=hb;rw [hpre] at hds hb ⊢;refine W.turn post ds hds (by simpa only [and_eq_true] using hb) ?_;have hwd:=zj8 pre0 0 _ [] hs;simp only [z1l,List.nil_append,zkj,z7p,map_nil] at hwd;rw [z5x];have hf:=WD.facts pre0 0 _ [] [] hwd hsep (λ_ h=>(by cases h)) (λ_ h=>(by cases h));refine WD.mono (λE H0 hk=>?_) _ _ _ _ hf;obtain ⟨⟨e1,hA,rfl,rfl,hK⟩,hfacts⟩:=hk;obtain ⟨st,hK,hst,hw⟩:=y7h hK;cases hc:(zt (hA.map Prod.fst)&&zju ds (z2r h ds) hA&&zt (st.h.map Prod.fst)&&zdb dep st e1 pre0 0) with
   | false=>rw [hc] at hK;exact hK.elim
   | true =>
    rw [hc,cond_true] at hK;simp only [and_eq_true] at hc;obtain ⟨⟨⟨c1,c2⟩,c3⟩,c4⟩:=hc;refine ⟨kill st.bad,den T.q (z4 T.q st.h) st.v,z4 T.q st.h,?_,by rw [z1o];exact c3,hst.turn hw,zkh hst.2.1 c1 hst.2.2 pre0 0 c4 (by simpa using hfacts),?_⟩
    ·unfold zjt;rw [z1o,z1o];exact c2
    ·split at hK
     ·rename_i e2 hp;refine zig (bad0:=st.bad) (λk p h=>(by simpa using h:st.bad k p=false/\_).1) (λk p h=>hst.2.1 k p (by simpa using h:st.bad k p=false/\_).1 (by simpa using h:_/\st.bw k p=false).2) post _ _ _ _ hp (λt ht=>?_) (λt=>?_) (λE2 h2=>RG.ghost (z8.le h2) (tl _ _ hK))
      ·simp only [List.contains_cons,List.contains_nil,Bool.or_false,beq_eq_false_iff_ne] at ht;simp only [upd,if_neg ht]
      ·rw [StT.env,z1d];refine za.upd (λt=>?_) (za.refl _) t;simp only [z7,z39];exact z7h (λ_ _ h=>h) hst.2.1 _
     ·exact hK.elim
 ·exact plain hs
def zkv (pro:List Nat)(cx:Cx P T)(keep:List Nat)(pre:List (Ins×List Nat))(tail:List Ins)(e:TE T.q)(h:TH T.q)(K:TE T.q->TH T.q->Raw P T pro L):Raw P T pro L :=
 match zau (match pre with | x::_=>cx.fzAt (800000+x.1.dst) | []=>[]) e h with
 | some (e,h)=>zoc pro cx keep pre tail e h K
 | none=>.no
theorem z9v {cx:Cx P T}{keep:List Nat}{pre:List (Ins×List Nat)}{tail:List Ins}{e:TE T.q}{h:TH T.q}{K:TE T.q->TH T.q->Raw P T pro L}{Q:L->Prop}{Q':Out->Env->H->Prop}
  (hQ:∀ E H0,KP K Q E H0->Q' .normal E H0) (hs:Sat (zkv pro cx keep pre tail e h K) Q):W P pro (.draw keep pre tail) Q' (z7 T.q (z4 T.q h) e) (z4 T.q h):=by
 unfold zkv at hs;split at hs
 ·rename_i e1 h1 hf;exact W.ghost (z7g _ hf).1 (zy6 hQ hs)
 ·exact hs.elim
end
inductive SD where
 | any
 | un
 | im (t:Nat)
 | own (c:Nat) (m:Bool) (t:Nat)
 | ref (c:Nat)
 | ag (l:List SD)
 | fn (l:List SD)
inductive RD where
 | any
 | fix (ks:List Kd)
 | typ (m:Bool) (t:Nat)
structure Dr where
 S:List (Nat×SD)
 R:List (Nat×RD)
section
variable {P:Program}{T:TT}{pro:List Nat}{L:Type}
mutual
def zd8:VT T->Option (VT T)
 | .un=>some .un
 | .sc v=>some (.sc v)
 | .ik k n=>some (.sc (.int k n))
 | .bk b=>some (.sc (.bool b))
 | .zs=>some .zs
 | .im t xs=>some (.im t xs)
 | .ip s cs c=>some (.ip s cs c)
 | .pp (.xp b x c)=>some (.pp (.xp b x c))
 | .pp _=>none
 | .ag cs=>match zah cs with | some cs'=>some (.ag cs') | none=>none
 | .tu cs=>match zah cs with | some cs'=>some (.tu cs') | none=>none
 | .fn f cs=>match zah cs with | some cs'=>some (.fn f cs') | none=>none
 | .sl _ _ _ _ | .sw _ _ | .pt _ _ _ _ | .ow _ _ _ | .oo _ _ _ _ _=>none
def zah:List (VT T)->Option (List (VT T))
 | []=>some []
 | x::l=>match zd8 x,zah l with | some x',some l'=>some (x'::l') | _,_=>none
end
mutual
theorem zmt {H0:H}:∀ (v v':VT T),zd8 v=some v'->den T.q H0 v=den T.q H0 v'
 | .un,_,h | .sc _,_,h | .ik _ _,_,h | .bk _,_,h | .zs,_,h | .im _ _,_,h | .ip _ _ _,_,h | .pp (.xp _ _ _),_,h=>by cases h;rfl
 | .pp (.fs _ _),_,h | .pp (.fp _ _ _),_,h | .pp (.px _ _),_,h | .pp (.mr _ _),_,h=>by cases h
 | .ag cs,_,h=>by
  simp only [zd8] at h;split at h
  ·rename_i cs' hc;cases h;simp only [den,za5 cs cs' hc]
  ·cases h
 | .tu cs,_,h=>by
  simp only [zd8] at h;split at h
  ·rename_i cs' hc;cases h;simp only [den,za5 cs cs' hc]
  ·cases h
 | .fn f cs,_,h=>by
  simp only [zd8] at h;split at h
  ·rename_i cs' hc;cases h;simp only [den,za5 cs cs' hc]
  ·cases h
 | .sl _ _ _ _,_,h | .sw _ _,_,h | .pt _ _ _ _,_,h | .ow _ _ _,_,h | .oo _ _ _ _ _,_,h=>by cases h
theorem za5 {H0:H}:∀ (v v':List (VT T)),zah v=some v'->z6 T.q H0 v=z6 T.q H0 v'
 | [],_,h=>by cases h;rfl
 | x::l,_,h=>by
  simp only [zah] at h;split at h
  ·rename_i x' l' h1 h2;cases h;simp only [z6,zmt x x' h1,za5 l l' h2]
  ·cases h
end
mutual
def zdr:SD->VT T->Option (VT T×List (Nat×Nat))
 | .any,v=>match zd8 v with | some v'=>some (v',[]) | none=>none
 | .un,_=>some (.un,[])
 | .im t,.zs=>some (.im t [],[])
 | .im _,.im t xs=>some (.im t xs,[])
 | .im _,_=>none
 | .own c _ _,.sw k []=>some (.sw k [],[(c,k)])
 | .own _ _ _,_=>none
 | .ref c,.pt k p i cc=>some (.pt k p i cc,[(c,k)])
 | .ref c,.sw k p=>some (.sw k p,[(c,k)])
 | .ref c,.sl k p off len=>some (.sl k p off len,[(c,k)])
 | .ref c,.pp (.fs k cs)=>some (.pp (.fs k cs),[(c,k)])
 | .ref c,.pp (.mr k p)=>some (.pp (.mr k p),[(c,k)])
 | .ref _,_=>none
 | .ag ds,.ag cs=>match zcv ds cs with | some (cs',b)=>some (.ag cs',b) | none=>none
 | .ag ds,.tu cs=>match zcv ds cs with | some (cs',b)=>some (.tu cs',b) | none=>none
 | .ag _,_=>none
 | .fn ds,.fn f cs=>match zcv ds cs with | some (cs',b)=>some (.fn f cs',b) | none=>none
 | .fn _,_=>none
def zcv:List SD->List (VT T)->Option (List (VT T)×List (Nat×Nat))
 | [],[]=>some ([],[])
 | d::ds,v::vs=>match zdr d v,zcv ds vs with | some (v',b),some (vs',b')=>some (v'::vs',b++b') | _,_=>none
 | _,_=>none
end
mutual
theorem zo5 {H0:H}:∀ (d:SD) (v v':VT T) (b:List (Nat×Nat)),zdr d v=some (v',b)->za (den T.q H0 v) (den T.q H0 v')
 | .any,v,v',b,h=>by
  simp only [zdr] at h;split at h
  ·rename_i w hw;cases h;rw [zmt v _ hw];exact za.refl _
  ·cases h
 | .un,v,v',b,h=>by cases h;exact za.un _
 | .im t,v,v',b,h=>by
  cases v<;>first | (cases h;done) | skip
  ·cases h;simp only [den,map_nil];exact za.zsIm _
  ·cases h;exact za.refl _
 | .own c m t,v,v',b,h=>by
  cases v with
  | sw k p =>cases p with | nil=>cases h;exact za.refl _ | cons _ _=>cases h
  | _=>cases h
 | .ref c,v,v',b,h=>by cases v<;>first | (cases h;done) | (rename_i q;cases q<;>first | (cases h;done) | (cases h;exact za.refl _)) | (cases h;exact za.refl _)
 | .ag ds,v,v',b,h=>by
  cases v with
  | ag cs =>
   simp only [zdr] at h;split at h
   ·rename_i cs' b' hc;cases h;simp only [den];exact za.ag (zbp ds cs cs' _ hc).C
   ·cases h
  | tu cs =>
   simp only [zdr] at h;split at h
   ·rename_i cs' b' hc;cases h;simp only [den];exact za.tu (zbp ds cs cs' _ hc).L
   ·cases h
  | _=>cases h
 | .fn ds,v,v',b,h=>by
  cases v with
  | fn f cs =>
   simp only [zdr] at h;split at h
   ·rename_i cs' b' hc;cases h;simp only [den];exact za.fn (zbp ds cs cs' _ hc).L
   ·cases h
  | _=>cases h
theorem zbp {H0:H}:∀ (d:List SD) (v v':List (VT T)) (b:List (Nat×Nat)),zcv d v=some (v',b)->z2k (z6 T.q H0 v) (z6 T.q H0 v')
 | [],[],_,_,h=>by cases h;exact .nil
 | [],_::_,_,_,h=>by cases h
 | _::_,[],_,_,h=>by cases h
 | d::ds,v::vs,v',b,h=>by
  simp only [zcv] at h;split at h
  ·rename_i v1 b1 vs1 b2 h1 h2;cases h;exact .cons (zo5 d v v1 _ h1) (zbp ds vs vs1 _ h2)
  ·cases h
end
def Gh (P:Program)(pro:List Nat)(T:TT)(e:TE T.q)(h:TH T.q)(e1:TE T.q)(h1:TH T.q):Prop:=z8 P pro (z7 T.q (z4 T.q h) e) (z4 T.q h) (z7 T.q (z4 T.q h1) e1) (z4 T.q h1)
def zxh (pro:List Nat)(e:TE T.q)(h:TH T.q)(t:Nat)(d:SD):Rs (TE T.q×TH T.q×List (Nat×Nat)) :=
 match d,z1b e t with
 | .own c m ty,.zs =>
  bif pro.contains (500000+t)||((h.map Prod.fst).contains (500000+t)||!Nat.blt (T.sz ty) 1000000) then .no
  else .ok (z1u (z5y (λk _=>Nat.beq k (500000+t)) (λ_ _=>false) e) t (.sw (500000+t) []),(500000+t,.typ m ty [])::h,[(c,500000+t)])
 | .own c _ _,.sl k [] 0 n =>
  match z2z h k with
  | some (.typ m' t' xs)=>bif Nat.blt (T.sz t') 1000000 then .need (n<=xs.length) (.ok (z1u (z5y (λ_ _=>false) (λk' _=>Nat.beq k' k) e) t (.sw k []),(k,.typ m' t' (xs.take n))::z11 h k,[(c,k)])) else .no
  | _=>.no
 | d,v=>match zdr d v with | some (v',b)=>.ok (z1u e t v',h,b) | none=>.no
theorem y7f {e e1:TE T.q}{h h1:TH T.q}{t:Nat}{d:SD}{b:List (Nat×Nat)}(hg:(zxh pro e h t d).gives (e1,h1,b)):Gh P pro T e h e1 h1:=by
 unfold zxh at hg;split at hg
 ·rename_i c m ty hz;cases hb:(pro.contains (500000+t)||((h.map Prod.fst).contains (500000+t)||!Nat.blt (T.sz ty) 1000000)) with
  | true=>rw [hb] at hg;exact hg.elim
  | false =>
   rw [hb] at hg;cases hg;simp only [or_eq_false_iff,Bool.not_eq_false'] at hb;have hsm:=le_of_ble_eq_true hb.2.2
   have h1:=z8.nil (P:=P) (pro:=pro) (e:=z7 T.q (z4 T.q h) e) (h:=z4 T.q h) (t:=t) (d:=500000+t) (s:=T.sz ty) hsm (by simp only [z7,hz,den]) (by
    rw [z1o];intro hm;have:(h.map Prod.fst).contains (500000+t)=true:=by simpa using hm
    rw [hb.2.1] at this;cases this) (by
    rw [all_eq_true];intro k hk;simp only [bne_iff_ne,ne_eq];rintro rfl;have:pro.contains (500000+t)=true:=by simpa using hk
    rw [hb.1] at this;cases this)
   have hh:z4 T.q ((500000+t,.typ m ty [])::h)=(500000+t,⟨T.sz ty,[]⟩)::z4 T.q h:=rfl;unfold Gh;rw [hh];refine h1.trans (z8.le λu=>?_);rw [z1d];refine za.upd (λu=>?_) ?_ u
   ·simp only [z1c,z7,z39];refine z7h (λk p hk=>by simpa using hk) (λk p hk _=>z1e ?_) _;simp only [z1h,decide_eq_false_iff_not] at hk;simp only [z5];rw [if_neg (λe=>hk e.symm)]
   ·have:zh ((500000+t,⟨T.sz ty,[]⟩)::z4 T.q h) (500000+t) []=0:=by simp [zh,z1j,z5,zo]
    simp only [den,this];exact za.refl _
 ·rename_i c m ty k n hz;split at hg
  ·rename_i m' t' xs hr;obtain ⟨hsm,hc,hg⟩:=zn hg;cases hg;have hgr:z5 (z4 T.q h) k=some ⟨T.sz t',xs.map (T.ca m' t')⟩:=by rw [z1s,hr];rfl
   have h1:=z8.take (P:=P) (pro:=pro) (e:=z7 T.q (z4 T.q h) e) n hgr (le_of_ble_eq_true hsm)
   have hh:z4 T.q ((k,.typ m' t' (xs.take n))::z11 h k)=(k,⟨T.sz t',(xs.map (T.ca m' t')).take n⟩)::zb (z4 T.q h) k:=by simp only [z4,z9,List.map_take,zz]
   unfold Gh;rw [hh];refine h1.trans (z8.le λu=>?_);rw [z1d];unfold upd;split
   ·rename_i hu;subst hu
    have:zh ((k,⟨T.sz t',(xs.map (T.ca m' t')).take n⟩)::zb (z4 T.q h) k) k []=n:=by simp only [zh,z1j,z5,if_true,zo,length_take,length_map];omega
    simp only [z7,hz,den,this];exact za.refl _
   ·simp only [z7,z39]
    have:=z7h (T:=T) (H0:=z4 T.q h) (H1:=(k,⟨T.sz t',(xs.map (T.ca m' t')).take n⟩)::zb (z4 T.q h) k) (b1:=λ_ _=>false) (bad:=λ_ _=>false) (bw:=λk' _=>Nat.beq k' k) (λ_ _ h=>h) (λk' p _ hk=>z1e (by simp only [z1h,decide_eq_false_iff_not] at hk;simp only [z5];rw [if_neg (λe=>hk e.symm),z1a hk])) (z1b e u)
    rwa [zk4] at this
  ·exact hg.elim
 ·split at hg
  ·rename_i v' b' hv;cases hg;unfold Gh;refine z8.le λu=>?_;rw [z1d];unfold upd;split
   ·rename_i hu;subst hu;exact zo5 _ _ _ _ hv
   ·exact za.refl _
  ·exact hg.elim
mutual
def y7u:SD->VT T->List Fz
 | .im _,.sw k []=>[.row k]
 | .im _,.sw k [(_,c)]=>[.col k [c]]
 | .ag ds,.ag cs=>zp4 ds cs
 | .ag ds,.tu cs=>zp4 ds cs
 | _,_=>[]
def zp4:List SD->List (VT T)->List Fz
 | d::ds,v::vs=>y7u d v++zp4 ds vs
 | _,_=>[]
end
def y7t (h:TH T.q)(k:Nat)(ks:List Kd):List Fz :=
 match z2z h k with
 | some (.lit _ [cs])=>match frcC 0 ks cs with | []=>[] | l=>[.col k l]
 | _=>[]
where frcC:Nat->List Kd->List (VT T)->List Nat
 | c,.im _::ks,.ow _ _ _::l=>c::frcC (c+1) ks l
 | c,_::ks,_::l=>frcC (c+1) ks l
 | _,_,_=>[]
def yko (h:TH T.q)(k:Nat)(m:Bool):List Fz :=
 match m,z2z h k with
 | false,some (.typ true _ _)=>[.nest k]
 | _,_=>[]
def zkg (pro:List Nat):List (Nat×SD)->TE T.q->TH T.q->List (Nat×Nat)->Rs (TE T.q×TH T.q×List (Nat×Nat))
 | [],e,h,b=>.ok (e,h,b)
 | (t,d)::l,e,h,b=>match zau (y7u d (z1b e t)) e h with
  | some (e,h)=>(zxh pro e h t d).bind λ(e,h,b')=>zkg pro l e h (b'++b)
  | none=>.no
theorem zn3:∀ (l:List (Nat×SD)) (e e1:TE T.q) (h h1:TH T.q) (b b1:List (Nat×Nat)),(zkg pro l e h b).gives (e1,h1,b1)->Gh P pro T e h e1 h1
 | [],_,_,_,_,_,_,hg=>by cases hg;exact z8.rfl'
 | (t,d)::l,e,e1,h,h1,b,b1,hg=>by
  simp only [zkg] at hg;split at hg
  ·rename_i e3 h3 hf;obtain ⟨⟨e2,h2,b2⟩,q1,q2⟩:=Rs.bind_gives _ hg;exact z8.trans (z7g _ hf).1 (z8.trans (y7f q1) (zn3 l _ _ _ _ _ _ q2))
  ·exact hg.elim
def zxk (h:TH T.q)(k:Nat)(m:Bool)(t:Nat):Option (TH T.q) :=
 match z2z h k with
 | some (.lit s xs)=>bif Nat.beq (T.sz t) s then match unL m t xs with | some ys=>some ((k,.typ m t ys)::z11 h k) | none=>none else none
 | some _=>some h
 | none=>none
theorem y7m {e:TE T.q}{h h1:TH T.q}{k:Nat}{m:Bool}{t:Nat}(ht:zxk h k m t=some h1):Gh P pro T e h e h1:=by
 unfold zxk at ht;split at ht
 ·rename_i s xs hr;cases hb:Nat.beq (T.sz t) s with
  | false=>rw [hb] at ht;cases ht
  | true =>
   rw [hb,cond_true] at ht;split at ht
   ·rename_i ys hy;cases ht;have hgr:z5 (z4 T.q h) k=some ⟨s,xs.map (z6 T.q [])⟩:=by rw [z1s,hr];rfl
    have hrow:z9 T.q (.typ m t ys)=⟨s,xs.map (z6 T.q [])⟩:=by simp only [z9,zkm _ _ hy,eq_of_beq_eq_true hb]
    have hh:z4 T.q ((k,.typ m t ys)::z11 h k)=(k,⟨s,(xs.map (z6 T.q [])).map (z25 (λ_=>none) 0)⟩)::zb (z4 T.q h) k:=by rw [z61];simp only [z4,hrow,zz]
    have h1:=z8.fix (P:=P) (pro:=pro) (e:=z7 T.q (z4 T.q h) e) (λ_=>none) (λ_ _ h=>(by cases h)) hgr;unfold Gh;rw [hh];refine h1.trans (z8.le λu=>?_)
    have hkill:z4g (λ_=>none) k=λ_ _=>false:=by funext k' q;unfold z4g;cases q<;>simp
    simp only [z1c,hkill,zk4,z7]
    have hl:∀ k' q,zh ((k,⟨s,(xs.map (z6 T.q [])).map (z25 (λ_=>none) 0)⟩)::zb (z4 T.q h) k) k' q=zh (z4 T.q h) k' q:=λk' q=>by
     refine z1e ?_;by_cases hk:k'=k
     ·subst hk;rw [z61,hgr];simp [z5]
     ·simp only [z5];rw [if_neg (λe=>hk e.symm),z1a hk]
    have:=zd3 (T:=T) (bad:=λ_ _=>false) (λk' q _=>hl k' q) (z1b e u);rw [zk4] at this;have hid:z2o (λ_ _=>false) (λ_ _=>false) (z1b e u)=z1b e u:=zia _;rw [this,hid];exact za.refl _
   ·cases ht
 ·cases ht;exact z8.rfl'
 ·cases ht
def zeg (bm:List (Nat×Nat))(c:Nat):Nat:=match z35 bm c with | some k=>k | none=>c
def zew:List (Nat×RD)->TE T.q->TH T.q->List (Nat×Nat)->Option (TE T.q×TH T.q)
 | [],e,h,_=>some (e,h)
 | (c,.any)::l,e,h,b=>zew l e h b
 | (c,.fix ks)::l,e,h,b=>match zau (y7t h (zeg b c) ks) e h with
  | some (e,h)=>match ze3 e h (zeg b c) ks with | some (e,h)=>zew l e h b | none=>none
  | none=>none
 | (c,.typ m t)::l,e,h,b=>match zau (yko h (zeg b c) m++y7t h (zeg b c) (T.ks m t)) e h with
  | some (e,h)=>match ze3 e h (zeg b c) (T.ks m t) with
   | some (e,h)=>match zxk h (zeg b c) m t with | some h=>zew l e h b | none=>none
   | none=>none
  | none=>none
theorem zex:∀ (l:List (Nat×RD)) (e e1:TE T.q) (h h1:TH T.q) (b:List (Nat×Nat)),zew l e h b=some (e1,h1)->Gh P pro T e h e1 h1
 | [],_,_,_,_,_,hg=>by cases hg;exact z8.rfl'
 | (c,.any)::l,e,e1,h,h1,b,hg=>zex l e e1 h h1 b hg
 | (c,.fix ks)::l,e,e1,h,h1,b,hg=>by
  simp only [zew] at hg;split at hg
  ·rename_i e3 h3 hz;split at hg
   ·rename_i e2 h2 hf;exact z8.trans (z7g _ hz).1 (z8.trans (zi4 hf) (zex l _ _ _ _ b hg))
   ·cases hg
  ·cases hg
 | (c,.typ m t)::l,e,e1,h,h1,b,hg=>by
  simp only [zew] at hg;split at hg
  ·rename_i e4 h4 hz;split at hg
   ·rename_i e2 h2 hf;split at hg
    ·rename_i h3 ht;exact z8.trans (z7g _ hz).1 (z8.trans (zi4 hf) (z8.trans (y7m ht) (zex l _ _ _ _ b hg)))
    ·cases hg
   ·cases hg
  ·cases hg
def zx3 (pro:List Nat)(bm:List (Nat×Nat))(S:List Nat)(e:TE T.q)(h:TH T.q):Option (EH T) :=
 bif zt (bm.map Prod.fst)&&zt (bm.map Prod.snd)&&pro.all (λk=>z35 bm k==some k) then
  match z9g h bm with
  | some (hs,_)=>some (S.map λt=>(t,match z3t bm (z1b e t) with | some v=>v | none=>.un),hs)
  | none=>none
 else none
theorem y6u {bm:List (Nat×Nat)}{S:List Nat}{e:TE T.q}{h:TH T.q}{eh:EH T}(hn:zx3 pro bm S e h=some eh):Gh P pro T e h eh.1 eh.2:=by
 unfold zx3 at hn;cases hb:(zt (bm.map Prod.fst)&&zt (bm.map Prod.snd)&&pro.all (λk=>z35 bm k==some k)) with
 | false=>rw [hb] at hn;cases hn
 | true =>
  rw [hb,cond_true] at hn;simp only [and_eq_true] at hb;split at hn
  ·rename_i hs rest hsp;cases hn;obtain ⟨s1,s2,s3⟩:=z6b bm h hs rest hsp;have hkeys:=z92 _ _ _ _ s1
   have hno:zep pro bm S (z7 T.q (z4 T.q h) e) (z4 T.q h)=some (z19 (S.map λt=>(t,zdl bm (z7 T.q (z4 T.q h) e t))),z4 T.q hs):=by unfold zep;rw [s1];simp only;rw [if_pos (by simp only [and_eq_true];exact ⟨hb.1.1,hb.2⟩)]
   refine z8.trans (z8.norm hno) (z8.le λt=>?_)
   have hbl:∀ k n q,z1m bm k=some n->zh (z4 T.q hs) n q=zh (z4 T.q h) k q:=λk n q hkn=>by have:=s3 n k hb.1.1 hb.1.2 (z7y bm hkn);unfold zh z1j;rw [this]
   have hv:∀ t,za (zdl bm (z7 T.q (z4 T.q h) e t)) (den T.q (z4 T.q hs) (match z3t bm (z1b e t) with | some v=>v | none=>.un)):=λt=>by
    split
    ·rename_i v hv;have:=zao (T:=T) hbl _ _ hv;unfold zdl;simp only [z7,this];exact za.refl _
    ·exact za.un _
   clear hno
   induction S with
   | nil=>exact za.refl _
   | cons s S ih =>
    simp only [map_cons,z19];rw [show z7 T.q (z4 T.q hs) ((s,match z3t bm (z1b e s) with | some v=>v | none=>.un)::S.map λt=>(t,match z3t bm (z1b e t) with | some v=>v | none=>.un))=upd (z7 T.q (z4 T.q hs) (S.map λt=>(t,match z3t bm (z1b e t) with | some v=>v | none=>.un))) s (den T.q (z4 T.q hs) (match z3t bm (z1b e s) with | some v=>v | none=>.un)) from z1d];unfold upd;split
    ·exact hv s
    ·exact ih
  ·cases hn
def cnv (pro:List Nat)(D:Dr)(e:TE T.q)(h:TH T.q):Rs (EH T) :=
 (zkg pro D.S e h []).bind λ(e,h,b) =>
  match zew D.R e h b with
  | some (e,h)=>match zx3 pro (D.R.map λx=>(x.1,zeg b x.1)) (D.S.map Prod.fst) e h with
   | some eh=>.ok eh
   | none=>.no
  | none=>.no
theorem z7s {D:Dr}{e:TE T.q}{h:TH T.q}{eh:EH T}(hg:(cnv pro D e h).gives eh):Gh P pro T e h eh.1 eh.2:=by
 obtain ⟨⟨e1,h1,b⟩,q1,q2⟩:=Rs.bind_gives _ hg;dsimp only at q2;split at q2
 ·rename_i e2 h2 hr;split at q2
  ·rename_i eh' hn;cases q2;exact z8.trans (zn3 _ _ _ _ _ _ _ q1) (z8.trans (zex _ _ _ _ _ _ hr) (y6u hn))
  ·exact q2.elim
 ·exact q2.elim
end
inductive An (P:Program) (T:TT) (pro:List Nat):Type 1 where
 | no
 | two (a b:An P T pro)
 | join (S:Type) (enc:S->EH T) (D:Dr) (a b:An P T pro)
 | loop (V:Type) (c:V->z16 P T pro) (ret:Bool) (D:Dr)
 | alls (S Z:Type) (enc:S->EH T) (encV:Z->Value) (D:Dr)
section
variable {P:Program}{T:TT}{pro:List Nat}
def An.l:An P T pro->An P T pro
 | .two a _=>a
 | _=>.no
def An.r:An P T pro->An P T pro
 | .two _ b=>b
 | _=>.no
def ynm {L:Type}(pro:List Nat)(D:Dr)(K:Out->TE T.q->TH T.q->Raw P T pro L):Out->TE T.q->TH T.q->Raw P T pro (EH T⊕L)
 | .normal,e,h=>Raw.ofRs (λeh=>.leaf (.inl eh)) (cnv pro D e h)
 | o,e,h=>(K o e h).map .inr
def yl9 {L:Type}(A:TE T.q->TH T.q->Raw P T pro L)(K:Out->TE T.q->TH T.q->Raw P T pro L):Out->TE T.q->TH T.q->Raw P T pro L
 | .normal=>A
 | o=>K o
def zxx {L:Type}(id:Nat)(K:Out->TE T.q->TH T.q->Raw P T pro L):Out->TE T.q->TH T.q->Raw P T pro L
 | .exit id'=>bif Nat.beq id' id then K .normal else K (.exit id')
 | o=>K o
def y75 {L:Type}(K:Out->TE T.q->TH T.q->Raw P T pro L)(eh:EH T):Raw P T pro L :=
 match isX eh with
 | some u=>K (.panic u) [] []
 | none=>K .ret eh.1 eh.2
theorem KP.none {L:Type}{K:TE T.q->TH T.q->Raw P T pro L}{Q:L->Prop}(h:Sat (K [] []) Q):KP K Q nE []:=⟨[],[],rfl,rfl,h⟩
theorem ycc {L:Type}{K:Out->TE T.q->TH T.q->Raw P T pro L}{Q:L->Prop}{eh:EH T}{o:Out}{E:Env}{H0:H}(hr:zgj eh o E H0)(hs:Sat (y75 K eh) Q):KP (K o) Q E H0:=by
 unfold zgj at hr;unfold y75 at hs;cases hx:isX eh with
 | none =>rw [hx] at hr hs;obtain ⟨rfl,rfl,rfl⟩:=hr;exact ⟨_,_,rfl,rfl,hs⟩
 | some u =>rw [hx] at hr hs;obtain ⟨rfl,rfl,rfl⟩:=hr;exact KP.none hs
def zxe:List (VT T)->Option (List Value)
 | []=>some []
 | x::l=>match asc x,zxe l with | some v,some vs=>some (v::vs) | _,_=>none
def y6x:VT T->Option Value
 | .ag cs=>match zxe cs with | some vs=>some (.agg vs.toArray) | none=>none
 | v=>asc v
theorem zvj {H0:H}:∀ (l:List (VT T)) (vs:List Value),zxe l=some vs->scL (z6 T.q H0 l)=some vs
 | [],_,h=>by cases h;rfl
 | x::l,vs,h=>by
  unfold zxe at h;split at h
  ·rename_i v vs' h1 h2;cases h;simp only [z6,z2t h1,scL,zvj l vs' h2]
  ·cases h
theorem yc5 {H0:H}{v:VT T}{u:Value}(h:y6x v=some u):zld (den T.q H0 v)=some u:=by
 unfold y6x at h;split at h
 ·split at h
  ·rename_i vs hv;cases h;simp only [den,zld,zvj _ _ hv]
  ·cases h
 ·rw [z2t h];rfl
def zwi {L:Type}:List (Raw P T pro L)->Raw P T pro L
 | []=>.no
 | [a]=>a
 | a::l=>.both a (zwi l)
theorem zme {L:Type}{Q:L->Prop}:∀ (l:List (Raw P T pro L)),Sat (zwi l) Q->∀ a∈l,Sat a Q
 | [],h,a,ha=>(nomatch ha)
 | [x],h,a,ha=>by
  have:a=x:=by simpa using ha
  rw [this];exact h
 | x::y::l,h,a,ha=>by
  rcases mem_cons.1 ha with rfl | ha
  ·exact h.1
  ·exact zme (y::l) h.2 a ha
def zqg (pre:List (Ins×List Nat))(D:List Nat):List Nat:=(range pre.length).filter λi=>!D.contains i&&(match pre[i]? with | some x=>x.2.all D.contains | none=>false)
def evA (pro:List Nat)(cx:Cx P T)(pre:List (Ins×List Nat))(D:Dr):Nat->List Nat->TE T.q->TH T.q->Raw P T pro (EH T⊕Value)
 | 0,_,_,_=>.no
 | n+1,dn,e,h=>bif (range pre.length).all dn.contains then Raw.ofRs (λeh=>.leaf (.inl eh)) (cnv pro D e h)
  else zwi ((zqg pre dn).map λi=>match pre[i]? with
   | some x=>zd2 e x.1.guard (λe=>zqs pro cx x.1 e h (λe h=>evA pro cx pre D n (i::dn) e h) (λu _ _=>.leaf (.inr u))) (λe=>evA pro cx pre D n (i::dn) (z1u e x.1.dst (zkf x.1.op)) h)
   | none=>.no)
def FN (P:Program)(pro:List Nat)(r:EH T⊕Value)(E:Env)(H0:H):Prop:=∃ eh,r = .inl eh/\z8 P pro E H0 (z7 T.q (z4 T.q eh.2) eh.1) (z4 T.q eh.2)
theorem z5p.mono {pre:List (Ins×List Nat)}{F F':Env->H->Prop}{FX FX':Value->Prop}(hF:∀ e h,F e h->F' e h)(hX:∀ u,FX u->FX' u):∀ (n:Nat) (D:List Nat) (e:Env) (h:H),z5p P pro pre F FX n D e h->z5p P pro pre F' FX' n D e h
 | 0,D,e,h,hr=>⟨hr.1,hF _ _ hr.2⟩
 | n+1,D,e,h,hr=>by
  rcases hr with ⟨h1,h2⟩ | ⟨h1,h2⟩
  ·exact .inl ⟨h1,hF _ _ h2⟩
  ·refine .inr ⟨h1,λi x hx hi hd=>?_⟩;obtain ⟨e0,h0,g,hr⟩:=h2 i x hx hi hd;refine ⟨e0,h0,g,?_⟩;rcases hr with ⟨hw,hr⟩ | ⟨hw,e1,h1',hs,hr⟩ | ⟨hw,u,hx,hp,hu⟩
   ·exact .inl ⟨hw,z5p.mono hF hX n _ _ _ hr⟩
   ·exact .inr (.inl ⟨hw,e1,h1',hs,z5p.mono hF hX n _ _ _ hr⟩)
   ·exact .inr (.inr ⟨hw,u,hx,hp,hX u hu⟩)
theorem z5p.ghost {pre:List (Ins×List Nat)}{F:Env->H->Prop}{FX:Value->Prop}(hF:∀ e h e1 h1,z8 P pro e h e1 h1->F e1 h1->F e h){n:Nat}{D:List Nat}{e e1:Env}{h h1:H}(g:z8 P pro e h e1 h1)(hr:z5p P pro pre F FX n D e1 h1):z5p P pro pre F FX n D e h:=by
 cases n with
 | zero=>exact ⟨hr.1,hF _ _ _ _ g hr.2⟩
 | succ n =>
  rcases hr with ⟨h1,h2⟩ | ⟨h1,h2⟩
  ·exact .inl ⟨h1,hF _ _ _ _ g h2⟩
  ·refine .inr ⟨h1,λi x hx hi hd=>?_⟩;obtain ⟨e0,h0,g',hr⟩:=h2 i x hx hi hd;exact ⟨e0,h0,g.trans g',hr⟩
theorem FN.ghost {r:EH T⊕Value}{E E1:Env}{H0 H1:H}(g:z8 P pro E H0 E1 H1)(h:FN P pro r E1 H1):FN P pro r E H0:=by obtain ⟨eh,h1,h2⟩:=h;exact ⟨eh,h1,g.trans h2⟩
theorem zob {cx:Cx P T}{pre:List (Ins×List Nat)}{D:Dr}{r:EH T⊕Value}:∀ (n:Nat) (dn:List Nat) (e:TE T.q) (h:TH T.q),Sat (evA pro cx pre D n dn e h) (λl=>l=r) ->
  z5p P pro pre (FN P pro r) (λu=>r = .inr u) n dn (z7 T.q (z4 T.q h) e) (z4 T.q h)
 | 0,_,_,_,hs=>hs.elim
 | n+1,dn,e,h,hs=>by
  simp only [evA] at hs;cases hb:(range pre.length).all dn.contains with
  | true =>rw [hb,cond_true] at hs;obtain ⟨eh,q1,q2⟩:=Sat.ofRs _ hs;have q2:Sum.inl eh=r:=q2;exact .inl ⟨λi hi=>by simpa using all_eq_true.1 hb i (mem_range.2 hi),eh,q2.symm,z7s q1⟩
  | false =>
   rw [hb,cond_false] at hs;refine .inr ⟨?_,λi x hx hi hd=>?_⟩
   ·rw [List.all_eq_false] at hb;obtain ⟨i,h1,h2⟩:=hb;exact ⟨i,mem_range.1 h1,by simpa using h2⟩
   ·have hlt:i<pre.length:=(List.getElem?_eq_some_iff.1 hx).1
    have hm:i∈zqg pre dn:=by unfold zqg;rw [List.mem_filter];refine ⟨mem_range.2 hlt,?_⟩;simp only [hx,and_eq_true,not_eq_true',all_eq_true];exact ⟨by simpa using hi,λd hdd=>by simpa using hd d hdd⟩
    have hone:=zme _ hs _ (mem_map.2 ⟨i,hm,rfl⟩);simp only [hx] at hone;obtain ⟨e',he,h1 | h1⟩:=zbv (H0:=z4 T.q h) hone
    ·rcases zn4 h1.2 with ⟨e0,h0,e1,h1',e2,h2,g1,gb,g2,g3,e4,h4,rfl,rfl,hK⟩ | ⟨e0,h0,u,ex,hx,g1,gb,g2,_,hK⟩
     ·rw [he] at g1 gb;have hK:Sat (evA pro cx pre D n (i::dn) e4 h4) (λl=>l=r):=hK;exact ⟨e0,h0,g1,.inr (.inl ⟨za9 h1.1 gb,e1,h1',g2,z5p.ghost (λ_ _ _ _=>FN.ghost) g3 (zob n (i::dn) e4 h4 hK)⟩)⟩
     ·rw [he] at g1 gb;have hK:Sum.inr u=r:=hK;exact ⟨e0,h0,g1,.inr (.inr ⟨za9 h1.1 gb,u,_,g2,hK.symm⟩)⟩
    ·have:=zob n (i::dn) _ h h1.2;rw [z1d,he,z9f] at this;exact ⟨_,_,z8.rfl',.inl ⟨h1.1,this⟩⟩
def zwu (e:TE T.q)(c:Operand)(b:Bool):TE T.q:=match c with | .tmp s=>z1u e s (.bk b) | _=>e
def evC (cx:Cx P T):IC->An P T pro->{L:Type}->TE T.q->TH T.q->(Out->TE T.q->TH T.q->Raw P T pro L)->Raw P T pro L
 | .reg keep l,_,_,e,h,K=>zwc pro cx l e h (λe h=>K .normal (zef keep e) h) (λu e h=>K (.panic u) e h)
 | .pan l d t x,_,_,e,h,K=>evR pro cx l e h λe h=>match y6x (evT e x) with | some u=>K (.panic (.iface t u)) (ptT (z1u e d .un)) h | none=>.no
 | .draw keep pre tail,an,_,e,h,K =>
  match an with
  | .alls S Z enc encV D=>.alls enc encV (evA pro cx pre D (pre.length+1) [] e h) (λs=>evR pro cx tail (enc s).1 (enc s).2 λe h=>K .normal (zef keep e) h) (λz=>K (.panic (encV z)) [] [])
  | _=>zkv pro cx keep pre tail e h (K .normal)
 | .bad,_,_,_,_,_=>.no
 | .skip,_,_,e,h,K=>K .normal e h
 | .ret,_,_,e,h,K=>K .ret e h
 | .exit id,_,_,e,h,K=>K (.exit id) e h
 | .seq x y,an,_,e,h,K =>
  match an with
  | .join S enc D a b=>.join enc (evC cx x a e h (ynm pro D K)) λs=>evC cx y b (enc s).1 (enc s).2 K
  | an=>evC cx x an.l e h (yl9 (λe h=>evC cx y an.r e h K) K)
 | .cond c x y,an,_,e,h,K =>
  match evT e c with
  | .bk true=>evC cx x an.l e h K
  | .bk false=>evC cx y an.r e h K
  | .sc (.bool b)=>.ite b (evC cx x an.l (zwu e c true) h K) (evC cx y an.r (zwu e c false) h K)
  | _=>.no
 | .block id x,an,_,e,h,K=>evC cx x an.l e h (zxx id K)
 | .loop x,an,_,e,h,K =>
  match an with
  | .loop _ c ret D=>Raw.ofRs (λeh=>bif ret then .loopR c x eh (λv y=>K (.exit (c v).id) ((c v).encY y).1 ((c v).encY y).2) (λv z=>y75 K ((c v).encZ z))
    else .loop c x eh (λv y=>K (.exit (c v).id) ((c v).encY y).1 ((c v).encY y).2)) (cnv pro D e h)
  | _=>.no
theorem zpu {e:TE T.q}{H0:H}{c:Operand}{b:Bool}(hc:evT e c = .sc (.bool b)):z7 T.q H0 (zwu e c b)=z7 T.q H0 e:=by cases c with | tmp s=>exact z64 hc | _=>rfl
theorem z5f {cx:Cx P T}:∀ (c:IC) (an:An P T pro) {L:Type} (e:TE T.q) (h:TH T.q) (K:Out->TE T.q->TH T.q->Raw P T pro L) (Q:L->Prop),Sat (evC cx c an e h K) Q ->
  W P pro c (λo E H0=>KP (K o) Q E H0) (z7 T.q (z4 T.q h) e) (z4 T.q h)
 | .reg keep l,_,_,e,h,K,Q,hs=>by
  rcases zkw l e h hs with ⟨E,H',r,e2,h2,rfl,rfl,hK⟩ | ⟨u,E,ex,hx,r,hle,hK⟩
  ·exact W.regG ⟨_,_,r,_,_,(zfy keep e2).symm,rfl,hK⟩
  ·exact ⟨_,_,_,.after (.regX r) (z8.le hle),ex,hx,rfl,rfl,hK⟩
 | .pan l d t x,_,_,e,h,K,Q,hs=>by
  obtain ⟨E,H',r,e2,h2,rfl,rfl,hK⟩:=zfn l e h hs;dsimp only at hK;split at hK
  ·rename_i u hu
   exact ⟨_,_,_,.after (.pan r (by rw [ze];exact yc5 hu)) (z8.le λt=>by
    have:=y41 (T:=T) (H0:=z4 T.q h2) (H1:=z4 T.q h2) (z1u e2 d .un) t
    rwa [z1d] at this),_,h2,rfl,rfl,hK⟩
  ·exact hK.elim
 | .draw keep pre tail,an,_,e,h,K,Q,hs=>by
  cases an with
  | alls S Z enc encV D =>
   obtain ⟨r,h1,h2⟩:=hs;have ha:=zob (r:=Sum.map enc encV r) (pre.length+1) [] e h h1;cases r with
   | inl s =>
    obtain ⟨E,H',hr,e2,h2',rfl,rfl,hK⟩:=zfn tail _ _ h2;refine ⟨.normal,_,_,.allN (F:=λE H0=>z8 P pro E H0 (z7 T.q (z4 T.q (enc s).2) (enc s).1) (z4 T.q (enc s).2)) (λe1 h1 g=>.ghost g hr) (z5p.mono (λE H0 hf=>?_) (λu hu=>?_) _ _ _ _ ha),_,_,(zfy keep e2).symm,rfl,hK⟩
    ·obtain ⟨eh,q1,q2⟩:=hf;cases q1;exact q2
    ·cases hu
   | inr z =>exact ⟨.panic (encV z),_,_,.allX (z5p.mono (λE H0 hf=>by obtain ⟨eh,q1,q2⟩:=hf;cases q1) (λu hu=>by cases hu;rfl) _ _ _ _ ha),KP.none h2⟩
  | no=>exact z9v (Q':=λo E H0=>KP (K o) Q E H0) (λE H0 hk=>hk) hs
  | two _ _=>exact z9v (Q':=λo E H0=>KP (K o) Q E H0) (λE H0 hk=>hk) hs
  | join _ _ _ _ _=>exact z9v (Q':=λo E H0=>KP (K o) Q E H0) (λE H0 hk=>hk) hs
  | loop _ _ _ _=>exact z9v (Q':=λo E H0=>KP (K o) Q E H0) (λE H0 hk=>hk) hs
 | .bad,_,_,_,_,_,_,hs=>hs.elim
 | .skip,_,_,e,h,K,Q,hs=>W.skip ⟨e,h,rfl,rfl,hs⟩
 | .ret,_,_,e,h,K,Q,hs=>W.ret ⟨e,h,rfl,rfl,hs⟩
 | .exit id,_,_,e,h,K,Q,hs=>W.exit ⟨e,h,rfl,rfl,hs⟩
 | .seq x y,an,L,e,h,K,Q,hs=>by
  have plain:∀ (a b:An P T pro),Sat (evC cx x a e h (yl9 (λe h=>evC cx y b e h K) K)) Q->W P pro (.seq x y) (λo E H0=>KP (K o) Q E H0) (z7 T.q (z4 T.q h) e) (z4 T.q h):=λa b hs=>by
   refine W.seq (W.mono (z5f x a e h _ Q hs) λo E H0 hk=>?_);cases o with
   | normal =>obtain ⟨e1,h1,rfl,rfl,hK⟩:=hk;exact z5f y b e1 h1 K Q hK
   | exit id=>exact hk
   | ret=>exact hk
   | panic u=>exact hk
  cases an with
  | alls _ _ _ _ _=>exact plain _ _ hs
  | join S enc D a b =>
   have ih:=z5f x a e h _ _ hs;refine W.seq (W.mono ih λo E H0 hk=>?_);cases o with
   | normal =>obtain ⟨e1,h1,rfl,rfl,hK⟩:=hk;obtain ⟨eh,q1,s,q2,q3⟩:=Sat.ofRs _ hK;subst q2;exact W.ghost (z7s q1) (z5f y b _ _ K Q q3)
   | exit id =>obtain ⟨e1,h1,rfl,rfl,hK⟩:=hk;exact ⟨e1,h1,rfl,rfl,Sat.map (L:=L) (L':=EH T⊕L) Sum.inr (K _ e1 h1) _ hK⟩
   | ret =>obtain ⟨e1,h1,rfl,rfl,hK⟩:=hk;exact ⟨e1,h1,rfl,rfl,Sat.map (L:=L) (L':=EH T⊕L) Sum.inr (K _ e1 h1) _ hK⟩
   | panic u =>obtain ⟨e1,h1,rfl,rfl,hK⟩:=hk;exact ⟨e1,h1,rfl,rfl,Sat.map (L:=L) (L':=EH T⊕L) Sum.inr (K _ e1 h1) _ hK⟩
  | no=>exact plain _ _ hs
  | two a b=>exact plain _ _ hs
  | loop V c ret D=>exact plain _ _ hs
 | .cond c x y,an,_,e,h,K,Q,hs=>by
  simp only [evC] at hs;split at hs
  ·rename_i hv;exact W.condT (by rw [ze,hv];rfl) (z5f x an.l e h K Q hs)
  ·rename_i hv;exact W.condF (by rw [ze,hv];rfl) (z5f y an.r e h K Q hs)
  ·rename_i b hv;refine W.cond (b:=b) (by rw [ze,hv];rfl) (λhb=>?_) (λhb=>?_)
   ·subst hb;have:=z5f x an.l _ h K Q (hs.1 rfl)
    rwa [zpu hv] at this
   ·subst hb;have:=z5f y an.r _ h K Q (hs.2 rfl)
    rwa [zpu hv] at this
  ·exact hs.elim
 | .block id x,an,_,e,h,K,Q,hs=>by
  refine W.block (W.mono (z5f x an.l e h _ Q hs) λo E H0 hk=>?_);cases o with
  | normal=>exact hk
  | ret=>exact hk
  | panic u=>exact hk
  | exit id' =>
   simp only [zea];simp only [zxx,z1h] at hk;split
   ·rename_i e;simpa [e] using hk
   ·rename_i e;simpa [e] using hk
 | .loop x,an,_,e,h,K,Q,hs=>by
  cases an with
  | loop V c ret D =>
   obtain ⟨eh,q1,q2⟩:=Sat.ofRs _ hs;refine W.ghost (z7s q1) ?_;cases ret with
   | true =>
    obtain ⟨v,hb,x',b,q3,q4,q5⟩:=q2;subst hb q3;refine W.mono ((c v).ok x' b q4) λo E H0 hk=>?_;cases b with
    | go _=>exact hk.elim
    | out y =>obtain ⟨rfl,rfl,rfl⟩:=hk;exact ⟨_,_,rfl,rfl,q5⟩
    | ret z=>exact ycc hk.2 q5
   | false =>obtain ⟨v,hb,x',y,q3,_,q4,q5⟩:=q2;subst hb q3;refine W.mono ((c v).ok x' _ q4) λo E H0 hk=>?_;obtain ⟨rfl,rfl,rfl⟩:=hk;exact ⟨_,_,rfl,rfl,q5⟩
  | no=>exact hs.elim
  | alls _ _ _ _ _=>exact hs.elim
  | two _ _=>exact hs.elim
  | join _ _ _ _ _=>exact hs.elim
def ya1 (pro:List Nat)(id:Nat)(DX DY DZ:Dr):Out->TE T.q->TH T.q->Raw P T pro (Bo (EH T) (EH T) (EH T))
 | .normal,e,h=>Raw.ofRs (λeh=>.leaf (.go eh)) (cnv pro DX e h)
 | .exit id',e,h=>bif Nat.beq id' id then Raw.ofRs (λeh=>.leaf (.out eh)) (cnv pro DY e h) else .no
 | .ret,e,h=>Raw.ofRs (λeh=>match isX eh with | none=>.leaf (.ret eh) | some _=>.no) (cnv pro DZ e h)
 | .panic u,_,_=>.leaf (.ret (ofX u))
def zwb {X Y Z E:Type}(a:X->E)(b:Y->E)(c:Z->E):Bo X Y Z->Bo E E E
 | .go x=>.go (a x)
 | .out y=>.out (b y)
 | .ret z=>.ret (c z)
noncomputable def z1f {X Y Z:Type}(cx:Cx P T)(x:IC)(an:X->An P T pro)(id:Nat)(ret:Bool)(DX DY DZ:Dr)(encX:X->EH T)(encY:Y->EH T)(encZ:Z->EH T)(n:Nat)(t:X->Pt P T pro (Bo X Y Z))(hret:ret=false->Z->False:=by first | (intro h;cases h;done) | (intro _ z;cases z))
  (ht:∀ s,evC cx x (an s) (encX s).1 (encX s).2 (ya1 pro id DX DY DZ)=(t s).raw (zwb encX encY encZ):=by intro s;kernel_rfl):z16 P T pro where
 body:=x
 X:=X
 Y:=Y
 Z:=Z
 encX:=encX
 encY:=encY
 encZ:=encZ
 id:=id
 ret:=ret
 G:=zk (λs=>(t s).run) n
 ok:=by
  have round:∀ s b,(t s).run=some b->W P pro x (λo E H0=>match b with
    | .go x'=>o = .normal/\∃ e h,Gh P pro T e h (encX x').1 (encX x').2/\E=z7 T.q (z4 T.q h) e/\H0=z4 T.q h
    | .out y=>o = .exit id/\∃ e h,Gh P pro T e h (encY y).1 (encY y).2/\E=z7 T.q (z4 T.q h) e/\H0=z4 T.q h
    | .ret z=>o≠.normal/\∃ E1 H1,z8 P pro E H0 E1 H1/\zgj (encZ z) o E1 H1) (z7 T.q (z4 T.q (encX s).2) (encX s).1) (z4 T.q (encX s).2):=by
   intro s b hb;have h1:=z2c (zwb encX encY encZ) (t s) b hb;rw [<- ht s] at h1;refine W.mono (z5f x (an s) _ _ _ _ h1) λo E H0 hk=>?_;obtain ⟨e,h,rfl,rfl,hK⟩:=hk;cases o with
   | normal =>
    obtain ⟨eh,q1,q2⟩:=Sat.ofRs _ hK;cases b<;>cases q2
    exact ⟨rfl,e,h,z7s q1,rfl,rfl⟩
   | exit id' =>
    simp only [ya1,z1h] at hK;by_cases hid:id'=id
    ·subst hid;simp only [decide_true,cond_true] at hK;obtain ⟨eh,q1,q2⟩:=Sat.ofRs _ hK;cases b<;>cases q2
     exact ⟨rfl,e,h,z7s q1,rfl,rfl⟩
    ·simp only [hid,decide_false,cond_false] at hK;exact hK.elim
   | ret =>
    obtain ⟨eh,q1,q2⟩:=Sat.ofRs _ hK;split at q2
    ·rename_i hx;cases b<;>cases q2
     refine ⟨by simp,_,_,z7s q1,?_⟩;unfold zgj;rw [hx];exact ⟨rfl,rfl,rfl⟩
    ·exact q2.elim
   | panic u =>
    have hK:Bo.ret (ofX u)=zwb encX encY encZ b:=hK;cases b with
    | go _=>cases hK
    | out _=>cases hK
    | ret z =>simp only [zwb,Bo.ret.injEq] at hK;refine ⟨by simp,nE,[],z8.fell,?_⟩;unfold zgj;rw [<- hK];exact ⟨rfl,rfl,rfl⟩
  intro s
  induction n generalizing s with
  | zero=>intro b hb;cases hb
  | succ k ih =>
   intro b hb;unfold zk at hb;split at hb
   ·rename_i s' hs;refine W.loop (W.mono (round s _ hs) λo E H0 hq=>?_);obtain ⟨rfl,e,h,g,rfl,rfl⟩:=hq;exact W.ghost g (ih s' b hb)
   ·rename_i hne;have hr:=round s _ hb;cases b with
    | go s'=>exact absurd hb (hne s')
    | out y =>obtain ⟨o,E,H0,hex,rfl,e,h,g,rfl,rfl⟩:=hr;exact ⟨_,_,_,.loopX (by simp) (.after hex g),rfl,rfl,rfl⟩
    | ret z =>obtain ⟨o,E,H0,hex,hno,E1,H1,g,hri⟩:=hr;refine ⟨_,_,_,.loopX hno (.after hex g),?_,hri⟩;cases hret':ret with | true=>rfl | false=>exact (hret hret' z).elim
end
def fnC (P:Program)(f:Nat)(ks:List (List Nat)):IC :=
 match P.funcs[f]? with
 | some fn=>match fn.body with
  | some code=>match z4v P fn.ntmps code ks with | some (c,_)=>c | none=>.skip
  | none=>.skip
 | none=>.skip
def y62 (P:Program)(f:Nat):List RS :=
 match P.funcs[f]? with
 | some fn=>match z3h P fn.results.toList with | some ts=>ts | none=>[]
 | none=>[]
def fnN (P:Program)(f:Nat):Nat:=match P.funcs[f]? with | some fn=>fn.ntmps | none=>0
def zwh (P:Program)(f:Nat)(ks:List (List Nat)):Bool :=
 match P.funcs[f]? with
 | some fn=>match fn.body with
  | some code=>(z4v P fn.ntmps code ks).isSome&&(z3h P fn.results.toList).isSome
  | none=>false
 | none=>false
theorem yb4 {P:Program}{f:Nat}{ks:List (List Nat)}(h:zwh P f ks=true):y4o P f (fnN P f) (fnC P f ks) (y62 P f):=by
 unfold zwh at h;split at h
 ·rename_i fn hfn;split at h
  ·rename_i code hc;simp only [and_eq_true,Option.isSome_iff_exists] at h;obtain ⟨⟨⟨c,ks'⟩,h1⟩,⟨ts,h2⟩⟩:=h;refine ⟨fn,code,hfn,hc,?_,?_,ks,ks',?_⟩
   ·simp [fnN,hfn]
   ·simp [y62,hfn,h2]
   ·have:fnC P f ks=c:=by simp [fnC,hfn,hc,h1]
    rw [this];simp only [fnN,hfn];exact h1
  ·cases h
 ·cases h
def z18:List Nat->IC->IC
 | [],c=>c
 | 0::p,.seq x _=>z18 p x
 | 0::p,.cond _ x _=>z18 p x
 | 0::p,.block _ x=>z18 p x
 | 0::p,.loop x=>z18 p x
 | _::p,.seq _ y=>z18 p y
 | _::p,.cond _ _ y=>z18 p y
 | _,c=>c
section
variable {P:Program}{T:TT}{pro:List Nat}
def zns:Nat->List (VT T)->TE T.q
 | _,[]=>[]
 | n,x::l=>(n,x)::zns (n+1) l
theorem znt {H0:H}:∀ (l:List (VT T)) (n:Nat),z7 T.q H0 (zns n l)=z8d n (z6 T.q H0 l)
 | [],_=>rfl
 | x::l,n=>by simp only [zns,z6,z8d,<- znt l (n+1)];exact z1d (e:=zns (n+1) l)
def yo9 (pro:List Nat)(D:Dr):Out->TE T.q->TH T.q->Raw P T pro (EH T)
 | .exit _,_,_=>.no
 | .panic _,_,_=>.no
 | _,e,h=>Raw.ofRs .leaf (cnv pro D e h)
def rsT (e:TE T.q)(h:TH T.q):RS->Option (VT T)
 | .t s=>some (z1b e s)
 | .c s agg n =>
  match z1b e s with
  | .pt k [] i c=>match z2z h k with
   | some (.lit s' xs)=>bif Nat.blt s' 1000000 then match xs[i]? with
    | some cs=>match zh4 agg n k [] i c cs with | .ok v=>some v | _=>none
    | none=>none
    else none
   | _=>none
  | _=>none
def zxb (e:TE T.q)(h:TH T.q):List RS->Option (List (VT T))
 | []=>some []
 | r::l=>match rsT e h r,zxb e h l with | some x,some xs=>some (x::xs) | _,_=>none
def y76 (ts:List RS)(keys:List Nat)(eh:EH T):Option (VT T×TH T.q) :=
 match zxb eh.1 eh.2 ts,z9g eh.2 (keys.map λk=>(k,k)) with
 | some l,some (ho,_)=>match z3t (keys.map λk=>(k,k)) (match l with | [x]=>x | l=>.tu l) with
  | some r=>bif zt keys then some (r,ho) else none
  | none=>none
 | _,_=>none
theorem yl6 {e:TE T.q}{h:TH T.q}{r:RS}{v:VT T}(hr:rsT e h r=some v):zlc (z7 T.q (z4 T.q h) e) (z4 T.q h) r=some (den T.q (z4 T.q h) v):=by
 cases r with
 | t s=>cases hr;rfl
 | c s agg n =>
  simp only [rsT] at hr;split at hr
  ·rename_i k i c hp;split at hr
   ·rename_i s' xs hg;cases hsm:Nat.blt s' 1000000 with
    | false=>rw [hsm] at hr;cases hr
    | true =>
    rw [hsm] at hr;simp only [cond_true] at hr;split at hr
    ·rename_i cs hcs;split at hr
     ·rename_i w hl;cases hr;have hgr:z5 (z4 T.q h) k=some ⟨s',xs.map (z6 T.q [])⟩:=by rw [z1s,hg];rfl
      have hres:res (z4 T.q h) k []=some (s',xs.map (z6 T.q [])):=zd9 (by unfold z1j;rw [hgr];rfl) (le_of_ble_eq_true hsm);have:=zem (T:=T) (agg:=agg) (n:=n) (k:=k) (i:=i) (c:=c) (p:=[]) (cs:=cs) (v:=v) hres (by simp [hcs]) (by rw [hl];exact rfl);simp only [zlc,zi,ev,z7,hp,den,hres];exact this
     ·cases hr
    ·cases hr
   ·cases hr
  ·cases hr
theorem zvf {e:TE T.q}{h:TH T.q}:∀ (ts:List RS) (l:List (VT T)),zxb e h ts=some l->z91 (z7 T.q (z4 T.q h) e) (z4 T.q h) ts=some (z6 T.q (z4 T.q h) l)
 | [],_,h=>by cases h;rfl
 | r::ts,l,hr=>by
  simp only [zxb] at hr;split at hr
  ·rename_i x xs h1 h2;cases hr;simp only [z91,yl6 h1,zvf ts xs h2,z6]
  ·cases hr
theorem zuw:∀ (ks:List Nat) (k:Nat),k∈ks->z35 (ks.map λk=>(k,k)) k=some k
 | [],_,h=>by cases h
 | k'::ks,k,h=>by
  simp only [map_cons,z35];split
  ·rename_i e;rw [e]
  ·rename_i hne;refine zuw ks k ?_;rcases mem_cons.1 h with h | h
   ·exact absurd h.symm hne
   ·exact h
theorem zk0:∀ (ks:List Nat) (k n:Nat),z1m (ks.map λk=>(k,k)) k=some n->n=k/\k∈ks
 | [],_,_,h=>by cases h
 | k'::ks,k,n,h=>by
  simp only [map_cons,z1m] at h;split at h
  ·rename_i e;cases h;exact ⟨e,by simp [e]⟩
  ·obtain ⟨q1,q2⟩:=zk0 ks k n h;exact ⟨q1,List.mem_cons_of_mem _ q2⟩
theorem zvc {ts:List RS}{keys:List Nat}{eh:EH T}{r:VT T}{ho hin:TH T.q}(hr:y76 ts keys eh=some (r,ho))(hin':(hin.map Prod.fst).all (λk=>keys.contains k)=true){o:Out}(hno:(match o with | .exit _=>False | .panic _=>False | _=>True)) :
  zvr ts (z4 T.q hin) (den T.q (z4 T.q ho) r) (z4 T.q ho) o (z7 T.q (z4 T.q eh.2) eh.1) (z4 T.q eh.2):=by
 unfold y76 at hr;split at hr
 ·rename_i l ho' left h1 h2;split at hr
  ·rename_i r' hb;cases hn:zt keys with
   | false=>rw [hn] at hr;cases hr
   | true =>
    rw [hn] at hr;cases hr;obtain ⟨s1,s2,s3⟩:=z6b _ _ _ _ h2;have hk1:(keys.map λk=>(k,k)).map Prod.fst=keys:=by rw [map_map];exact map_id' _
    have hk2:(keys.map λk=>(k,k)).map Prod.snd=keys:=by rw [map_map];exact map_id' _
    refine ⟨hno,keys.map λk=>(k,k),_,z4 T.q left,?_,s1,by rw [hk1];exact hn,zao (Ho:=z4 T.q eh.2) (λk n q hkn=>?_) _ _ hb,?_⟩
    ·unfold z85;rw [zvf _ _ h1];cases l with
     | nil=>rfl
     | cons x l=>cases l<;>rfl
    ·obtain ⟨e1,hk⟩:=zk0 keys k n hkn;subst e1;have:=s3 n n (by rw [hk1];exact hn) (by rw [hk2];exact hn) (mem_map.2 ⟨n,hk,rfl⟩);unfold zh z1j;rw [this]
    ·rw [z1o,all_eq_true];intro k hk;have:=all_eq_true.1 hin' k hk;rw [zuw keys k (by simpa using this)];simp
  ·cases hr
 ·cases hr
noncomputable def zg {X R:Type}(cx:Cx P T)(f:Nat)(ks:List (List Nat))(an:X->An P T pro)(A:List VD)(Hd:List (Nat×List Kd))(Nk:List Nat)(D:Dr)(keys:List Nat)(strong:Bool)
  (encA:X->List (VT T)) (encH:X->TH T.q) (encE:R->EH T) (encR:R->VT T) (encO:R->TH T.q) (t:X->Pt P T pro R)
  (hf:zwh P f ks=true:=by kernel_rfl)
  (ht:∀ x,evC cx (fnC P f ks) (an x) (zns 0 (encA x)) (encH x) (yo9 pro D)=(t x).raw encE:=by intro x;kernel_rfl)
  (hp:∀ x,(encH x).map Prod.fst=pro:=by intro x;kernel_rfl) (hk:pro.all (λk=>keys.contains k)=true:=by kernel_rfl)
  (hr:∀ y,y76 (y62 P f) keys (encE y)=some (encR y,encO y):=by intro y;kernel_rfl)
  (hs:strong=true->∀ y,(zc3 (encR y)&&zb3 (encO y))=true:=by first | (intro h;cases h;done) | (intro _ y;kernel_rfl)):Con P T where
 f:=f
 X:=X
 Y:=R
 A:=A
 H:=Hd
 N:=Nk
 encA:=encA
 encH:=encH
 G:=λx=>(t x).run
 encR:=encR
 encO:=encO
 strong:=strong
 ok:=λx y hx=>by
  have h1:=z2c encE (t x) y hx;rw [<- ht x] at h1;have h2:=z5f _ (an x) _ _ _ _ h1;rw [znt] at h2
  have hG:CallG P f (z6 T.q (z4 T.q (encH x)) (encA x)) (z4 T.q (encH x)) (den T.q (z4 T.q (encO y)) (encR y)) (z4 T.q (encO y)):=by
   refine .of_E (yb4 hf) ?_;rw [z1o,hp x];obtain ⟨o,E,H0,hex,e,h,rfl,rfl,hK⟩:=h2;cases o with
   | exit id=>exact hK.elim
   | panic u=>exact hK.elim
   | normal =>obtain ⟨eh,q1,q2⟩:=Sat.ofRs _ hK;cases q2;exact ⟨_,_,_,.after hex (z7s q1),zvc (hr y) (by rw [hp x];exact hk) trivial⟩
   | ret =>obtain ⟨eh,q1,q2⟩:=Sat.ofRs _ hK;cases q2;exact ⟨_,_,_,.after hex (z7s q1),zvc (hr y) (by rw [hp x];exact hk) trivial⟩
  refine ⟨λhst=>?_,hG⟩;have:=hs hst y;simp only [and_eq_true] at this;exact CallG.narrow hG (zeo _ this.1) (zc2 _ this.2)
end
section
variable {El:Nat->Type}{T:TT0}
def gI (k:IntKind):TV El->Option Int
 | .sc (.int k' n)=>if k'=k then some n else none
 | .ik k' n=>if k'=k then some n else none
 | _=>none
def gB:TV El->Option Bool
 | .sc (.bool b)=>some b
 | .bk b=>some b
 | _=>none
def gS:TV El->Option ByteArray
 | .sc (.string b)=>some b
 | _=>none
def gM (t:Nat):TV El->Option (List (El t))
 | .im t' xs=>if h:t'=t then some (h ▸ xs) else none
 | _=>none
def gO (m:Bool)(t:Nat):TV El->Option (List (El t))
 | .ow m' t' xs=>if h:t'=t then (bif m==m' then some (h ▸ xs) else none) else none
 | _=>none
theorem z1w {k:IntKind}{v:TV T.El}{n:Int}{h:H}(hv:gI k v=some n):den T h v = .sc (.int k n):=by
 unfold gI at hv;split at hv
 ·split at hv
  ·rename_i hk;cases hv;subst hk;rfl
  ·cases hv
 ·split at hv
  ·rename_i hk;cases hv;subst hk;rfl
  ·cases hv
 ·cases hv
theorem y9x {v:TV T.El}{b:Bool}{h:H}(hv:gB v=some b):den T h v = .sc (.bool b):=by
 unfold gB at hv;split at hv
 ·cases hv;rfl
 ·cases hv;rfl
 ·cases hv
theorem ynl {v:TV T.El}{b:ByteArray}{h:H}(hv:gS v=some b):den T h v = .sc (.string b):=by
 unfold gS at hv;split at hv
 ·cases hv;rfl
 ·cases hv
theorem z8u {t:Nat}{v:TV T.El}{xs:List (T.El t)}{h:H}(hv:gM t v=some xs):den T h v = .im (T.sz t) (xs.map (T.ca false t)):=by
 unfold gM at hv;split at hv
 ·split at hv
  ·rename_i hk;subst hk;cases hv;rfl
  ·cases hv
 ·cases hv
theorem z7v {m:Bool}{t:Nat}{v:TV T.El}{xs:List (T.El t)}{h:H}(hv:gO m t v=some xs):den T h v = .ow (T.sz t) (xs.map (T.ca m t)):=by
 unfold gO at hv;split at hv
 ·split at hv
  ·rename_i m' _ _ hk;subst hk;cases hm:m==m' with
   | false=>rw [hm] at hv;cases hv
   | true =>
    rw [hm] at hv;cases hv;have:m=m':=by simpa using hm
    subst this;rfl
  ·cases hv
 ·cases hv
theorem z3l {l:List AV}(h:l.all (λa=>!isZ a)=true):∀ a∈l,isZ a=false:=λa ha=>by have:=all_eq_true.1 h a ha;simpa using this
end
end Loom
namespace Loom
attribute [local instance] Dfs.none
open Go
section
variable {P:Program}{N:Nat}
theorem Now.callR {f:Nat}{fn:Func}{code:Code}{ts:List RS}{args:List AV}{r:AV}{hout:H}(h1:P.funcs[f]?=some fn)(h2:fn.body=some code)(h3:fn.ntmps=N)(h4:z3h P fn.results.toList=some ts)(hni:z45 r=true)(hnh:z5c hout=true)
  (hw:∀ (a:Act) (w0:World) (Q:Exit->Act->World->Prop),Now N w0 none (z8d 0 args) [] a w0->(∀ e' a' w',z85 e' hout ts=some r->Now N w0 none e' hout a' w'->Q .ret a' w')->code.wp P Q a w0):z1p P f args [] r hout:=by
 intro I σ w vs hh hv;apply calls_of_wp h1 h2
 have R:Rel I N σ (z8d 0 args) [] { tmps:=vs.toArray++Array.replicate (fn.ntmps - vs.toArray.size) undef,defers:=[] } w:=by
  refine ⟨hh,?_,λt=>?_,rfl⟩
  ·simp only [Array.size_append,Array.size_replicate,List.size_toArray];omega
  ·have:=zgl (I:=I) (σ:=σ) (B:=bl w) args 0 [] vs (replicate (fn.ntmps - vs.toArray.size) undef) rfl hv t
   have e2:(vs.toArray++Array.replicate (fn.ntmps - vs.toArray.size) undef)=(vs++replicate (fn.ntmps - vs.toArray.size) undef).toArray:=by apply Array.ext';simp
   simp only [e2];simpa [Array.getD_eq_getD_getElem?,List.getD_eq_getElem?_getD] using this
 refine hw _ w _ ⟨⟨I,σ,R,(λx hx=>by cases hx),λb ks hb=>by cases hb⟩,(λb ks hb=>by cases hb),Le.refl w,λ_ _=>rfl⟩ λe' a' w' hr n=>?_;obtain ⟨⟨I',σ',R',hf,-⟩,-,le,old⟩:=n;obtain ⟨u,q1,q2⟩:=z90 R' fn h4 hr;have ls:=le.size
 have hJ:zj (λb=>I' b\/I b) σ' hout w':=R'.heap.wide (λb hb=>.inl hb) (λb hb h=>by
  rcases h with h | h
  ·exact (R'.heap.apart b hb).1 h
  ·have:=hh.low b h;have:=hf b hb;omega) (λb hb=>by
  rcases hb with h | h
  ·exact R'.heap.low b h
  ·have:=hh.low b h;omega)
 exact ⟨R'.defers,u,q1,u,σ',rfl,zj.narrow (λb hb=>.inr hb) hnh hJ,Va.narrow _ _ hni (Va.wide (J:=λb=>I' b\/I b) (λb hb=>.inl hb) _ _ q2),(λk hk=>by cases hk),le,(λb hb _=>old b hb),λb hb=>.inr (hf b hb)⟩
theorem yal (w:World)(t e:TypeId)(a:Option Addr)(n c:Nat)(h:P.underlying t=some (.slice e)):(binOp .eql t (.slice a n c) (.slice none 0 0)).run P w = .ok (.bool a.isNone) w:=by
 have key:∀ d,(Op.equalIn (d+1) t (.slice a n c) (.slice none 0 0)).run P w = .ok a.isNone w:=λd=>by cases a<;>simp [Op.equalIn,run_underlying h]
 simp only [binOp];simp [Op.equal,Op.maxDepth,key 9999]
theorem zdq {T:TT}{f:Nat}{fn:Func}{b:Code}{t el ty:Nat}(h1:P.funcs[f]?=some fn)(h2:fn.body=some b)(h3:fn.ntmps=8)(h4:z3h P fn.results.toList=some [.t 2])
  (hb:b = .seq (lf b) (.seq (.seq (.region (rid (lf (lf (rt b)))) (z8o (lf (lf (rt b)))) false) (.cond (.tmp 4) (lf (rt (lf (rt b)))) .skip)) (rt (rt b))))
  (i0:IsC P 8 (lf b) (.reg [0] [⟨2,none,.rd (.mov (.const (.slice none 0 0)))⟩]))
  (hn:range (z8o (lf (lf (rt b)))).size=[0,1])
  (o0:((z8o (lf (lf (rt b))))[0]?).bind (comp P 8 (z8o (lf (lf (rt b)))))=some ⟨3,none,.rd (.mov (.tmp 0))⟩)
  (o1:((z8o (lf (lf (rt b))))[1]?).map (λo=>(o.guard,o.dst,o.op))=some (none,some 4,.binOp .eql t (.tmp 3) (.const (.slice none 0 0)) t))
  (i2:IsC P 8 (lf (rt (lf (rt b)))) (.seq (.reg [2] [⟨2,none,.rd (.mov (.const (.slice none 0 0)))⟩]) .ret))
  {c3:IC} (i3:IsC P 8 (rt (rt b)) c3) (hu:P.underlying t=some (.slice el)) (hpl:T.pl ty=true) (xs:List (T.El ty))
  (hW:W P [] c3 (λo e h=>o = .ret/\e 2 = .sl 100000 [] 0 xs.length/\h=[(100000,⟨T.sz ty,xs.map (T.ca false ty)⟩)]) (z19 [(0,.im (T.sz ty) (xs.map (T.ca false ty)))]) []) (hsm:Nat.blt (T.sz ty) 1000000=true:=by rfl) :
  z1p P f [.im (T.sz ty) (xs.map (T.ca false ty))] [] (.sl 100000 [] 0 xs.length) [(100000,⟨T.sz ty,xs.map (T.ca false ty)⟩)]:=by
 have hni:z5c [(100000,(⟨T.sz ty,xs.map (T.ca false ty)⟩:Row))]=true:=by simp only [z5c,List.all_cons,List.all_nil,Bool.and_true];exact z2u (λx=>T.pl_ok ty x hpl) xs
 refine Now.callR (N:=8) (fn:=fn) (ts:=[.t 2]) h1 h2 h3 h4 rfl hni λa w0 Q nw hr=>?_;have fin:∀ e' a' w',e' 2 = .sl 100000 [] 0 xs.length->Now 8 w0 none e' [(100000,⟨T.sz ty,xs.map (T.ca false ty)⟩)] a' w'->Q .ret a' w':=λe' a' w' he n=>hr e' a' w' (by simp only [z85,z91,zlc,he]) n;rw [hb];refine wp_seq (nw.ex (c:=.reg [0] [⟨2,none,.rd (.mov (.const (.slice none 0 0)))⟩]) (R:=λo e h=>o = .normal/\e=z19 [(0,.im (T.sz ty) (xs.map (T.ca false ty)))]/\h=[]) i0 (W.regG (RG.fin 1 [] (z19 [(0,.im (T.sz ty) (xs.map (T.ca false ty)))]) [] rfl ⟨rfl,rfl,rfl⟩)) ?_);rintro o e h a w ⟨rfl,rfl,rfl⟩ nw;show (Code.seq _ _).wp _ _ _ _;refine wp_seq ?_;refine wp_seq (wp_region ?_);rw [hn];refine nw.rda (d:=3) (b:=.mov (.tmp 0)) (.im (T.sz ty) (xs.map (T.ca false ty))) o0 rfl λa w nw=>?_;obtain ⟨o,ho,hgd,hd,hop⟩:=zk9 o1
 obtain ⟨A,L,c,hv,hxs⟩:∃ (A:Option Addr) (L c:Nat),a.eval (.tmp 3) = .slice A L c/\(A=none->xs=[]):=by
  obtain ⟨⟨I,σ,R,-,-⟩,-,-,-⟩:=nw;have:=R.vals 3;simp only [upd,if_true] at this;obtain ⟨A,c,h5,h6,h7⟩:=this;refine ⟨A,_,c,h5,λhA=>?_⟩;cases xs with
  | nil=>rfl
  | cons x xs =>obtain ⟨A',_,_,_,h8,_⟩:=h7 (by simp);rw [hA] at h8;cases h8
 refine nw.val (v:=.bool A.isNone) ho hgd hd (by decide) (by have hc:a.eval (.const (.slice none 0 0)) = .slice none 0 0:=rfl;simp only [execOp,hop,hv,hc,eqGuard,Sem.run_bind,Sem.run_pure,Result.andThen_ok];simp [yal w t el A L c hu]) λa nw=>?_
 have hic:IsC P 8 (.cond (.tmp 4) (lf (rt (lf (rt b)))) .skip) (.cond (.tmp 4) (.seq (.reg [2] [⟨2,none,.rd (.mov (.const (.slice none 0 0)))⟩]) .ret) .skip):=by obtain ⟨ks,ks',hc⟩:=i2;exact ⟨ks,ks',by simp only [z4v,hc]⟩
 cases hA:A.isNone with
 | true =>
  have:xs=[]:=hxs (by simpa using hA);subst this;rw [hA] at nw;have nw:=nw.gh (P:=P) (e1:=z19 [(4,Bl true)]) (h1:=[]) (z8.norm (bm:=[]) (S:=[4]) rfl)
  refine nw.ex (code:=.cond (.tmp 4) (lf (rt (lf (rt b)))) .skip) (c:=.cond (.tmp 4) (.seq (.reg [2] [⟨2,none,.rd (.mov (.const (.slice none 0 0)))⟩]) .ret) .skip)
   (R:=λo e h=>o = .ret/\e 2 = .sl 100000 [] 0 0/\h=[(100000,⟨T.sz ty,[]⟩)]) ?_ (W.condT rfl (W.seq (W.regG (RG.fin 1 [] (z19 [(2,.zs)]) [] rfl ?_)))) ?_
  ·exact hic
  ·refine W.ghost (z8.nil (t:=2) (d:=100000) (s:=T.sz ty) (le_of_ble_eq_true hsm) rfl (by simp) (by simp)) (W.ret ⟨rfl,?_,rfl⟩);simp [upd]
  ·rintro o e h a w ⟨rfl,he,rfl⟩ nw;exact fin _ _ _ he nw
 | false =>
  rw [hA] at nw;have nw:=nw.gh (P:=P) (e1:=z19 [(0,.im (T.sz ty) (xs.map (T.ca false ty))),(4,Bl false)]) (h1:=[]) (z8.norm (bm:=[]) (S:=[0,4]) rfl)
  refine nw.ex (code:=.cond (.tmp 4) (lf (rt (lf (rt b)))) .skip) (c:=.cond (.tmp 4) (.seq (.reg [2] [⟨2,none,.rd (.mov (.const (.slice none 0 0)))⟩]) .ret) .skip)
   (R:=λo e h=>o = .normal/\e=z19 [(0,.im (T.sz ty) (xs.map (T.ca false ty))),(4,Bl false)]/\h=[]) ?_ (W.condF rfl (W.skip ⟨rfl,rfl,rfl⟩)) ?_
  ·exact hic
  ·rintro o e h a w ⟨rfl,rfl,rfl⟩ nw;have nw:=nw.gh (P:=P) (e1:=z19 [(0,.im (T.sz ty) (xs.map (T.ca false ty)))]) (h1:=[]) (z8.norm (bm:=[]) (S:=[0]) rfl);refine nw.ex i3 hW ?_;rintro o e h a w ⟨rfl,he,rfl⟩ nw;exact fin _ _ _ he nw
def ycv:Dr:=⟨[(2,.ref 100000)],[(100000,.any)]⟩
def zct {T:TT}:Out->TE T.q->TH T.q->Raw P T [] (EH T)
 | .normal,e,h=>Raw.ofRs .leaf (cnv [] ycv e h)
 | _,_,_=>.no
theorem zgm {T:TT}{creg:IC}{cx:Cx P T}{ty:Nat}{xs:List (T.El ty)}(hs:Sat (evC cx creg .no [(0,.im ty xs)] [] zct) (λeh=>eh=([(2,.sw 100000 [])],[(100000,.typ false ty xs)]))) :
  W P [] (.seq creg .ret) (λo e h=>o = .ret/\e 2 = .sl 100000 [] 0 xs.length/\h=[(100000,⟨T.sz ty,xs.map (T.ca false ty)⟩)]) (z19 [(0,.im (T.sz ty) (xs.map (T.ca false ty)))]) []:=by
 refine W.seq ?_;have h:=z5f (pro:=[]) creg .no [(0,.im ty xs)] [] zct _ hs
 have e0:z7 T.q (z4 T.q []) [(0,.im ty xs)]=z19 [(0,.im (T.sz ty) (xs.map (T.ca false ty)))]:=by rw [show ([(0,TV.im ty xs)]:TE T.q)=z1u [] 0 (.im ty xs) from rfl,z1d];rfl
 rw [e0] at h;refine W.mono h λo E H0 hk=>?_;obtain ⟨e',h',rfl,rfl,hk⟩:=hk;cases o with
 | normal =>obtain ⟨eh,q1,q2⟩:=Sat.ofRs _ hk;have q2:eh=_:=q2;subst q2;refine W.ghost (z7s q1) (W.ret ⟨rfl,?_,rfl⟩);simp [z7,z1b,den,zh,z1j,z5,zo,z4,z9]
 | exit _=>exact hk.elim
 | ret=>exact hk.elim
 | panic _=>exact hk.elim
end
end Loom
