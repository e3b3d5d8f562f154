/- Loom,an abstract machine over the kit's calculus: rows,reads,stores,calls,regions,what they owe; and its evaluator (part 4 of 4). -/
import Derived.Test.YtoobnbnmmkkioaaLoomC
set_option linter.unusedVariables false
set_option linter.unusedSimpArgs false
set_option linter.unusedSectionVars false
namespace Loom
open Go
theorem WD.mono {P:Program} {K K':Env→H→Prop} {h0:H} (hk:∀ e h,K e h→K' e h):∀ (pre:List (Ins×List Nat)) (i:Nat) (e:Env) (acc:List (Nat×H)),WD P pre i e acc h0 K→WD P pre i e acc h0 K'
 | [],_,_,_,h=>⟨h.1,hk _ _ h.2⟩
 | _::pre,_,_,_,⟨av,rows,h1,h2⟩=>⟨av,rows,h1,WD.mono hk pre _ _ _ h2⟩
section
variable {P:Program} {T:TT} {pro:List Nat} {L:Type}
mutual
def swIn (ok:Nat→Bool):VT T→Bool
 | .sw k _=>ok k
 | .ag cs=>z6z ok cs
 | .tu cs=>z6z ok cs
 | .fn _ cs=>z6z ok cs
 | .un | .sc _ | .ik _ _ | .bk _ | .zs | .im _ _ | .ip _ _ _ | .sl _ _ _ _ | .pt _ _ _ _ | .ow _ _ _ | .oo _ _ _ _ _ | .pp _=>true
def z6z (ok:Nat→Bool):List (VT T)→Bool
 | []=>true
 | x::l=>swIn ok x && z6z ok l
end
mutual
theorem z78 {H0 H1:H} {ok:Nat→Bool} (hk:∀ k,ok k=true→za H1 k=za H0 k):∀ (v:VT T),swIn ok v=true→den T.toTT0 H1 v=den T.toTT0 H0 v
 | .sw k p,h=>by simp only [swIn] at h; simp only [den,zw (hk k h)]
 | .ag cs,h=>by simp only [swIn] at h; simp only [den,z64 hk cs h]
 | .tu cs,h=>by simp only [swIn] at h; simp only [den,z64 hk cs h]
 | .fn _ cs,h=>by simp only [swIn] at h; simp only [den,z64 hk cs h]
 | .un,_ | .sc _,_ | .ik _ _,_ | .bk _,_ | .zs,_ | .im _ _,_ | .ip _ _ _,_ | .sl _ _ _ _,_ | .pt _ _ _ _,_ | .ow _ _ _,_ | .oo _ _ _ _ _,_ | .pp _,_=>rfl
theorem z64 {H0 H1:H} {ok:Nat→Bool} (hk:∀ k,ok k=true→za H1 k=za H0 k):∀ (v:List (VT T)),z6z ok v=true→denL T.toTT0 H1 v=denL T.toTT0 H0 v
 | [],_=>rfl
 | x::l,h=>by
  simp only [z6z,Bool.and_eq_true] at h
  simp only [denL,z78 hk x h.1,z64 hk l h.2]
end
def allE (ok:Nat→Bool):TE T.toTT0→Bool
 | []=>true
 | (_,v)::l=>swIn ok v && allE ok l
theorem zmz {H0 H1:H} {ok:Nat→Bool} (hk:∀ k,ok k=true→za H1 k=za H0 k):∀ (e:TE T.toTT0),allE ok e=true→denE T.toTT0 H1 e=denE T.toTT0 H0 e:=by
 intro e he
 funext t
 unfold denE
 refine z78 hk _ ?_
 induction e with
 | nil=>rfl
 | cons x l ih =>
  obtain ⟨k,v⟩:=x
  simp only [allE,Bool.and_eq_true] at he
  simp only [getE]
  cases Nat.beq t k
  ·exact ih he.2
  ·exact he.1
def hxT (D:List Nat):List (Nat×TH T.toTT0)→TH T.toTT0
 | []=>[]
 | (i,r)::l=>bif D.contains i then r++hxT D l else hxT D l
def z1a:List (Nat×TH T.toTT0)→TH T.toTT0
 | []=>[]
 | (_,r)::l=>r++z1a l
def accA (T:TT) (acc:List (Nat×TH T.toTT0)):List (Nat×H):=acc.map fun x=>(x.1,denH T.toTT0 x.2)
theorem zi4 (D:List Nat):∀ (acc:List (Nat×TH T.toTT0)),hx D (accA T acc)=denH T.toTT0 (hxT D acc)
 | []=>rfl
 | (i,r)::l=>by
  have ih:=zi4 D l
  simp only [accA,List.map_cons,hx,hxT]
  cases hc:D.contains i with
  | true=>simp only [if_true,cond_true,z1v]; rw [← ih]; rfl
  | false=>simp only [Bool.false_eq_true,if_false,cond_false]; rw [← ih]; rfl
theorem zd1:∀ (acc:List (Nat×TH T.toTT0)),z28 (accA T acc)=denH T.toTT0 (z1a acc)
 | []=>rfl
 | (i,r)::l=>by
  have ih:=zd1 l
  simp only [accA,List.map_cons,z28,z1a,z1v]
  rw [← ih]; rfl
theorem z5u:∀ (acc:List (Nat×TH T.toTT0)) (i:Nat) (r:TH T.toTT0),z1a (acc++[(i,r)])=z1a acc++r
 | [],_,_=>by simp [z1a]
 | (_,r')::l,i,r=>by simp [z1a,z5u l]
theorem zb2 (D:List Nat):∀ (acc:List (Nat×TH T.toTT0)) (z:Nat×TR T.El),z ∈ hxT D acc→z ∈ z1a acc
 | (i,r)::l,z,hz=>by
  simp only [hxT] at hz
  simp only [z1a,List.mem_append]
  cases hc:D.contains i with
  | true =>
   rw [hc,cond_true,List.mem_append] at hz
   exact hz.imp id (zb2 D l z)
  | false =>
   rw [hc,cond_false] at hz
   exact .inr (zb2 D l z hz)
theorem zbt:∀ (h:TH T.toTT0) (z:Nat×Row),z ∈ denH T.toTT0 h↔∃ k r,(k,r) ∈ h∧z=(k,denR T.toTT0 r)
 | [],z=>by simp [denH]
 | (k,r)::h,z=>by
  simp only [denH,List.mem_cons,zbt h z]
  constructor
  ·rintro (rfl | ⟨k',r',h1,rfl⟩)
   ·exact ⟨k,r,.inl rfl,rfl⟩
   ·exact ⟨k',r',.inr h1,rfl⟩
  ·rintro ⟨k',r',h1 | h1,rfl⟩
   ·cases h1; exact .inl rfl
   ·exact .inr ⟨k',r',h1,rfl⟩
theorem zg4 {hd ha:TH T.toTT0} (hn:zi (ha.map Prod.fst)=true) (hs:∀ z ∈ hd,z ∈ ha) (k:Nat) (hk:(hd.map Prod.fst).contains k=true):za (denH T.toTT0 ha) k=za (denH T.toTT0 hd) k:=by
 have hk':k ∈ (denH T.toTT0 hd).map Prod.fst:=by rw [z1b]; simpa using hk
 obtain ⟨r,hr⟩:=z5t _ _ hk'
 rw [hr]
 have hm:=z6k hr
 obtain ⟨k2,r2,h1,h2⟩:=(zbt hd _).1 hm
 cases h2
 exact z6j (by rw [z1b]; exact zl _ hn) ((zbt ha _).2 ⟨k,r2,hs _ h1,rfl⟩)
def z7t:List Kd→List (VT T)→List (VT T)
 | .im t::ks,.zs::l=>.im t []::z7t ks l
 | _::ks,v::l=>v::z7t ks l
 | _,l=>l
def zfK (T:TT) (ks:List Kd) (c:Nat):Option Nat:=match ks[c]? with | some (.im t)=>some (T.sz t) | _=>none
theorem zii {f:Nat→Option Nat}:∀ (l:List AV) (c:Nat),(∀ j,f (c+j)=none)→zfA f c l=l
 | [],_,_=>rfl
 | a::l,c,h=>by
  have ih:=zii (f:=f) l (c+1) fun j=>by rw [show c+1+j=c+(j+1) by omega]; exact h _
  have h0:=h 0
  rw [Nat.add_zero] at h0
  cases a <;> simp only [zfA,ih,h0]
theorem zeb {f:Nat→Option Nat}:∀ (ks:List Kd) (l:List (VT T)) (c:Nat),(∀ j,f (c+j)=zfK T ks j)→denL T.toTT0 [] (z7t ks l)=zfA f c (denL T.toTT0 [] l)
 | [],l,c,h=>by
  rw [zii _ _ fun j=>by rw [h j]; simp [zfK]]
  cases l <;> rfl
 | k::ks,[],c,h=>by cases k <;> rfl
 | k::ks,v::l,c,h=>by
  have ih:=zeb (f:=f) ks l (c+1) fun j=>by
   rw [show c+1+j=c+(j+1) by omega,h (j+1)]
   simp [zfK]
  have h0:=h 0
  rw [Nat.add_zero] at h0
  cases k with
  | im t =>
   have h0:f c=some (T.sz t):=by rw [h0]; simp [zfK]
   cases v <;> first | (rename_i q; cases q <;> simp only [z7t,denL,den,denP,zfA,ih,h0,List.map_nil]; done) | simp only [z7t,denL,den,zfA,ih,h0,List.map_nil]
  | _ =>
   have h0:f c=none:=by rw [h0]; simp [zfK]
   cases v <;> first | (rename_i q; cases q <;> simp only [z7t,denL,den,denP,zfA,ih,h0]; done) | simp only [z7t,denL,den,zfA,ih,h0]
def mkD (ty:Option (Bool×Nat)) (e:TE T.toTT0) (d:Nat) (b:IB):Rs (VT T×TR T.El) :=
 bif (z2e b).all (fun o=>swIn (fun _=>false) (evT e o)) then
 match b with
 | .box s x =>
  match z4r (evT e x) with
  | none=>.no
  | some cs=>bif Nat.beq cs.length s then
   match z92 (T:=T) [] [d] [cs] with
   | some (xs,_,[])=>.ok (.pt d [] 0 0,.lit s xs)
   | _=>.no
   else .no
 | .bsl s len zero parts =>
  match z9d (List.replicate len (z4j zero)).flatten (parts.map fun (i,x)=>(i * s,s,evT e x)) with
  | none=>.no
  | some cs =>
   match z92 (T:=T) [] [d] (z5k s len cs) with
   | some (xs,_,[])=>.ok (.sw d [],match ty with
    | some (m,t)=>bif Nat.beq (T.sz t) s then (match unL m t xs with | some ys=>.typ m t ys | none=>.lit s xs) else .lit s xs
    | none=>.lit s xs)
   | _=>.no
 | .mks s bytes zero l =>
  match z5v (evT e l),ty with
  | some n,some (m,t)=>bif Nat.beq (T.sz t) s then
   match T.un m t (z7t (T.ks m t) (z4j zero)) with
   | some z=>.need (0≤n∧n * (bytes:Int)≤140737488355328) (.ok (.sw d [],.typ m t (List.replicate n.toNat z)))
   | none=>.no
   else .no
  | _,_=>.no
 | _=>.no
 else .no
theorem zrq {ty:Option (Bool×Nat)} {e:TE T.toTT0} {d:Nat} {b:IB} {v:VT T} {r:TR T.El} (H0:H) (hg:(mkD ty e d b).gives (v,r)) :
  (∃ zf rows0,mkop (ev (denE T.toTT0 H0 e)) [] d b=some (den T.toTT0 [(d,denR T.toTT0 r)] v,rows0)∧[(d,denR T.toTT0 r)]=zfH zf rows0)∧(v = .pt d [] 0 0∨v = .sw d []):=by
 have plain:∀ {b:IB} {v:VT T} {r:TR T.El},mkop (ev (denE T.toTT0 H0 e)) [] d b=some (den T.toTT0 [(d,denR T.toTT0 r)] v,[(d,denR T.toTT0 r)])→∃ zf rows0,mkop (ev (denE T.toTT0 H0 e)) [] d b=some (den T.toTT0 [(d,denR T.toTT0 r)] v,rows0)∧[(d,denR T.toTT0 r)]=zfH zf rows0:=fun h=>⟨fun _=>none,_,h,(zc6 _).symm⟩
 unfold mkD at hg
 obtain ⟨hall,hg⟩:=zm hg
 have hden:∀ o ∈ z2e b,den T.toTT0 H0 (evT e o)=den T.toTT0 [] (evT e o):=fun o ho=>z78 (ok:=fun _=>false) (fun k h=>(by cases h)) _ (List.all_eq_true.1 hall o ho)
 have start:∀ k,[d].contains k=false→za (denH T.toTT0 ([]:TH T.toTT0)) k=za ([]:H) k:=fun _ _=>rfl
 cases b with
 | box s x =>
  dsimp only at hg
  split at hg
  ·exact hg.elim
  ·rename_i cs hcs
   obtain ⟨hl,hg⟩:=zm hg
   split at hg
   ·rename_i xs g ha
    cases hg
    obtain ⟨q1,q2,q3⟩:=z77 (H0:=[]) _ _ _ _ _ _ start ha
    have hc:=z5q (h:=[]) hcs
    refine ⟨plain ?_,.inl rfl⟩
    simp only [mkop,ze,hden x (by simp [z2e]),hc,z2a]
    rw [if_pos (Nat.eq_of_beq_eq_true hl)]
    simp only [List.map_cons,List.map_nil,denH] at q1
    simp only [zc,q1]
    simp [den,denR]
   ·exact hg.elim
 | bsl s len zero parts =>
  dsimp only at hg
  split at hg
  ·exact hg.elim
  ·rename_i cs hcs
   split at hg
   ·rename_i xs g ha
    obtain ⟨q1,q2,q3⟩:=z77 (H0:=[]) _ _ _ _ _ _ start ha
    have hf:=z9e (h:=[]) _ _ _ hcs
    rw [List.map_map] at hf
    have hxl:xs.length=len:=by rw [q3,z8a]
    have key:∀ r:TR T.El,denR T.toTT0 r=⟨s,xs.map (denL T.toTT0 [])⟩→mkop (ev (denE T.toTT0 H0 e)) [] d (.bsl s len zero parts)=some (den T.toTT0 [(d,denR T.toTT0 r)] (.sw d []),[(d,denR T.toTT0 r)]):=by
     intro r hr
     have e0:denL T.toTT0 [] (List.replicate len (z4j zero)).flatten=(List.replicate len (zero.map cval)).flatten:=by
      rw [zt,List.map_flatten,List.map_replicate,← zt,z63]
     have e1:(parts.map fun (i,x)=>(i * s,s,ev (denE T.toTT0 H0 e) x))=parts.map ((fun (o,n,x)=>(o,n,den T.toTT0 [] x)) ∘ fun (i,x)=>(i * s,s,evT e x)) :=
      List.map_congr_left fun ⟨i,x⟩ hix=>by simp only [Function.comp,ze,hden x (by simp only [z2e]; exact List.mem_map.2 ⟨(i,x),hix,rfl⟩)]
     simp only [mkop]
     rw [e1,← e0,hf]
     simp only
     rw [z97] at q1
     simp only [denH] at q1
     simp only [zc,q1,hr]
     simp [den,zd,res,za,resE,hxl]
    cases hg
    refine ⟨plain (key _ ?_),.inr rfl⟩
    split
    ·rename_i m t
     cases hb:Nat.beq (T.sz t) s with
     | false=>rfl
     | true =>
      simp only [cond_true]
      split
      ·rename_i ys hy
       simp only [denR,zdp _ _ hy,Nat.eq_of_beq_eq_true hb]
      ·rfl
    ·rfl
   ·exact hg.elim
 | mks s bytes zero l =>
  dsimp only at hg
  split at hg
  ·rename_i n m t hn _
   obtain ⟨hs,hg⟩:=zm hg
   split at hg
   ·rename_i z hz
    obtain ⟨hc,hg⟩:=hg
    cases hg
    obtain ⟨kk,hi⟩:=z4u (h:=H0) hn
    refine ⟨⟨zfK T (T.ks m t),[(d,⟨s,List.replicate n.toNat (zero.map cval)⟩)],?_,?_⟩,.inr rfl⟩
    ·simp only [mkop,ze,hi]
     rw [if_pos hc]
     simp [den,zd,res,za,resE,denR,Nat.eq_of_beq_eq_true hs,zc]
    ·have hz2:T.ca m t z=zfA (zfK T (T.ks m t)) 0 (zero.map cval):=by
      rw [← T.un_ok _ _ _ _ hz,zeb (f:=zfK T (T.ks m t)) _ _ 0 (fun j=>by rw [Nat.zero_add]),z63]
     simp only [zfH,denR,List.map_replicate,hz2,Nat.eq_of_beq_eq_true hs]
   ·exact hg.elim
  ·exact hg.elim
 | _=>exact hg.elim
def zez (P:Program) (cs:List (Con P T)) (e:TE T.toTT0) (hd:TH T.toTT0) (d:Nat) (op:IK) (K:VT T→TH T.toTT0→Raw P T pro L):Raw P T pro L :=
 match z4q P e op with
 | none=>.no
 | some (f,args) =>
 match z9g f args cs with
 | some (C,[])=>bif (C.strong || !z2g args) && z6z (fun k=>(hd.map Prod.fst).contains k) args then
  Raw.ofRs (fun args'=>.call C args' [] fun y =>
   let bm:=bmOf [] d C.N
   bif zi (bm.map Prod.fst) && zi (bm.map Prod.snd) && (!z2g args || (z6w (C.encR y) && z67 (C.encO y))) then
    match z5h (C.encO y) bm,z2t bm (C.encR y) with
    | some (hb,_),some v=>K v hb
    | _,_=>.no
   else .no) (z8g hd [] C.A args)
  else .no
 | _=>.no
def zfi (cx:Cx P T) (x:Ins) (e:TE T.toTT0) (hd:TH T.toTT0) (K:VT T→TH T.toTT0→Raw P T pro L):Raw P T pro L :=
 match x.op with
 | .rd b=>bif (z2e b).all (fun o=>swIn (fun k=>(hd.map Prod.fst).contains k) (evT e o)) then Raw.ofRs (fun v=>bif swIn (fun k=>(hd.map Prod.fst).contains k) v then K v [] else .no) (rdT e hd b) else .no
 | .mk b=>Raw.ofRs (fun (v,r)=>K v [(x.dst,r)]) (mkD (cx.at x.dst) e x.dst b)
 | .call f l=>zez P cx.cs e hd x.dst (.call f l) K
 | .callv f l=>zez P cx.cs e hd x.dst (.callv f l) K
 | _=>.no
def zja (ha:TH T.toTT0) (rows:TH T.toTT0) (e:TE T.toTT0):Bool:=(rows.map Prod.fst).all (fun k=>!(ha.map Prod.fst).contains k) && allE (fun k=>!(rows.map Prod.fst).contains k) e
def evD (cx:Cx P T):List (Ins×List Nat)→Nat→TE T.toTT0→List (Nat×TH T.toTT0)→TH T.toTT0→(TE T.toTT0→TH T.toTT0→Raw P T pro L)→Raw P T pro L
 | [],_,e,acc,h0,K=>bif zi ((z1a acc++h0).map Prod.fst) then K e (z1a acc++h0) else .no
 | x::l,i,e,acc,h0,K=>bif zi ((z1a acc++h0).map Prod.fst) then
  z8s e x.1.guard (fun e=>zfi cx x.1 e (hxT x.2 acc++h0) fun v rows=>bif zja (z1a acc++h0) rows e then evD cx l (i+1) (putE e x.1.dst v) (acc++[(i,rows)]) h0 K else .no)
   (fun e=>evD cx l (i+1) (putE e x.1.dst (zdj x.1.op)) (acc++[(i,[])]) h0 K)
  else .no
theorem zk3 {cx:Cx P T} {x:Ins} {D:List Nat} {e:TE T.toTT0} {hd ha:TH T.toTT0} {K:VT T→TH T.toTT0→Raw P T pro L} {Q:L→Prop} (hw:zg (denE T.toTT0 (denH T.toTT0 ha) e) x.guard=some true)
  (hn:zi (ha.map Prod.fst)=true) (hsub:∀ z ∈ hd,z ∈ ha) (hs:Sat (zfi cx x e hd K) Q) :
  ∃ v rows,Sat (K v rows) Q∧∀ h1:TH T.toTT0,(∀ k,(hd.map Prod.fst).contains k=true→za (denH T.toTT0 h1) k=za (denH T.toTT0 hd) k)→(∀ k,(rows.map Prod.fst).contains k=true→za (denH T.toTT0 h1) k=za (denH T.toTT0 rows) k) →
   DOk P (denE T.toTT0 (denH T.toTT0 ha) e) (denH T.toTT0 hd) ⟨x,D,den T.toTT0 (denH T.toTT0 h1) v,denH T.toTT0 rows⟩:=by
 obtain ⟨d,g,op⟩:=x
 have hpart:=zg4 hn hsub
 have opd:∀ o,swIn (fun k=>(hd.map Prod.fst).contains k) (evT e o)=true→ev (denE T.toTT0 (denH T.toTT0 ha) e) o=ev (denE T.toTT0 (denH T.toTT0 hd) e) o:=fun o ho=>by
  rw [ze,ze,z78 hpart _ ho]
 have call:∀ {op:IK},(∀ f args,z4q P e op=some (f,args)→z6z (fun k=>(hd.map Prod.fst).contains k) args=true→z37 P (denE T.toTT0 (denH T.toTT0 ha) e) op f (denL T.toTT0 (denH T.toTT0 ha) args))→Sat (zez P cx.cs e hd d op K) Q →
   ∃ v rows,Sat (K v rows) Q∧∀ h1:TH T.toTT0,(∀ k,(hd.map Prod.fst).contains k=true→za (denH T.toTT0 h1) k=za (denH T.toTT0 hd) k)→(∀ k,(rows.map Prod.fst).contains k=true→za (denH T.toTT0 h1) k=za (denH T.toTT0 rows) k) →
    DOk P (denE T.toTT0 (denH T.toTT0 ha) e) (denH T.toTT0 hd) ⟨⟨d,g,op⟩,D,den T.toTT0 (denH T.toTT0 h1) v,denH T.toTT0 rows⟩:=by
  intro op hca hs
  unfold zez at hs
  split at hs
  ·exact hs.elim
  ·rename_i f args hargs
   split at hs
   ·rename_i C hC
    cases hb:((C.strong || !z2g args) && z6z (fun k=>(hd.map Prod.fst).contains k) args) with
    | false=>rw [hb] at hs; exact hs.elim
    | true =>
     rw [hb,cond_true] at hs
     simp only [Bool.and_eq_true] at hb
     obtain ⟨args',hcv,x,y,q1,q2,q3,q4⟩:=Sat.ofRs _ hs
     dsimp only at q4
     generalize hbm:bmOf [] d C.N=bm at q4
     cases hb2:(zi (bm.map Prod.fst) && zi (bm.map Prod.snd) && (!z2g args || (z6w (C.encR y) && z67 (C.encO y)))) with
     | false=>rw [hb2] at q4; exact q4.elim
     | true =>
      rw [hb2,cond_true] at q4
      simp only [Bool.and_eq_true] at hb2
      obtain ⟨⟨b1,b2⟩,b5⟩:=hb2
      split at q4
      ·rename_i hb' left v hsb hbk
       refine ⟨v,hb',q4,fun h1 hp1 hp2=>?_⟩
       obtain ⟨l,r1,r2⟩:=z4w (H0:=denH T.toTT0 hd) (Hn:=denH T.toTT0 []) (rest:=hd) (m:=[]) (bor:=z2g args) (fun _ _=>rfl) C.A args args' hcv (fun h=>h)
       have hCf:=z7a cx.cs hC
       have hG:=C.ok x y q3
       rw [q1,q2,hCf] at hG
       have hok:z1j P f l [] (den T.toTT0 (denH T.toTT0 (C.encO y)) (C.encR y)) (denH T.toTT0 (C.encO y))∨z2g args=false∧CallG P f l [] (den T.toTT0 (denH T.toTT0 (C.encO y)) (C.encR y)) (denH T.toTT0 (C.encO y)):=by
        cases hst:C.strong with
        | true=>exact .inl (z1j.le r2 (hG.1 hst))
        | false =>
         rw [hst] at hb
         exact .inr ⟨by simpa using hb.1,CallG.le r2 hG.2⟩
       obtain ⟨t1,t2,t3⟩:=z3h bm (C.encO y) hb' left hsb
       have hkeys:=z5x _ _ _ _ t1
       have hde:denL T.toTT0 (denH T.toTT0 ha) args=denL T.toTT0 (denH T.toTT0 hd) args:=z64 hpart _ hb.2
       refine .call hw (hca f args hargs hb.2) (by rw [hde]; exact r1) hok t1 (zl _ b1) (z5j (fun k n q hkn=>?_) _ _ hbk) (fun hbor=>?_)
       ·have hm:=z44 bm hkn
        have hg:=t3 n k b1 b2 hm
        have hn':n ∈ hb'.map Prod.fst:=by rw [← z1b,hkeys]; exact List.mem_map.2 ⟨_,hm,rfl⟩
        have:=hp2 n (by simpa using hn')
        unfold zd res
        rw [this,hg]
       ·rw [hbor] at b5
        simp only [Bool.not_true,Bool.false_or,Bool.and_eq_true] at b5
        exact ⟨z7f _ b5.1,z68 _ b5.2⟩
      ·exact q4.elim
   ·exact hs.elim
 unfold zfi at hs
 dsimp only at hs
 split at hs
 ·rename_i b
  cases hb:(z2e b).all (fun o=>swIn (fun k=>(hd.map Prod.fst).contains k) (evT e o)) with
  | false=>rw [hb] at hs; exact hs.elim
  | true =>
   rw [hb,cond_true] at hs
   obtain ⟨v,hv,hs⟩:=Sat.ofRs _ hs
   cases hsv:swIn (fun k=>(hd.map Prod.fst).contains k) v with
   | false=>rw [hsv] at hs; exact hs.elim
   | true =>
    rw [hsv,cond_true] at hs
    refine ⟨v,[],hs,fun h1 hp1 hp2=>?_⟩
    obtain ⟨av,r1,r2⟩:=zg6 hv
    refine .rd (av:=av) hw rfl ?_ (by rw [z78 hp1 v hsv]; exact r2) rfl
    rw [← r1]
    exact z3m b fun o ho=>opd o (List.all_eq_true.1 hb o ho)
 ·rename_i b
  obtain ⟨⟨v,r⟩,hv,hs⟩:=Sat.ofRs _ hs
  obtain ⟨m1,m2⟩:=zrq (denH T.toTT0 ha) hv
  obtain ⟨zf,rows0,m1,m3⟩:=m1
  refine ⟨v,[(d,r)],hs,fun h1 hp1 hp2=>.mk zf hw rfl (rows0:=rows0) ?_ m3⟩
  simp only [m1]
  have hr:=hp2 d (by simp)
  rcases m2 with rfl | rfl
  ·rfl
  ·simp only [den]
   congr 2
   rw [zw hr]
   rfl
 ·rename_i f l
  refine call (fun f' args ha' hsw=>?_) hs
  cases ha'
  have:denL T.toTT0 (denH T.toTT0 ha) (l.map (evT e))=l.map (ev (denE T.toTT0 (denH T.toTT0 ha) e)):=by
   rw [zt,List.map_map]
   exact List.map_congr_left fun x _=>(ze x).symm
  rw [this]
  exact .call
 ·rename_i f l
  refine call (fun f' args ha' hsw=>?_) hs
  simp only [z4q] at ha'
  split at ha'
  ·rename_i f2 caps hx
   cases hf:fnOk P f2 with
   | false=>rw [hf] at ha'; cases ha'
   | true =>
    rw [hf] at ha'
    cases ha'
    have:denL T.toTT0 (denH T.toTT0 ha) (l.map (evT e)++caps)=l.map (ev (denE T.toTT0 (denH T.toTT0 ha) e))++denL T.toTT0 (denH T.toTT0 ha) caps:=by
     rw [zt,zt,List.map_append,List.map_map]
     congr 1
     exact List.map_congr_left fun x _=>(ze x).symm
    rw [this]
    exact .callv (by rw [ze,hx]; rfl) hf
  ·cases ha'
 ·exact hs.elim
theorem zj2 {a b c:H} {k:Nat} (hk:(b.map Prod.fst).contains k=false):za (a++b++c) k=za (a++c) k:=by
 have hb:za b k=none:=z5s b k (by intro hm; have:(b.map Prod.fst).contains k=true:=(by simpa using hm); rw [this] at hk; cases hk)
 rw [z2d,z2d,z2d,hb]
 cases za a k <;> rfl
theorem zcu {cx:Cx P T} {K:TE T.toTT0→TH T.toTT0→Raw P T pro L} {Q:L→Prop} {h0:TH T.toTT0}:∀ (l:List (Ins×List Nat)) (i:Nat) (e:TE T.toTT0) (acc:List (Nat×TH T.toTT0)),Sat (evD cx l i e acc h0 K) Q →
  WD P l i (denE T.toTT0 (denH T.toTT0 (z1a acc++h0)) e) (accA T acc) (denH T.toTT0 h0) (KP K Q)
 | [],i,e,acc,hs=>by
  unfold evD at hs
  cases hn:zi ((z1a acc++h0).map Prod.fst) with
  | false=>rw [hn] at hs; exact hs.elim
  | true =>
   rw [hn,cond_true] at hs
   have e1:z28 (accA T acc)++denH T.toTT0 h0=denH T.toTT0 (z1a acc++h0):=by rw [zd1,z1v]
   refine ⟨by rw [e1,z1b]; exact hn,?_⟩
   rw [e1]
   exact ⟨_,_,rfl,rfl,hs⟩
 | x::l,i,e,acc,hs=>by
  unfold evD at hs
  cases hn:zi ((z1a acc++h0).map Prod.fst) with
  | false=>rw [hn] at hs; exact hs.elim
  | true =>
   rw [hn,cond_true] at hs
   obtain ⟨e',he,h1 | h1⟩:=z7w (H0:=denH T.toTT0 (z1a acc++h0)) hs
   ·obtain ⟨v,rows,hK,hd⟩:=zk3 (D:=x.2) (ha:=z1a acc++h0) (by rw [he]; exact h1.1) hn (fun z hz=>by
     rw [List.mem_append] at hz ⊢
     exact hz.imp (zb2 x.2 acc z) id) h1.2
    cases hno:zja (z1a acc++h0) rows e' with
    | false=>rw [hno] at hK; exact hK.elim
    | true =>
     rw [hno,cond_true] at hK
     simp only [zja,Bool.and_eq_true] at hno
     have ih:=zcu l (i+1) _ _ hK
     have hrow:∀ k,(rows.map Prod.fst).contains k=false→za (denH T.toTT0 (z1a (acc++[(i,rows)])++h0)) k=za (denH T.toTT0 (z1a acc++h0)) k:=fun k hk=>by
      rw [z5u,z1v,z1v,z1v]
      exact zj2 (by rw [z1b]; exact hk)
     have hnew:∀ k,(rows.map Prod.fst).contains k=true→((z1a acc++h0).map Prod.fst).contains k=false:=fun k hk=>by
      have:=List.all_eq_true.1 hno.1 k (by simpa using hk)
      simpa using this
     have hd':=hd (z1a (acc++[(i,rows)])++h0) (fun k hk=>by
      have hsub:∀ z ∈ hxT x.2 acc++h0,z ∈ z1a acc++h0:=fun z hz=>by
       rw [List.mem_append] at hz ⊢
       exact hz.imp (zb2 x.2 acc z) id
      have hk2:((z1a acc++h0).map Prod.fst).contains k=true:=by
       simp only [List.contains_eq_mem,decide_eq_true_eq] at hk ⊢
       obtain ⟨z,hz,rfl⟩:=List.mem_map.1 hk
       exact List.mem_map.2 ⟨z,hsub z hz,rfl⟩
      rw [hrow k (by
       cases hc:(rows.map Prod.fst).contains k with
       | false=>rfl
       | true=>rw [hnew k hc] at hk2; cases hk2)]
      exact zg4 hn hsub k hk) (fun k hk=>by
      rw [z5u,z1v,z1v]
      have ha:za (denH T.toTT0 (z1a acc)) k=none:=z5s _ _ (by
       rw [z1b]
       intro hm
       have h3:=hnew k hk
       have h4:((z1a acc++h0).map Prod.fst).contains k=true:=by
        simp only [List.map_append,List.contains_eq_mem,List.mem_append,decide_eq_true_eq]
        exact .inl hm
       rw [h3] at h4; cases h4)
      have hk':k ∈ (denH T.toTT0 rows).map Prod.fst:=by rw [z1b]; simpa using hk
      obtain ⟨r,hr⟩:=z5t _ _ hk'
      rw [List.append_assoc,z2d,ha]
      simp only
      rw [z2d,hr])
     rw [← he]
     refine ⟨den T.toTT0 (denH T.toTT0 (z1a (acc++[(i,rows)])++h0)) v,denH T.toTT0 rows,by rw [zi4,← z1v]; exact hd',?_⟩
     ·rw [zr,zmz (H0:=denH T.toTT0 (z1a acc++h0)) (fun k hk=>hrow k (by simpa using hk)) e' hno.2] at ih
      have:accA T (acc++[(i,rows)])=accA T acc++[(i,denH T.toTT0 rows)]:=by simp [accA]
      rw [this] at ih
      exact ih
   ·have ih:=zcu l (i+1) _ _ h1.2
    have hh:z1a (acc++[(i,([]:TH T.toTT0))])=z1a acc:=by rw [z5u,List.append_nil]
    rw [zr,hh,he,z6g] at ih
    refine ⟨z2s x.1.op,[],.skip h1.1 rfl rfl,?_⟩
    have:accA T (acc++[(i,([]:TH T.toTT0))])=accA T acc++[(i,[])]:=by simp [accA,denH]
    rw [this] at ih
    exact ih
end
def Fact (e:Env) (h:H) (x:Ins):Prop :=
 (zg e x.guard=some false∧e x.dst=z2s x.op)∨(zg e x.guard=some true∧∀ b,x.op = .rd b→∃ hp av,(∀ z ∈ hp,z ∈ h)∧rdop (ev e) (res hp) b=some av∧AVle av (e x.dst))
def sepB:List Ins→Bool
 | []=>true
 | x::l=>!(z2p x).contains x.dst && l.all (fun y=>!(z2p x).contains y.dst && !(Nat.beq y.dst x.dst)) && sepB l
theorem Fact.next {e:Env} {h h':H} {x:Ins} {d:Nat} {av:AV} (h1:d ∉ z2p x) (h2:d ≠ x.dst) (hs:∀ z ∈ h,z ∈ h') (hf:Fact e h x):Fact (upd e d av) h' x:=by
 have hw:zg (upd e d av) x.guard=zg e x.guard:=z3n fun s hs=>by
  unfold upd; rw [if_neg (by rintro rfl; exact h1 hs)]
 have hd:upd e d av x.dst=e x.dst:=by unfold upd; rw [if_neg (fun e=>h2 e.symm)]
 rcases hf with ⟨f1,f2⟩ | ⟨f1,f2⟩
 ·exact .inl ⟨hw.trans f1,hd.trans f2⟩
 ·refine .inr ⟨hw.trans f1,fun b hb=>?_⟩
  obtain ⟨hp,a,g1,g2,g3⟩:=f2 b hb
  refine ⟨hp,a,fun z hz=>hs z (g1 z hz),?_,by rw [hd]; exact g3⟩
  rw [← g2]
  exact z3m b fun o ho=>z2j (x:=x) (fun s hs=>by unfold upd; rw [if_neg (by rintro rfl; exact h1 hs)]) (by rw [hb]; exact ho)
theorem WD.facts {P:Program} {K:Env→H→Prop} {h0:H}:∀ (pre:List (Ins×List Nat)) (i:Nat) (e:Env) (acc:List (Nat×H)) (done:List Ins),WD P pre i e acc h0 K→sepB (pre.map Prod.fst)=true→(∀ x ∈ done,∀ y ∈ pre,y.1.dst ∉ z2p x∧y.1.dst ≠ x.dst) →
  (∀ x ∈ done,Fact e (z28 acc++h0) x)→WD P pre i e acc h0 (fun e' h'=>K e' h'∧∀ x ∈ done++pre.map Prod.fst,Fact e' h' x)
 | [],i,e,acc,done,hw,_,_,hf=>⟨hw.1,hw.2,fun x hx=>hf x (by simpa using hx)⟩
 | (x,D)::pre,i,e,acc,done,hw,hsep,hd,hf=>by
  obtain ⟨av,rows,hok,hw⟩:=hw
  simp only [List.map_cons,sepB,Bool.and_eq_true,Bool.not_eq_true'] at hsep
  obtain ⟨⟨s1,s2⟩,s3⟩:=hsep
  have hown:x.dst ∉ z2p x:=fun hm=>by
   have:(z2p x).contains x.dst=true:=by simpa using hm
   rw [this] at s1; cases s1
  have hall:∀ acc:List (Nat×H),z28 (acc++[(i,rows)])=z28 acc++rows:=by
   intro acc
   induction acc with
   | nil=>simp [z28]
   | cons y l ih=>obtain ⟨j,r⟩:=y; simp [z28,ih]
  have hmem:∀ z ∈ z28 acc++h0,z ∈ z28 (acc++[(i,rows)])++h0:=fun z hz=>by
   rw [hall]
   simp only [List.mem_append] at hz ⊢
   rcases hz with hz | hz
   ·exact .inl (.inl hz)
   ·exact .inr hz
  have hhx:∀ (acc:List (Nat×H)) (z:Nat×Row),z ∈ hx D acc→z ∈ z28 acc:=by
   intro acc
   induction acc with
   | nil=>intro z hz; cases hz
   | cons y l ih =>
    obtain ⟨j,r⟩:=y
    intro z hz
    simp only [hx] at hz
    simp only [z28,List.mem_append]
    split at hz
    ·rw [List.mem_append] at hz; exact hz.imp id (ih z)
    ·exact .inr (ih z hz)
  refine ⟨av,rows,hok,?_⟩
  have hguard:zg (upd e x.dst av) x.guard=zg e x.guard:=z3n fun s hs=>by
   unfold upd; rw [if_neg (by rintro rfl; exact hown hs)]
  have hdst:upd e x.dst av x.dst=av:=by simp [upd]
  have hnew:Fact (upd e x.dst av) (z28 (acc++[(i,rows)])++h0) x:=by
   have hrd:∀ (b:IB) (a:AV),x.op = .rd b→rdop (ev e) (res (hx D acc++h0)) b=some a→AVle a av→∃ hp av',(∀ z ∈ hp,z ∈ z28 (acc++[(i,rows)])++h0)∧rdop (ev (upd e x.dst av)) (res hp) b=some av'∧AVle av' (upd e x.dst av x.dst):=by
    intro b a hb h1 h2
    refine ⟨hx D acc++h0,a,fun z hz=>hmem z ?_,?_,by rw [hdst]; exact h2⟩
    ·rw [List.mem_append] at hz ⊢
     exact hz.imp (hhx acc z) id
    ·rw [← h1]
     exact z3m b fun o ho=>z2j (x:=x) (fun s hs=>by unfold upd; rw [if_neg (by rintro rfl; exact hown hs)]) (by rw [hb]; exact ho)
   cases hok with
   | skip g1 g2 g3=>exact .inl ⟨hguard.trans g1,hdst.trans g2⟩
   | rd g1 g2 g3 g4 g5 =>
    refine .inr ⟨hguard.trans g1,fun b hb=>?_⟩
    simp only at g2
    rw [g2] at hb
    cases hb
    exact hrd _ _ g2 g3 g4
   | mk zf g1 g2 g3 g4=>exact .inr ⟨hguard.trans g1,fun b hb=>by simp only at g2; rw [g2] at hb; cases hb⟩
   | call g1 g2=>exact .inr ⟨hguard.trans g1,fun b hb=>by
     simp only at g2
     rw [hb] at g2
     cases g2⟩
  have:=WD.facts pre (i+1) _ _ (done++[x]) hw s3 (fun y hy z hz=>by
   rcases List.mem_append.1 hy with hy | hy
   ·exact hd y hy z (by simp [hz])
   ·simp only [List.mem_singleton] at hy
    subst hy
    have:=List.all_eq_true.1 s2 z.1 (List.mem_map.2 ⟨z,hz,rfl⟩)
    simp only [Bool.and_eq_true,Bool.not_eq_true',zy,decide_eq_false_iff_not] at this
    exact ⟨by simpa using this.1,this.2⟩) (fun y hy=>by
   rcases List.mem_append.1 hy with hy | hy
   ·obtain ⟨q1,q2⟩:=hd y hy (x,D) (by simp)
    exact (hf y hy).next q1 q2 hmem
   ·simp only [List.mem_singleton] at hy
    subst hy
    exact hnew)
  simpa only [List.append_assoc,List.singleton_append,List.map_cons] using this
def zol:AV→Option Nat
 | .pt k _ _ _=>some k
 | .sl k _ _ _=>some k
 | _=>none
theorem zne {f:Operand→AV} {r r':Nat→Path→Option (Nat×Els)} {b:IB} (h:∀ o ∈ z2e b,∀ k,zol (f o)=some k→∀ p,r' k p=r k p):rdop f r' b=rdop f r b:=by
 cases b with
 | iad s x i =>
  have hx:=h x (by simp [z2e])
  simp only [rdop]
  cases hv:f x with
  | sl k p off len=>have h2:=hx k (by rw [hv]; rfl) p; split <;> simp_all
  | pt k p i c=>have h2:=hx k (by rw [hv]; rfl) p; split <;> simp_all
  | _=>split <;> simp_all
 | load agg n x =>
  have hx:=h x (by simp [z2e])
  simp only [rdop]
  cases hv:f x with
  | sl k p off len=>have h2:=hx k (by rw [hv]; rfl) p; split <;> simp_all
  | pt k p i c=>have h2:=hx k (by rw [hv]; rfl) p; split <;> simp_all
  | _=>split <;> simp_all
 | b2s x =>
  have hx:=h x (by simp [z2e])
  simp only [rdop]
  cases hv:f x with
  | sl k p off len=>have h2:=hx k (by rw [hv]; rfl) p; split <;> simp_all
  | pt k p i c=>have h2:=hx k (by rw [hv]; rfl) p; split <;> simp_all
  | _=>split <;> simp_all
 | slc s x lo hi =>
  have hx:=h x (by simp [z2e])
  simp only [rdop]
  cases hv:f x with
  | sl k p off len=>have h2:=hx k (by rw [hv]; rfl) p; split <;> simp_all
  | pt k p i c=>have h2:=hx k (by rw [hv]; rfl) p; split <;> simp_all
  | _=>split <;> simp_all
 | _=>rfl
section
variable {P:Program} {T:TT} {pro:List Nat} {L:Type}
mutual
def z1g (bad:Nat→Path→Bool):VT T→Bool
 | .sl k p _ _=>!bad k p
 | .sw k p=>!bad k p
 | .pt k p _ _=>!bad k p
 | .ag cs=>z3e bad cs
 | .tu cs=>z3e bad cs
 | .fn _ cs=>z3e bad cs
 | .un | .sc _ | .ik _ _ | .bk _ | .zs | .im _ _ | .ip _ _ _ | .ow _ _ _ | .oo _ _ _ _ _=>true
 | .pp (.xp _ _ _)=>true
 | .pp (.fs k _) | .pp (.fp k _ _) | .pp (.px k _)=>!bad k []
def z3e (bad:Nat→Path→Bool):List (VT T)→Bool
 | []=>true
 | x::l=>z1g bad x && z3e bad l
end
mutual
theorem z62 {bad:Nat→Path→Bool} {H0:H}:∀ (v:VT T),z1g bad v=true→kill bad (den T.toTT0 H0 v)=den T.toTT0 H0 v
 | .sl k p _ _,h=>by simp only [z1g,Bool.not_eq_true'] at h; simp only [den,kill,h,Bool.false_eq_true,if_false]
 | .sw k p,h=>by simp only [z1g,Bool.not_eq_true'] at h; simp only [den,kill,h,Bool.false_eq_true,if_false]
 | .pt k p _ _,h=>by simp only [z1g,Bool.not_eq_true'] at h; simp only [den,kill,h,Bool.false_eq_true,if_false]
 | .ag cs,h=>by simp only [z1g] at h; simp only [den,kill,z6n cs h]
 | .tu cs,h=>by simp only [z1g] at h; simp only [den,kill,z6n cs h]
 | .fn _ cs,h=>by simp only [z1g] at h; simp only [den,kill,z6n cs h]
 | .un,_ | .sc _,_ | .ik _ _,_ | .bk _,_ | .zs,_ | .im _ _,_ | .ip _ _ _,_ | .ow _ _ _,_ | .oo _ _ _ _ _,_ | .pp (.xp _ _ _),_=>rfl
 | .pp (.fs k _),h | .pp (.fp k _ _),h | .pp (.px k _),h=>by simp only [z1g,Bool.not_eq_true'] at h; simp only [den,denP,kill,z3l,h,Bool.false_eq_true,if_false]
theorem z6n {bad:Nat→Path→Bool} {H0:H}:∀ (v:List (VT T)),z3e bad v=true→z29 bad (denL T.toTT0 H0 v)=denL T.toTT0 H0 v
 | [],_=>rfl
 | x::l,h=>by
  simp only [z3e,Bool.and_eq_true] at h
  simp only [denL,z29,z62 x h.1,z6n l h.2]
end
def refT:VT T→Option Nat
 | .pt k _ _ _=>some k
 | .sl k _ _ _=>some k
 | .sw k _=>some k
 | .pp (.px k _)=>some k
 | _=>none
theorem zpr {H0:H} {v:VT T}:zol (den T.toTT0 H0 v)=refT v:=by cases v <;> first | rfl | (rename_i q; cases q <;> rfl)
def zom:IB→Bool
 | .iad _ _ _ | .load _ _ _ | .slc _ _ _ _ | .b2s _=>true
 | _=>false
def zmg (st:StT T) (e:TE T.toTT0) (x:Ins):Bool :=
 match x.op with
 | .rd b=>(z2e b).all fun o=>z1g st.bad (evT e o) && (!zom b || match refT (evT e o) with | some k=>!st.tch.contains k | none=>true)
 | _=>false
def eqP:Path→Path→Bool
 | [],[]=>true
 | (i,c)::p,(j,d)::q=>Nat.beq c d && (Nat.beq i j && eqP p q)
 | _,_=>false
theorem zk4:∀ (p q:Path),eqP p q=true→p=q
 | [],[],_=>rfl
 | (i,c)::p,(j,d)::q,h=>by
  simp only [eqP,Bool.and_eq_true] at h
  rw [Nat.eq_of_beq_eq_true h.1,Nat.eq_of_beq_eq_true h.2.1,zk4 p q h.2.2]
 | [],_::_,h=>by cases h
 | _::_,[],h=>by cases h
def eqT:VT T→VT T→Bool
 | .sw k p,.sw k' p'=>Nat.beq k k' && eqP p p'
 | _,_=>false
theorem zq7:∀ (v w:VT T),eqT v w=true→v=w:=by
 intro v w h
 unfold eqT at h
 split at h
 ·simp only [Bool.and_eq_true] at h
  rw [Nat.eq_of_beq_eq_true h.1,zk4 _ _ h.2]
 ·cases h
def zih (st:StT T) (e:TE T.toTT0) (x:Ins):Bool :=
 match x.op with
 | .rd b=>(z2e b).all (fun o=>z1g (fun k p=>st.bad k p || st.bw k p) (evT e o)) && match rdT e st.h b with
  | .ok v=>eqT v (getE e x.dst) && z1g (fun k p=>st.bad k p || st.bw k p) v
  | _=>false
 | _=>false
def z8z (dep:List Nat) (st:StT T) (e:TE T.toTT0):List (Ins×List Nat)→Nat→Bool
 | [],_=>true
 | (x,_)::l,i=>(dep.contains i || (zmg st e x || zih st e x)) && z8z dep st e l (i+1)
theorem z71 {e:Env} {g:Option (Nat×Bool)} {b:Bool} {bad:Nat→Path→Bool} (h:zg e g=some b):zg (fun t=>kill bad (e t)) g=some b:=by
 cases g with
 | none=>exact h
 | some sw =>
  obtain ⟨s,want⟩:=sw
  simp only [zg] at h ⊢
  split at h
  ·rename_i hb; rw [hb]; simpa [kill] using h
  ·rename_i hb; rw [hb]; simpa [kill] using h
  ·cases h
mutual
theorem z7p {bad:Nat→Path→Bool} {H0 H1:H} (hl:∀ k p,bad k p=false→zd H1 k p=zd H0 k p):∀ (v:VT T),z1g bad v=true→den T.toTT0 H1 v=den T.toTT0 H0 v
 | .sw k p,h=>by simp only [z1g,Bool.not_eq_true'] at h; simp only [den,hl k p h]
 | .ag cs,h=>by simp only [z1g] at h; simp only [den,z6o hl cs h]
 | .tu cs,h=>by simp only [z1g] at h; simp only [den,z6o hl cs h]
 | .fn _ cs,h=>by simp only [z1g] at h; simp only [den,z6o hl cs h]
 | .un,_ | .sc _,_ | .ik _ _,_ | .bk _,_ | .zs,_ | .im _ _,_ | .ip _ _ _,_ | .sl _ _ _ _,_ | .pt _ _ _ _,_ | .ow _ _ _,_ | .oo _ _ _ _ _,_ | .pp _,_=>rfl
theorem z6o {bad:Nat→Path→Bool} {H0 H1:H} (hl:∀ k p,bad k p=false→zd H1 k p=zd H0 k p):∀ (v:List (VT T)),z3e bad v=true→denL T.toTT0 H1 v=denL T.toTT0 H0 v
 | [],_=>rfl
 | x::l,h=>by
  simp only [z3e,Bool.and_eq_true] at h
  simp only [denL,z7p hl x h.1,z6o hl l h.2]
end
mutual
theorem z7q {bad bad':Nat→Path→Bool} (hb:∀ k p,bad k p=false→bad' k p=false):∀ (v:VT T),z1g bad v=true→z1g bad' v=true
 | .sl k p _ _,h=>by simp only [z1g,Bool.not_eq_true'] at h ⊢; exact hb k p h
 | .sw k p,h=>by simp only [z1g,Bool.not_eq_true'] at h ⊢; exact hb k p h
 | .pt k p _ _,h=>by simp only [z1g,Bool.not_eq_true'] at h ⊢; exact hb k p h
 | .ag cs,h=>by simp only [z1g] at h ⊢; exact z6p hb cs h
 | .tu cs,h=>by simp only [z1g] at h ⊢; exact z6p hb cs h
 | .fn _ cs,h=>by simp only [z1g] at h ⊢; exact z6p hb cs h
 | .un,_ | .sc _,_ | .ik _ _,_ | .bk _,_ | .zs,_ | .im _ _,_ | .ip _ _ _,_ | .ow _ _ _,_ | .oo _ _ _ _ _,_ | .pp (.xp _ _ _),_=>rfl
 | .pp (.fs k _),h | .pp (.fp k _ _),h | .pp (.px k _),h=>by simp only [z1g,Bool.not_eq_true'] at h ⊢; exact hb k [] h
theorem z6p {bad bad':Nat→Path→Bool} (hb:∀ k p,bad k p=false→bad' k p=false):∀ (v:List (VT T)),z3e bad v=true→z3e bad' v=true
 | [],_=>rfl
 | x::l,h=>by
  simp only [z3e,Bool.and_eq_true] at h ⊢
  exact ⟨z7q hb x h.1,z6p hb l h.2⟩
end
theorem zdl {dep:List Nat} {st:StT T} {e:TE T.toTT0} {hA:TH T.toTT0} (hlen:∀ k p,st.bad k p=false→st.bw k p=false→zd (denH T.toTT0 st.h) k p=zd (denH T.toTT0 hA) k p) (hn:zi (hA.map Prod.fst)=true) (ht:∀ k,st.tch.contains k=false→za (denH T.toTT0 st.h) k=za (denH T.toTT0 hA) k):∀ (l:List (Ins×List Nat)) (i:Nat),z8z dep st e l i=true →
  (∀ x ∈ l.map Prod.fst,Fact (denE T.toTT0 (denH T.toTT0 hA) e) (denH T.toTT0 hA) x)→za7 dep (kill st.bad) (denE T.toTT0 (denH T.toTT0 hA) e) (denH T.toTT0 st.h) l i
 | [],_,_,_=>trivial
 | (x,D)::l,i,hs,hf=>by
  simp only [z8z,Bool.and_eq_true,Bool.or_eq_true] at hs
  refine ⟨?_,zdl hlen hn ht l (i+1) hs.2 (fun y hy=>hf y (by simp [hy]))⟩
  rcases hs.1 with h1 | h1 | h1
  ·exact .inl h1
  rotate_left
  ·right
   unfold zih at h1
   split at h1
   ·rename_i b hb
    rcases hf x (by simp) with ⟨f1,f2⟩ | ⟨f1,f2⟩
    ·refine .inl ⟨z71 f1,?_⟩
     rw [f2]
     cases x.op <;> rfl
    ·simp only [Bool.and_eq_true] at h1
     obtain ⟨h1,h2⟩:=h1
     split at h2
     ·rename_i v hv
      simp only [Bool.and_eq_true] at h2
      have hlen':∀ k p,(fun k p=>st.bad k p || st.bw k p) k p=false→zd (denH T.toTT0 st.h) k p=zd (denH T.toTT0 hA) k p:=fun k p hk=>by
       simp only [Bool.or_eq_false_iff] at hk
       exact hlen k p hk.1 hk.2
      have hsub:∀ k p,(fun k p=>st.bad k p || st.bw k p) k p=false→st.bad k p=false:=fun k p hk=>by
       simp only [Bool.or_eq_false_iff] at hk
       exact hk.1
      obtain ⟨av,r1,r2⟩:=zg6 (e:=e) (h:=st.h) (b:=b) (v:=v) (by rw [hv]; exact rfl)
      have hcl:∀ o ∈ z2e b,ev (fun t=>kill st.bad (denE T.toTT0 (denH T.toTT0 hA) e t)) o=ev (denE T.toTT0 (denH T.toTT0 st.h) e) o:=fun o ho=>by
       have:=List.all_eq_true.1 h1 o ho
       cases o with
       | tmp t =>
        have q1:=z62 (H0:=denH T.toTT0 hA) _ (z7q hsub _ this)
        have q2:=z7p hlen' _ this
        exact q1.trans q2.symm
       | _=>rfl
      refine .inr ⟨z71 f1,b,av,hb,(z3m b hcl).trans r1,?_⟩
      have e1:=zq7 _ _ h2.1
      have q2:=z7p hlen' _ h2.2
      have q1:=z62 (H0:=denH T.toTT0 hA) _ (z7q hsub _ h2.2)
      rw [q2] at r2
      show AVle av (kill st.bad (den T.toTT0 (denH T.toTT0 hA) (getE e x.dst)))
      rw [← e1,q1]
      exact r2
     ·cases h2
   ·cases h1
  ·right
   unfold zmg at h1
   split at h1
   ·rename_i b hb
    rcases hf x (by simp) with ⟨f1,f2⟩ | ⟨f1,f2⟩
    ·refine .inl ⟨z71 f1,?_⟩
     rw [f2]
     cases x.op <;> rfl
    ·obtain ⟨hp,av,g1,g2,g3⟩:=f2 b hb
     refine .inr ⟨z71 f1,b,av,hb,?_,g3.trans (AVle.kill _ _)⟩
     have e1:rdop (ev (denE T.toTT0 (denH T.toTT0 hA) e)) (res (denH T.toTT0 hA)) b=some av :=
      zeo (fun k p v hv=>zg9 (by rw [z1b]; exact zl _ hn) g1 k p v hv) g2
     have hcl:∀ o ∈ z2e b,ev (fun t=>kill st.bad (denE T.toTT0 (denH T.toTT0 hA) e t)) o=ev (denE T.toTT0 (denH T.toTT0 hA) e) o:=fun o ho=>by
      have:=List.all_eq_true.1 h1 o ho
      simp only [Bool.and_eq_true] at this
      cases o with
      | tmp t=>exact z62 _ this.1
      | _=>rfl
     rw [z3m b hcl,← e1]
     cases hrb:zom b with
     | false=>cases b <;> first | rfl | cases hrb
     | true =>
      refine zne fun o ho k hk p=>?_
      have:=List.all_eq_true.1 h1 o ho
      simp only [Bool.and_eq_true,hrb,Bool.not_true,Bool.false_or] at this
      rw [ze,zpr] at hk
      rw [hk] at this
      simp only [Bool.not_eq_true'] at this
      unfold res
      rw [ht k this.2]
   ·cases h1
def zap (pro:List Nat) (cx:Cx P T) (x:Ins) (e:TE T.toTT0) (h:TH T.toTT0) (K:StT T→Raw P T pro L):Raw P T pro L :=
 match x.op with
 | .mk b=>Raw.ofRs K (mkT (cx.at x.dst) pro e h x.dst b)
 | .app s bytes a b=>Raw.ofRs K (appT (cx.at x.dst) pro e h x.dst s bytes a b)
 | .st n a v=>Raw.ofRs K (stT e h n a v)
 | _=>.no
def zjk (pro:List Nat) (cx:Cx P T) (x:Ins) (e:TE T.toTT0) (h:TH T.toTT0) (K:StT T→Raw P T pro L):Raw P T pro L :=
 match x.guard with
 | none=>zap pro cx x e h K
 | some (s,want)=>match getE e s with | .bk true=>bif want then zap pro cx x e h K else .no | .bk false=>bif want then .no else zap pro cx x e h K | _=>.no
theorem zni {cx:Cx P T} {x:Ins} {e:TE T.toTT0} {h:TH T.toTT0} {K:StT T→Raw P T pro L} {Q:L→Prop} (hs:Sat (zjk pro cx x e h K) Q) :
  ∃ st,Sat (K st) Q∧StOk P pro T e h x st∧zg (denE T.toTT0 (denH T.toTT0 h) e) x.guard=some true:=by
 obtain ⟨d,g,op⟩:=x
 have go:Sat (zap pro cx ⟨d,g,op⟩ e h K) Q→∃ st,Sat (K st) Q∧StOk P pro T e h ⟨d,g,op⟩ st:=fun hs=>by
  unfold zap at hs
  dsimp only at hs
  split at hs
  ·obtain ⟨st,hv,hK⟩:=Sat.ofRs _ hs
   exact ⟨st,hK,zm2 hv⟩
  ·obtain ⟨st,hv,hK⟩:=Sat.ofRs _ hs
   exact ⟨st,hK,zgw hv⟩
  ·obtain ⟨st,hv,hK⟩:=Sat.ofRs _ hs
   exact ⟨st,hK,zmf hv⟩
  ·exact hs.elim
 unfold zjk at hs
 dsimp only at hs
 split at hs
 ·obtain ⟨st,q1,q2⟩:=go hs
  exact ⟨st,q1,q2,rfl⟩
 ·rename_i s want
  split at hs
  ·rename_i hv
   cases want with
   | false=>exact hs.elim
   | true =>
    obtain ⟨st,q1,q2⟩:=go hs
    exact ⟨st,q1,q2,by simp [zg,denE,hv,den]⟩
  ·rename_i hv
   cases want with
   | true=>exact hs.elim
   | false =>
    obtain ⟨st,q1,q2⟩:=go hs
    exact ⟨st,q1,q2,by simp [zg,denE,hv,den]⟩
  ·exact hs.elim
theorem StOk.turn {e:TE T.toTT0} {h:TH T.toTT0} {x:Ins} {st:StT T} (hst:StOk P pro T e h x st) (hw:zg (denE T.toTT0 (denH T.toTT0 h) e) x.guard=some true) :
  z31 P pro x (denE T.toTT0 (denH T.toTT0 h) e) (denH T.toTT0 h) (kill st.bad) (den T.toTT0 (denH T.toTT0 st.h) st.v) (denH T.toTT0 st.h):=fun e' he=>by
 obtain ⟨e0,h0',e1,h1',g1,gb,g2,g3⟩:=hst.1 e' he
 exact ⟨by rw [z3n he]; exact hw,e0,h0',e1,h1',g1,g2,g3⟩
def z9q (keep:List Nat) (e:TE T.toTT0):TE T.toTT0:=keep.map fun t=>(t,getE e t)
theorem zai {H0:H} (keep:List Nat) (e:TE T.toTT0):denE T.toTT0 H0 (z9q keep e)=z3k keep (denE T.toTT0 H0 e):=by
 unfold z3k z9q
 induction keep with
 | nil=>rfl
 | cons s l ih =>
  simp only [List.map_cons,zu]
  rw [← ih]
  exact zr (e:=List.map (fun t=>(t,getE e t)) l)
def zdm (ds:List Nat) (e:TE T.toTT0):TE T.toTT0:=z43 (fun k _=>ds.contains k) (fun _ _=>false) e
theorem zdn {ds:List Nat} {e:TE T.toTT0} {h:TH T.toTT0}:denE T.toTT0 (denH T.toTT0 (z1y h ds)) (zdm ds e)=preE ds (denE T.toTT0 (denH T.toTT0 h) e):=by
 funext t
 simp only [denE,zdm,z2c,preE]
 have hl:∀ k p,(fun k (_:Path)=>ds.contains k) k p=false→zd (denH T.toTT0 (z1y h ds)) k p=zd (denH T.toTT0 h) k p:=fun k p hk=>zw (by rw [← z41]; exact z5n _ _ _ hk)
 exact (z8v hl _).symm
def zly (cx:Cx P T) (x:Ins):Bool :=
 match x.op with
 | .st _ _ _ | .app _ _ _ _=>true
 | .mk _=>cx.tn.contains x.dst
 | _=>false
def z86 (cx:Cx P T):List (Ins×List Nat)→Option (List (Ins×List Nat)×(Ins×List Nat)×List (Ins×List Nat))
 | []=>none
 | x::l=>match z86 cx l with
  | some (p,y,q)=>some (x::p,y,q)
  | none=>bif zly cx x.1 then some ([],x,l) else none
theorem zan {cx:Cx P T}:∀ (l p:List (Ins×List Nat)) (y:Ins×List Nat) (q:List (Ins×List Nat)),z86 cx l=some (p,y,q)→l=p++y::q
 | [],_,_,_,h=>by cases h
 | x::l,p,y,q,h=>by
  simp only [z86] at h
  split at h
  ·rename_i p' y' q' h'
   cases h
   rw [zan l _ _ _ h']; rfl
  ·cases ht:zly cx x.1 with
   | false=>rw [ht] at h; cases h
   | true=>rw [ht] at h; cases h; rfl
def za0 (bad:Nat→Path→Bool) (e1:TE T.toTT0):List (Ins×List Nat)→List Nat→TE T.toTT0→Option (TE T.toTT0)
 | [],_,e=>some e
 | (x,_)::l,fb,e=>match x.guard,x.op with
  | none,.rd (.mov (.tmp s))=>bif !fb.contains s && z1g bad (getE e1 s) then
    match getE e1 s with
    | .un=>none
    | v=>za0 bad e1 l (x.dst::fb) (putE e x.dst v)
   else none
  | none,.rd (.mov (.const u))=>match z7s u with
    | .un=>none
    | v=>za0 bad e1 l (x.dst::fb) (putE e x.dst v)
  | _,_=>none
theorem zc2 {bad0 bad:Nat→Path→Bool} {H0 H1:H} {e1:TE T.toTT0} (hsub:∀ k p,bad k p=false→bad0 k p=false) (hl:∀ k p,bad k p=false→zd H1 k p=zd H0 k p) {K:Env→Prop}:∀ (l:List (Ins×List Nat)) (fb:List Nat) (e e2:TE T.toTT0) (E:Env),za0 bad e1 l fb e=some e2 →
  (∀ t,fb.contains t=false→E t=kill bad0 (denE T.toTT0 H0 e1 t))→(∀ t,AVle (E t) (denE T.toTT0 H1 e t))→(∀ E2:Env,(∀ t,AVle (E2 t) (denE T.toTT0 H1 e2 t))→K E2)→z7m P H1 K l E
 | [],fb,e,e2,E,h,_,h2,hK=>by
  cases h
  exact hK E h2
 | (⟨d,g,op⟩,D)::l,fb,e,e2,E,h,h1,h2,hK=>by
  simp only [za0] at h
  split at h
  ·rename_i s
   obtain ⟨hb,h⟩:(!fb.contains s && z1g bad (getE e1 s))=true∧(match getE e1 s with | .un=>none | v=>za0 bad e1 l (d::fb) (putE e d v))=some e2:=by
    cases hb:(!fb.contains s && z1g bad (getE e1 s)) with
    | false=>rw [hb] at h; cases h
    | true=>rw [hb] at h; exact ⟨rfl,h⟩
   simp only [Bool.and_eq_true,Bool.not_eq_true'] at hb
   have hE:E s=den T.toTT0 H1 (getE e1 s):=by
    rw [h1 s hb.1,denE,z62 _ (z7q hsub _ hb.2),z7p hl _ hb.2]
   have key:∀ v:VT T,getE e1 s=v→v ≠ .un→za0 bad e1 l (d::fb) (putE e d v)=some e2→z7m P H1 K ((⟨d,none,.rd (.mov (.tmp s))⟩,D)::l) E:=fun v hv hun h=>by
    rw [hv] at hE
    refine ⟨den T.toTT0 H1 v,.rd (b:=.mov (.tmp s)) (av:=den T.toTT0 H1 v) rfl rfl ?_ (AVle.refl _) rfl,?_⟩
    ·simp only [rdop,ev,hE]
     cases v <;> first | rfl | (rename_i q; cases q <;> rfl) | (exact absurd rfl hun)
    ·refine zc2 hsub hl l (d::fb) _ e2 _ h (fun t ht=>?_) (fun t=>?_) hK
     ·simp only [List.contains_cons,Bool.or_eq_false_iff,beq_eq_false_iff_ne] at ht
      simp only [upd,if_neg ht.1]
      exact h1 t ht.2
     ·rw [zr]
      exact AVle.upd h2 (AVle.refl _) t
   split at h
   ·cases h
   ·rename_i v hne
    exact key _ rfl (fun he=>hne (by rw [he])) h
  ·rename_i u
   split at h
   ·cases h
   ·rename_i v hne
    have hun:(z7s u:VT T) ≠ .un:=fun he=>hne (by rw [he])
    have hcv:ev E (.const u)=den T.toTT0 H1 (z7s u:VT T):=(zab H1 u).symm
    generalize (z7s u:VT T)=v at *
    refine ⟨den T.toTT0 H1 v,.rd (b:=.mov (.const u)) (av:=den T.toTT0 H1 v) rfl rfl ?_ (AVle.refl _) rfl,?_⟩
    ·simp only [rdop,hcv]
     cases v <;> first | rfl | (rename_i q; cases q <;> rfl) | (exact absurd rfl hun)
    ·refine zc2 hsub hl l (d::fb) _ e2 _ h (fun t ht=>?_) (fun t=>?_) hK
     ·simp only [List.contains_cons,Bool.or_eq_false_iff,beq_eq_false_iff_ne] at ht
      simp only [upd,if_neg ht.1]
      exact h1 t ht.2
     ·rw [zr]
      exact AVle.upd h2 (AVle.refl _) t
  ·cases h
def zd2 (ds:List Nat) (h0 h1:TH T.toTT0):Bool:=(h1.map Prod.fst).all (fun k=>ds.contains k || (h0.map Prod.fst).contains k)
def zfk (pro:List Nat) (cx:Cx P T) (keep:List Nat) (pre:List (Ins×List Nat)) (tail:List Ins) (e:TE T.toTT0) (h:TH T.toTT0) (K:TE T.toTT0→TH T.toTT0→Raw P T pro L):Raw P T pro L :=
 let ds:=pre.map (·.1.dst)
 let e0:=zdm ds e
 let h0:=z1y h ds
 let Kt:TE T.toTT0→TH T.toTT0→Raw P T pro L:=fun e h=>evR pro cx tail e h fun e h=>K (z9q keep e) h
 let plain:Raw P T pro L:=bif zi ds && z4d ds pre 0 pre && pro.all (fun k=>!ds.contains k) && pre.all (fun x=>!isSt x.1.op) then evD cx pre 0 e0 [] h0 fun e1 h1=>bif zd2 ds h0 h1 then Kt e1 h1 else .no else .no
 match z86 cx pre with
 | some (pre0,(x,dep),post) =>
   bif zi ds && z6b ds 0 pre && pro.all (fun k=>!ds.contains k) && pre0.all (fun x=>!isSt x.1.op) && z7h dep pre0 0 && !dep.contains pre0.length && dep.all (fun i=>decide (i<pre0.length)) && pre0.all (fun x=>!x.2.contains pre0.length) && post.all (fun y=>isRd y.1.op && y.2.contains pre0.length) && sepB (pre0.map Prod.fst) then
    evD cx pre0 0 e0 [] h0 fun e1 hA=>zjk pro cx x e1 hA fun st =>
     bif zi (hA.map Prod.fst) && zd2 ds h0 hA && zi (st.h.map Prod.fst) && z8z dep st e1 pre0 0 then (match za0 (fun k p=>st.bad k p || st.bw k p) e1 post [x.dst] (st.env e1 x.dst) with | some e2=>Kt e2 st.h | none=>.no) else .no
   else .no
 | none=>plain
theorem zk5 {cx:Cx P T} {keep:List Nat} {pre:List (Ins×List Nat)} {tail:List Ins} {e:TE T.toTT0} {h:TH T.toTT0} {K:TE T.toTT0→TH T.toTT0→Raw P T pro L} {Q:L→Prop} {Q':Out→Env→H→Prop}
  (hQ:∀ E H0,KP K Q E H0→Q' .normal E H0) (hs:Sat (zfk pro cx keep pre tail e h K) Q):W P pro (.draw keep pre tail) Q' (denE T.toTT0 (denH T.toTT0 h) e) (denH T.toTT0 h):=by
 have tl:∀ (e1:TE T.toTT0) (h1:TH T.toTT0),Sat (evR pro cx tail e1 h1 fun e h=>K (z9q keep e) h) Q→RG P pro keep Q' tail (denE T.toTT0 (denH T.toTT0 h1) e1) (denH T.toTT0 h1):=fun e1 h1 hs=>by
  obtain ⟨E,H',r,e2,h2,rfl,rfl,hK⟩:=zad tail e1 h1 hs
  exact ⟨_,_,r,hQ _ _ ⟨_,_,(zai keep e2).symm,rfl,hK⟩⟩
 have plain:Sat (bif zi (pre.map (·.1.dst)) && z4d (pre.map (·.1.dst)) pre 0 pre && pro.all (fun k=>!(pre.map (·.1.dst)).contains k) && pre.all (fun x=>!isSt x.1.op) then evD cx pre 0 (zdm (pre.map (·.1.dst)) e) [] (z1y h (pre.map (·.1.dst))) fun e1 h1=>bif zd2 (pre.map (·.1.dst)) (z1y h (pre.map (·.1.dst))) h1 then evR pro cx tail e1 h1 (fun e h=>K (z9q keep e) h) else .no else .no:Raw P T pro L) Q →
   W P pro (.draw keep pre tail) Q' (denE T.toTT0 (denH T.toTT0 h) e) (denH T.toTT0 h):=fun hs=>by
  cases hb:(zi (pre.map (·.1.dst)) && z4d (pre.map (·.1.dst)) pre 0 pre && pro.all (fun k=>!(pre.map (·.1.dst)).contains k) && pre.all (fun x=>!isSt x.1.op)) with
  | false=>rw [hb] at hs; exact hs.elim
  | true =>
   rw [hb,cond_true] at hs
   refine W.drawG (pre.map (·.1.dst)) rfl hb ?_
   have:=zcu pre 0 _ [] hs
   simp only [z1a,List.nil_append,zdn,accA,List.map_nil] at this
   rw [z41]
   refine WD.mono (fun E H0 hk=>?_) _ _ _ _ this
   obtain ⟨e1,h1,rfl,rfl,hK⟩:=hk
   dsimp only at hK
   cases hk2:zd2 (pre.map (·.1.dst)) (z1y h (pre.map (·.1.dst))) h1 with
   | false=>rw [hk2] at hK; exact hK.elim
   | true =>
    rw [hk2,cond_true] at hK
    refine ⟨?_,tl _ _ hK⟩
    unfold z8t
    rw [z1b,z1b]
    exact hk2
 unfold zfk at hs
 dsimp only at hs
 split at hs
 ·rename_i pre0 x dep post hsl
  have hpre:=zan _ _ _ _ hsl
  generalize hds:pre.map (·.1.dst)=ds at hs
  cases hb:(zi ds && z6b ds 0 pre && pro.all (fun k=>!ds.contains k) && pre0.all (fun x=>!isSt x.1.op) && z7h dep pre0 0 && !dep.contains pre0.length && dep.all (fun i=>decide (i<pre0.length)) && pre0.all (fun x=>!x.2.contains pre0.length) && post.all (fun y=>isRd y.1.op && y.2.contains pre0.length) && sepB (pre0.map Prod.fst)) with
  | false=>rw [hb] at hs; exact hs.elim
  | true =>
   rw [hb,cond_true] at hs
   simp only [Bool.and_eq_true] at hb
   obtain ⟨hb,hsep⟩:=hb
   rw [hpre] at hds hb ⊢
   refine W.turn post ds hds (by simpa only [Bool.and_eq_true] using hb) ?_
   have hwd:=zcu pre0 0 _ [] hs
   simp only [z1a,List.nil_append,zdn,accA,List.map_nil] at hwd
   rw [z41]
   have hf:=WD.facts pre0 0 _ [] [] hwd hsep (fun _ h=>(by cases h)) (fun _ h=>(by cases h))
   refine WD.mono (fun E H0 hk=>?_) _ _ _ _ hf
   obtain ⟨⟨e1,hA,rfl,rfl,hK⟩,hfacts⟩:=hk
   obtain ⟨st,hK,hst,hw⟩:=zni hK
   cases hc:(zi (hA.map Prod.fst) && zd2 ds (z1y h ds) hA && zi (st.h.map Prod.fst) && z8z dep st e1 pre0 0) with
   | false=>rw [hc] at hK; exact hK.elim
   | true =>
    rw [hc,cond_true] at hK
    simp only [Bool.and_eq_true] at hc
    obtain ⟨⟨⟨c1,c2⟩,c3⟩,c4⟩:=hc
    refine ⟨kill st.bad,den T.toTT0 (denH T.toTT0 st.h) st.v,denH T.toTT0 st.h,?_,by rw [z1b]; exact c3,hst.turn hw,zdl hst.2.1 c1 hst.2.2 pre0 0 c4 (by simpa using hfacts),?_⟩
    ·unfold z8t
     rw [z1b,z1b]
     exact c2
    ·split at hK
     ·rename_i e2 hp
      refine zc2 (bad0:=st.bad) (fun k p h=>(by simpa using h:st.bad k p=false∧_).1) (fun k p h=>hst.2.1 k p (by simpa using h:st.bad k p=false∧_).1 (by simpa using h:_∧st.bw k p=false).2) post _ _ _ _ hp (fun t ht=>?_) (fun t=>?_) (fun E2 h2=>RG.ghost (zb.le h2) (tl _ _ hK))
      ·simp only [List.contains_cons,List.contains_nil,Bool.or_false,beq_eq_false_iff_ne] at ht
       simp only [upd,if_neg ht]
      ·rw [StT.env,zr]
       refine AVle.upd (fun t=>?_) (AVle.refl _) t
       simp only [denE,z2c]
       exact z4z (fun _ _ h=>h) hst.2.1 _
     ·exact hK.elim
 ·exact plain hs
def zdw (pro:List Nat) (cx:Cx P T) (keep:List Nat) (pre:List (Ins×List Nat)) (tail:List Ins) (e:TE T.toTT0) (h:TH T.toTT0) (K:TE T.toTT0→TH T.toTT0→Raw P T pro L):Raw P T pro L :=
 match frzL (match pre with | x::_=>cx.fzAt (800000+x.1.dst) | []=>[]) e h with
 | some (e,h)=>zfk pro cx keep pre tail e h K
 | none=>.no
theorem z6q {cx:Cx P T} {keep:List Nat} {pre:List (Ins×List Nat)} {tail:List Ins} {e:TE T.toTT0} {h:TH T.toTT0} {K:TE T.toTT0→TH T.toTT0→Raw P T pro L} {Q:L→Prop} {Q':Out→Env→H→Prop}
  (hQ:∀ E H0,KP K Q E H0→Q' .normal E H0) (hs:Sat (zdw pro cx keep pre tail e h K) Q):W P pro (.draw keep pre tail) Q' (denE T.toTT0 (denH T.toTT0 h) e) (denH T.toTT0 h):=by
 unfold zdw at hs
 split at hs
 ·rename_i e1 h1 hf
  exact W.ghost (z4y _ hf).1 (zk5 hQ hs)
 ·exact hs.elim
end
inductive SD where
 | any
 | un
 | im (t:Nat)
 | own (c:Nat) (m:Bool) (t:Nat)
 | ref (c:Nat)
 | ag (l:List SD)
 | fn (l:List SD)
inductive RD where
 | any
 | fix (ks:List Kd)
 | typ (m:Bool) (t:Nat)
structure Dr where
 S:List (Nat×SD)
 R:List (Nat×RD)
section
variable {P:Program} {T:TT} {pro:List Nat} {L:Type}
mutual
def z8y:VT T→Option (VT T)
 | .un=>some .un
 | .sc v=>some (.sc v)
 | .ik k n=>some (.sc (.int k n))
 | .bk b=>some (.sc (.bool b))
 | .zs=>some .zs
 | .im t xs=>some (.im t xs)
 | .ip s cs c=>some (.ip s cs c)
 | .pp (.xp b x c)=>some (.pp (.xp b x c))
 | .pp _=>none
 | .ag cs=>match z75 cs with | some cs'=>some (.ag cs') | none=>none
 | .tu cs=>match z75 cs with | some cs'=>some (.tu cs') | none=>none
 | .fn f cs=>match z75 cs with | some cs'=>some (.fn f cs') | none=>none
 | .sl _ _ _ _ | .sw _ _ | .pt _ _ _ _ | .ow _ _ _ | .oo _ _ _ _ _=>none
def z75:List (VT T)→Option (List (VT T))
 | []=>some []
 | x::l=>match z8y x,z75 l with | some x',some l'=>some (x'::l') | _,_=>none
end
mutual
theorem zen {H0:H}:∀ (v v':VT T),z8y v=some v'→den T.toTT0 H0 v=den T.toTT0 H0 v'
 | .un,_,h | .sc _,_,h | .ik _ _,_,h | .bk _,_,h | .zs,_,h | .im _ _,_,h | .ip _ _ _,_,h | .pp (.xp _ _ _),_,h=>by cases h; rfl
 | .pp (.fs _ _),_,h | .pp (.fp _ _ _),_,h | .pp (.px _ _),_,h=>by cases h
 | .ag cs,_,h=>by
  simp only [z8y] at h
  split at h
  ·rename_i cs' hc; cases h; simp only [den,z6x cs cs' hc]
  ·cases h
 | .tu cs,_,h=>by
  simp only [z8y] at h
  split at h
  ·rename_i cs' hc; cases h; simp only [den,z6x cs cs' hc]
  ·cases h
 | .fn f cs,_,h=>by
  simp only [z8y] at h
  split at h
  ·rename_i cs' hc; cases h; simp only [den,z6x cs cs' hc]
  ·cases h
 | .sl _ _ _ _,_,h | .sw _ _,_,h | .pt _ _ _ _,_,h | .ow _ _ _,_,h | .oo _ _ _ _ _,_,h=>by cases h
theorem z6x {H0:H}:∀ (v v':List (VT T)),z75 v=some v'→denL T.toTT0 H0 v=denL T.toTT0 H0 v'
 | [],_,h=>by cases h; rfl
 | x::l,_,h=>by
  simp only [z75] at h
  split at h
  ·rename_i x' l' h1 h2
   cases h
   simp only [denL,zen x x' h1,z6x l l' h2]
  ·cases h
end
mutual
def z98:SD→VT T→Option (VT T×List (Nat×Nat))
 | .any,v=>match z8y v with | some v'=>some (v',[]) | none=>none
 | .un,_=>some (.un,[])
 | .im t,.zs=>some (.im t [],[])
 | .im _,.im t xs=>some (.im t xs,[])
 | .im _,_=>none
 | .own c _ _,.sw k []=>some (.sw k [],[(c,k)])
 | .own _ _ _,_=>none
 | .ref c,.pt k p i cc=>some (.pt k p i cc,[(c,k)])
 | .ref c,.sw k p=>some (.sw k p,[(c,k)])
 | .ref c,.sl k p off len=>some (.sl k p off len,[(c,k)])
 | .ref c,.pp (.fs k cs)=>some (.pp (.fs k cs),[(c,k)])
 | .ref _,_=>none
 | .ag ds,.ag cs=>match z8h ds cs with | some (cs',b)=>some (.ag cs',b) | none=>none
 | .ag ds,.tu cs=>match z8h ds cs with | some (cs',b)=>some (.tu cs',b) | none=>none
 | .ag _,_=>none
 | .fn ds,.fn f cs=>match z8h ds cs with | some (cs',b)=>some (.fn f cs',b) | none=>none
 | .fn _,_=>none
def z8h:List SD→List (VT T)→Option (List (VT T)×List (Nat×Nat))
 | [],[]=>some ([],[])
 | d::ds,v::vs=>match z98 d v,z8h ds vs with | some (v',b),some (vs',b')=>some (v'::vs',b++b') | _,_=>none
 | _,_=>none
end
mutual
theorem zfg {H0:H}:∀ (d:SD) (v v':VT T) (b:List (Nat×Nat)),z98 d v=some (v',b)→AVle (den T.toTT0 H0 v) (den T.toTT0 H0 v')
 | .any,v,v',b,h=>by
  simp only [z98] at h
  split at h
  ·rename_i w hw; cases h; rw [zen v _ hw]; exact AVle.refl _
  ·cases h
 | .un,v,v',b,h=>by cases h; exact AVle.un _
 | .im t,v,v',b,h=>by
  cases v <;> first | (cases h; done) | skip
  ·cases h; simp only [den,List.map_nil]; exact AVle.zsIm _
  ·cases h; exact AVle.refl _
 | .own c m t,v,v',b,h=>by
  cases v with
  | sw k p =>
   cases p with
   | nil=>cases h; exact AVle.refl _
   | cons _ _=>cases h
  | _=>cases h
 | .ref c,v,v',b,h=>by
  cases v <;> first | (cases h; done) | (rename_i q; cases q <;> first | (cases h; done) | (cases h; exact AVle.refl _)) | (cases h; exact AVle.refl _)
 | .ag ds,v,v',b,h=>by
  cases v with
  | ag cs =>
   simp only [z98] at h
   split at h
   ·rename_i cs' b' hc; cases h; simp only [den]; exact AVle.ag (z7r ds cs cs' _ hc).C
   ·cases h
  | tu cs =>
   simp only [z98] at h
   split at h
   ·rename_i cs' b' hc; cases h; simp only [den]; exact AVle.tu (z7r ds cs cs' _ hc).L
   ·cases h
  | _=>cases h
 | .fn ds,v,v',b,h=>by
  cases v with
  | fn f cs =>
   simp only [z98] at h
   split at h
   ·rename_i cs' b' hc; cases h; simp only [den]; exact AVle.fn (z7r ds cs cs' _ hc).L
   ·cases h
  | _=>cases h
theorem z7r {H0:H}:∀ (d:List SD) (v v':List (VT T)) (b:List (Nat×Nat)),z8h d v=some (v',b)→z3u (denL T.toTT0 H0 v) (denL T.toTT0 H0 v')
 | [],[],_,_,h=>by cases h; exact .nil
 | [],_::_,_,_,h=>by cases h
 | _::_,[],_,_,h=>by cases h
 | d::ds,v::vs,v',b,h=>by
  simp only [z8h] at h
  split at h
  ·rename_i v1 b1 vs1 b2 h1 h2
   cases h
   exact .cons (zfg d v v1 _ h1) (z7r ds vs vs1 _ h2)
  ·cases h
end
def Gh (P:Program) (pro:List Nat) (T:TT) (e:TE T.toTT0) (h:TH T.toTT0) (e1:TE T.toTT0) (h1:TH T.toTT0):Prop:=zb P pro (denE T.toTT0 (denH T.toTT0 h) e) (denH T.toTT0 h) (denE T.toTT0 (denH T.toTT0 h1) e1) (denH T.toTT0 h1)
def zjj (pro:List Nat) (e:TE T.toTT0) (h:TH T.toTT0) (t:Nat) (d:SD):Rs (TE T.toTT0×TH T.toTT0×List (Nat×Nat)) :=
 match d,getE e t with
 | .own c m ty,.zs =>
  bif pro.contains (500000+t) || (h.map Prod.fst).contains (500000+t) then .no
  else .ok (putE (z43 (fun k _=>Nat.beq k (500000+t)) (fun _ _=>false) e) t (.sw (500000+t) []),(500000+t,.typ m ty [])::h,[(c,500000+t)])
 | .own c _ _,.sl k [] 0 n =>
  match getT h k with
  | some (.typ m' t' xs)=>.need (n≤xs.length) (.ok (putE (z43 (fun _ _=>false) (fun k' _=>Nat.beq k' k) e) t (.sw k []),(k,.typ m' t' (xs.take n))::delT h k,[(c,k)]))
  | _=>.no
 | d,v=>match z98 d v with | some (v',b)=>.ok (putE e t v',h,b) | none=>.no
theorem znh {e e1:TE T.toTT0} {h h1:TH T.toTT0} {t:Nat} {d:SD} {b:List (Nat×Nat)} (hg:(zjj pro e h t d).gives (e1,h1,b)):Gh P pro T e h e1 h1:=by
 unfold zjj at hg
 split at hg
 ·rename_i c m ty hz
  cases hb:(pro.contains (500000+t) || (h.map Prod.fst).contains (500000+t)) with
  | true=>rw [hb] at hg; exact hg.elim
  | false =>
   rw [hb] at hg
   cases hg
   simp only [Bool.or_eq_false_iff] at hb
   have h1:=zb.nil (P:=P) (pro:=pro) (e:=denE T.toTT0 (denH T.toTT0 h) e) (h:=denH T.toTT0 h) (t:=t) (d:=500000+t) (s:=T.sz ty) (by simp only [denE,hz,den]) (by
    rw [z1b]
    intro hm
    have:(h.map Prod.fst).contains (500000+t)=true:=by simpa using hm
    rw [hb.2] at this; cases this) (by
    rw [List.all_eq_true]
    intro k hk
    simp only [bne_iff_ne,ne_eq]
    rintro rfl
    have:pro.contains (500000+t)=true:=by simpa using hk
    rw [hb.1] at this; cases this)
   have hh:denH T.toTT0 ((500000+t,.typ m ty [])::h)=(500000+t,⟨T.sz ty,[]⟩)::denH T.toTT0 h:=rfl
   unfold Gh
   rw [hh]
   refine h1.trans (zb.le fun u=>?_)
   rw [zr]
   refine AVle.upd (fun u=>?_) ?_ u
   ·simp only [zq,denE,z2c]
    refine z4z (fun k p hk=>by simpa using hk) (fun k p hk _=>zw ?_) _
    simp only [zy,decide_eq_false_iff_not] at hk
    simp only [za]
    rw [if_neg (fun e=>hk e.symm)]
   ·have:zd ((500000+t,⟨T.sz ty,[]⟩)::denH T.toTT0 h) (500000+t) []=0:=by simp [zd,res,za,resE]
    simp only [den,this]; exact AVle.refl _
 ·rename_i c m ty k n hz
  split at hg
  ·rename_i m' t' xs hr
   obtain ⟨hc,hg⟩:=hg
   cases hg
   have hgr:za (denH T.toTT0 h) k=some ⟨T.sz t',xs.map (T.ca m' t')⟩:=by rw [z1k,hr]; rfl
   have h1:=zb.take (P:=P) (pro:=pro) (e:=denE T.toTT0 (denH T.toTT0 h) e) n hgr
   have hh:denH T.toTT0 ((k,.typ m' t' (xs.take n))::delT h k)=(k,⟨T.sz t',(xs.map (T.ca m' t')).take n⟩)::zc (denH T.toTT0 h) k:=by
    simp only [denH,denR,List.map_take,zp]
   unfold Gh
   rw [hh]
   refine h1.trans (zb.le fun u=>?_)
   rw [zr]
   unfold upd
   split
   ·rename_i hu
    subst hu
    have:zd ((k,⟨T.sz t',(xs.map (T.ca m' t')).take n⟩)::zc (denH T.toTT0 h) k) k []=n:=by
     simp only [zd,res,za,if_true,resE,List.length_take,List.length_map]; omega
    simp only [denE,hz,den,this]; exact AVle.refl _
   ·simp only [denE,z2c]
    have:=z4z (T:=T) (H0:=denH T.toTT0 h) (H1:=(k,⟨T.sz t',(xs.map (T.ca m' t')).take n⟩)::zc (denH T.toTT0 h) k) (b1:=fun _ _=>false) (bad:=fun _ _=>false) (bw:=fun k' _=>Nat.beq k' k) (fun _ _ h=>h) (fun k' p _ hk=>zw (by
     simp only [zy,decide_eq_false_iff_not] at hk
     simp only [za]
     rw [if_neg (fun e=>hk e.symm),zv hk])) (getE e u)
    rwa [zd9] at this
  ·exact hg.elim
 ·split at hg
  ·rename_i v' b' hv
   cases hg
   unfold Gh
   refine zb.le fun u=>?_
   rw [zr]
   unfold upd
   split
   ·rename_i hu; subst hu; exact zfg _ _ _ _ hv
   ·exact AVle.refl _
  ·exact hg.elim
mutual
def zns:SD→VT T→List Fz
 | .im _,.sw k []=>[.row k]
 | .im _,.sw k [(_,c)]=>[.col k [c]]
 | .ag ds,.ag cs=>zfp ds cs
 | .ag ds,.tu cs=>zfp ds cs
 | _,_=>[]
def zfp:List SD→List (VT T)→List Fz
 | d::ds,v::vs=>zns d v++zfp ds vs
 | _,_=>[]
end
def znr (h:TH T.toTT0) (k:Nat) (ks:List Kd):List Fz :=
 match getT h k with
 | some (.lit _ [cs])=>match frcC 0 ks cs with | []=>[] | l=>[.col k l]
 | _=>[]
where frcC:Nat→List Kd→List (VT T)→List Nat
 | c,.im _::ks,.ow _ _ _::l=>c::frcC (c+1) ks l
 | c,_::ks,_::l=>frcC (c+1) ks l
 | _,_,_=>[]
def zrt (h:TH T.toTT0) (k:Nat) (m:Bool):List Fz :=
 match m,getT h k with
 | false,some (.typ true _ _)=>[.nest k]
 | _,_=>[]
def zdk (pro:List Nat):List (Nat×SD)→TE T.toTT0→TH T.toTT0→List (Nat×Nat)→Rs (TE T.toTT0×TH T.toTT0×List (Nat×Nat))
 | [],e,h,b=>.ok (e,h,b)
 | (t,d)::l,e,h,b=>match frzL (zns d (getE e t)) e h with
  | some (e,h)=>(zjj pro e h t d).bind fun (e,h,b')=>zdk pro l e h (b'++b)
  | none=>.no
theorem zes:∀ (l:List (Nat×SD)) (e e1:TE T.toTT0) (h h1:TH T.toTT0) (b b1:List (Nat×Nat)),(zdk pro l e h b).gives (e1,h1,b1)→Gh P pro T e h e1 h1
 | [],_,_,_,_,_,_,hg=>by cases hg; exact zb.rfl'
 | (t,d)::l,e,e1,h,h1,b,b1,hg=>by
  simp only [zdk] at hg
  split at hg
  ·rename_i e3 h3 hf
   obtain ⟨⟨e2,h2,b2⟩,q1,q2⟩:=Rs.bind_gives _ hg
   exact zb.trans (z4y _ hf).1 (zb.trans (znh q1) (zes l _ _ _ _ _ _ q2))
  ·exact hg.elim
def zjm (h:TH T.toTT0) (k:Nat) (m:Bool) (t:Nat):Option (TH T.toTT0) :=
 match getT h k with
 | some (.lit s xs)=>bif Nat.beq (T.sz t) s then match unL m t xs with | some ys=>some ((k,.typ m t ys)::delT h k) | none=>none else none
 | some _=>some h
 | none=>none
theorem znk {e:TE T.toTT0} {h h1:TH T.toTT0} {k:Nat} {m:Bool} {t:Nat} (ht:zjm h k m t=some h1):Gh P pro T e h e h1:=by
 unfold zjm at ht
 split at ht
 ·rename_i s xs hr
  cases hb:Nat.beq (T.sz t) s with
  | false=>rw [hb] at ht; cases ht
  | true =>
   rw [hb,cond_true] at ht
   split at ht
   ·rename_i ys hy
    cases ht
    have hgr:za (denH T.toTT0 h) k=some ⟨s,xs.map (denL T.toTT0 [])⟩:=by rw [z1k,hr]; rfl
    have hrow:denR T.toTT0 (.typ m t ys)=⟨s,xs.map (denL T.toTT0 [])⟩:=by simp only [denR,zdp _ _ hy,Nat.eq_of_beq_eq_true hb]
    have hh:denH T.toTT0 ((k,.typ m t ys)::delT h k)=(k,⟨s,(xs.map (denL T.toTT0 [])).map (fixA (fun _=>none) 0)⟩)::zc (denH T.toTT0 h) k:=by
     rw [z45]; simp only [denH,hrow,zp]
    have h1:=zb.fix (P:=P) (pro:=pro) (e:=denE T.toTT0 (denH T.toTT0 h) e) (fun _=>none) (fun _ _ h=>(by cases h)) hgr
    unfold Gh
    rw [hh]
    refine h1.trans (zb.le fun u=>?_)
    have hkill:z3f (fun _=>none) k=fun _ _=>false:=by
     funext k' q
     unfold z3f
     cases q <;> simp
    simp only [zq,hkill,zd9,denE]
    have hl:∀ k' q,zd ((k,⟨s,(xs.map (denL T.toTT0 [])).map (fixA (fun _=>none) 0)⟩)::zc (denH T.toTT0 h) k) k' q=zd (denH T.toTT0 h) k' q:=fun k' q=>by
     refine zw ?_
     by_cases hk:k'=k
     ·subst hk; rw [z45,hgr]; simp [za]
     ·simp only [za]; rw [if_neg (fun e=>hk e.symm),zv hk]
    have:=z8v (T:=T) (bad:=fun _ _=>false) (fun k' q _=>hl k' q) (getE e u)
    rw [zd9] at this
    have hid:z1x (fun _ _=>false) (fun _ _=>false) (getE e u)=getE e u:=zc0 _
    rw [this,hid]
    exact AVle.refl _
   ·cases ht
 ·cases ht; exact zb.rfl'
 ·cases ht
def z9r (bm:List (Nat×Nat)) (c:Nat):Nat:=match look bm c with | some k=>k | none=>c
def za2:List (Nat×RD)→TE T.toTT0→TH T.toTT0→List (Nat×Nat)→Option (TE T.toTT0×TH T.toTT0)
 | [],e,h,_=>some (e,h)
 | (c,.any)::l,e,h,b=>za2 l e h b
 | (c,.fix ks)::l,e,h,b=>match frzL (znr h (z9r b c) ks) e h with
  | some (e,h)=>match z9i e h (z9r b c) ks with | some (e,h)=>za2 l e h b | none=>none
  | none=>none
 | (c,.typ m t)::l,e,h,b=>match frzL (zrt h (z9r b c) m++znr h (z9r b c) (T.ks m t)) e h with
  | some (e,h)=>match z9i e h (z9r b c) (T.ks m t) with
   | some (e,h)=>match zjm h (z9r b c) m t with | some h=>za2 l e h b | none=>none
   | none=>none
  | none=>none
theorem za3:∀ (l:List (Nat×RD)) (e e1:TE T.toTT0) (h h1:TH T.toTT0) (b:List (Nat×Nat)),za2 l e h b=some (e1,h1)→Gh P pro T e h e1 h1
 | [],_,_,_,_,_,hg=>by cases hg; exact zb.rfl'
 | (c,.any)::l,e,e1,h,h1,b,hg=>za3 l e e1 h h1 b hg
 | (c,.fix ks)::l,e,e1,h,h1,b,hg=>by
  simp only [za2] at hg
  split at hg
  ·rename_i e3 h3 hz
   split at hg
   ·rename_i e2 h2 hf
    exact zb.trans (z4y _ hz).1 (zb.trans (zbx hf) (za3 l _ _ _ _ b hg))
   ·cases hg
  ·cases hg
 | (c,.typ m t)::l,e,e1,h,h1,b,hg=>by
  simp only [za2] at hg
  split at hg
  ·rename_i e4 h4 hz
   split at hg
   ·rename_i e2 h2 hf
    split at hg
    ·rename_i h3 ht
     exact zb.trans (z4y _ hz).1 (zb.trans (zbx hf) (zb.trans (znk ht) (za3 l _ _ _ _ b hg)))
    ·cases hg
   ·cases hg
  ·cases hg
def zjc (pro:List Nat) (bm:List (Nat×Nat)) (S:List Nat) (e:TE T.toTT0) (h:TH T.toTT0):Option (EH T) :=
 bif zi (bm.map Prod.fst) && zi (bm.map Prod.snd) && pro.all (fun k=>look bm k==some k) then
  match z5h h bm with
  | some (hs,_)=>some (S.map fun t=>(t,match z2t bm (getE e t) with | some v=>v | none=>.un),hs)
  | none=>none
 else none
theorem zna {bm:List (Nat×Nat)} {S:List Nat} {e:TE T.toTT0} {h:TH T.toTT0} {eh:EH T} (hn:zjc pro bm S e h=some eh):Gh P pro T e h eh.1 eh.2:=by
 unfold zjc at hn
 cases hb:(zi (bm.map Prod.fst) && zi (bm.map Prod.snd) && pro.all (fun k=>look bm k==some k)) with
 | false=>rw [hb] at hn; cases hn
 | true =>
  rw [hb,cond_true] at hn
  simp only [Bool.and_eq_true] at hb
  split at hn
  ·rename_i hs rest hsp
   cases hn
   obtain ⟨s1,s2,s3⟩:=z3h bm h hs rest hsp
   have hkeys:=z5x _ _ _ _ s1
   have hno:z81 pro bm S (denE T.toTT0 (denH T.toTT0 h) e) (denH T.toTT0 h)=some (zu (S.map fun t=>(t,z94 bm (denE T.toTT0 (denH T.toTT0 h) e t))),denH T.toTT0 hs):=by
    unfold z81
    rw [s1]
    simp only
    rw [if_pos (by simp only [Bool.and_eq_true]; exact ⟨hb.1.1,hb.2⟩)]
   refine zb.trans (zb.norm hno) (zb.le fun t=>?_)
   have hbl:∀ k n q,z1e bm k=some n→zd (denH T.toTT0 hs) n q=zd (denH T.toTT0 h) k q:=fun k n q hkn=>by
    have:=s3 n k hb.1.1 hb.1.2 (z44 bm hkn)
    unfold zd res
    rw [this]
   have hv:∀ t,AVle (z94 bm (denE T.toTT0 (denH T.toTT0 h) e t)) (den T.toTT0 (denH T.toTT0 hs) (match z2t bm (getE e t) with | some v=>v | none=>.un)):=fun t=>by
    split
    ·rename_i v hv
     have:=z5j (T:=T) hbl _ _ hv
     unfold z94
     simp only [denE,this]
     exact AVle.refl _
    ·exact AVle.un _
   clear hno
   induction S with
   | nil=>exact AVle.refl _
   | cons s S ih =>
    simp only [List.map_cons,zu]
    rw [show denE T.toTT0 (denH T.toTT0 hs) ((s,match z2t bm (getE e s) with | some v=>v | none=>.un)::S.map fun t=>(t,match z2t bm (getE e t) with | some v=>v | none=>.un))=upd (denE T.toTT0 (denH T.toTT0 hs) (S.map fun t=>(t,match z2t bm (getE e t) with | some v=>v | none=>.un))) s (den T.toTT0 (denH T.toTT0 hs) (match z2t bm (getE e s) with | some v=>v | none=>.un)) from zr]
    unfold upd
    split
    ·exact hv s
    ·exact ih
  ·cases hn
def cnv (pro:List Nat) (D:Dr) (e:TE T.toTT0) (h:TH T.toTT0):Rs (EH T) :=
 (zdk pro D.S e h []).bind fun (e,h,b) =>
  match za2 D.R e h b with
  | some (e,h)=>match zjc pro (D.R.map fun x=>(x.1,z9r b x.1)) (D.S.map Prod.fst) e h with
   | some eh=>.ok eh
   | none=>.no
  | none=>.no
theorem z2w {D:Dr} {e:TE T.toTT0} {h:TH T.toTT0} {eh:EH T} (hg:(cnv pro D e h).gives eh):Gh P pro T e h eh.1 eh.2:=by
 obtain ⟨⟨e1,h1,b⟩,q1,q2⟩:=Rs.bind_gives _ hg
 dsimp only at q2
 split at q2
 ·rename_i e2 h2 hr
  split at q2
  ·rename_i eh' hn
   cases q2
   exact zb.trans (zes _ _ _ _ _ _ _ q1) (zb.trans (za3 _ _ _ _ _ _ hr) (zna hn))
  ·exact q2.elim
 ·exact q2.elim
end
inductive An (P:Program) (T:TT) (pro:List Nat):Type 1 where
 | no
 | two (a b:An P T pro)
 | join (S:Type) (enc:S→EH T) (D:Dr) (a b:An P T pro)
 | loop (V:Type) (c:V→LCon P T pro) (ret:Bool) (D:Dr)
 | alls (S Z:Type) (enc:S→EH T) (encV:Z→Value) (D:Dr)
section
variable {P:Program} {T:TT} {pro:List Nat}
def An.l:An P T pro→An P T pro
 | .two a _=>a
 | _=>.no
def An.r:An P T pro→An P T pro
 | .two _ b=>b
 | _=>.no
def ztz {L:Type} (pro:List Nat) (D:Dr) (K:Out→TE T.toTT0→TH T.toTT0→Raw P T pro L):Out→TE T.toTT0→TH T.toTT0→Raw P T pro (EH T⊕L)
 | .normal,e,h=>Raw.ofRs (fun eh=>.leaf (.inl eh)) (cnv pro D e h)
 | o,e,h=>(K o e h).map .inr
def seqK {L:Type} (A:TE T.toTT0→TH T.toTT0→Raw P T pro L) (K:Out→TE T.toTT0→TH T.toTT0→Raw P T pro L):Out→TE T.toTT0→TH T.toTT0→Raw P T pro L
 | .normal=>A
 | o=>K o
def zjv {L:Type} (id:Nat) (K:Out→TE T.toTT0→TH T.toTT0→Raw P T pro L):Out→TE T.toTT0→TH T.toTT0→Raw P T pro L
 | .exit id'=>bif Nat.beq id' id then K .normal else K (.exit id')
 | o=>K o
def retK {L:Type} (K:Out→TE T.toTT0→TH T.toTT0→Raw P T pro L) (eh:EH T):Raw P T pro L :=
 match isX eh with
 | some u=>K (.panic u) [] []
 | none=>K .ret eh.1 eh.2
theorem KP.none {L:Type} {K:TE T.toTT0→TH T.toTT0→Raw P T pro L} {Q:L→Prop} (h:Sat (K [] []) Q):KP K Q nE []:=⟨[],[],rfl,rfl,h⟩
theorem zpt {L:Type} {K:Out→TE T.toTT0→TH T.toTT0→Raw P T pro L} {Q:L→Prop} {eh:EH T} {o:Out} {E:Env} {H0:H} (hr:zau eh o E H0) (hs:Sat (retK K eh) Q):KP (K o) Q E H0:=by
 unfold zau at hr
 unfold retK at hs
 cases hx:isX eh with
 | none =>
  rw [hx] at hr hs
  obtain ⟨rfl,rfl,rfl⟩:=hr
  exact ⟨_,_,rfl,rfl,hs⟩
 | some u =>
  rw [hx] at hr hs
  obtain ⟨rfl,rfl,rfl⟩:=hr
  exact KP.none hs
def scsT:List (VT T)→Option (List Value)
 | []=>some []
 | x::l=>match asc x,scsT l with | some v,some vs=>some (v::vs) | _,_=>none
def panV:VT T→Option Value
 | .ag cs=>match scsT cs with | some vs=>some (.agg vs.toArray) | none=>none
 | v=>asc v
theorem zif {H0:H}:∀ (l:List (VT T)) (vs:List Value),scsT l=some vs→scL (denL T.toTT0 H0 l)=some vs
 | [],_,h=>by cases h; rfl
 | x::l,vs,h=>by
  unfold scsT at h
  split at h
  ·rename_i v vs' h1 h2
   cases h
   simp only [denL,z2b h1,scL,zif l vs' h2]
  ·cases h
theorem zpo {H0:H} {v:VT T} {u:Value} (h:panV v=some u):scAV (den T.toTT0 H0 v)=some u:=by
 unfold panV at h
 split at h
 ·split at h
  ·rename_i vs hv
   cases h
   simp only [den,scAV,zif _ _ hv]
  ·cases h
 ·rw [z2b h]; rfl
def zj1 {L:Type}:List (Raw P T pro L)→Raw P T pro L
 | []=>.no
 | [a]=>a
 | a::l=>.both a (zj1 l)
theorem zec {L:Type} {Q:L→Prop}:∀ (l:List (Raw P T pro L)),Sat (zj1 l) Q→∀ a ∈ l,Sat a Q
 | [],h,a,ha=>(nomatch ha)
 | [x],h,a,ha=>by
  have:a=x:=by simpa using ha
  rw [this]; exact h
 | x::y::l,h,a,ha=>by
  rcases List.mem_cons.1 ha with rfl | ha
  ·exact h.1
  ·exact zec (y::l) h.2 a ha
def zg7 (pre:List (Ins×List Nat)) (D:List Nat):List Nat:=(List.range pre.length).filter fun i=>!D.contains i && (match pre[i]? with | some x=>x.2.all D.contains | none=>false)
def evA (pro:List Nat) (cx:Cx P T) (pre:List (Ins×List Nat)) (D:Dr):Nat→List Nat→TE T.toTT0→TH T.toTT0→Raw P T pro (EH T⊕Value)
 | 0,_,_,_=>.no
 | n+1,dn,e,h=>bif (List.range pre.length).all dn.contains then Raw.ofRs (fun eh=>.leaf (.inl eh)) (cnv pro D e h)
  else zj1 ((zg7 pre dn).map fun i=>match pre[i]? with
   | some x=>z8s e x.1.guard (fun e=>zgd pro cx x.1 e h (fun e h=>evA pro cx pre D n (i::dn) e h) (fun u _ _=>.leaf (.inr u))) (fun e=>evA pro cx pre D n (i::dn) (putE e x.1.dst (zdj x.1.op)) h)
   | none=>.no)
def FN (P:Program) (pro:List Nat) (r:EH T⊕Value) (E:Env) (H0:H):Prop:=∃ eh,r = .inl eh∧zb P pro E H0 (denE T.toTT0 (denH T.toTT0 eh.2) eh.1) (denH T.toTT0 eh.2)
theorem RunA.mono {pre:List (Ins×List Nat)} {F F':Env→H→Prop} {FX FX':Value→Prop} (hF:∀ e h,F e h→F' e h) (hX:∀ u,FX u→FX' u):∀ (n:Nat) (D:List Nat) (e:Env) (h:H),RunA P pro pre F FX n D e h→RunA P pro pre F' FX' n D e h
 | 0,D,e,h,hr=>⟨hr.1,hF _ _ hr.2⟩
 | n+1,D,e,h,hr=>by
  rcases hr with ⟨h1,h2⟩ | ⟨h1,h2⟩
  ·exact .inl ⟨h1,hF _ _ h2⟩
  ·refine .inr ⟨h1,fun i x hx hi hd=>?_⟩
   obtain ⟨e0,h0,g,hr⟩:=h2 i x hx hi hd
   refine ⟨e0,h0,g,?_⟩
   rcases hr with ⟨hw,hr⟩ | ⟨hw,e1,h1',hs,hr⟩ | ⟨hw,u,hx,hp,hu⟩
   ·exact .inl ⟨hw,RunA.mono hF hX n _ _ _ hr⟩
   ·exact .inr (.inl ⟨hw,e1,h1',hs,RunA.mono hF hX n _ _ _ hr⟩)
   ·exact .inr (.inr ⟨hw,u,hx,hp,hX u hu⟩)
theorem RunA.ghost {pre:List (Ins×List Nat)} {F:Env→H→Prop} {FX:Value→Prop} (hF:∀ e h e1 h1,zb P pro e h e1 h1→F e1 h1→F e h) {n:Nat} {D:List Nat} {e e1:Env} {h h1:H} (g:zb P pro e h e1 h1) (hr:RunA P pro pre F FX n D e1 h1):RunA P pro pre F FX n D e h:=by
 cases n with
 | zero=>exact ⟨hr.1,hF _ _ _ _ g hr.2⟩
 | succ n =>
  rcases hr with ⟨h1,h2⟩ | ⟨h1,h2⟩
  ·exact .inl ⟨h1,hF _ _ _ _ g h2⟩
  ·refine .inr ⟨h1,fun i x hx hi hd=>?_⟩
   obtain ⟨e0,h0,g',hr⟩:=h2 i x hx hi hd
   exact ⟨e0,h0,g.trans g',hr⟩
theorem FN.ghost {r:EH T⊕Value} {E E1:Env} {H0 H1:H} (g:zb P pro E H0 E1 H1) (h:FN P pro r E1 H1):FN P pro r E H0:=by
 obtain ⟨eh,h1,h2⟩:=h
 exact ⟨eh,h1,g.trans h2⟩
theorem zfj {cx:Cx P T} {pre:List (Ins×List Nat)} {D:Dr} {r:EH T⊕Value}:∀ (n:Nat) (dn:List Nat) (e:TE T.toTT0) (h:TH T.toTT0),Sat (evA pro cx pre D n dn e h) (fun l=>l=r) →
  RunA P pro pre (FN P pro r) (fun u=>r = .inr u) n dn (denE T.toTT0 (denH T.toTT0 h) e) (denH T.toTT0 h)
 | 0,_,_,_,hs=>hs.elim
 | n+1,dn,e,h,hs=>by
  simp only [evA] at hs
  cases hb:(List.range pre.length).all dn.contains with
  | true =>
   rw [hb,cond_true] at hs
   obtain ⟨eh,q1,q2⟩:=Sat.ofRs _ hs
   have q2:Sum.inl eh=r:=q2
   exact .inl ⟨fun i hi=>by simpa using List.all_eq_true.1 hb i (List.mem_range.2 hi),eh,q2.symm,z2w q1⟩
  | false =>
   rw [hb,cond_false] at hs
   refine .inr ⟨?_,fun i x hx hi hd=>?_⟩
   ·rw [List.all_eq_false] at hb
    obtain ⟨i,h1,h2⟩:=hb
    exact ⟨i,List.mem_range.1 h1,by simpa using h2⟩
   ·have hlt:i<pre.length:=(List.getElem?_eq_some_iff.1 hx).1
    have hm:i ∈ zg7 pre dn:=by
     unfold zg7
     rw [List.mem_filter]
     refine ⟨List.mem_range.2 hlt,?_⟩
     simp only [hx,Bool.and_eq_true,Bool.not_eq_true',List.all_eq_true]
     exact ⟨by simpa using hi,fun d hdd=>by simpa using hd d hdd⟩
    have hone:=zec _ hs _ (List.mem_map.2 ⟨i,hm,rfl⟩)
    simp only [hx] at hone
    obtain ⟨e',he,h1 | h1⟩:=z7w (H0:=denH T.toTT0 h) hone
    ·rcases zet h1.2 with ⟨e0,h0,e1,h1',e2,h2,g1,gb,g2,g3,e4,h4,rfl,rfl,hK⟩ | ⟨e0,h0,u,ex,hx,g1,gb,g2,_,hK⟩
     ·rw [he] at g1 gb
      have hK:Sat (evA pro cx pre D n (i::dn) e4 h4) (fun l=>l=r):=hK
      exact ⟨e0,h0,g1,.inr (.inl ⟨z70 h1.1 gb,e1,h1',g2,RunA.ghost (fun _ _ _ _=>FN.ghost) g3 (zfj n (i::dn) e4 h4 hK)⟩)⟩
     ·rw [he] at g1 gb
      have hK:Sum.inr u=r:=hK
      exact ⟨e0,h0,g1,.inr (.inr ⟨z70 h1.1 gb,u,_,g2,hK.symm⟩)⟩
    ·have:=zfj n (i::dn) _ h h1.2
     rw [zr,he,z6g] at this
     exact ⟨_,_,zb.rfl',.inl ⟨h1.1,this⟩⟩
def zj5 (e:TE T.toTT0) (c:Operand) (b:Bool):TE T.toTT0:=match c with | .tmp s=>putE e s (.bk b) | _=>e
def evC (cx:Cx P T):IC→An P T pro→{L:Type}→TE T.toTT0→TH T.toTT0→(Out→TE T.toTT0→TH T.toTT0→Raw P T pro L)→Raw P T pro L
 | .reg keep l,_,_,e,h,K=>evRX pro cx l e h (fun e h=>K .normal (z9q keep e) h) (fun u e h=>K (.panic u) e h)
 | .pan l d t x,_,_,e,h,K=>evR pro cx l e h fun e h=>match panV (evT e x) with | some u=>K (.panic (.iface t u)) (ptT (putE e d .un)) h | none=>.no
 | .draw keep pre tail,an,_,e,h,K =>
  match an with
  | .alls S Z enc encV D=>.alls enc encV (evA pro cx pre D (pre.length+1) [] e h) (fun s=>evR pro cx tail (enc s).1 (enc s).2 fun e h=>K .normal (z9q keep e) h) (fun z=>K (.panic (encV z)) [] [])
  | _=>zdw pro cx keep pre tail e h (K .normal)
 | .bad,_,_,_,_,_=>.no
 | .skip,_,_,e,h,K=>K .normal e h
 | .ret,_,_,e,h,K=>K .ret e h
 | .exit id,_,_,e,h,K=>K (.exit id) e h
 | .seq x y,an,_,e,h,K =>
  match an with
  | .join S enc D a b=>.join enc (evC cx x a e h (ztz pro D K)) fun s=>evC cx y b (enc s).1 (enc s).2 K
  | an=>evC cx x an.l e h (seqK (fun e h=>evC cx y an.r e h K) K)
 | .cond c x y,an,_,e,h,K =>
  match evT e c with
  | .bk true=>evC cx x an.l e h K
  | .bk false=>evC cx y an.r e h K
  | .sc (.bool b)=>.ite b (evC cx x an.l (zj5 e c true) h K) (evC cx y an.r (zj5 e c false) h K)
  | _=>.no
 | .block id x,an,_,e,h,K=>evC cx x an.l e h (zjv id K)
 | .loop x,an,_,e,h,K =>
  match an with
  | .loop _ c ret D=>Raw.ofRs (fun eh=>bif ret then .loopR c x eh (fun v y=>K (.exit (c v).id) ((c v).encY y).1 ((c v).encY y).2) (fun v z=>retK K ((c v).encZ z))
    else .loop c x eh (fun v y=>K (.exit (c v).id) ((c v).encY y).1 ((c v).encY y).2)) (cnv pro D e h)
  | _=>.no
theorem zfy {e:TE T.toTT0} {H0:H} {c:Operand} {b:Bool} (hc:evT e c = .sc (.bool b)):denE T.toTT0 H0 (zj5 e c b)=denE T.toTT0 H0 e:=by
 cases c with
 | tmp s=>exact z46 hc
 | _=>rfl
theorem z2r {cx:Cx P T}:∀ (c:IC) (an:An P T pro) {L:Type} (e:TE T.toTT0) (h:TH T.toTT0) (K:Out→TE T.toTT0→TH T.toTT0→Raw P T pro L) (Q:L→Prop),Sat (evC cx c an e h K) Q →
  W P pro c (fun o E H0=>KP (K o) Q E H0) (denE T.toTT0 (denH T.toTT0 h) e) (denH T.toTT0 h)
 | .reg keep l,_,_,e,h,K,Q,hs=>by
  rcases zdx l e h hs with ⟨E,H',r,e2,h2,rfl,rfl,hK⟩ | ⟨u,E,ex,hx,r,hle,hK⟩
  ·exact W.regG ⟨_,_,r,_,_,(zai keep e2).symm,rfl,hK⟩
  ·exact ⟨_,_,_,.after (.regX r) (zb.le hle),ex,hx,rfl,rfl,hK⟩
 | .pan l d t x,_,_,e,h,K,Q,hs=>by
  obtain ⟨E,H',r,e2,h2,rfl,rfl,hK⟩:=zad l e h hs
  dsimp only at hK
  split at hK
  ·rename_i u hu
   exact ⟨_,_,_,.after (.pan r (by rw [ze]; exact zpo hu)) (zb.le fun t=>by
    have:=zm7 (T:=T) (H0:=denH T.toTT0 h2) (H1:=denH T.toTT0 h2) (putE e2 d .un) t
    rwa [zr] at this),_,h2,rfl,rfl,hK⟩
  ·exact hK.elim
 | .draw keep pre tail,an,_,e,h,K,Q,hs=>by
  cases an with
  | alls S Z enc encV D =>
   obtain ⟨r,h1,h2⟩:=hs
   have ha:=zfj (r:=Sum.map enc encV r) (pre.length+1) [] e h h1
   cases r with
   | inl s =>
    obtain ⟨E,H',hr,e2,h2',rfl,rfl,hK⟩:=zad tail _ _ h2
    refine ⟨.normal,_,_,.allN (F:=fun E H0=>zb P pro E H0 (denE T.toTT0 (denH T.toTT0 (enc s).2) (enc s).1) (denH T.toTT0 (enc s).2)) (fun e1 h1 g=>.ghost g hr) (RunA.mono (fun E H0 hf=>?_) (fun u hu=>?_) _ _ _ _ ha),_,_,(zai keep e2).symm,rfl,hK⟩
    ·obtain ⟨eh,q1,q2⟩:=hf
     cases q1
     exact q2
    ·cases hu
   | inr z =>
    exact ⟨.panic (encV z),_,_,.allX (RunA.mono (fun E H0 hf=>by obtain ⟨eh,q1,q2⟩:=hf; cases q1) (fun u hu=>by cases hu; rfl) _ _ _ _ ha),KP.none h2⟩
  | no=>exact z6q (Q':=fun o E H0=>KP (K o) Q E H0) (fun E H0 hk=>hk) hs
  | two _ _=>exact z6q (Q':=fun o E H0=>KP (K o) Q E H0) (fun E H0 hk=>hk) hs
  | join _ _ _ _ _=>exact z6q (Q':=fun o E H0=>KP (K o) Q E H0) (fun E H0 hk=>hk) hs
  | loop _ _ _ _=>exact z6q (Q':=fun o E H0=>KP (K o) Q E H0) (fun E H0 hk=>hk) hs
 | .bad,_,_,_,_,_,_,hs=>hs.elim
 | .skip,_,_,e,h,K,Q,hs=>W.skip ⟨e,h,rfl,rfl,hs⟩
 | .ret,_,_,e,h,K,Q,hs=>W.ret ⟨e,h,rfl,rfl,hs⟩
 | .exit id,_,_,e,h,K,Q,hs=>W.exit ⟨e,h,rfl,rfl,hs⟩
 | .seq x y,an,L,e,h,K,Q,hs=>by
  have plain:∀ (a b:An P T pro),Sat (evC cx x a e h (seqK (fun e h=>evC cx y b e h K) K)) Q→W P pro (.seq x y) (fun o E H0=>KP (K o) Q E H0) (denE T.toTT0 (denH T.toTT0 h) e) (denH T.toTT0 h):=fun a b hs=>by
   refine W.seq (W.mono (z2r x a e h _ Q hs) fun o E H0 hk=>?_)
   cases o with
   | normal =>
    obtain ⟨e1,h1,rfl,rfl,hK⟩:=hk
    exact z2r y b e1 h1 K Q hK
   | exit id=>exact hk
   | ret=>exact hk
   | panic u=>exact hk
  cases an with
  | alls _ _ _ _ _=>exact plain _ _ hs
  | join S enc D a b =>
   have ih:=z2r x a e h _ _ hs
   refine W.seq (W.mono ih fun o E H0 hk=>?_)
   cases o with
   | normal =>
    obtain ⟨e1,h1,rfl,rfl,hK⟩:=hk
    obtain ⟨eh,q1,s,q2,q3⟩:=Sat.ofRs _ hK
    subst q2
    exact W.ghost (z2w q1) (z2r y b _ _ K Q q3)
   | exit id =>
    obtain ⟨e1,h1,rfl,rfl,hK⟩:=hk
    exact ⟨e1,h1,rfl,rfl,Sat.map (L:=L) (L':=EH T⊕L) Sum.inr (K _ e1 h1) _ hK⟩
   | ret =>
    obtain ⟨e1,h1,rfl,rfl,hK⟩:=hk
    exact ⟨e1,h1,rfl,rfl,Sat.map (L:=L) (L':=EH T⊕L) Sum.inr (K _ e1 h1) _ hK⟩
   | panic u =>
    obtain ⟨e1,h1,rfl,rfl,hK⟩:=hk
    exact ⟨e1,h1,rfl,rfl,Sat.map (L:=L) (L':=EH T⊕L) Sum.inr (K _ e1 h1) _ hK⟩
  | no=>exact plain _ _ hs
  | two a b=>exact plain _ _ hs
  | loop V c ret D=>exact plain _ _ hs
 | .cond c x y,an,_,e,h,K,Q,hs=>by
  simp only [evC] at hs
  split at hs
  ·rename_i hv
   exact W.condT (by rw [ze,hv]; rfl) (z2r x an.l e h K Q hs)
  ·rename_i hv
   exact W.condF (by rw [ze,hv]; rfl) (z2r y an.r e h K Q hs)
  ·rename_i b hv
   refine W.cond (b:=b) (by rw [ze,hv]; rfl) (fun hb=>?_) (fun hb=>?_)
   ·subst hb
    have:=z2r x an.l _ h K Q (hs.1 rfl)
    rwa [zfy hv] at this
   ·subst hb
    have:=z2r y an.r _ h K Q (hs.2 rfl)
    rwa [zfy hv] at this
  ·exact hs.elim
 | .block id x,an,_,e,h,K,Q,hs=>by
  refine W.block (W.mono (z2r x an.l e h _ Q hs) fun o E H0 hk=>?_)
  cases o with
  | normal=>exact hk
  | ret=>exact hk
  | panic u=>exact hk
  | exit id' =>
   simp only [z9p]
   simp only [zjv,zy] at hk
   split
   ·rename_i e; simpa [e] using hk
   ·rename_i e; simpa [e] using hk
 | .loop x,an,_,e,h,K,Q,hs=>by
  cases an with
  | loop V c ret D =>
   obtain ⟨eh,q1,q2⟩:=Sat.ofRs _ hs
   refine W.ghost (z2w q1) ?_
   cases ret with
   | true =>
    obtain ⟨v,hb,x',b,q3,q4,q5⟩:=q2
    subst hb q3
    refine W.mono ((c v).ok x' b q4) fun o E H0 hk=>?_
    cases b with
    | go _=>exact hk.elim
    | out y =>
     obtain ⟨rfl,rfl,rfl⟩:=hk
     exact ⟨_,_,rfl,rfl,q5⟩
    | ret z=>exact zpt hk.2 q5
   | false =>
    obtain ⟨v,hb,x',y,q3,_,q4,q5⟩:=q2
    subst hb q3
    refine W.mono ((c v).ok x' _ q4) fun o E H0 hk=>?_
    obtain ⟨rfl,rfl,rfl⟩:=hk
    exact ⟨_,_,rfl,rfl,q5⟩
  | no=>exact hs.elim
  | alls _ _ _ _ _=>exact hs.elim
  | two _ _=>exact hs.elim
  | join _ _ _ _ _=>exact hs.elim
def zoj (pro:List Nat) (id:Nat) (DX DY DZ:Dr):Out→TE T.toTT0→TH T.toTT0→Raw P T pro (Bo (EH T) (EH T) (EH T))
 | .normal,e,h=>Raw.ofRs (fun eh=>.leaf (.go eh)) (cnv pro DX e h)
 | .exit id',e,h=>bif Nat.beq id' id then Raw.ofRs (fun eh=>.leaf (.out eh)) (cnv pro DY e h) else .no
 | .ret,e,h=>Raw.ofRs (fun eh=>match isX eh with | none=>.leaf (.ret eh) | some _=>.no) (cnv pro DZ e h)
 | .panic u,_,_=>.leaf (.ret (ofX u))
def encB {X Y Z E:Type} (a:X→E) (b:Y→E) (c:Z→E):Bo X Y Z→Bo E E E
 | .go x=>.go (a x)
 | .out y=>.out (b y)
 | .ret z=>.ret (c z)
noncomputable def lcon {X Y Z:Type} (cx:Cx P T) (x:IC) (an:X→An P T pro) (id:Nat) (ret:Bool) (DX DY DZ:Dr) (encX:X→EH T) (encY:Y→EH T) (encZ:Z→EH T) (n:Nat) (t:X→Pt P T pro (Bo X Y Z)) (hret:ret=false→Z→False:=by first | (intro h; cases h; done) | (intro _ z; cases z))
  (ht:∀ s,evC cx x (an s) (encX s).1 (encX s).2 (zoj pro id DX DY DZ)=(t s).raw (encB encX encY encZ):=by intro s; kernel_rfl):LCon P T pro where
 body:=x
 X:=X
 Y:=Y
 Z:=Z
 encX:=encX
 encY:=encY
 encZ:=encZ
 id:=id
 ret:=ret
 G:=iter (fun s=>(t s).run) n
 ok:=by
  have round:∀ s b,(t s).run=some b→W P pro x (fun o E H0=>match b with
    | .go x'=>o = .normal∧∃ e h,Gh P pro T e h (encX x').1 (encX x').2∧E=denE T.toTT0 (denH T.toTT0 h) e∧H0=denH T.toTT0 h
    | .out y=>o = .exit id∧∃ e h,Gh P pro T e h (encY y).1 (encY y).2∧E=denE T.toTT0 (denH T.toTT0 h) e∧H0=denH T.toTT0 h
    | .ret z=>o ≠ .normal∧∃ E1 H1,zb P pro E H0 E1 H1∧zau (encZ z) o E1 H1) (denE T.toTT0 (denH T.toTT0 (encX s).2) (encX s).1) (denH T.toTT0 (encX s).2):=by
   intro s b hb
   have h1:=z1o (encB encX encY encZ) (t s) b hb
   rw [← ht s] at h1
   refine W.mono (z2r x (an s) _ _ _ _ h1) fun o E H0 hk=>?_
   obtain ⟨e,h,rfl,rfl,hK⟩:=hk
   cases o with
   | normal =>
    obtain ⟨eh,q1,q2⟩:=Sat.ofRs _ hK
    cases b <;> cases q2
    exact ⟨rfl,e,h,z2w q1,rfl,rfl⟩
   | exit id' =>
    simp only [zoj,zy] at hK
    by_cases hid:id'=id
    ·subst hid
     simp only [decide_true,cond_true] at hK
     obtain ⟨eh,q1,q2⟩:=Sat.ofRs _ hK
     cases b <;> cases q2
     exact ⟨rfl,e,h,z2w q1,rfl,rfl⟩
    ·simp only [hid,decide_false,cond_false] at hK
     exact hK.elim
   | ret =>
    obtain ⟨eh,q1,q2⟩:=Sat.ofRs _ hK
    split at q2
    ·rename_i hx
     cases b <;> cases q2
     refine ⟨by simp,_,_,z2w q1,?_⟩
     unfold zau
     rw [hx]
     exact ⟨rfl,rfl,rfl⟩
    ·exact q2.elim
   | panic u =>
    have hK:Bo.ret (ofX u)=encB encX encY encZ b:=hK
    cases b with
    | go _=>cases hK
    | out _=>cases hK
    | ret z =>
     simp only [encB,Bo.ret.injEq] at hK
     refine ⟨by simp,nE,[],zb.fell,?_⟩
     unfold zau
     rw [← hK]
     exact ⟨rfl,rfl,rfl⟩
  intro s
  induction n generalizing s with
  | zero=>intro b hb; cases hb
  | succ k ih =>
   intro b hb
   unfold iter at hb
   split at hb
   ·rename_i s' hs
    refine W.loop (W.mono (round s _ hs) fun o E H0 hq=>?_)
    obtain ⟨rfl,e,h,g,rfl,rfl⟩:=hq
    exact W.ghost g (ih s' b hb)
   ·rename_i hne
    have hr:=round s _ hb
    cases b with
    | go s'=>exact absurd hb (hne s')
    | out y =>
     obtain ⟨o,E,H0,hex,rfl,e,h,g,rfl,rfl⟩:=hr
     exact ⟨_,_,_,.loopX (by simp) (.after hex g),rfl,rfl,rfl⟩
    | ret z =>
     obtain ⟨o,E,H0,hex,hno,E1,H1,g,hri⟩:=hr
     refine ⟨_,_,_,.loopX hno (.after hex g),?_,hri⟩
     cases hret':ret with
     | true=>rfl
     | false=>exact (hret hret' z).elim
end
def fnC (P:Program) (f:Nat) (ks:List (List Nat)):IC :=
 match P.funcs[f]? with
 | some fn=>match fn.body with
  | some code=>match z2x P fn.ntmps code ks with | some (c,_)=>c | none=>.skip
  | none=>.skip
 | none=>.skip
def fnTs (P:Program) (f:Nat):List RS :=
 match P.funcs[f]? with
 | some fn=>match z1u P fn.results.toList with | some ts=>ts | none=>[]
 | none=>[]
def fnN (P:Program) (f:Nat):Nat:=match P.funcs[f]? with | some fn=>fn.ntmps | none=>0
def zf3 (P:Program) (f:Nat) (ks:List (List Nat)):Bool :=
 match P.funcs[f]? with
 | some fn=>match fn.body with
  | some code=>(z2x P fn.ntmps code ks).isSome && (z1u P fn.results.toList).isSome
  | none=>false
 | none=>false
theorem zaz {P:Program} {f:Nat} {ks:List (List Nat)} (h:zf3 P f ks=true):FnIs P f (fnN P f) (fnC P f ks) (fnTs P f):=by
 unfold zf3 at h
 split at h
 ·rename_i fn hfn
  split at h
  ·rename_i code hc
   simp only [Bool.and_eq_true,Option.isSome_iff_exists] at h
   obtain ⟨⟨⟨c,ks'⟩,h1⟩,⟨ts,h2⟩⟩:=h
   refine ⟨fn,code,hfn,hc,?_,?_,ks,ks',?_⟩
   ·simp [fnN,hfn]
   ·simp [fnTs,hfn,h2]
   ·have:fnC P f ks=c:=by simp [fnC,hfn,hc,h1]
    rw [this]
    simp only [fnN,hfn]
    exact h1
  ·cases h
 ·cases h
def subC:List Nat→IC→IC
 | [],c=>c
 | 0::p,.seq x _=>subC p x
 | 0::p,.cond _ x _=>subC p x
 | 0::p,.block _ x=>subC p x
 | 0::p,.loop x=>subC p x
 | _::p,.seq _ y=>subC p y
 | _::p,.cond _ _ y=>subC p y
 | _,c=>c
section
variable {P:Program} {T:TT} {pro:List Nat}
def argT:Nat→List (VT T)→TE T.toTT0
 | _,[]=>[]
 | n,x::l=>(n,x)::argT (n+1) l
theorem z93 {H0:H}:∀ (l:List (VT T)) (n:Nat),denE T.toTT0 H0 (argT n l)=argE n (denL T.toTT0 H0 l)
 | [],_=>rfl
 | x::l,n=>by
  simp only [argT,denL,argE,← z93 l (n+1)]
  exact zr (e:=argT (n+1) l)
def finK (pro:List Nat) (D:Dr):Out→TE T.toTT0→TH T.toTT0→Raw P T pro (EH T)
 | .exit _,_,_=>.no
 | .panic _,_,_=>.no
 | _,e,h=>Raw.ofRs .leaf (cnv pro D e h)
def zsf (pro:List Nat) (D:Dr):Out→TE T.toTT0→TH T.toTT0→Raw P T pro (EH T)
 | .exit _,_,_=>.no
 | .panic u,_,_=>.leaf (ofX u)
 | _,e,h=>Raw.ofRs (fun eh=>match isX eh with | none=>.leaf eh | some _=>.no) (cnv pro D e h)
def rsT (e:TE T.toTT0) (h:TH T.toTT0):RS→Option (VT T)
 | .t s=>some (getE e s)
 | .c s agg n =>
  match getE e s with
  | .pt k [] i c=>match getT h k with
   | some (.lit _ xs)=>match xs[i]? with
    | some cs=>match zb3 agg n k [] i c cs with | .ok v=>some v | _=>none
    | none=>none
   | _=>none
  | _=>none
def rsTs (e:TE T.toTT0) (h:TH T.toTT0):List RS→Option (List (VT T))
 | []=>some []
 | r::l=>match rsT e h r,rsTs e h l with | some x,some xs=>some (x::xs) | _,_=>none
def retT (ts:List RS) (keys:List Nat) (eh:EH T):Option (VT T×TH T.toTT0) :=
 match rsTs eh.1 eh.2 ts,z5h eh.2 (keys.map fun k=>(k,k)) with
 | some l,some (ho,_)=>match z2t (keys.map fun k=>(k,k)) (match l with | [x]=>x | l=>.tu l) with
  | some r=>bif zi keys then some (r,ho) else none
  | none=>none
 | _,_=>none
theorem zs0 {e:TE T.toTT0} {h:TH T.toTT0} {r:RS} {v:VT T} (hr:rsT e h r=some v):rsAV (denE T.toTT0 (denH T.toTT0 h) e) (denH T.toTT0 h) r=some (den T.toTT0 (denH T.toTT0 h) v):=by
 cases r with
 | t s=>cases hr; rfl
 | c s agg n =>
  simp only [rsT] at hr
  split at hr
  ·rename_i k i c hp
   split at hr
   ·rename_i s' xs hg
    split at hr
    ·rename_i cs hcs
     split at hr
     ·rename_i w hl
      cases hr
      have hgr:za (denH T.toTT0 h) k=some ⟨s',xs.map (denL T.toTT0 [])⟩:=by rw [z1k,hg]; rfl
      have hres:res (denH T.toTT0 h) k []=some (s',xs.map (denL T.toTT0 [])):=by unfold res; rw [hgr]; rfl
      have:=z9v (T:=T) (agg:=agg) (n:=n) (k:=k) (i:=i) (c:=c) (p:=[]) (cs:=cs) (v:=v) hres (by simp [hcs]) (by rw [hl]; exact rfl)
      simp only [rsAV,rdop,ev,denE,hp,den,hres]
      exact this
     ·cases hr
    ·cases hr
   ·cases hr
  ·cases hr
theorem ze3 {e:TE T.toTT0} {h:TH T.toTT0}:∀ (ts:List RS) (l:List (VT T)),rsTs e h ts=some l→z4p (denE T.toTT0 (denH T.toTT0 h) e) (denH T.toTT0 h) ts=some (denL T.toTT0 (denH T.toTT0 h) l)
 | [],_,h=>by cases h; rfl
 | r::ts,l,hr=>by
  simp only [rsTs] at hr
  split at hr
  ·rename_i x xs h1 h2
   cases hr
   simp only [z4p,zs0 h1,ze3 ts xs h2,denL]
  ·cases hr
theorem zi8:∀ (ks:List Nat) (k:Nat),k ∈ ks→look (ks.map fun k=>(k,k)) k=some k
 | [],_,h=>by cases h
 | k'::ks,k,h=>by
  simp only [List.map_cons,look]
  split
  ·rename_i e; rw [e]
  ·rename_i hne
   refine zi8 ks k ?_
   rcases List.mem_cons.1 h with h | h
   ·exact absurd h.symm hne
   ·exact h
theorem zd7:∀ (ks:List Nat) (k n:Nat),z1e (ks.map fun k=>(k,k)) k=some n→n=k∧k ∈ ks
 | [],_,_,h=>by cases h
 | k'::ks,k,n,h=>by
  simp only [List.map_cons,z1e] at h
  split at h
  ·rename_i e; cases h; exact ⟨e,by simp [e]⟩
  ·obtain ⟨q1,q2⟩:=zd7 ks k n h
   exact ⟨q1,List.mem_cons_of_mem _ q2⟩
theorem zb8 {ts:List RS} {keys:List Nat} {eh:EH T} {r:VT T} {ho hin:TH T.toTT0} (hr:retT ts keys eh=some (r,ho)) (hin':(hin.map Prod.fst).all (fun k=>keys.contains k)=true) {o:Out} (hno:(match o with | .exit _=>False | .panic _=>False | _=>True)) :
  Ends ts (denH T.toTT0 hin) (den T.toTT0 (denH T.toTT0 ho) r) (denH T.toTT0 ho) o (denE T.toTT0 (denH T.toTT0 eh.2) eh.1) (denH T.toTT0 eh.2):=by
 unfold retT at hr
 split at hr
 ·rename_i l ho' left h1 h2
  split at hr
  ·rename_i r' hb
   cases hn:zi keys with
   | false=>rw [hn] at hr; cases hr
   | true =>
    rw [hn] at hr
    cases hr
    obtain ⟨s1,s2,s3⟩:=z3h _ _ _ _ h2
    have hk1:(keys.map fun k=>(k,k)).map Prod.fst=keys:=by rw [List.map_map]; exact List.map_id' _
    have hk2:(keys.map fun k=>(k,k)).map Prod.snd=keys:=by rw [List.map_map]; exact List.map_id' _
    refine ⟨hno,keys.map fun k=>(k,k),_,denH T.toTT0 left,?_,s1,by rw [hk1]; exact hn,z5j (Ho:=denH T.toTT0 eh.2) (fun k n q hkn=>?_) _ _ hb,?_⟩
    ·unfold z2z
     rw [ze3 _ _ h1]
     cases l with
     | nil=>rfl
     | cons x l=>cases l <;> rfl
    ·obtain ⟨e1,hk⟩:=zd7 keys k n hkn
     subst e1
     have:=s3 n n (by rw [hk1]; exact hn) (by rw [hk2]; exact hn) (List.mem_map.2 ⟨n,hk,rfl⟩)
     unfold zd res
     rw [this]
    ·rw [z1b,List.all_eq_true]
     intro k hk
     have:=List.all_eq_true.1 hin' k hk
     rw [zi8 keys k (by simpa using this)]
     simp
  ·cases hr
 ·cases hr
noncomputable def z1f {X R:Type} (cx:Cx P T) (f:Nat) (ks:List (List Nat)) (an:X→An P T pro) (A:List VD) (Hd:List (Nat×List Kd)) (Nk:List Nat) (D:Dr) (keys:List Nat) (strong:Bool)
  (encA:X→List (VT T)) (encH:X→TH T.toTT0) (encE:R→EH T) (encR:R→VT T) (encO:R→TH T.toTT0) (t:X→Pt P T pro R)
  (hf:zf3 P f ks=true:=by kernel_rfl)
  (ht:∀ x,evC cx (fnC P f ks) (an x) (argT 0 (encA x)) (encH x) (finK pro D)=(t x).raw encE:=by intro x; kernel_rfl)
  (hp:∀ x,(encH x).map Prod.fst=pro:=by intro x; kernel_rfl) (hk:pro.all (fun k=>keys.contains k)=true:=by kernel_rfl)
  (hr:∀ y,retT (fnTs P f) keys (encE y)=some (encR y,encO y):=by intro y; kernel_rfl)
  (hs:strong=true→∀ y,(z6w (encR y) && z67 (encO y))=true:=by first | (intro h; cases h; done) | (intro _ y; kernel_rfl)):Con P T where
 f:=f
 X:=X
 Y:=R
 A:=A
 H:=Hd
 N:=Nk
 encA:=encA
 encH:=encH
 G:=fun x=>(t x).run
 encR:=encR
 encO:=encO
 strong:=strong
 ok:=fun x y hx=>by
  have h1:=z1o encE (t x) y hx
  rw [← ht x] at h1
  have h2:=z2r _ (an x) _ _ _ _ h1
  rw [z93] at h2
  have hG:CallG P f (denL T.toTT0 (denH T.toTT0 (encH x)) (encA x)) (denH T.toTT0 (encH x)) (den T.toTT0 (denH T.toTT0 (encO y)) (encR y)) (denH T.toTT0 (encO y)):=by
   refine .of_E (zaz hf) ?_
   rw [z1b,hp x]
   obtain ⟨o,E,H0,hex,e,h,rfl,rfl,hK⟩:=h2
   cases o with
   | exit id=>exact hK.elim
   | panic u=>exact hK.elim
   | normal =>
    obtain ⟨eh,q1,q2⟩:=Sat.ofRs _ hK
    cases q2
    exact ⟨_,_,_,.after hex (z2w q1),zb8 (hr y) (by rw [hp x]; exact hk) trivial⟩
   | ret =>
    obtain ⟨eh,q1,q2⟩:=Sat.ofRs _ hK
    cases q2
    exact ⟨_,_,_,.after hex (z2w q1),zb8 (hr y) (by rw [hp x]; exact hk) trivial⟩
  refine ⟨fun hst=>?_,hG⟩
  have:=hs hst y
  simp only [Bool.and_eq_true] at this
  exact CallG.narrow hG (z7f _ this.1) (z68 _ this.2)
def zu1 {A B:Type}:A⊕B→Option A
 | .inl a=>some a
 | .inr _=>none
noncomputable def conX {X R Z:Type} (cx:Cx P T) (f:Nat) (ks:List (List Nat)) (an:X→An P T pro) (A:List VD) (Hd:List (Nat×List Kd)) (Nk:List Nat) (D:Dr) (keys:List Nat)
  (encA:X→List (VT T)) (encH:X→TH T.toTT0) (encE:R→EH T) (encR:R→VT T) (encO:R→TH T.toTT0) (encV:Z→Value) (t:X→Pt P T pro (R⊕Z))
  (hf:zf3 P f ks=true:=by kernel_rfl)
  (ht:∀ x,evC cx (fnC P f ks) (an x) (argT 0 (encA x)) (encH x) (zsf pro D)=(t x).raw (sumE encE fun z=>ofX (encV z)):=by intro x; kernel_rfl)
  (hp:∀ x,(encH x).map Prod.fst=pro:=by intro x; kernel_rfl) (hk:pro.all (fun k=>keys.contains k)=true:=by kernel_rfl)
  (hr:∀ y,retT (fnTs P f) keys (encE y)=some (encR y,encO y):=by intro y; kernel_rfl)
  (hx:∀ y,isX (encE y)=none:=by intro y; kernel_rfl):Con P T :=
 have key:∀ x r,(t x).run=some r→match r with
   | .inl y=>CallG P f (denL T.toTT0 (denH T.toTT0 (encH x)) (encA x)) (denH T.toTT0 (encH x)) (den T.toTT0 (denH T.toTT0 (encO y)) (encR y)) (denH T.toTT0 (encO y))
   | .inr z=>z4a P f (denL T.toTT0 (denH T.toTT0 (encH x)) (encA x)) (denH T.toTT0 (encH x)) (encV z):=fun x r hrun=>by
  have h1:=z1o (sumE encE fun z=>ofX (encV z)) (t x) r hrun
  rw [← ht x] at h1
  have h2:=z2r _ (an x) _ _ _ _ h1
  rw [z93] at h2
  obtain ⟨o,E,H0,hex,e,h,rfl,rfl,hK⟩:=h2
  have hkeys:(denH T.toTT0 (encH x)).map Prod.fst=pro:=by rw [z1b,hp x]
  have nor:∀ (r:R⊕Z),Sat (Raw.ofRs (fun eh=>match isX eh with | none=>(.leaf eh:Raw P T pro (EH T)) | some _=>.no) (cnv pro D e h)) (fun l=>l=sumE encE (fun z=>ofX (encV z)) r)→∃ y,r = .inl y∧(cnv pro D e h).gives (encE y):=fun r hK=>by
   obtain ⟨eh,q1,q2⟩:=Sat.ofRs _ hK
   split at q2
   ·rename_i hi
    have q2:eh=_:=q2
    subst q2
    cases r with
    | inl y=>exact ⟨y,rfl,q1⟩
    | inr z=>exact absurd hi (by simp [sumE,ofX,isX])
   ·exact q2.elim
  cases o with
  | exit id=>exact hK.elim
  | panic u =>
   have hK:ofX u=sumE encE (fun z=>ofX (encV z)) r:=hK
   cases r with
   | inl y =>
    have:=hx y
    simp only [sumE] at hK
    rw [← hK] at this
    exact absurd this (by simp [ofX,isX])
   | inr z =>
    simp only [sumE,ofX,Prod.mk.injEq,List.cons.injEq,TV.sc.injEq,and_true,true_and] at hK
    subst hK
    rw [← hkeys] at hex
    exact z4a.of_ex (zaz hf) hex
  | normal =>
   obtain ⟨y,rfl,q1⟩:=nor r hK
   rw [← hkeys] at hex
   refine CallG.of_E (zaz hf) ⟨_,_,_,.after hex (by rw [hkeys]; exact z2w q1),zb8 (hr y) (by rw [hp x]; exact hk) trivial⟩
  | ret =>
   obtain ⟨y,rfl,q1⟩:=nor r hK
   rw [← hkeys] at hex
   refine CallG.of_E (zaz hf) ⟨_,_,_,.after hex (by rw [hkeys]; exact z2w q1),zb8 (hr y) (by rw [hp x]; exact hk) trivial⟩
 { f:=f,X:=X,Y:=R,A:=A,H:=Hd,N:=Nk,encA:=encA,encH:=encH,encR:=encR,encO:=encO,strong:=false,x:=true,V:=Z,encV:=encV,FX:=fun x=>(t x).run,okX:=key,G:=fun x=>(t x).run.bind zu1,ok:=fun x y h=>⟨fun h=>(nomatch h),by
   obtain ⟨r,h1,h2⟩:=zj h
   cases r with
   | inl y'=>cases h2; exact key x _ h1
   | inr z=>cases h2⟩ }
def zs9 (P:Program) (T:TT) (f:Nat) {X R:Type} (encA:X→List (VT T)) (encR:R→VT T) (G:X→Option R):Prop :=
 ∀ x y,G x=some y→z1j P f (denL T.toTT0 [] (encA x)) [] (den T.toTT0 [] (encR y)) []
abbrev CtrQ (P:Program) (T:TT) (f:Nat) {X R:Type} (encA:X→List (VT T)) (encR:R→VT T):={G:X→Option R // zs9 P T f encA encR G}
def conB {X R:Type} (f:Nat) (A:List VD) (encA:X→List (VT T)) (encR:R→VT T) (q:CtrQ P T f encA encR):Con P T where
 f:=f
 X:=X
 Y:=R
 A:=A
 H:=[]
 N:=[]
 encA:=encA
 encH:=fun _=>[]
 G:=q.1
 encR:=encR
 encO:=fun _=>[]
 strong:=true
 ok:=fun x y h=>⟨fun _=>q.2 x y h,(q.2 x y h).toG⟩
def recQ {X R:Type} {f:Nat} {encA:X→List (VT T)} {encR:R→VT T} (s:CtrQ P T f encA encR→CtrQ P T f encA encR):Nat→CtrQ P T f encA encR
 | 0=>⟨fun _=>none,fun _ _ h=>nomatch h⟩
 | n+1=>s (recQ s n)
end
section
variable {El:Nat→Type} {T:TT0}
def gI (k:IntKind):TV El→Option Int
 | .sc (.int k' n)=>if k'=k then some n else none
 | .ik k' n=>if k'=k then some n else none
 | _=>none
def gB:TV El→Option Bool
 | .sc (.bool b)=>some b
 | .bk b=>some b
 | _=>none
def gS:TV El→Option ByteArray
 | .sc (.string b)=>some b
 | _=>none
def gM (t:Nat):TV El→Option (List (El t))
 | .im t' xs=>if h:t'=t then some (h ▸ xs) else none
 | _=>none
def gO (m:Bool) (t:Nat):TV El→Option (List (El t))
 | .ow m' t' xs=>if h:t'=t then (bif m==m' then some (h ▸ xs) else none) else none
 | _=>none
theorem z33 {k:IntKind} {v:TV T.El} {n:Int} {h:H} (hv:gI k v=some n):den T h v = .sc (.int k n):=by
 unfold gI at hv
 split at hv
 ·split at hv
  ·rename_i hk; cases hv; subst hk; rfl
  ·cases hv
 ·split at hv
  ·rename_i hk; cases hv; subst hk; rfl
  ·cases hv
 ·cases hv
theorem zoe {v:TV T.El} {b:Bool} {h:H} (hv:gB v=some b):den T h v = .sc (.bool b):=by
 unfold gB at hv
 split at hv
 ·cases hv; rfl
 ·cases hv; rfl
 ·cases hv
theorem zty {v:TV T.El} {b:ByteArray} {h:H} (hv:gS v=some b):den T h v = .sc (.string b):=by
 unfold gS at hv
 split at hv
 ·cases hv; rfl
 ·cases hv
theorem ztv {t:Nat} {v:TV T.El} {xs:List (T.El t)} {h:H} (hv:gM t v=some xs):den T h v = .im (T.sz t) (xs.map (T.ca false t)):=by
 unfold gM at hv
 split at hv
 ·split at hv
  ·rename_i hk; subst hk; cases hv; rfl
  ·cases hv
 ·cases hv
theorem ztw {m:Bool} {t:Nat} {v:TV T.El} {xs:List (T.El t)} {h:H} (hv:gO m t v=some xs):den T h v = .ow (T.sz t) (xs.map (T.ca m t)):=by
 unfold gO at hv
 split at hv
 ·split at hv
  ·rename_i m' _ _ hk
   subst hk
   cases hm:m==m' with
   | false=>rw [hm] at hv; cases hv
   | true =>
    rw [hm] at hv
    cases hv
    have:m=m':=by simpa using hm
    subst this; rfl
  ·cases hv
 ·cases hv
theorem z4l {l:List AV} (h:l.all (fun a=>!isZ a)=true):∀ a ∈ l,isZ a=false:=fun a ha=>by
 have:=List.all_eq_true.1 h a ha
 simpa using this
end
end Loom
namespace Loom
attribute [local instance] Dfs.none
open Go
section
variable {P:Program} {N:Nat}
theorem Now.callR {f:Nat} {fn:Func} {code:Code} {ts:List RS} {args:List AV} {r:AV} {hout:H} (h1:P.funcs[f]? = some fn) (h2:fn.body=some code) (h3:fn.ntmps=N) (h4:z1u P fn.results.toList=some ts) (hni:noIm r=true) (hnh:z2y hout=true)
  (hw:∀ (a:Act) (w0:World) (Q:Exit→Act→World→Prop),Now N w0 none (argE 0 args) [] a w0→(∀ e' a' w',z2z e' hout ts=some r→Now N w0 none e' hout a' w'→Q .ret a' w')→code.wp P Q a w0):z1j P f args [] r hout:=by
 intro I σ w vs hh hv
 apply calls_of_wp h1 h2
 have R:Rel I N σ (argE 0 args) [] { tmps:=vs.toArray++Array.replicate (fn.ntmps - vs.toArray.size) undef,defers:=[] } w:=by
  refine ⟨hh,?_,fun t=>?_,rfl⟩
  ·simp only [Array.size_append,Array.size_replicate,List.size_toArray]
   omega
  ·have:=z73 (I:=I) (σ:=σ) (B:=bl w) args 0 [] vs (List.replicate (fn.ntmps - vs.toArray.size) undef) rfl hv t
   have e2:(vs.toArray++Array.replicate (fn.ntmps - vs.toArray.size) undef)=(vs++List.replicate (fn.ntmps - vs.toArray.size) undef).toArray:=by
    apply Array.ext'
    simp
   simp only [e2]
   simpa [Array.getD_eq_getD_getElem?,List.getD_eq_getElem?_getD] using this
 refine hw _ w _ ⟨⟨I,σ,R,(fun x hx=>by cases hx),fun b ks hb=>by cases hb⟩,(fun b ks hb=>by cases hb),Le.refl w,fun _ _=>rfl⟩ fun e' a' w' hr n=>?_
 obtain ⟨⟨I',σ',R',hf,-⟩,-,le,old⟩:=n
 obtain ⟨u,q1,q2⟩:=z3t R' fn h4 hr
 have ls:=le.size
 have hJ:HRel (fun b=>I' b∨I b) σ' hout w':=R'.heap.wide (fun b hb=>.inl hb) (fun b hb h=>by
  rcases h with h | h
  ·exact (R'.heap.apart b hb).1 h
  ·have:=hh.low b h
   have:=hf b hb
   omega) (fun b hb=>by
  rcases hb with h | h
  ·exact R'.heap.low b h
  ·have:=hh.low b h; omega)
 exact ⟨R'.defers,u,q1,u,σ',rfl,HRel.narrow (fun b hb=>.inr hb) hnh hJ,Va.narrow _ _ hni (Va.wide (J:=fun b=>I' b∨I b) (fun b hb=>.inl hb) _ _ q2),(fun k hk=>by cases hk),le,(fun b hb _=>old b hb),fun b hb=>.inr (hf b hb)⟩
theorem zoz (w:World) (t e:TypeId) (a:Option Addr) (n c:Nat) (h:P.underlying t=some (.slice e)):(binOp .eql t (.slice a n c) (.slice none 0 0)).run P w = .ok (.bool a.isNone) w:=by
 have key:∀ d,(Op.equalIn (d+1) t (.slice a n c) (.slice none 0 0)).run P w = .ok a.isNone w:=fun d=>by
  cases a <;> simp [Op.equalIn,run_underlying h]
 simp only [binOp]
 simp [Op.equal,Op.maxDepth,key 9999]
theorem zuf {T:TT} {f:Nat} {fn:Func} {b:Code} {t el ty:Nat} (h1:P.funcs[f]? = some fn) (h2:fn.body=some b) (h3:fn.ntmps=8) (h4:z1u P fn.results.toList=some [.t 2])
  (hb:b = .seq (lf b) (.seq (.seq (.region (rid (lf (lf (rt b)))) (rops (lf (lf (rt b)))) false) (.cond (.tmp 4) (lf (rt (lf (rt b)))) .skip)) (rt (rt b))))
  (i0:IsC P 8 (lf b) (.reg [0] [⟨2,none,.rd (.mov (.const (.slice none 0 0)))⟩]))
  (hn:List.range (rops (lf (lf (rt b)))).size=[0,1])
  (o0:((rops (lf (lf (rt b))))[0]?).bind (comp P 8 (rops (lf (lf (rt b)))))=some ⟨3,none,.rd (.mov (.tmp 0))⟩)
  (o1:((rops (lf (lf (rt b))))[1]?).map (fun o=>(o.guard,o.dst,o.op))=some (none,some 4,.binOp .eql t (.tmp 3) (.const (.slice none 0 0)) t))
  (i2:IsC P 8 (lf (rt (lf (rt b)))) (.seq (.reg [2] [⟨2,none,.rd (.mov (.const (.slice none 0 0)))⟩]) .ret))
  {c3:IC} (i3:IsC P 8 (rt (rt b)) c3) (hu:P.underlying t=some (.slice el)) (hpl:T.pl ty=true) (xs:List (T.El ty))
  (hW:W P [] c3 (fun o e h=>o = .ret∧e 2 = .sl 100000 [] 0 xs.length∧h=[(100000,⟨T.sz ty,xs.map (T.ca false ty)⟩)]) (zu [(0,.im (T.sz ty) (xs.map (T.ca false ty)))]) []) :
  z1j P f [.im (T.sz ty) (xs.map (T.ca false ty))] [] (.sl 100000 [] 0 xs.length) [(100000,⟨T.sz ty,xs.map (T.ca false ty)⟩)]:=by
 have hni:z2y [(100000,(⟨T.sz ty,xs.map (T.ca false ty)⟩:Row))]=true:=by
  simp only [z2y,List.all_cons,List.all_nil,Bool.and_true]
  exact z80 (fun x=>T.pl_ok ty x hpl) xs
 refine Now.callR (N:=8) (fn:=fn) (ts:=[.t 2]) h1 h2 h3 h4 rfl hni fun a w0 Q nw hr=>?_
 have fin:∀ e' a' w',e' 2 = .sl 100000 [] 0 xs.length→Now 8 w0 none e' [(100000,⟨T.sz ty,xs.map (T.ca false ty)⟩)] a' w'→Q .ret a' w':=fun e' a' w' he n=>hr e' a' w' (by simp only [z2z,z4p,rsAV,he]) n
 rw [hb]
 refine wp_seq (nw.ex (c:=.reg [0] [⟨2,none,.rd (.mov (.const (.slice none 0 0)))⟩]) (R:=fun o e h=>o = .normal∧e=zu [(0,.im (T.sz ty) (xs.map (T.ca false ty)))]∧h=[]) i0 (W.regG (RG.fin 1 [] (zu [(0,.im (T.sz ty) (xs.map (T.ca false ty)))]) [] rfl ⟨rfl,rfl,rfl⟩)) ?_)
 rintro o e h a w ⟨rfl,rfl,rfl⟩ nw
 show (Code.seq _ _).wp _ _ _ _
 refine wp_seq ?_
 refine wp_seq (wp_region ?_)
 rw [hn]
 refine nw.rda (d:=3) (b:=.mov (.tmp 0)) (.im (T.sz ty) (xs.map (T.ca false ty))) o0 rfl fun a w nw=>?_
 obtain ⟨o,ho,hgd,hd,hop⟩:=zde o1
 obtain ⟨A,L,c,hv,hxs⟩:∃ (A:Option Addr) (L c:Nat),a.eval (.tmp 3) = .slice A L c∧(A=none→xs=[]):=by
  obtain ⟨⟨I,σ,R,-,-⟩,-,-,-⟩:=nw
  have:=R.vals 3
  simp only [upd,if_true] at this
  obtain ⟨A,c,h5,h6,h7⟩:=this
  refine ⟨A,_,c,h5,fun hA=>?_⟩
  cases xs with
  | nil=>rfl
  | cons x xs =>
   obtain ⟨A',_,_,_,h8,_⟩:=h7 (by simp)
   rw [hA] at h8; cases h8
 refine nw.val (v:=.bool A.isNone) ho hgd hd (by decide) (by
  have hc:a.eval (.const (.slice none 0 0)) = .slice none 0 0:=rfl
  simp only [execOp,hop,hv,hc,eqGuard,Sem.run_bind,Sem.run_pure,Result.andThen_ok]
  simp [zoz w t el A L c hu]) fun a nw=>?_
 have hic:IsC P 8 (.cond (.tmp 4) (lf (rt (lf (rt b)))) .skip) (.cond (.tmp 4) (.seq (.reg [2] [⟨2,none,.rd (.mov (.const (.slice none 0 0)))⟩]) .ret) .skip):=by
  obtain ⟨ks,ks',hc⟩:=i2
  exact ⟨ks,ks',by simp only [z2x,hc]⟩
 cases hA:A.isNone with
 | true =>
  have:xs=[]:=hxs (by simpa using hA)
  subst this
  rw [hA] at nw
  have nw:=nw.gh (P:=P) (e1:=zu [(4,Bl true)]) (h1:=[]) (zb.norm (bm:=[]) (S:=[4]) rfl)
  refine nw.ex (code:=.cond (.tmp 4) (lf (rt (lf (rt b)))) .skip) (c:=.cond (.tmp 4) (.seq (.reg [2] [⟨2,none,.rd (.mov (.const (.slice none 0 0)))⟩]) .ret) .skip)
   (R:=fun o e h=>o = .ret∧e 2 = .sl 100000 [] 0 0∧h=[(100000,⟨T.sz ty,[]⟩)]) ?_ (W.condT rfl (W.seq (W.regG (RG.fin 1 [] (zu [(2,.zs)]) [] rfl ?_)))) ?_
  ·exact hic
  ·refine W.ghost (zb.nil (t:=2) (d:=100000) (s:=T.sz ty) rfl (by simp) (by simp)) (W.ret ⟨rfl,?_,rfl⟩)
   simp [upd]
  ·rintro o e h a w ⟨rfl,he,rfl⟩ nw
   exact fin _ _ _ he nw
 | false =>
  rw [hA] at nw
  have nw:=nw.gh (P:=P) (e1:=zu [(0,.im (T.sz ty) (xs.map (T.ca false ty))),(4,Bl false)]) (h1:=[]) (zb.norm (bm:=[]) (S:=[0,4]) rfl)
  refine nw.ex (code:=.cond (.tmp 4) (lf (rt (lf (rt b)))) .skip) (c:=.cond (.tmp 4) (.seq (.reg [2] [⟨2,none,.rd (.mov (.const (.slice none 0 0)))⟩]) .ret) .skip)
   (R:=fun o e h=>o = .normal∧e=zu [(0,.im (T.sz ty) (xs.map (T.ca false ty))),(4,Bl false)]∧h=[]) ?_ (W.condF rfl (W.skip ⟨rfl,rfl,rfl⟩)) ?_
  ·exact hic
  ·rintro o e h a w ⟨rfl,rfl,rfl⟩ nw
   have nw:=nw.gh (P:=P) (e1:=zu [(0,.im (T.sz ty) (xs.map (T.ca false ty)))]) (h1:=[]) (zb.norm (bm:=[]) (S:=[0]) rfl)
   refine nw.ex i3 hW ?_
   rintro o e h a w ⟨rfl,he,rfl⟩ nw
   exact fin _ _ _ he nw
def zq1:Dr:=⟨[(2,.ref 100000)],[(100000,.any)]⟩
def zk1 {T:TT}:Out→TE T.toTT0→TH T.toTT0→Raw P T [] (EH T)
 | .normal,e,h=>Raw.ofRs .leaf (cnv [] zq1 e h)
 | _,_,_=>.no
theorem zuh {T:TT} {creg:IC} {cx:Cx P T} {ty:Nat} {xs:List (T.El ty)} (hs:Sat (evC cx creg .no [(0,.im ty xs)] [] zk1) (fun eh=>eh=([(2,.sw 100000 [])],[(100000,.typ false ty xs)]))) :
  W P [] (.seq creg .ret) (fun o e h=>o = .ret∧e 2 = .sl 100000 [] 0 xs.length∧h=[(100000,⟨T.sz ty,xs.map (T.ca false ty)⟩)]) (zu [(0,.im (T.sz ty) (xs.map (T.ca false ty)))]) []:=by
 refine W.seq ?_
 have h:=z2r (pro:=[]) creg .no [(0,.im ty xs)] [] zk1 _ hs
 have e0:denE T.toTT0 (denH T.toTT0 []) [(0,.im ty xs)]=zu [(0,.im (T.sz ty) (xs.map (T.ca false ty)))]:=by
  rw [show ([(0,TV.im ty xs)]:TE T.toTT0)=putE [] 0 (.im ty xs) from rfl,zr]
  rfl
 rw [e0] at h
 refine W.mono h fun o E H0 hk=>?_
 obtain ⟨e',h',rfl,rfl,hk⟩:=hk
 cases o with
 | normal =>
  obtain ⟨eh,q1,q2⟩:=Sat.ofRs _ hk
  have q2:eh=_:=q2
  subst q2
  refine W.ghost (z2w q1) (W.ret ⟨rfl,?_,rfl⟩)
  simp [denE,getE,den,zd,res,za,resE,denH,denR]
 | exit _=>exact hk.elim
 | ret=>exact hk.elim
 | panic _=>exact hk.elim
end
theorem zgt {I:Nat→Prop} {σ:Pl} {B:zh} {k:Nat} {p:Path} {i:Nat}:∀ (x:List Value) (c:Nat) (cs:List Value),CeC I σ B k p i c (x.map .sc) cs→cs=x∧∀ u ∈ x,u.oneCell'=true
 | [],_,_,h=>⟨h,fun _ h=>nomatch h⟩
 | u::x,c,cs,h=>by
  obtain ⟨v,cs',rfl,⟨rfl,h1⟩,h2⟩:=h
  obtain ⟨rfl,h3⟩:=zgt x (c+1) cs' h2
  refine ⟨rfl,fun u hu=>?_⟩
  rcases List.mem_cons.1 hu with rfl | hu
  ·exact h1
  ·exact h3 u hu
theorem zf6 {I:Nat→Prop} {σ:Pl} {B:zh} {k:Nat} {p:Path} {i:Nat}:∀ (x:List Value) (c:Nat),(∀ u ∈ x,u.oneCell'=true)→CeC I σ B k p i c (x.map .sc) x
 | [],_,_=>rfl
 | u::x,c,h=>⟨u,x,rfl,⟨rfl,h u (by simp)⟩,zf6 x (c+1) fun v hv=>h v (by simp [hv])⟩
theorem zh2 {σ:Pl} {k:Nat} {p:Path} {i:Nat}:∀ (x:List Value) (c:Nat),fpC σ k p i c (x.map .sc)=[]
 | [],_=>rfl
 | u::x,c=>by simp only [List.map_cons,fpC,fpA,zh2 x (c+1),List.append_nil]
theorem zgu {I:Nat→Prop} {σ:Pl} {B:zh} {k:Nat} {p:Path}:∀ (x:List Value) (i:Nat) (cs:List Value),CeE I σ B k p i 1 (x.map fun u=>[AV.sc u]) cs→cs.take x.length=x
 | [],_,_,_=>rfl
 | u::x,i,cs,h=>by
  obtain ⟨_,h1,h2⟩:=h
  obtain ⟨v,cs',h3,⟨rfl,_⟩,h4⟩:=h1
  have h5:=zgu x (i+1) _ h2
  cases cs with
  | nil=>simp at h3
  | cons w cs =>
   simp only [List.take_succ_cons,List.cons.injEq] at h3
   obtain ⟨rfl,_⟩:=h3
   simp only [List.length_cons,List.take_succ_cons,List.cons.injEq,true_and]
   simpa using h5
theorem zp5 {σ:Pl} {k:Nat} {p:Path}:∀ (x:List Value) (i:Nat),fpE σ k p i (x.map fun u=>[AV.sc u])=[]
 | [],_=>rfl
 | u::x,i=>by simp only [List.map_cons,fpE,fpC,fpA,zp5 x (i+1),List.append_nil]
theorem CallG.fields {P:Program} {f:Nat} {x:List Value} {cs:List Nat}
  (hc:∀ b,CallG P f [.pp (.xp b x 0)] [] (.sl 100000 [] 0 cs.length) [(100000,⟨1,cs.map fun c=>[.sc (.pointer (some ⟨b,c,none⟩))]⟩)]) :
  CallG P f [.pt 200000 [] 0 0] [(200000,⟨x.length,[x.map .sc]⟩)] (.pp (.fs 200000 cs)) [(200000,⟨x.length,[x.map .sc]⟩)]:=by
 intro I σ w vs hh hv
 obtain ⟨v,vs',rfl,⟨L,hL,rfl⟩,rfl⟩:=hv
 have hrow:zn I σ (bl w) 200000 ⟨x.length,[x.map .sc]⟩:=hh.ok.1
 have hrow0:=hrow
 unfold zn at hrow
 rw [hL] at hrow
 obtain ⟨hs,hcap,cur,E,hB,hsz,hE⟩:=hrow
 obtain ⟨_,hE1,_⟩:=hE
 obtain ⟨hx1,hx2⟩:=zgt _ _ _ hE1
 have hfp:fpH σ [(200000,⟨x.length,[x.map .sc]⟩)]=[L.b]:=by
  simp only [fpH,fpR,hL,fpE,zh2,List.append_nil]
 have hLb:=hh.apart L.b (by rw [hfp]; simp)
 have hhi:HRel (fun b=>I b∨b=L.b) σ [] w:=⟨trivial,List.nodup_nil,List.nodup_nil,fun b h=>(nomatch h),fun b h=>by
  rcases h with h | rfl
  ·exact hh.low b h
  ·exact hLb.2⟩
 rw [show 0 * L.s+0=0 by omega]
 refine (hc L.b _ σ w [.pointer (some ⟨L.b,0,none⟩)] hhi ⟨_,[],rfl,⟨rfl,.inr rfl,cur,E.t,E.fr,hB,hx1,hx2⟩,rfl⟩).mono ?_
 rintro en w' ⟨v,σ',I',rfl,h1,h2,h3,h4,_,h6,h7,h8⟩
 have hsame:bl w' L.b=bl w L.b:=h7 _ hLb.2 (fun h=>nomatch h)
 have hnf:∀ b ∈ fpH σ' [(100000,⟨1,cs.map fun c=>[AV.sc (.pointer (some ⟨L.b,c,none⟩))]⟩)],w.heap.size≤b:=fun b hb=>by
  rcases h8 b hb with h | h
  ·cases h
  ·exact h
 have hI2:∀ b,I' b→I b∨b=L.b∨w.heap.size≤b:=fun b hb=>by
  rcases h2 b hb with (h | h) | h | h
  ·exact .inl h
  ·exact .inr (.inl h)
  ·cases h
  ·exact .inr (.inr h)
 refine ⟨v,σ,fun b=>(I' b∧b ≠ L.b)∨b ∈ fpH σ' [(100000,⟨1,cs.map fun c=>[AV.sc (.pointer (some ⟨L.b,c,none⟩))]⟩)],rfl,fun b hb=>.inl ⟨h1 b (.inl hb),fun e=>hLb.1 (e ▸ hb)⟩,fun b hb=>?_,⟨?_,hh.keys,hh.nodup,fun b hb=>?_,fun b hb=>?_⟩,?_,fun _ _=>rfl,h6,fun b hb hn=>h7 b hb (fun h=>nomatch h),fun b hb=>.inl hb⟩
 ·rcases hb with ⟨hb,hne⟩ | hb
  ·rcases hI2 b hb with h | h | h
   ·exact .inl h
   ·exact absurd h hne
   ·exact .inr (.inr h)
  ·exact .inr (.inr (hnf b hb))
 ·refine ⟨?_,trivial⟩
  unfold zn
  rw [hL]
  refine ⟨hs,hcap,cur,E,hsame.trans hB,hsz,?_,?_,trivial⟩
  ·simp
  ·dsimp only
   rw [hx1]
   exact zf6 x 0 hx2
 ·rw [hfp] at hb
  have hb:b=L.b:=by simpa using hb
  subst hb
  refine ⟨fun h=>?_,Nat.lt_of_lt_of_le hLb.2 h6.size⟩
  rcases h with ⟨_,h⟩ | h
  ·exact h rfl
  ·exact absurd (hnf _ h) (by have:=hLb.2; omega)
 ·rcases hb with ⟨hb,_⟩ | hb
  ·exact h3.low b hb
  ·exact (h3.apart b hb).2
 ·refine ⟨L,?_⟩
  have hr:=h3.ok.1
  unfold zn at hr
  simp only [Va] at h4
  cases hσ:σ' 100000 [] with
  | none =>
   rw [hσ] at h4 hr
   obtain ⟨h5,_,a,rfl⟩:=h4
   simp only [List.map_eq_nil_iff] at hr
   subst hr
   exact ⟨a,0,hL,rfl,Nat.le_refl _,fun h=>absurd rfl h⟩
  | some L' =>
   rw [hσ] at h4 hr
   obtain ⟨a,c,rfl,h5,h9,ha⟩:=h4
   obtain ⟨s1,s2,cur',E',s3,s4,s5⟩:=hr
   refine ⟨some a,c,hL,rfl,h9,fun hne=>?_⟩
   have:=ha (by simp)
   subst this
   refine ⟨_,cur',E'.t,E'.fr,rfl,rfl,.inr ?_,s3,?_⟩
   ·simp only [fpH,fpR,hσ,List.mem_append,List.mem_cons]
    exact .inl (.inl trivial)
   ·have:=zgu (cs.map fun c=>Value.pointer (some ⟨L.b,c,none⟩)) 0 cur'.toList (by rw [List.map_map]; exact s5)
    simp only [Nat.zero_mul,List.drop_zero]
    rw [List.length_map] at this
    exact this
theorem CallG.fields' {P:Program} {f:Nat} {x:List Value} {cs:List Nat}
  (hc:∀ b,CallG P f [.pp (.xp b x 0)] [] (.sl 100000 [] 0 ((cs.map fun c=>(⟨b,c,none⟩:Addr)).map fun a=>[AV.sc (.pointer (some a))]).length) [(100000,⟨1,(cs.map fun c=>(⟨b,c,none⟩:Addr)).map fun a=>[AV.sc (.pointer (some a))]⟩)]) :
  CallG P f [.pt 200000 [] 0 0] [(200000,⟨x.length,[x.map .sc]⟩)] (.pp (.fs 200000 cs)) [(200000,⟨x.length,[x.map .sc]⟩)] :=
 CallG.fields fun b=>by
  have:=hc b
  rw [List.length_map,List.length_map,List.map_map] at this
  exact this
def gP {El:Nat→Type}:TV El→Option Addr
 | .sc (.pointer (some a))=>some a
 | _=>none
theorem ztx {T:TT0} {v:TV T.El} {a:Addr} {h:H} (hv:gP v=some a):den T h v = .sc (.pointer (some a)):=by
 unfold gP at hv
 split at hv
 ·cases hv; rfl
 ·cases hv
end Loom
