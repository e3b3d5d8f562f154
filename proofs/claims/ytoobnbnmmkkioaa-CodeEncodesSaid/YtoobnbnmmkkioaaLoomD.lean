/- Loom,an abstract machine over the kit's calculus: rows,z1o,stores,calls,regions,what they owe; and its evaluator (part 4 of 4). -/
import Derived.Test.YtoobnbnmmkkioaaLoomC
set_option linter.unusedVariables false
set_option linter.unusedSimpArgs false
set_option linter.unusedSectionVars false
namespace Loom
open Go
theorem WD.mono {P:Program} {K K':Env→H→Prop} {h0:H} (hk:∀ e h,K e h→K' e h):∀ (pre:List (Ins×List Nat)) (i:Nat) (e:Env) (acc:List (Nat×H)),WD P pre i e acc h0 K→WD P pre i e acc h0 K'
 | [],_,_,_,h=>⟨h.1,hk _ _ h.2⟩
 | _::pre,_,_,_,⟨av,rows,h1,h2⟩=>⟨av,rows,h1,WD.mono hk pre _ _ _ h2⟩
section
variable {P:Program} {T:TT} {pro:List Nat} {L:Type}
mutual
def swIn (ok:Nat→Bool):VT T→Bool
 | .sw k _=>ok k
 | .ag cs=>z8o ok cs
 | .tu cs=>z8o ok cs
 | .fn _ cs=>z8o ok cs
 | .un | .sc _ | .ik _ _ | .bk _ | .zs | .im _ _ | .ip _ _ _ | .sl _ _ _ _ | .pt _ _ _ _ | .ow _ _ _ | .oo _ _ _ _ _ | .pp _=>true
def z8o (ok:Nat→Bool):List (VT T)→Bool
 | []=>true
 | x::l=>swIn ok x && z8o ok l
end
mutual
theorem z91 {H0 H1:H} {ok:Nat→Bool} (hk:∀ k,ok k=true→za H1 k=za H0 k):∀ (v:VT T),swIn ok v=true→den T.toTT0 H1 v=den T.toTT0 H0 v
 | .sw k p,h=>by simp only [swIn] at h; simp only [den,z1d (hk k h)]
 | .ag cs,h=>by simp only [swIn] at h; simp only [den,z7n hk cs h]
 | .tu cs,h=>by simp only [swIn] at h; simp only [den,z7n hk cs h]
 | .fn _ cs,h=>by simp only [swIn] at h; simp only [den,z7n hk cs h]
 | .un,_ | .sc _,_ | .ik _ _,_ | .bk _,_ | .zs,_ | .im _ _,_ | .ip _ _ _,_ | .sl _ _ _ _,_ | .pt _ _ _ _,_ | .ow _ _ _,_ | .oo _ _ _ _ _,_ | .pp _,_=>rfl
theorem z7n {H0 H1:H} {ok:Nat→Bool} (hk:∀ k,ok k=true→za H1 k=za H0 k):∀ (v:List (VT T)),z8o ok v=true→denL T.toTT0 H1 v=denL T.toTT0 H0 v
 | [],_=>rfl
 | x::l,h=>by
  simp only [z8o,Bool.and_eq_true] at h
  simp only [denL,z91 hk x h.1,z7n hk l h.2]
end
def allE (ok:Nat→Bool):TE T.toTT0→Bool
 | []=>true
 | (_,v)::l=>swIn ok v && allE ok l
theorem zxc {H0 H1:H} {ok:Nat→Bool} (hk:∀ k,ok k=true→za H1 k=za H0 k):∀ (e:TE T.toTT0),allE ok e=true→denE T.toTT0 H1 e=denE T.toTT0 H0 e:=by
 intro e he
 funext t
 unfold denE
 refine z91 hk _ ?_
 induction e with
 | nil=>rfl
 | cons x l ih =>
  obtain ⟨k,v⟩:=x
  simp only [allE,Bool.and_eq_true] at he
  simp only [getE]
  cases Nat.beq t k
  ·exact ih he.2
  ·exact he.1
def hxT (D:List Nat):List (Nat×TH T.toTT0)→TH T.toTT0
 | []=>[]
 | (i,r)::l=>bif D.contains i then r++hxT D l else hxT D l
def z1h:List (Nat×TH T.toTT0)→TH T.toTT0
 | []=>[]
 | (_,r)::l=>r++z1h l
def accA (T:TT) (acc:List (Nat×TH T.toTT0)):List (Nat×H):=acc.map fun x=>(x.1,denH T.toTT0 x.2)
theorem zpb (D:List Nat):∀ (acc:List (Nat×TH T.toTT0)),hx D (accA T acc)=denH T.toTT0 (hxT D acc)
 | []=>rfl
 | (i,r)::l=>by
  have ih:=zpb D l
  simp only [accA,List.map_cons,hx,hxT]
  cases hc:D.contains i with
  | true=>simp only [if_true,cond_true,z2e]; rw [← ih]; rfl
  | false=>simp only [Bool.false_eq_true,if_false,cond_false]; rw [← ih]; rfl
theorem zgz:∀ (acc:List (Nat×TH T.toTT0)),z2l (accA T acc)=denH T.toTT0 (z1h acc)
 | []=>rfl
 | (i,r)::l=>by
  have ih:=zgz l
  simp only [accA,List.map_cons,z2l,z1h,z2e]
  rw [← ih]; rfl
theorem z7d:∀ (acc:List (Nat×TH T.toTT0)) (i:Nat) (r:TH T.toTT0),z1h (acc++[(i,r)])=z1h acc++r
 | [],_,_=>by simp [z1h]
 | (_,r')::l,i,r=>by simp [z1h,z7d l]
theorem zec (D:List Nat):∀ (acc:List (Nat×TH T.toTT0)) (z:Nat×TR T.El),z ∈ hxT D acc→z ∈ z1h acc
 | (i,r)::l,z,hz=>by
  simp only [hxT] at hz
  simp only [z1h,List.mem_append]
  cases hc:D.contains i with
  | true =>
   rw [hc,cond_true,List.mem_append] at hz
   exact hz.imp id (zec D l z)
  | false =>
   rw [hc,cond_false] at hz
   exact .inr (zec D l z hz)
theorem zf5:∀ (h:TH T.toTT0) (z:Nat×Row),z ∈ denH T.toTT0 h↔∃ k r,(k,r) ∈ h∧z=(k,denR T.toTT0 r)
 | [],z=>by simp [denH]
 | (k,r)::h,z=>by
  simp only [denH,List.mem_cons,zf5 h z]
  constructor
  ·rintro (rfl | ⟨k',r',h1,rfl⟩)
   ·exact ⟨k,r,.inl rfl,rfl⟩
   ·exact ⟨k',r',.inr h1,rfl⟩
  ·rintro ⟨k',r',h1 | h1,rfl⟩
   ·cases h1; exact .inl rfl
   ·exact .inr ⟨k',r',h1,rfl⟩
theorem zmg {hd ha:TH T.toTT0} (hn:zn (ha.map Prod.fst)=true) (hs:∀ z ∈ hd,z ∈ ha) (k:Nat) (hk:(hd.map Prod.fst).contains k=true):za (denH T.toTT0 ha) k=za (denH T.toTT0 hd) k:=by
 have hk':k ∈ (denH T.toTT0 hd).map Prod.fst:=by rw [z1i]; simpa using hk
 obtain ⟨r,hr⟩:=z7c _ _ hk'
 rw [hr]
 have hm:=z86 hr
 obtain ⟨k2,r2,h1,h2⟩:=(zf5 hd _).1 hm
 cases h2
 exact z85 (by rw [z1i]; exact zr _ hn) ((zf5 ha _).2 ⟨k,r2,hs _ h1,rfl⟩)
def z9r:List Kd→List (VT T)→List (VT T)
 | .im t::ks,.zs::l=>.im t []::z9r ks l
 | _::ks,v::l=>v::z9r ks l
 | _,l=>l
def zfK (T:TT) (ks:List Kd) (c:Nat):Option Nat:=match ks[c]? with | some (.im t)=>some (T.sz t) | _=>none
theorem zpu {f:Nat→Option Nat}:∀ (l:List AV) (c:Nat),(∀ j,f (c+j)=none)→zfA f c l=l
 | [],_,_=>rfl
 | a::l,c,h=>by
  have ih:=zpu (f:=f) l (c+1) fun j=>by rw [show c+1+j=c+(j+1) by omega]; exact h _
  have h0:=h 0
  rw [Nat.add_zero] at h0
  cases a <;> simp only [zfA,ih,h0]
theorem zjd {f:Nat→Option Nat}:∀ (ks:List Kd) (l:List (VT T)) (c:Nat),(∀ j,f (c+j)=zfK T ks j)→denL T.toTT0 [] (z9r ks l)=zfA f c (denL T.toTT0 [] l)
 | [],l,c,h=>by
  rw [zpu _ _ fun j=>by rw [h j]; simp [zfK]]
  cases l <;> rfl
 | k::ks,[],c,h=>by cases k <;> rfl
 | k::ks,v::l,c,h=>by
  have ih:=zjd (f:=f) ks l (c+1) fun j=>by
   rw [show c+1+j=c+(j+1) by omega,h (j+1)]
   simp [zfK]
  have h0:=h 0
  rw [Nat.add_zero] at h0
  cases k with
  | im t =>
   have h0:f c=some (T.sz t):=by rw [h0]; simp [zfK]
   cases v <;> first | (rename_i q; cases q <;> simp only [z9r,denL,den,denP,zfA,ih,h0,List.map_nil]; done) | simp only [z9r,denL,den,zfA,ih,h0,List.map_nil]
  | _ =>
   have h0:f c=none:=by rw [h0]; simp [zfK]
   cases v <;> first | (rename_i q; cases q <;> simp only [z9r,denL,den,denP,zfA,ih,h0]; done) | simp only [z9r,denL,den,zfA,ih,h0]
def mkD (ty:Option (Bool×Nat)) (e:TE T.toTT0) (d:Nat) (b:IB):Rs (VT T×TR T.El) :=
 bif (z2u b).all (fun o=>swIn (fun _=>false) (evT e o)) then
 match b with
 | .box s x =>
  match z5z (evT e x) with
  | none=>.no
  | some cs=>bif Nat.beq cs.length s then
   match zba (T:=T) [] [d] [cs] with
   | some (xs,_,[])=>.ok (.pt d [] 0 0,.lit s xs)
   | _=>.no
   else .no
 | .bsl s len zero parts =>
  match zbn (List.replicate len (z5n zero)).flatten (parts.map fun (i,x)=>(i * s,s,evT e x)) with
  | none=>.no
  | some cs =>
   match zba (T:=T) [] [d] (z70 s len cs) with
   | some (xs,_,[])=>.ok (.sw d [],match ty with
    | some (m,t)=>bif Nat.beq (T.sz t) s then (match unL m t xs with | some ys=>.typ m t ys | none=>.lit s xs) else .lit s xs
    | none=>.lit s xs)
   | _=>.no
 | .mks s bytes zero l =>
  match z7e (evT e l),ty with
  | some n,some (m,t)=>bif Nat.beq (T.sz t) s then
   match T.un m t (z9r (T.ks m t) (z5n zero)) with
   | some z=>.need (0≤n∧n * (bytes:Int)≤140737488355328) (.ok (.sw d [],.typ m t (List.replicate n.toNat z)))
   | none=>.no
   else .no
  | _,_=>.no
 | _=>.no
 else .no
theorem y73 {ty:Option (Bool×Nat)} {e:TE T.toTT0} {d:Nat} {b:IB} {v:VT T} {r:TR T.El} (H0:H) (hg:(mkD ty e d b).gives (v,r)) :
  (∃ zf rows0,mkop (ev (denE T.toTT0 H0 e)) [] d b=some (den T.toTT0 [(d,denR T.toTT0 r)] v,rows0)∧[(d,denR T.toTT0 r)]=zfH zf rows0)∧(v = .pt d [] 0 0∨v = .sw d []):=by
 have plain:∀ {b:IB} {v:VT T} {r:TR T.El},mkop (ev (denE T.toTT0 H0 e)) [] d b=some (den T.toTT0 [(d,denR T.toTT0 r)] v,[(d,denR T.toTT0 r)])→∃ zf rows0,mkop (ev (denE T.toTT0 H0 e)) [] d b=some (den T.toTT0 [(d,denR T.toTT0 r)] v,rows0)∧[(d,denR T.toTT0 r)]=zfH zf rows0:=fun h=>⟨fun _=>none,_,h,(zfn _).symm⟩
 unfold mkD at hg
 obtain ⟨hall,hg⟩:=zt hg
 have hden:∀ o ∈ z2u b,den T.toTT0 H0 (evT e o)=den T.toTT0 [] (evT e o):=fun o ho=>z91 (ok:=fun _=>false) (fun k h=>(by cases h)) _ (List.all_eq_true.1 hall o ho)
 have start:∀ k,[d].contains k=false→za (denH T.toTT0 ([]:TH T.toTT0)) k=za ([]:H) k:=fun _ _=>rfl
 cases b with
 | box s x =>
  dsimp only at hg
  split at hg
  ·exact hg.elim
  ·rename_i cs hcs
   obtain ⟨hl,hg⟩:=zt hg
   split at hg
   ·rename_i xs g ha
    cases hg
    obtain ⟨q1,q2,q3⟩:=z8z (H0:=[]) _ _ _ _ _ _ start ha
    have hc:=z78 (h:=[]) hcs
    refine ⟨plain ?_,.inl rfl⟩
    simp only [mkop,zg,hden x (by simp [z2u]),hc,z2o]
    rw [if_pos (Nat.eq_of_beq_eq_true hl)]
    simp only [List.map_cons,List.map_nil,denH] at q1
    simp only [zd,q1]
    simp [den,denR]
   ·exact hg.elim
 | bsl s len zero parts =>
  dsimp only at hg
  split at hg
  ·exact hg.elim
  ·rename_i cs hcs
   split at hg
   ·rename_i xs g ha
    obtain ⟨q1,q2,q3⟩:=z8z (H0:=[]) _ _ _ _ _ _ start ha
    have hf:=zbo (h:=[]) _ _ _ hcs
    rw [List.map_map] at hf
    have hxl:xs.length=len:=by rw [q3,zae]
    have key:∀ r:TR T.El,denR T.toTT0 r=⟨s,xs.map (denL T.toTT0 [])⟩→mkop (ev (denE T.toTT0 H0 e)) [] d (.bsl s len zero parts)=some (den T.toTT0 [(d,denR T.toTT0 r)] (.sw d []),[(d,denR T.toTT0 r)]):=by
     intro r hr
     have e0:denL T.toTT0 [] (List.replicate len (z5n zero)).flatten=(List.replicate len (zero.map cval)).flatten:=by
      rw [zz,List.map_flatten,List.map_replicate,← zz,z7m]
     have e1:(parts.map fun (i,x)=>(i * s,s,ev (denE T.toTT0 H0 e) x))=parts.map ((fun (o,n,x)=>(o,n,den T.toTT0 [] x)) ∘ fun (i,x)=>(i * s,s,evT e x)) :=
      List.map_congr_left fun ⟨i,x⟩ hix=>by simp only [Function.comp,zg,hden x (by simp only [z2u]; exact List.mem_map.2 ⟨(i,x),hix,rfl⟩)]
     simp only [mkop]
     rw [e1,← e0,hf]
     simp only
     rw [zbf] at q1
     simp only [denH] at q1
     simp only [zd,q1,hr]
     simp [den,ze,res,za,resE,hxl]
    cases hg
    refine ⟨plain (key _ ?_),.inr rfl⟩
    split
    ·rename_i m t
     cases hb:Nat.beq (T.sz t) s with
     | false=>rfl
     | true =>
      simp only [cond_true]
      split
      ·rename_i ys hy
       simp only [denR,zhr _ _ hy,Nat.eq_of_beq_eq_true hb]
      ·rfl
    ·rfl
   ·exact hg.elim
 | mks s bytes zero l =>
  dsimp only at hg
  split at hg
  ·rename_i n m t hn _
   obtain ⟨hs,hg⟩:=zt hg
   split at hg
   ·rename_i z hz
    obtain ⟨hc,hg⟩:=hg
    cases hg
    obtain ⟨kk,hi⟩:=z62 (h:=H0) hn
    refine ⟨⟨zfK T (T.ks m t),[(d,⟨s,List.replicate n.toNat (zero.map cval)⟩)],?_,?_⟩,.inr rfl⟩
    ·simp only [mkop,zg,hi]
     rw [if_pos hc]
     simp [den,ze,res,za,resE,denR,Nat.eq_of_beq_eq_true hs,zd]
    ·have hz2:T.ca m t z=zfA (zfK T (T.ks m t)) 0 (zero.map cval):=by
      rw [← T.un_ok _ _ _ _ hz,zjd (f:=zfK T (T.ks m t)) _ _ 0 (fun j=>by rw [Nat.zero_add]),z7m]
     simp only [zfH,denR,List.map_replicate,hz2,Nat.eq_of_beq_eq_true hs]
   ·exact hg.elim
  ·exact hg.elim
 | _=>exact hg.elim
def zka (P:Program) (cs:List (Con P T)) (e:TE T.toTT0) (hd:TH T.toTT0) (d:Nat) (op:IK) (K:VT T→TH T.toTT0→Raw P T pro L):Raw P T pro L :=
 match z5y P e op with
 | none=>.no
 | some (f,args) =>
 match zbq f args cs with
 | some (C,[])=>bif (C.strong || !z2w args) && z8o (fun k=>(hd.map Prod.fst).contains k) args then
  Raw.ofRs (fun args'=>.call C args' [] fun y =>
   let bm:=bmOf [] d C.N
   bif zn (bm.map Prod.fst) && zn (bm.map Prod.snd) && (!z2w args || (z8l (C.encR y) && z7s (C.encO y))) then
    match z6x (C.encO y) bm,z39 bm (C.encR y) with
    | some (hb,_),some v=>K v hb
    | _,_=>.no
   else .no) (zak hd [] C.A args)
  else .no
 | _=>.no
def zkz (cx:Cx P T) (x:Ins) (e:TE T.toTT0) (hd:TH T.toTT0) (K:VT T→TH T.toTT0→Raw P T pro L):Raw P T pro L :=
 match x.op with
 | .rd b=>bif (z2u b).all (fun o=>swIn (fun k=>(hd.map Prod.fst).contains k) (evT e o)) then Raw.ofRs (fun v=>bif swIn (fun k=>(hd.map Prod.fst).contains k) v then K v [] else .no) (rdT e hd b) else .no
 | .mk b=>Raw.ofRs (fun (v,r)=>K v [(x.dst,r)]) (mkD (cx.at x.dst) e x.dst b)
 | .call f l=>zka P cx.cs e hd x.dst (.call f l) K
 | .callv f l=>zka P cx.cs e hd x.dst (.callv f l) K
 | _=>.no
def zqq (ha:TH T.toTT0) (rows:TH T.toTT0) (e:TE T.toTT0):Bool:=(rows.map Prod.fst).all (fun k=>!(ha.map Prod.fst).contains k) && allE (fun k=>!(rows.map Prod.fst).contains k) e
def evD (cx:Cx P T):List (Ins×List Nat)→Nat→TE T.toTT0→List (Nat×TH T.toTT0)→TH T.toTT0→(TE T.toTT0→TH T.toTT0→Raw P T pro L)→Raw P T pro L
 | [],_,e,acc,h0,K=>bif zn ((z1h acc++h0).map Prod.fst) then K e (z1h acc++h0) else .no
 | x::l,i,e,acc,h0,K=>bif zn ((z1h acc++h0).map Prod.fst) then
  zax e x.1.guard (fun e=>zkz cx x.1 e (hxT x.2 acc++h0) fun v rows=>bif zqq (z1h acc++h0) rows e then evD cx l (i+1) (putE e x.1.dst v) (acc++[(i,rows)]) h0 K else .no)
   (fun e=>evD cx l (i+1) (putE e x.1.dst (zhj x.1.op)) (acc++[(i,[])]) h0 K)
  else .no
theorem zrp {cx:Cx P T} {x:Ins} {D:List Nat} {e:TE T.toTT0} {hd ha:TH T.toTT0} {K:VT T→TH T.toTT0→Raw P T pro L} {Q:L→Prop} (hw:zk (denE T.toTT0 (denH T.toTT0 ha) e) x.guard=some true)
  (hn:zn (ha.map Prod.fst)=true) (hsub:∀ z ∈ hd,z ∈ ha) (hs:Sat (zkz cx x e hd K) Q) :
  ∃ v rows,Sat (K v rows) Q∧∀ h1:TH T.toTT0,(∀ k,(hd.map Prod.fst).contains k=true→za (denH T.toTT0 h1) k=za (denH T.toTT0 hd) k)→(∀ k,(rows.map Prod.fst).contains k=true→za (denH T.toTT0 h1) k=za (denH T.toTT0 rows) k) →
   DOk P (denE T.toTT0 (denH T.toTT0 ha) e) (denH T.toTT0 hd) ⟨x,D,den T.toTT0 (denH T.toTT0 h1) v,denH T.toTT0 rows⟩:=by
 obtain ⟨d,g,op⟩:=x
 have hpart:=zmg hn hsub
 have opd:∀ o,swIn (fun k=>(hd.map Prod.fst).contains k) (evT e o)=true→ev (denE T.toTT0 (denH T.toTT0 ha) e) o=ev (denE T.toTT0 (denH T.toTT0 hd) e) o:=fun o ho=>by
  rw [zg,zg,z91 hpart _ ho]
 have call:∀ {op:IK},(∀ f args,z5y P e op=some (f,args)→z8o (fun k=>(hd.map Prod.fst).contains k) args=true→z3v P (denE T.toTT0 (denH T.toTT0 ha) e) op f (denL T.toTT0 (denH T.toTT0 ha) args))→Sat (zka P cx.cs e hd d op K) Q →
   ∃ v rows,Sat (K v rows) Q∧∀ h1:TH T.toTT0,(∀ k,(hd.map Prod.fst).contains k=true→za (denH T.toTT0 h1) k=za (denH T.toTT0 hd) k)→(∀ k,(rows.map Prod.fst).contains k=true→za (denH T.toTT0 h1) k=za (denH T.toTT0 rows) k) →
    DOk P (denE T.toTT0 (denH T.toTT0 ha) e) (denH T.toTT0 hd) ⟨⟨d,g,op⟩,D,den T.toTT0 (denH T.toTT0 h1) v,denH T.toTT0 rows⟩:=by
  intro op hca hs
  unfold zka at hs
  split at hs
  ·exact hs.elim
  ·rename_i f args hargs
   split at hs
   ·rename_i C hC
    cases hb:((C.strong || !z2w args) && z8o (fun k=>(hd.map Prod.fst).contains k) args) with
    | false=>rw [hb] at hs; exact hs.elim
    | true =>
     rw [hb,cond_true] at hs
     simp only [Bool.and_eq_true] at hb
     obtain ⟨args',hcv,x,y,q1,q2,q3,q4⟩:=Sat.ofRs _ hs
     dsimp only at q4
     generalize hbm:bmOf [] d C.N=bm at q4
     cases hb2:(zn (bm.map Prod.fst) && zn (bm.map Prod.snd) && (!z2w args || (z8l (C.encR y) && z7s (C.encO y)))) with
     | false=>rw [hb2] at q4; exact q4.elim
     | true =>
      rw [hb2,cond_true] at q4
      simp only [Bool.and_eq_true] at hb2
      obtain ⟨⟨b1,b2⟩,b5⟩:=hb2
      split at q4
      ·rename_i hb' left v hsb hbk
       refine ⟨v,hb',q4,fun h1 hp1 hp2=>?_⟩
       obtain ⟨l,r1,r2⟩:=z65 (H0:=denH T.toTT0 hd) (Hn:=denH T.toTT0 []) (rest:=hd) (m:=[]) (bor:=z2w args) (fun _ _=>rfl) C.A args args' hcv (fun h=>h)
       have hCf:=z93 cx.cs hC
       have hG:=C.ok x y q3
       rw [q1,q2,hCf] at hG
       have hok:z1r P f l [] (den T.toTT0 (denH T.toTT0 (C.encO y)) (C.encR y)) (denH T.toTT0 (C.encO y))∨z2w args=false∧CallG P f l [] (den T.toTT0 (denH T.toTT0 (C.encO y)) (C.encR y)) (denH T.toTT0 (C.encO y)):=by
        cases hst:C.strong with
        | true=>exact .inl (z1r.le r2 (hG.1 hst))
        | false =>
         rw [hst] at hb
         exact .inr ⟨by simpa using hb.1,CallG.le r2 hG.2⟩
       obtain ⟨t1,t2,t3⟩:=z4a bm (C.encO y) hb' left hsb
       have hkeys:=z7g _ _ _ _ t1
       have hde:denL T.toTT0 (denH T.toTT0 ha) args=denL T.toTT0 (denH T.toTT0 hd) args:=z7n hpart _ hb.2
       refine .call hw (hca f args hargs hb.2) (by rw [hde]; exact r1) hok t1 (zr _ b1) (z6z (fun k n q hkn=>?_) _ _ hbk) (fun hbor=>?_)
       ·have hm:=z52 bm hkn
        have hg:=t3 n k b1 b2 hm
        have hn':n ∈ hb'.map Prod.fst:=by rw [← z1i,hkeys]; exact List.mem_map.2 ⟨_,hm,rfl⟩
        have:=hp2 n (by simpa using hn')
        unfold ze res
        rw [this,hg]
       ·rw [hbor] at b5
        simp only [Bool.not_true,Bool.false_or,Bool.and_eq_true] at b5
        exact ⟨z99 _ b5.1,z7t _ b5.2⟩
      ·exact q4.elim
   ·exact hs.elim
 unfold zkz at hs
 dsimp only at hs
 split at hs
 ·rename_i b
  cases hb:(z2u b).all (fun o=>swIn (fun k=>(hd.map Prod.fst).contains k) (evT e o)) with
  | false=>rw [hb] at hs; exact hs.elim
  | true =>
   rw [hb,cond_true] at hs
   obtain ⟨v,hv,hs⟩:=Sat.ofRs _ hs
   cases hsv:swIn (fun k=>(hd.map Prod.fst).contains k) v with
   | false=>rw [hsv] at hs; exact hs.elim
   | true =>
    rw [hsv,cond_true] at hs
    refine ⟨v,[],hs,fun h1 hp1 hp2=>?_⟩
    obtain ⟨av,r1,r2⟩:=zmk hv
    refine .rd (av:=av) hw rfl ?_ (by rw [z91 hp1 v hsv]; exact r2) rfl
    rw [← r1]
    exact z4g b fun o ho=>opd o (List.all_eq_true.1 hb o ho)
 ·rename_i b
  obtain ⟨⟨v,r⟩,hv,hs⟩:=Sat.ofRs _ hs
  obtain ⟨m1,m2⟩:=y73 (denH T.toTT0 ha) hv
  obtain ⟨zf,rows0,m1,m3⟩:=m1
  refine ⟨v,[(d,r)],hs,fun h1 hp1 hp2=>.mk zf hw rfl (rows0:=rows0) ?_ m3⟩
  simp only [m1]
  have hr:=hp2 d (by simp)
  rcases m2 with rfl | rfl
  ·rfl
  ·simp only [den]
   congr 2
   rw [z1d hr]
   rfl
 ·rename_i f l
  refine call (fun f' args ha' hsw=>?_) hs
  cases ha'
  have:denL T.toTT0 (denH T.toTT0 ha) (l.map (evT e))=l.map (ev (denE T.toTT0 (denH T.toTT0 ha) e)):=by
   rw [zz,List.map_map]
   exact List.map_congr_left fun x _=>(zg x).symm
  rw [this]
  exact .call
 ·rename_i f l
  refine call (fun f' args ha' hsw=>?_) hs
  simp only [z5y] at ha'
  split at ha'
  ·rename_i f2 caps hx
   cases hf:fnOk P f2 with
   | false=>rw [hf] at ha'; cases ha'
   | true =>
    rw [hf] at ha'
    cases ha'
    have:denL T.toTT0 (denH T.toTT0 ha) (l.map (evT e)++caps)=l.map (ev (denE T.toTT0 (denH T.toTT0 ha) e))++denL T.toTT0 (denH T.toTT0 ha) caps:=by
     rw [zz,zz,List.map_append,List.map_map]
     congr 1
     exact List.map_congr_left fun x _=>(zg x).symm
    rw [this]
    exact .callv (by rw [zg,hx]; rfl) hf
  ·cases ha'
 ·exact hs.elim
theorem zqi {a b c:H} {k:Nat} (hk:(b.map Prod.fst).contains k=false):za (a++b++c) k=za (a++c) k:=by
 have hb:za b k=none:=z7b b k (by intro hm; have:(b.map Prod.fst).contains k=true:=(by simpa using hm); rw [this] at hk; cases hk)
 rw [z2s,z2s,z2s,hb]
 cases za a k <;> rfl
theorem zgc {cx:Cx P T} {K:TE T.toTT0→TH T.toTT0→Raw P T pro L} {Q:L→Prop} {h0:TH T.toTT0}:∀ (l:List (Ins×List Nat)) (i:Nat) (e:TE T.toTT0) (acc:List (Nat×TH T.toTT0)),Sat (evD cx l i e acc h0 K) Q →
  WD P l i (denE T.toTT0 (denH T.toTT0 (z1h acc++h0)) e) (accA T acc) (denH T.toTT0 h0) (KP K Q)
 | [],i,e,acc,hs=>by
  unfold evD at hs
  cases hn:zn ((z1h acc++h0).map Prod.fst) with
  | false=>rw [hn] at hs; exact hs.elim
  | true =>
   rw [hn,cond_true] at hs
   have e1:z2l (accA T acc)++denH T.toTT0 h0=denH T.toTT0 (z1h acc++h0):=by rw [zgz,z2e]
   refine ⟨by rw [e1,z1i]; exact hn,?_⟩
   rw [e1]
   exact ⟨_,_,rfl,rfl,hs⟩
 | x::l,i,e,acc,hs=>by
  unfold evD at hs
  cases hn:zn ((z1h acc++h0).map Prod.fst) with
  | false=>rw [hn] at hs; exact hs.elim
  | true =>
   rw [hn,cond_true] at hs
   obtain ⟨e',he,h1 | h1⟩:=z9u (H0:=denH T.toTT0 (z1h acc++h0)) hs
   ·obtain ⟨v,rows,hK,hd⟩:=zrp (D:=x.2) (ha:=z1h acc++h0) (by rw [he]; exact h1.1) hn (fun z hz=>by
     rw [List.mem_append] at hz ⊢
     exact hz.imp (zec x.2 acc z) id) h1.2
    cases hno:zqq (z1h acc++h0) rows e' with
    | false=>rw [hno] at hK; exact hK.elim
    | true =>
     rw [hno,cond_true] at hK
     simp only [zqq,Bool.and_eq_true] at hno
     have ih:=zgc l (i+1) _ _ hK
     have hrow:∀ k,(rows.map Prod.fst).contains k=false→za (denH T.toTT0 (z1h (acc++[(i,rows)])++h0)) k=za (denH T.toTT0 (z1h acc++h0)) k:=fun k hk=>by
      rw [z7d,z2e,z2e,z2e]
      exact zqi (by rw [z1i]; exact hk)
     have hnew:∀ k,(rows.map Prod.fst).contains k=true→((z1h acc++h0).map Prod.fst).contains k=false:=fun k hk=>by
      have:=List.all_eq_true.1 hno.1 k (by simpa using hk)
      simpa using this
     have hd':=hd (z1h (acc++[(i,rows)])++h0) (fun k hk=>by
      have hsub:∀ z ∈ hxT x.2 acc++h0,z ∈ z1h acc++h0:=fun z hz=>by
       rw [List.mem_append] at hz ⊢
       exact hz.imp (zec x.2 acc z) id
      have hk2:((z1h acc++h0).map Prod.fst).contains k=true:=by
       simp only [List.contains_eq_mem,decide_eq_true_eq] at hk ⊢
       obtain ⟨z,hz,rfl⟩:=List.mem_map.1 hk
       exact List.mem_map.2 ⟨z,hsub z hz,rfl⟩
      rw [hrow k (by
       cases hc:(rows.map Prod.fst).contains k with
       | false=>rfl
       | true=>rw [hnew k hc] at hk2; cases hk2)]
      exact zmg hn hsub k hk) (fun k hk=>by
      rw [z7d,z2e,z2e]
      have ha:za (denH T.toTT0 (z1h acc)) k=none:=z7b _ _ (by
       rw [z1i]
       intro hm
       have h3:=hnew k hk
       have h4:((z1h acc++h0).map Prod.fst).contains k=true:=by
        simp only [List.map_append,List.contains_eq_mem,List.mem_append,decide_eq_true_eq]
        exact .inl hm
       rw [h3] at h4; cases h4)
      have hk':k ∈ (denH T.toTT0 rows).map Prod.fst:=by rw [z1i]; simpa using hk
      obtain ⟨r,hr⟩:=z7c _ _ hk'
      rw [List.append_assoc,z2s,ha]
      simp only
      rw [z2s,hr])
     rw [← he]
     refine ⟨den T.toTT0 (denH T.toTT0 (z1h (acc++[(i,rows)])++h0)) v,denH T.toTT0 rows,by rw [zpb,← z2e]; exact hd',?_⟩
     ·rw [zy,zxc (H0:=denH T.toTT0 (z1h acc++h0)) (fun k hk=>hrow k (by simpa using hk)) e' hno.2] at ih
      have:accA T (acc++[(i,rows)])=accA T acc++[(i,denH T.toTT0 rows)]:=by simp [accA]
      rw [this] at ih
      exact ih
   ·have ih:=zgc l (i+1) _ _ h1.2
    have hh:z1h (acc++[(i,([]:TH T.toTT0))])=z1h acc:=by rw [z7d,List.append_nil]
    rw [zy,hh,he,z82] at ih
    refine ⟨z37 x.1.op,[],.skip h1.1 rfl rfl,?_⟩
    have:accA T (acc++[(i,([]:TH T.toTT0))])=accA T acc++[(i,[])]:=by simp [accA,denH]
    rw [this] at ih
    exact ih
end
def Fact (e:Env) (h:H) (x:Ins):Prop :=
 (zk e x.guard=some false∧e x.dst=z37 x.op)∨(zk e x.guard=some true∧∀ b,x.op = .rd b→∃ hp av,(∀ z ∈ hp,z ∈ h)∧rdop (ev e) (res hp) b=some av∧AVle av (e x.dst))
def sepB:List Ins→Bool
 | []=>true
 | x::l=>!(z33 x).contains x.dst && l.all (fun y=>!(z33 x).contains y.dst && !(Nat.beq y.dst x.dst)) && sepB l
theorem Fact.next {e:Env} {h h':H} {x:Ins} {d:Nat} {av:AV} (h1:d ∉ z33 x) (h2:d ≠ x.dst) (hs:∀ z ∈ h,z ∈ h') (hf:Fact e h x):Fact (upd e d av) h' x:=by
 have hw:zk (upd e d av) x.guard=zk e x.guard:=z4h fun s hs=>by
  unfold upd; rw [if_neg (by rintro rfl; exact h1 hs)]
 have hd:upd e d av x.dst=e x.dst:=by unfold upd; rw [if_neg (fun e=>h2 e.symm)]
 rcases hf with ⟨f1,f2⟩ | ⟨f1,f2⟩
 ·exact .inl ⟨hw.trans f1,hd.trans f2⟩
 ·refine .inr ⟨hw.trans f1,fun b hb=>?_⟩
  obtain ⟨hp,a,g1,g2,g3⟩:=f2 b hb
  refine ⟨hp,a,fun z hz=>hs z (g1 z hz),?_,by rw [hd]; exact g3⟩
  rw [← g2]
  exact z4g b fun o ho=>z2z (x:=x) (fun s hs=>by unfold upd; rw [if_neg (by rintro rfl; exact h1 hs)]) (by rw [hb]; exact ho)
theorem WD.facts {P:Program} {K:Env→H→Prop} {h0:H}:∀ (pre:List (Ins×List Nat)) (i:Nat) (e:Env) (acc:List (Nat×H)) (done:List Ins),WD P pre i e acc h0 K→sepB (pre.map Prod.fst)=true→(∀ x ∈ done,∀ y ∈ pre,y.1.dst ∉ z33 x∧y.1.dst ≠ x.dst) →
  (∀ x ∈ done,Fact e (z2l acc++h0) x)→WD P pre i e acc h0 (fun e' h'=>K e' h'∧∀ x ∈ done++pre.map Prod.fst,Fact e' h' x)
 | [],i,e,acc,done,hw,_,_,hf=>⟨hw.1,hw.2,fun x hx=>hf x (by simpa using hx)⟩
 | (x,D)::pre,i,e,acc,done,hw,hsep,hd,hf=>by
  obtain ⟨av,rows,hok,hw⟩:=hw
  simp only [List.map_cons,sepB,Bool.and_eq_true,Bool.not_eq_true'] at hsep
  obtain ⟨⟨s1,s2⟩,s3⟩:=hsep
  have hown:x.dst ∉ z33 x:=fun hm=>by
   have:(z33 x).contains x.dst=true:=by simpa using hm
   rw [this] at s1; cases s1
  have hall:∀ acc:List (Nat×H),z2l (acc++[(i,rows)])=z2l acc++rows:=by
   intro acc
   induction acc with
   | nil=>simp [z2l]
   | cons y l ih=>obtain ⟨j,r⟩:=y; simp [z2l,ih]
  have hmem:∀ z ∈ z2l acc++h0,z ∈ z2l (acc++[(i,rows)])++h0:=fun z hz=>by
   rw [hall]
   simp only [List.mem_append] at hz ⊢
   rcases hz with hz | hz
   ·exact .inl (.inl hz)
   ·exact .inr hz
  have hhx:∀ (acc:List (Nat×H)) (z:Nat×Row),z ∈ hx D acc→z ∈ z2l acc:=by
   intro acc
   induction acc with
   | nil=>intro z hz; cases hz
   | cons y l ih =>
    obtain ⟨j,r⟩:=y
    intro z hz
    simp only [hx] at hz
    simp only [z2l,List.mem_append]
    split at hz
    ·rw [List.mem_append] at hz; exact hz.imp id (ih z)
    ·exact .inr (ih z hz)
  refine ⟨av,rows,hok,?_⟩
  have hguard:zk (upd e x.dst av) x.guard=zk e x.guard:=z4h fun s hs=>by
   unfold upd; rw [if_neg (by rintro rfl; exact hown hs)]
  have hdst:upd e x.dst av x.dst=av:=by simp [upd]
  have hnew:Fact (upd e x.dst av) (z2l (acc++[(i,rows)])++h0) x:=by
   have hrd:∀ (b:IB) (a:AV),x.op = .rd b→rdop (ev e) (res (hx D acc++h0)) b=some a→AVle a av→∃ hp av',(∀ z ∈ hp,z ∈ z2l (acc++[(i,rows)])++h0)∧rdop (ev (upd e x.dst av)) (res hp) b=some av'∧AVle av' (upd e x.dst av x.dst):=by
    intro b a hb h1 h2
    refine ⟨hx D acc++h0,a,fun z hz=>hmem z ?_,?_,by rw [hdst]; exact h2⟩
    ·rw [List.mem_append] at hz ⊢
     exact hz.imp (hhx acc z) id
    ·rw [← h1]
     exact z4g b fun o ho=>z2z (x:=x) (fun s hs=>by unfold upd; rw [if_neg (by rintro rfl; exact hown hs)]) (by rw [hb]; exact ho)
   cases hok with
   | skip g1 g2 g3=>exact .inl ⟨hguard.trans g1,hdst.trans g2⟩
   | rd g1 g2 g3 g4 g5 =>
    refine .inr ⟨hguard.trans g1,fun b hb=>?_⟩
    simp only at g2
    rw [g2] at hb
    cases hb
    exact hrd _ _ g2 g3 g4
   | mk zf g1 g2 g3 g4=>exact .inr ⟨hguard.trans g1,fun b hb=>by simp only at g2; rw [g2] at hb; cases hb⟩
   | call g1 g2=>exact .inr ⟨hguard.trans g1,fun b hb=>by
     simp only at g2
     rw [hb] at g2
     cases g2⟩
  have:=WD.facts pre (i+1) _ _ (done++[x]) hw s3 (fun y hy z hz=>by
   rcases List.mem_append.1 hy with hy | hy
   ·exact hd y hy z (by simp [hz])
   ·simp only [List.mem_singleton] at hy
    subst hy
    have:=List.all_eq_true.1 s2 z.1 (List.mem_map.2 ⟨z,hz,rfl⟩)
    simp only [Bool.and_eq_true,Bool.not_eq_true',z1f,decide_eq_false_iff_not] at this
    exact ⟨by simpa using this.1,this.2⟩) (fun y hy=>by
   rcases List.mem_append.1 hy with hy | hy
   ·obtain ⟨q1,q2⟩:=hd y hy (x,D) (by simp)
    exact (hf y hy).next q1 q2 hmem
   ·simp only [List.mem_singleton] at hy
    subst hy
    exact hnew)
  simpa only [List.append_assoc,List.singleton_append,List.map_cons] using this
def y0y:AV→Option Nat
 | .pt k _ _ _=>some k
 | .sl k _ _ _=>some k
 | _=>none
theorem zy6 {f:Operand→AV} {r r':Nat→Path→Option (Nat×Els)} {b:IB} (h:∀ o ∈ z2u b,∀ k,y0y (f o)=some k→∀ p,r' k p=r k p):rdop f r' b=rdop f r b:=by
 cases b with
 | iad s x i =>
  have hx:=h x (by simp [z2u])
  simp only [rdop]
  cases hv:f x with
  | sl k p off len=>have h2:=hx k (by rw [hv]; rfl) p; split <;> simp_all
  | pt k p i c=>have h2:=hx k (by rw [hv]; rfl) p; split <;> simp_all
  | _=>split <;> simp_all
 | load agg n x =>
  have hx:=h x (by simp [z2u])
  simp only [rdop]
  cases hv:f x with
  | sl k p off len=>have h2:=hx k (by rw [hv]; rfl) p; split <;> simp_all
  | pt k p i c=>have h2:=hx k (by rw [hv]; rfl) p; split <;> simp_all
  | _=>split <;> simp_all
 | b2s x =>
  have hx:=h x (by simp [z2u])
  simp only [rdop]
  cases hv:f x with
  | sl k p off len=>have h2:=hx k (by rw [hv]; rfl) p; split <;> simp_all
  | pt k p i c=>have h2:=hx k (by rw [hv]; rfl) p; split <;> simp_all
  | _=>split <;> simp_all
 | slc s x lo hi =>
  have hx:=h x (by simp [z2u])
  simp only [rdop]
  cases hv:f x with
  | sl k p off len=>have h2:=hx k (by rw [hv]; rfl) p; split <;> simp_all
  | pt k p i c=>have h2:=hx k (by rw [hv]; rfl) p; split <;> simp_all
  | _=>split <;> simp_all
 | _=>rfl
section
variable {P:Program} {T:TT} {pro:List Nat} {L:Type}
mutual
def z1n (bad:Nat→Path→Bool):VT T→Bool
 | .sl k p _ _=>!bad k p
 | .sw k p=>!bad k p
 | .pt k p _ _=>!bad k p
 | .ag cs=>z42 bad cs
 | .tu cs=>z42 bad cs
 | .fn _ cs=>z42 bad cs
 | .un | .sc _ | .ik _ _ | .bk _ | .zs | .im _ _ | .ip _ _ _ | .ow _ _ _ | .oo _ _ _ _ _=>true
 | .pp (.xp _ _ _)=>true
 | .pp (.fs k _) | .pp (.fp k _ _) | .pp (.px k _)=>!bad k []
def z42 (bad:Nat→Path→Bool):List (VT T)→Bool
 | []=>true
 | x::l=>z1n bad x && z42 bad l
end
mutual
theorem z7l {bad:Nat→Path→Bool} {H0:H}:∀ (v:VT T),z1n bad v=true→kill bad (den T.toTT0 H0 v)=den T.toTT0 H0 v
 | .sl k p _ _,h=>by simp only [z1n,Bool.not_eq_true'] at h; simp only [den,kill,h,Bool.false_eq_true,if_false]
 | .sw k p,h=>by simp only [z1n,Bool.not_eq_true'] at h; simp only [den,kill,h,Bool.false_eq_true,if_false]
 | .pt k p _ _,h=>by simp only [z1n,Bool.not_eq_true'] at h; simp only [den,kill,h,Bool.false_eq_true,if_false]
 | .ag cs,h=>by simp only [z1n] at h; simp only [den,kill,z8a cs h]
 | .tu cs,h=>by simp only [z1n] at h; simp only [den,kill,z8a cs h]
 | .fn _ cs,h=>by simp only [z1n] at h; simp only [den,kill,z8a cs h]
 | .un,_ | .sc _,_ | .ik _ _,_ | .bk _,_ | .zs,_ | .im _ _,_ | .ip _ _ _,_ | .ow _ _ _,_ | .oo _ _ _ _ _,_ | .pp (.xp _ _ _),_=>rfl
 | .pp (.fs k _),h | .pp (.fp k _ _),h | .pp (.px k _),h=>by simp only [z1n,Bool.not_eq_true'] at h; simp only [den,denP,kill,z4f,h,Bool.false_eq_true,if_false]
theorem z8a {bad:Nat→Path→Bool} {H0:H}:∀ (v:List (VT T)),z42 bad v=true→z2m bad (denL T.toTT0 H0 v)=denL T.toTT0 H0 v
 | [],_=>rfl
 | x::l,h=>by
  simp only [z42,Bool.and_eq_true] at h
  simp only [denL,z2m,z7l x h.1,z8a l h.2]
end
def refT:VT T→Option Nat
 | .pt k _ _ _=>some k
 | .sl k _ _ _=>some k
 | .sw k _=>some k
 | .pp (.px k _)=>some k
 | _=>none
theorem y3b {H0:H} {v:VT T}:y0y (den T.toTT0 H0 v)=refT v:=by cases v <;> first | rfl | (rename_i q; cases q <;> rfl)
def y1c:IB→Bool
 | .iad _ _ _ | .load _ _ _ | .slc _ _ _ _ | .b2s _=>true
 | _=>false
def zwp (st:StT T) (e:TE T.toTT0) (x:Ins):Bool :=
 match x.op with
 | .rd b=>(z2u b).all fun o=>z1n st.bad (evT e o) && (!y1c b || match refT (evT e o) with | some k=>!st.tch.contains k | none=>true)
 | _=>false
def eqP:Path→Path→Bool
 | [],[]=>true
 | (i,c)::p,(j,d)::q=>Nat.beq c d && (Nat.beq i j && eqP p q)
 | _,_=>false
theorem zrq:∀ (p q:Path),eqP p q=true→p=q
 | [],[],_=>rfl
 | (i,c)::p,(j,d)::q,h=>by
  simp only [eqP,Bool.and_eq_true] at h
  rw [Nat.eq_of_beq_eq_true h.1,Nat.eq_of_beq_eq_true h.2.1,zrq p q h.2.2]
 | [],_::_,h=>by cases h
 | _::_,[],h=>by cases h
def eqT:VT T→VT T→Bool
 | .sw k p,.sw k' p'=>Nat.beq k k' && eqP p p'
 | _,_=>false
theorem y3t:∀ (v w:VT T),eqT v w=true→v=w:=by
 intro v w h
 unfold eqT at h
 split at h
 ·simp only [Bool.and_eq_true] at h
  rw [Nat.eq_of_beq_eq_true h.1,zrq _ _ h.2]
 ·cases h
def zpt (st:StT T) (e:TE T.toTT0) (x:Ins):Bool :=
 match x.op with
 | .rd b=>(z2u b).all (fun o=>z1n (fun k p=>st.bad k p || st.bw k p) (evT e o)) && match rdT e st.h b with
  | .ok v=>eqT v (getE e x.dst) && z1n (fun k p=>st.bad k p || st.bw k p) v
  | _=>false
 | _=>false
def zb5 (dep:List Nat) (st:StT T) (e:TE T.toTT0):List (Ins×List Nat)→Nat→Bool
 | [],_=>true
 | (x,_)::l,i=>(dep.contains i || (zwp st e x || zpt st e x)) && zb5 dep st e l (i+1)
theorem z8q {e:Env} {g:Option (Nat×Bool)} {b:Bool} {bad:Nat→Path→Bool} (h:zk e g=some b):zk (fun t=>kill bad (e t)) g=some b:=by
 cases g with
 | none=>exact h
 | some sw =>
  obtain ⟨s,want⟩:=sw
  simp only [zk] at h ⊢
  split at h
  ·rename_i hb; rw [hb]; simpa [kill] using h
  ·rename_i hb; rw [hb]; simpa [kill] using h
  ·cases h
mutual
theorem z9n {bad:Nat→Path→Bool} {H0 H1:H} (hl:∀ k p,bad k p=false→ze H1 k p=ze H0 k p):∀ (v:VT T),z1n bad v=true→den T.toTT0 H1 v=den T.toTT0 H0 v
 | .sw k p,h=>by simp only [z1n,Bool.not_eq_true'] at h; simp only [den,hl k p h]
 | .ag cs,h=>by simp only [z1n] at h; simp only [den,z8b hl cs h]
 | .tu cs,h=>by simp only [z1n] at h; simp only [den,z8b hl cs h]
 | .fn _ cs,h=>by simp only [z1n] at h; simp only [den,z8b hl cs h]
 | .un,_ | .sc _,_ | .ik _ _,_ | .bk _,_ | .zs,_ | .im _ _,_ | .ip _ _ _,_ | .sl _ _ _ _,_ | .pt _ _ _ _,_ | .ow _ _ _,_ | .oo _ _ _ _ _,_ | .pp _,_=>rfl
theorem z8b {bad:Nat→Path→Bool} {H0 H1:H} (hl:∀ k p,bad k p=false→ze H1 k p=ze H0 k p):∀ (v:List (VT T)),z42 bad v=true→denL T.toTT0 H1 v=denL T.toTT0 H0 v
 | [],_=>rfl
 | x::l,h=>by
  simp only [z42,Bool.and_eq_true] at h
  simp only [denL,z9n hl x h.1,z8b hl l h.2]
end
mutual
theorem z9o {bad bad':Nat→Path→Bool} (hb:∀ k p,bad k p=false→bad' k p=false):∀ (v:VT T),z1n bad v=true→z1n bad' v=true
 | .sl k p _ _,h=>by simp only [z1n,Bool.not_eq_true'] at h ⊢; exact hb k p h
 | .sw k p,h=>by simp only [z1n,Bool.not_eq_true'] at h ⊢; exact hb k p h
 | .pt k p _ _,h=>by simp only [z1n,Bool.not_eq_true'] at h ⊢; exact hb k p h
 | .ag cs,h=>by simp only [z1n] at h ⊢; exact z8c hb cs h
 | .tu cs,h=>by simp only [z1n] at h ⊢; exact z8c hb cs h
 | .fn _ cs,h=>by simp only [z1n] at h ⊢; exact z8c hb cs h
 | .un,_ | .sc _,_ | .ik _ _,_ | .bk _,_ | .zs,_ | .im _ _,_ | .ip _ _ _,_ | .ow _ _ _,_ | .oo _ _ _ _ _,_ | .pp (.xp _ _ _),_=>rfl
 | .pp (.fs k _),h | .pp (.fp k _ _),h | .pp (.px k _),h=>by simp only [z1n,Bool.not_eq_true'] at h ⊢; exact hb k [] h
theorem z8c {bad bad':Nat→Path→Bool} (hb:∀ k p,bad k p=false→bad' k p=false):∀ (v:List (VT T)),z42 bad v=true→z42 bad' v=true
 | [],_=>rfl
 | x::l,h=>by
  simp only [z42,Bool.and_eq_true] at h ⊢
  exact ⟨z9o hb x h.1,z8c hb l h.2⟩
end
theorem zhl {dep:List Nat} {st:StT T} {e:TE T.toTT0} {hA:TH T.toTT0} (hlen:∀ k p,st.bad k p=false→st.bw k p=false→ze (denH T.toTT0 st.h) k p=ze (denH T.toTT0 hA) k p) (hn:zn (hA.map Prod.fst)=true) (ht:∀ k,st.tch.contains k=false→za (denH T.toTT0 st.h) k=za (denH T.toTT0 hA) k):∀ (l:List (Ins×List Nat)) (i:Nat),zb5 dep st e l i=true →
  (∀ x ∈ l.map Prod.fst,Fact (denE T.toTT0 (denH T.toTT0 hA) e) (denH T.toTT0 hA) x)→zcs dep (kill st.bad) (denE T.toTT0 (denH T.toTT0 hA) e) (denH T.toTT0 st.h) l i
 | [],_,_,_=>trivial
 | (x,D)::l,i,hs,hf=>by
  simp only [zb5,Bool.and_eq_true,Bool.or_eq_true] at hs
  refine ⟨?_,zhl hlen hn ht l (i+1) hs.2 (fun y hy=>hf y (by simp [hy]))⟩
  rcases hs.1 with h1 | h1 | h1
  ·exact .inl h1
  rotate_left
  ·right
   unfold zpt at h1
   split at h1
   ·rename_i b hb
    rcases hf x (by simp) with ⟨f1,f2⟩ | ⟨f1,f2⟩
    ·refine .inl ⟨z8q f1,?_⟩
     rw [f2]
     cases x.op <;> rfl
    ·simp only [Bool.and_eq_true] at h1
     obtain ⟨h1,h2⟩:=h1
     split at h2
     ·rename_i v hv
      simp only [Bool.and_eq_true] at h2
      have hlen':∀ k p,(fun k p=>st.bad k p || st.bw k p) k p=false→ze (denH T.toTT0 st.h) k p=ze (denH T.toTT0 hA) k p:=fun k p hk=>by
       simp only [Bool.or_eq_false_iff] at hk
       exact hlen k p hk.1 hk.2
      have hsub:∀ k p,(fun k p=>st.bad k p || st.bw k p) k p=false→st.bad k p=false:=fun k p hk=>by
       simp only [Bool.or_eq_false_iff] at hk
       exact hk.1
      obtain ⟨av,r1,r2⟩:=zmk (e:=e) (h:=st.h) (b:=b) (v:=v) (by rw [hv]; exact rfl)
      have hcl:∀ o ∈ z2u b,ev (fun t=>kill st.bad (denE T.toTT0 (denH T.toTT0 hA) e t)) o=ev (denE T.toTT0 (denH T.toTT0 st.h) e) o:=fun o ho=>by
       have:=List.all_eq_true.1 h1 o ho
       cases o with
       | tmp t =>
        have q1:=z7l (H0:=denH T.toTT0 hA) _ (z9o hsub _ this)
        have q2:=z9n hlen' _ this
        exact q1.trans q2.symm
       | _=>rfl
      refine .inr ⟨z8q f1,b,av,hb,(z4g b hcl).trans r1,?_⟩
      have e1:=y3t _ _ h2.1
      have q2:=z9n hlen' _ h2.2
      have q1:=z7l (H0:=denH T.toTT0 hA) _ (z9o hsub _ h2.2)
      rw [q2] at r2
      show AVle av (kill st.bad (den T.toTT0 (denH T.toTT0 hA) (getE e x.dst)))
      rw [← e1,q1]
      exact r2
     ·cases h2
   ·cases h1
  ·right
   unfold zwp at h1
   split at h1
   ·rename_i b hb
    rcases hf x (by simp) with ⟨f1,f2⟩ | ⟨f1,f2⟩
    ·refine .inl ⟨z8q f1,?_⟩
     rw [f2]
     cases x.op <;> rfl
    ·obtain ⟨hp,av,g1,g2,g3⟩:=f2 b hb
     refine .inr ⟨z8q f1,b,av,hb,?_,g3.trans (AVle.kill _ _)⟩
     have e1:rdop (ev (denE T.toTT0 (denH T.toTT0 hA) e)) (res (denH T.toTT0 hA)) b=some av :=
      zjt (fun k p v hv=>zmo (by rw [z1i]; exact zr _ hn) g1 k p v hv) g2
     have hcl:∀ o ∈ z2u b,ev (fun t=>kill st.bad (denE T.toTT0 (denH T.toTT0 hA) e t)) o=ev (denE T.toTT0 (denH T.toTT0 hA) e) o:=fun o ho=>by
      have:=List.all_eq_true.1 h1 o ho
      simp only [Bool.and_eq_true] at this
      cases o with
      | tmp t=>exact z7l _ this.1
      | _=>rfl
     rw [z4g b hcl,← e1]
     cases hrb:y1c b with
     | false=>cases b <;> first | rfl | cases hrb
     | true =>
      refine zy6 fun o ho k hk p=>?_
      have:=List.all_eq_true.1 h1 o ho
      simp only [Bool.and_eq_true,hrb,Bool.not_true,Bool.false_or] at this
      rw [zg,y3b] at hk
      rw [hk] at this
      simp only [Bool.not_eq_true'] at this
      unfold res
      rw [ht k this.2]
   ·cases h1
def zdj (pro:List Nat) (cx:Cx P T) (x:Ins) (e:TE T.toTT0) (h:TH T.toTT0) (K:StT T→Raw P T pro L):Raw P T pro L :=
 match x.op with
 | .mk b=>Raw.ofRs K (mkT (cx.at x.dst) pro e h x.dst b)
 | .app s bytes a b=>Raw.ofRs K (appT (cx.at x.dst) pro e h x.dst s bytes a b)
 | .st n a v=>Raw.ofRs K (stT e h n a v)
 | _=>.no
def zr3 (pro:List Nat) (cx:Cx P T) (x:Ins) (e:TE T.toTT0) (h:TH T.toTT0) (K:StT T→Raw P T pro L):Raw P T pro L :=
 match x.guard with
 | none=>zdj pro cx x e h K
 | some (s,want)=>match getE e s with | .bk true=>bif want then zdj pro cx x e h K else .no | .bk false=>bif want then .no else zdj pro cx x e h K | _=>.no
theorem zya {cx:Cx P T} {x:Ins} {e:TE T.toTT0} {h:TH T.toTT0} {K:StT T→Raw P T pro L} {Q:L→Prop} (hs:Sat (zr3 pro cx x e h K) Q) :
  ∃ st,Sat (K st) Q∧StOk P pro T e h x st∧zk (denE T.toTT0 (denH T.toTT0 h) e) x.guard=some true:=by
 obtain ⟨d,g,op⟩:=x
 have go:Sat (zdj pro cx ⟨d,g,op⟩ e h K) Q→∃ st,Sat (K st) Q∧StOk P pro T e h ⟨d,g,op⟩ st:=fun hs=>by
  unfold zdj at hs
  dsimp only at hs
  split at hs
  ·obtain ⟨st,hv,hK⟩:=Sat.ofRs _ hs
   exact ⟨st,hK,zw7 hv⟩
  ·obtain ⟨st,hv,hK⟩:=Sat.ofRs _ hs
   exact ⟨st,hK,znf hv⟩
  ·obtain ⟨st,hv,hK⟩:=Sat.ofRs _ hs
   exact ⟨st,hK,zwo hv⟩
  ·exact hs.elim
 unfold zr3 at hs
 dsimp only at hs
 split at hs
 ·obtain ⟨st,q1,q2⟩:=go hs
  exact ⟨st,q1,q2,rfl⟩
 ·rename_i s want
  split at hs
  ·rename_i hv
   cases want with
   | false=>exact hs.elim
   | true =>
    obtain ⟨st,q1,q2⟩:=go hs
    exact ⟨st,q1,q2,by simp [zk,denE,hv,den]⟩
  ·rename_i hv
   cases want with
   | true=>exact hs.elim
   | false =>
    obtain ⟨st,q1,q2⟩:=go hs
    exact ⟨st,q1,q2,by simp [zk,denE,hv,den]⟩
  ·exact hs.elim
theorem StOk.turn {e:TE T.toTT0} {h:TH T.toTT0} {x:Ins} {st:StT T} (hst:StOk P pro T e h x st) (hw:zk (denE T.toTT0 (denH T.toTT0 h) e) x.guard=some true) :
  z3n P pro x (denE T.toTT0 (denH T.toTT0 h) e) (denH T.toTT0 h) (kill st.bad) (den T.toTT0 (denH T.toTT0 st.h) st.v) (denH T.toTT0 st.h):=fun e' he=>by
 obtain ⟨e0,h0',e1,h1',g1,gb,g2,g3⟩:=hst.1 e' he
 exact ⟨by rw [z4h he]; exact hw,e0,h0',e1,h1',g1,g2,g3⟩
def zc1 (keep:List Nat) (e:TE T.toTT0):TE T.toTT0:=keep.map fun t=>(t,getE e t)
theorem zda {H0:H} (keep:List Nat) (e:TE T.toTT0):denE T.toTT0 H0 (zc1 keep e)=z4e keep (denE T.toTT0 H0 e):=by
 unfold z4e zc1
 induction keep with
 | nil=>rfl
 | cons s l ih =>
  simp only [List.map_cons,z1a]
  rw [← ih]
  exact zy (e:=List.map (fun t=>(t,getE e t)) l)
def zhm (ds:List Nat) (e:TE T.toTT0):TE T.toTT0:=z51 (fun k _=>ds.contains k) (fun _ _=>false) e
theorem zhn {ds:List Nat} {e:TE T.toTT0} {h:TH T.toTT0}:denE T.toTT0 (denH T.toTT0 (z2i h ds)) (zhm ds e)=preE ds (denE T.toTT0 (denH T.toTT0 h) e):=by
 funext t
 simp only [denE,zhm,z2r,preE]
 have hl:∀ k p,(fun k (_:Path)=>ds.contains k) k p=false→ze (denH T.toTT0 (z2i h ds)) k p=ze (denH T.toTT0 h) k p:=fun k p hk=>z1d (by rw [← z4z]; exact z73 _ _ _ hk)
 exact (zb0 hl _).symm
def zw1 (cx:Cx P T) (x:Ins):Bool :=
 match x.op with
 | .st _ _ _ | .app _ _ _ _=>true
 | .mk _=>cx.tn.contains x.dst
 | _=>false
def za8 (cx:Cx P T):List (Ins×List Nat)→Option (List (Ins×List Nat)×(Ins×List Nat)×List (Ins×List Nat))
 | []=>none
 | x::l=>match za8 cx l with
  | some (p,y,q)=>some (x::p,y,q)
  | none=>bif zw1 cx x.1 then some ([],x,l) else none
theorem zdi {cx:Cx P T}:∀ (l p:List (Ins×List Nat)) (y:Ins×List Nat) (q:List (Ins×List Nat)),za8 cx l=some (p,y,q)→l=p++y::q
 | [],_,_,_,h=>by cases h
 | x::l,p,y,q,h=>by
  simp only [za8] at h
  split at h
  ·rename_i p' y' q' h'
   cases h
   rw [zdi l _ _ _ h']; rfl
  ·cases ht:zw1 cx x.1 with
   | false=>rw [ht] at h; cases h
   | true=>rw [ht] at h; cases h; rfl
def zcd (bad:Nat→Path→Bool) (e1:TE T.toTT0):List (Ins×List Nat)→List Nat→TE T.toTT0→Option (TE T.toTT0)
 | [],_,e=>some e
 | (x,_)::l,fb,e=>match x.guard,x.op with
  | none,.rd (.mov (.tmp s))=>bif !fb.contains s && z1n bad (getE e1 s) then
    match getE e1 s with
    | .un=>none
    | v=>zcd bad e1 l (x.dst::fb) (putE e x.dst v)
   else none
  | none,.rd (.mov (.const u))=>match z9q u with
    | .un=>none
    | v=>zcd bad e1 l (x.dst::fb) (putE e x.dst v)
  | _,_=>none
theorem zfi {bad0 bad:Nat→Path→Bool} {H0 H1:H} {e1:TE T.toTT0} (hsub:∀ k p,bad k p=false→bad0 k p=false) (hl:∀ k p,bad k p=false→ze H1 k p=ze H0 k p) {K:Env→Prop}:∀ (l:List (Ins×List Nat)) (fb:List Nat) (e e2:TE T.toTT0) (E:Env),zcd bad e1 l fb e=some e2 →
  (∀ t,fb.contains t=false→E t=kill bad0 (denE T.toTT0 H0 e1 t))→(∀ t,AVle (E t) (denE T.toTT0 H1 e t))→(∀ E2:Env,(∀ t,AVle (E2 t) (denE T.toTT0 H1 e2 t))→K E2)→z9j P H1 K l E
 | [],fb,e,e2,E,h,_,h2,hK=>by
  cases h
  exact hK E h2
 | (⟨d,g,op⟩,D)::l,fb,e,e2,E,h,h1,h2,hK=>by
  simp only [zcd] at h
  split at h
  ·rename_i s
   obtain ⟨hb,h⟩:(!fb.contains s && z1n bad (getE e1 s))=true∧(match getE e1 s with | .un=>none | v=>zcd bad e1 l (d::fb) (putE e d v))=some e2:=by
    cases hb:(!fb.contains s && z1n bad (getE e1 s)) with
    | false=>rw [hb] at h; cases h
    | true=>rw [hb] at h; exact ⟨rfl,h⟩
   simp only [Bool.and_eq_true,Bool.not_eq_true'] at hb
   have hE:E s=den T.toTT0 H1 (getE e1 s):=by
    rw [h1 s hb.1,denE,z7l _ (z9o hsub _ hb.2),z9n hl _ hb.2]
   have key:∀ v:VT T,getE e1 s=v→v ≠ .un→zcd bad e1 l (d::fb) (putE e d v)=some e2→z9j P H1 K ((⟨d,none,.rd (.mov (.tmp s))⟩,D)::l) E:=fun v hv hun h=>by
    rw [hv] at hE
    refine ⟨den T.toTT0 H1 v,.rd (b:=.mov (.tmp s)) (av:=den T.toTT0 H1 v) rfl rfl ?_ (AVle.refl _) rfl,?_⟩
    ·simp only [rdop,ev,hE]
     cases v <;> first | rfl | (rename_i q; cases q <;> rfl) | (exact absurd rfl hun)
    ·refine zfi hsub hl l (d::fb) _ e2 _ h (fun t ht=>?_) (fun t=>?_) hK
     ·simp only [List.contains_cons,Bool.or_eq_false_iff,beq_eq_false_iff_ne] at ht
      simp only [upd,if_neg ht.1]
      exact h1 t ht.2
     ·rw [zy]
      exact AVle.upd h2 (AVle.refl _) t
   split at h
   ·cases h
   ·rename_i v hne
    exact key _ rfl (fun he=>hne (by rw [he])) h
  ·rename_i u
   split at h
   ·cases h
   ·rename_i v hne
    have hun:(z9q u:VT T) ≠ .un:=fun he=>hne (by rw [he])
    have hcv:ev E (.const u)=den T.toTT0 H1 (z9q u:VT T):=(zcx H1 u).symm
    generalize (z9q u:VT T)=v at *
    refine ⟨den T.toTT0 H1 v,.rd (b:=.mov (.const u)) (av:=den T.toTT0 H1 v) rfl rfl ?_ (AVle.refl _) rfl,?_⟩
    ·simp only [rdop,hcv]
     cases v <;> first | rfl | (rename_i q; cases q <;> rfl) | (exact absurd rfl hun)
    ·refine zfi hsub hl l (d::fb) _ e2 _ h (fun t ht=>?_) (fun t=>?_) hK
     ·simp only [List.contains_cons,Bool.or_eq_false_iff,beq_eq_false_iff_ne] at ht
      simp only [upd,if_neg ht.1]
      exact h1 t ht.2
     ·rw [zy]
      exact AVle.upd h2 (AVle.refl _) t
  ·cases h
def zh1 (ds:List Nat) (h0 h1:TH T.toTT0):Bool:=(h1.map Prod.fst).all (fun k=>ds.contains k || (h0.map Prod.fst).contains k)
def zl1 (pro:List Nat) (cx:Cx P T) (keep:List Nat) (pre:List (Ins×List Nat)) (tail:List Ins) (e:TE T.toTT0) (h:TH T.toTT0) (K:TE T.toTT0→TH T.toTT0→Raw P T pro L):Raw P T pro L :=
 let ds:=pre.map (·.1.dst)
 let e0:=zhm ds e
 let h0:=z2i h ds
 let Kt:TE T.toTT0→TH T.toTT0→Raw P T pro L:=fun e h=>evR pro cx tail e h fun e h=>K (zc1 keep e) h
 let plain:Raw P T pro L:=bif zn ds && z5f ds pre 0 pre && pro.all (fun k=>!ds.contains k) && pre.all (fun x=>!isSt x.1.op) then evD cx pre 0 e0 [] h0 fun e1 h1=>bif zh1 ds h0 h1 then Kt e1 h1 else .no else .no
 match za8 cx pre with
 | some (pre0,(x,dep),post) =>
   bif zn ds && z7w ds 0 pre && pro.all (fun k=>!ds.contains k) && pre0.all (fun x=>!isSt x.1.op) && z9b dep pre0 0 && !dep.contains pre0.length && dep.all (fun i=>decide (i<pre0.length)) && pre0.all (fun x=>!x.2.contains pre0.length) && post.all (fun y=>isRd y.1.op && y.2.contains pre0.length) && sepB (pre0.map Prod.fst) then
    evD cx pre0 0 e0 [] h0 fun e1 hA=>zr3 pro cx x e1 hA fun st =>
     bif zn (hA.map Prod.fst) && zh1 ds h0 hA && zn (st.h.map Prod.fst) && zb5 dep st e1 pre0 0 then (match zcd (fun k p=>st.bad k p || st.bw k p) e1 post [x.dst] (st.env e1 x.dst) with | some e2=>Kt e2 st.h | none=>.no) else .no
   else .no
 | none=>plain
theorem zrr {cx:Cx P T} {keep:List Nat} {pre:List (Ins×List Nat)} {tail:List Ins} {e:TE T.toTT0} {h:TH T.toTT0} {K:TE T.toTT0→TH T.toTT0→Raw P T pro L} {Q:L→Prop} {Q':Out→Env→H→Prop}
  (hQ:∀ E H0,KP K Q E H0→Q' .normal E H0) (hs:Sat (zl1 pro cx keep pre tail e h K) Q):W P pro (.draw keep pre tail) Q' (denE T.toTT0 (denH T.toTT0 h) e) (denH T.toTT0 h):=by
 have tl:∀ (e1:TE T.toTT0) (h1:TH T.toTT0),Sat (evR pro cx tail e1 h1 fun e h=>K (zc1 keep e) h) Q→RG P pro keep Q' tail (denE T.toTT0 (denH T.toTT0 h1) e1) (denH T.toTT0 h1):=fun e1 h1 hs=>by
  obtain ⟨E,H',r,e2,h2,rfl,rfl,hK⟩:=zcz tail e1 h1 hs
  exact ⟨_,_,r,hQ _ _ ⟨_,_,(zda keep e2).symm,rfl,hK⟩⟩
 have plain:Sat (bif zn (pre.map (·.1.dst)) && z5f (pre.map (·.1.dst)) pre 0 pre && pro.all (fun k=>!(pre.map (·.1.dst)).contains k) && pre.all (fun x=>!isSt x.1.op) then evD cx pre 0 (zhm (pre.map (·.1.dst)) e) [] (z2i h (pre.map (·.1.dst))) fun e1 h1=>bif zh1 (pre.map (·.1.dst)) (z2i h (pre.map (·.1.dst))) h1 then evR pro cx tail e1 h1 (fun e h=>K (zc1 keep e) h) else .no else .no:Raw P T pro L) Q →
   W P pro (.draw keep pre tail) Q' (denE T.toTT0 (denH T.toTT0 h) e) (denH T.toTT0 h):=fun hs=>by
  cases hb:(zn (pre.map (·.1.dst)) && z5f (pre.map (·.1.dst)) pre 0 pre && pro.all (fun k=>!(pre.map (·.1.dst)).contains k) && pre.all (fun x=>!isSt x.1.op)) with
  | false=>rw [hb] at hs; exact hs.elim
  | true =>
   rw [hb,cond_true] at hs
   refine W.drawG (pre.map (·.1.dst)) rfl hb ?_
   have:=zgc pre 0 _ [] hs
   simp only [z1h,List.nil_append,zhn,accA,List.map_nil] at this
   rw [z4z]
   refine WD.mono (fun E H0 hk=>?_) _ _ _ _ this
   obtain ⟨e1,h1,rfl,rfl,hK⟩:=hk
   dsimp only at hK
   cases hk2:zh1 (pre.map (·.1.dst)) (z2i h (pre.map (·.1.dst))) h1 with
   | false=>rw [hk2] at hK; exact hK.elim
   | true =>
    rw [hk2,cond_true] at hK
    refine ⟨?_,tl _ _ hK⟩
    unfold zay
    rw [z1i,z1i]
    exact hk2
 unfold zl1 at hs
 dsimp only at hs
 split at hs
 ·rename_i pre0 x dep post hsl
  have hpre:=zdi _ _ _ _ hsl
  generalize hds:pre.map (·.1.dst)=ds at hs
  cases hb:(zn ds && z7w ds 0 pre && pro.all (fun k=>!ds.contains k) && pre0.all (fun x=>!isSt x.1.op) && z9b dep pre0 0 && !dep.contains pre0.length && dep.all (fun i=>decide (i<pre0.length)) && pre0.all (fun x=>!x.2.contains pre0.length) && post.all (fun y=>isRd y.1.op && y.2.contains pre0.length) && sepB (pre0.map Prod.fst)) with
  | false=>rw [hb] at hs; exact hs.elim
  | true =>
   rw [hb,cond_true] at hs
   simp only [Bool.and_eq_true] at hb
   obtain ⟨hb,hsep⟩:=hb
   rw [hpre] at hds hb ⊢
   refine W.turn post ds hds (by simpa only [Bool.and_eq_true] using hb) ?_
   have hwd:=zgc pre0 0 _ [] hs
   simp only [z1h,List.nil_append,zhn,accA,List.map_nil] at hwd
   rw [z4z]
   have hf:=WD.facts pre0 0 _ [] [] hwd hsep (fun _ h=>(by cases h)) (fun _ h=>(by cases h))
   refine WD.mono (fun E H0 hk=>?_) _ _ _ _ hf
   obtain ⟨⟨e1,hA,rfl,rfl,hK⟩,hfacts⟩:=hk
   obtain ⟨st,hK,hst,hw⟩:=zya hK
   cases hc:(zn (hA.map Prod.fst) && zh1 ds (z2i h ds) hA && zn (st.h.map Prod.fst) && zb5 dep st e1 pre0 0) with
   | false=>rw [hc] at hK; exact hK.elim
   | true =>
    rw [hc,cond_true] at hK
    simp only [Bool.and_eq_true] at hc
    obtain ⟨⟨⟨c1,c2⟩,c3⟩,c4⟩:=hc
    refine ⟨kill st.bad,den T.toTT0 (denH T.toTT0 st.h) st.v,denH T.toTT0 st.h,?_,by rw [z1i]; exact c3,hst.turn hw,zhl hst.2.1 c1 hst.2.2 pre0 0 c4 (by simpa using hfacts),?_⟩
    ·unfold zay
     rw [z1i,z1i]
     exact c2
    ·split at hK
     ·rename_i e2 hp
      refine zfi (bad0:=st.bad) (fun k p h=>(by simpa using h:st.bad k p=false∧_).1) (fun k p h=>hst.2.1 k p (by simpa using h:st.bad k p=false∧_).1 (by simpa using h:_∧st.bw k p=false).2) post _ _ _ _ hp (fun t ht=>?_) (fun t=>?_) (fun E2 h2=>RG.ghost (zb.le h2) (tl _ _ hK))
      ·simp only [List.contains_cons,List.contains_nil,Bool.or_false,beq_eq_false_iff_ne] at ht
       simp only [upd,if_neg ht]
      ·rw [StT.env,zy]
       refine AVle.upd (fun t=>?_) (AVle.refl _) t
       simp only [denE,z2r]
       exact z69 (fun _ _ h=>h) hst.2.1 _
     ·exact hK.elim
 ·exact plain hs
def zhy (pro:List Nat) (cx:Cx P T) (keep:List Nat) (pre:List (Ins×List Nat)) (tail:List Ins) (e:TE T.toTT0) (h:TH T.toTT0) (K:TE T.toTT0→TH T.toTT0→Raw P T pro L):Raw P T pro L :=
 match frzL (match pre with | x::_=>cx.fzAt (800000+x.1.dst) | []=>[]) e h with
 | some (e,h)=>zl1 pro cx keep pre tail e h K
 | none=>.no
theorem z8d {cx:Cx P T} {keep:List Nat} {pre:List (Ins×List Nat)} {tail:List Ins} {e:TE T.toTT0} {h:TH T.toTT0} {K:TE T.toTT0→TH T.toTT0→Raw P T pro L} {Q:L→Prop} {Q':Out→Env→H→Prop}
  (hQ:∀ E H0,KP K Q E H0→Q' .normal E H0) (hs:Sat (zhy pro cx keep pre tail e h K) Q):W P pro (.draw keep pre tail) Q' (denE T.toTT0 (denH T.toTT0 h) e) (denH T.toTT0 h):=by
 unfold zhy at hs
 split at hs
 ·rename_i e1 h1 hf
  exact W.ghost (z68 _ hf).1 (zrr hQ hs)
 ·exact hs.elim
end
inductive SD where
 | any
 | un
 | im (t:Nat)
 | own (c:Nat) (m:Bool) (t:Nat)
 | ref (c:Nat)
 | ag (l:List SD)
 | fn (l:List SD)
inductive RD where
 | any
 | fix (ks:List Kd)
 | typ (m:Bool) (t:Nat)
structure Dr where
 S:List (Nat×SD)
 R:List (Nat×RD)
section
variable {P:Program} {T:TT} {pro:List Nat} {L:Type}
mutual
def zb4:VT T→Option (VT T)
 | .un=>some .un
 | .sc v=>some (.sc v)
 | .ik k n=>some (.sc (.int k n))
 | .bk b=>some (.sc (.bool b))
 | .zs=>some .zs
 | .im t xs=>some (.im t xs)
 | .ip s cs c=>some (.ip s cs c)
 | .pp (.xp b x c)=>some (.pp (.xp b x c))
 | .pp _=>none
 | .ag cs=>match z8x cs with | some cs'=>some (.ag cs') | none=>none
 | .tu cs=>match z8x cs with | some cs'=>some (.tu cs') | none=>none
 | .fn f cs=>match z8x cs with | some cs'=>some (.fn f cs') | none=>none
 | .sl _ _ _ _ | .sw _ _ | .pt _ _ _ _ | .ow _ _ _ | .oo _ _ _ _ _=>none
def z8x:List (VT T)→Option (List (VT T))
 | []=>some []
 | x::l=>match zb4 x,z8x l with | some x',some l'=>some (x'::l') | _,_=>none
end
mutual
theorem zjs {H0:H}:∀ (v v':VT T),zb4 v=some v'→den T.toTT0 H0 v=den T.toTT0 H0 v'
 | .un,_,h | .sc _,_,h | .ik _ _,_,h | .bk _,_,h | .zs,_,h | .im _ _,_,h | .ip _ _ _,_,h | .pp (.xp _ _ _),_,h=>by cases h; rfl
 | .pp (.fs _ _),_,h | .pp (.fp _ _ _),_,h | .pp (.px _ _),_,h=>by cases h
 | .ag cs,_,h=>by
  simp only [zb4] at h
  split at h
  ·rename_i cs' hc; cases h; simp only [den,z8m cs cs' hc]
  ·cases h
 | .tu cs,_,h=>by
  simp only [zb4] at h
  split at h
  ·rename_i cs' hc; cases h; simp only [den,z8m cs cs' hc]
  ·cases h
 | .fn f cs,_,h=>by
  simp only [zb4] at h
  split at h
  ·rename_i cs' hc; cases h; simp only [den,z8m cs cs' hc]
  ·cases h
 | .sl _ _ _ _,_,h | .sw _ _,_,h | .pt _ _ _ _,_,h | .ow _ _ _,_,h | .oo _ _ _ _ _,_,h=>by cases h
theorem z8m {H0:H}:∀ (v v':List (VT T)),z8x v=some v'→denL T.toTT0 H0 v=denL T.toTT0 H0 v'
 | [],_,h=>by cases h; rfl
 | x::l,_,h=>by
  simp only [z8x] at h
  split at h
  ·rename_i x' l' h1 h2
   cases h
   simp only [denL,zjs x x' h1,z8m l l' h2]
  ·cases h
end
mutual
def zbg:SD→VT T→Option (VT T×List (Nat×Nat))
 | .any,v=>match zb4 v with | some v'=>some (v',[]) | none=>none
 | .un,_=>some (.un,[])
 | .im t,.zs=>some (.im t [],[])
 | .im _,.im t xs=>some (.im t xs,[])
 | .im _,_=>none
 | .own c _ _,.sw k []=>some (.sw k [],[(c,k)])
 | .own _ _ _,_=>none
 | .ref c,.pt k p i cc=>some (.pt k p i cc,[(c,k)])
 | .ref c,.sw k p=>some (.sw k p,[(c,k)])
 | .ref c,.sl k p off len=>some (.sl k p off len,[(c,k)])
 | .ref c,.pp (.fs k cs)=>some (.pp (.fs k cs),[(c,k)])
 | .ref _,_=>none
 | .ag ds,.ag cs=>match zal ds cs with | some (cs',b)=>some (.ag cs',b) | none=>none
 | .ag ds,.tu cs=>match zal ds cs with | some (cs',b)=>some (.tu cs',b) | none=>none
 | .ag _,_=>none
 | .fn ds,.fn f cs=>match zal ds cs with | some (cs',b)=>some (.fn f cs',b) | none=>none
 | .fn _,_=>none
def zal:List SD→List (VT T)→Option (List (VT T)×List (Nat×Nat))
 | [],[]=>some ([],[])
 | d::ds,v::vs=>match zbg d v,zal ds vs with | some (v',b),some (vs',b')=>some (v'::vs',b++b') | _,_=>none
 | _,_=>none
end
mutual
theorem zkx {H0:H}:∀ (d:SD) (v v':VT T) (b:List (Nat×Nat)),zbg d v=some (v',b)→AVle (den T.toTT0 H0 v) (den T.toTT0 H0 v')
 | .any,v,v',b,h=>by
  simp only [zbg] at h
  split at h
  ·rename_i w hw; cases h; rw [zjs v _ hw]; exact AVle.refl _
  ·cases h
 | .un,v,v',b,h=>by cases h; exact AVle.un _
 | .im t,v,v',b,h=>by
  cases v <;> first | (cases h; done) | skip
  ·cases h; simp only [den,List.map_nil]; exact AVle.zsIm _
  ·cases h; exact AVle.refl _
 | .own c m t,v,v',b,h=>by
  cases v with
  | sw k p =>
   cases p with
   | nil=>cases h; exact AVle.refl _
   | cons _ _=>cases h
  | _=>cases h
 | .ref c,v,v',b,h=>by
  cases v <;> first | (cases h; done) | (rename_i q; cases q <;> first | (cases h; done) | (cases h; exact AVle.refl _)) | (cases h; exact AVle.refl _)
 | .ag ds,v,v',b,h=>by
  cases v with
  | ag cs =>
   simp only [zbg] at h
   split at h
   ·rename_i cs' b' hc; cases h; simp only [den]; exact AVle.ag (z9p ds cs cs' _ hc).C
   ·cases h
  | tu cs =>
   simp only [zbg] at h
   split at h
   ·rename_i cs' b' hc; cases h; simp only [den]; exact AVle.tu (z9p ds cs cs' _ hc).L
   ·cases h
  | _=>cases h
 | .fn ds,v,v',b,h=>by
  cases v with
  | fn f cs =>
   simp only [zbg] at h
   split at h
   ·rename_i cs' b' hc; cases h; simp only [den]; exact AVle.fn (z9p ds cs cs' _ hc).L
   ·cases h
  | _=>cases h
theorem z9p {H0:H}:∀ (d:List SD) (v v':List (VT T)) (b:List (Nat×Nat)),zal d v=some (v',b)→z4q (denL T.toTT0 H0 v) (denL T.toTT0 H0 v')
 | [],[],_,_,h=>by cases h; exact .nil
 | [],_::_,_,_,h=>by cases h
 | _::_,[],_,_,h=>by cases h
 | d::ds,v::vs,v',b,h=>by
  simp only [zal] at h
  split at h
  ·rename_i v1 b1 vs1 b2 h1 h2
   cases h
   exact .cons (zkx d v v1 _ h1) (z9p ds vs vs1 _ h2)
  ·cases h
end
def Gh (P:Program) (pro:List Nat) (T:TT) (e:TE T.toTT0) (h:TH T.toTT0) (e1:TE T.toTT0) (h1:TH T.toTT0):Prop:=zb P pro (denE T.toTT0 (denH T.toTT0 h) e) (denH T.toTT0 h) (denE T.toTT0 (denH T.toTT0 h1) e1) (denH T.toTT0 h1)
def zr1 (pro:List Nat) (e:TE T.toTT0) (h:TH T.toTT0) (t:Nat) (d:SD):Rs (TE T.toTT0×TH T.toTT0×List (Nat×Nat)) :=
 match d,getE e t with
 | .own c m ty,.zs =>
  bif pro.contains (500000+t) || (h.map Prod.fst).contains (500000+t) then .no
  else .ok (putE (z51 (fun k _=>Nat.beq k (500000+t)) (fun _ _=>false) e) t (.sw (500000+t) []),(500000+t,.typ m ty [])::h,[(c,500000+t)])
 | .own c _ _,.sl k [] 0 n =>
  match getT h k with
  | some (.typ m' t' xs)=>.need (n≤xs.length) (.ok (putE (z51 (fun _ _=>false) (fun k' _=>Nat.beq k' k) e) t (.sw k []),(k,.typ m' t' (xs.take n))::delT h k,[(c,k)]))
  | _=>.no
 | d,v=>match zbg d v with | some (v',b)=>.ok (putE e t v',h,b) | none=>.no
theorem zy9 {e e1:TE T.toTT0} {h h1:TH T.toTT0} {t:Nat} {d:SD} {b:List (Nat×Nat)} (hg:(zr1 pro e h t d).gives (e1,h1,b)):Gh P pro T e h e1 h1:=by
 unfold zr1 at hg
 split at hg
 ·rename_i c m ty hz
  cases hb:(pro.contains (500000+t) || (h.map Prod.fst).contains (500000+t)) with
  | true=>rw [hb] at hg; exact hg.elim
  | false =>
   rw [hb] at hg
   cases hg
   simp only [Bool.or_eq_false_iff] at hb
   have h1:=zb.nil (P:=P) (pro:=pro) (e:=denE T.toTT0 (denH T.toTT0 h) e) (h:=denH T.toTT0 h) (t:=t) (d:=500000+t) (s:=T.sz ty) (by simp only [denE,hz,den]) (by
    rw [z1i]
    intro hm
    have:(h.map Prod.fst).contains (500000+t)=true:=by simpa using hm
    rw [hb.2] at this; cases this) (by
    rw [List.all_eq_true]
    intro k hk
    simp only [bne_iff_ne,ne_eq]
    rintro rfl
    have:pro.contains (500000+t)=true:=by simpa using hk
    rw [hb.1] at this; cases this)
   have hh:denH T.toTT0 ((500000+t,.typ m ty [])::h)=(500000+t,⟨T.sz ty,[]⟩)::denH T.toTT0 h:=rfl
   unfold Gh
   rw [hh]
   refine h1.trans (zb.le fun u=>?_)
   rw [zy]
   refine AVle.upd (fun u=>?_) ?_ u
   ·simp only [zx,denE,z2r]
    refine z69 (fun k p hk=>by simpa using hk) (fun k p hk _=>z1d ?_) _
    simp only [z1f,decide_eq_false_iff_not] at hk
    simp only [za]
    rw [if_neg (fun e=>hk e.symm)]
   ·have:ze ((500000+t,⟨T.sz ty,[]⟩)::denH T.toTT0 h) (500000+t) []=0:=by simp [ze,res,za,resE]
    simp only [den,this]; exact AVle.refl _
 ·rename_i c m ty k n hz
  split at hg
  ·rename_i m' t' xs hr
   obtain ⟨hc,hg⟩:=hg
   cases hg
   have hgr:za (denH T.toTT0 h) k=some ⟨T.sz t',xs.map (T.ca m' t')⟩:=by rw [z1s,hr]; rfl
   have h1:=zb.take (P:=P) (pro:=pro) (e:=denE T.toTT0 (denH T.toTT0 h) e) n hgr
   have hh:denH T.toTT0 ((k,.typ m' t' (xs.take n))::delT h k)=(k,⟨T.sz t',(xs.map (T.ca m' t')).take n⟩)::zd (denH T.toTT0 h) k:=by
    simp only [denH,denR,List.map_take,zw]
   unfold Gh
   rw [hh]
   refine h1.trans (zb.le fun u=>?_)
   rw [zy]
   unfold upd
   split
   ·rename_i hu
    subst hu
    have:ze ((k,⟨T.sz t',(xs.map (T.ca m' t')).take n⟩)::zd (denH T.toTT0 h) k) k []=n:=by
     simp only [ze,res,za,if_true,resE,List.length_take,List.length_map]; omega
    simp only [denE,hz,den,this]; exact AVle.refl _
   ·simp only [denE,z2r]
    have:=z69 (T:=T) (H0:=denH T.toTT0 h) (H1:=(k,⟨T.sz t',(xs.map (T.ca m' t')).take n⟩)::zd (denH T.toTT0 h) k) (b1:=fun _ _=>false) (bad:=fun _ _=>false) (bw:=fun k' _=>Nat.beq k' k) (fun _ _ h=>h) (fun k' p _ hk=>z1d (by
     simp only [z1f,decide_eq_false_iff_not] at hk
     simp only [za]
     rw [if_neg (fun e=>hk e.symm),z1c hk])) (getE e u)
    rwa [zh9] at this
  ·exact hg.elim
 ·split at hg
  ·rename_i v' b' hv
   cases hg
   unfold Gh
   refine zb.le fun u=>?_
   rw [zy]
   unfold upd
   split
   ·rename_i hu; subst hu; exact zkx _ _ _ _ hv
   ·exact AVle.refl _
  ·exact hg.elim
mutual
def zyl:SD→VT T→List Fz
 | .im _,.sw k []=>[.row k]
 | .im _,.sw k [(_,c)]=>[.col k [c]]
 | .ag ds,.ag cs=>zlu ds cs
 | .ag ds,.tu cs=>zlu ds cs
 | _,_=>[]
def zlu:List SD→List (VT T)→List Fz
 | d::ds,v::vs=>zyl d v++zlu ds vs
 | _,_=>[]
end
def zyk (h:TH T.toTT0) (k:Nat) (ks:List Kd):List Fz :=
 match getT h k with
 | some (.lit _ [cs])=>match frcC 0 ks cs with | []=>[] | l=>[.col k l]
 | _=>[]
where frcC:Nat→List Kd→List (VT T)→List Nat
 | c,.im _::ks,.ow _ _ _::l=>c::frcC (c+1) ks l
 | c,_::ks,_::l=>frcC (c+1) ks l
 | _,_,_=>[]
def y75 (h:TH T.toTT0) (k:Nat) (m:Bool):List Fz :=
 match m,getT h k with
 | false,some (.typ true _ _)=>[.nest k]
 | _,_=>[]
def zhk (pro:List Nat):List (Nat×SD)→TE T.toTT0→TH T.toTT0→List (Nat×Nat)→Rs (TE T.toTT0×TH T.toTT0×List (Nat×Nat))
 | [],e,h,b=>.ok (e,h,b)
 | (t,d)::l,e,h,b=>match frzL (zyl d (getE e t)) e h with
  | some (e,h)=>(zr1 pro e h t d).bind fun (e,h,b')=>zhk pro l e h (b'++b)
  | none=>.no
theorem zjx:∀ (l:List (Nat×SD)) (e e1:TE T.toTT0) (h h1:TH T.toTT0) (b b1:List (Nat×Nat)),(zhk pro l e h b).gives (e1,h1,b1)→Gh P pro T e h e1 h1
 | [],_,_,_,_,_,_,hg=>by cases hg; exact zb.rfl'
 | (t,d)::l,e,e1,h,h1,b,b1,hg=>by
  simp only [zhk] at hg
  split at hg
  ·rename_i e3 h3 hf
   obtain ⟨⟨e2,h2,b2⟩,q1,q2⟩:=Rs.bind_gives _ hg
   exact zb.trans (z68 _ hf).1 (zb.trans (zy9 q1) (zjx l _ _ _ _ _ _ q2))
  ·exact hg.elim
def zr5 (h:TH T.toTT0) (k:Nat) (m:Bool) (t:Nat):Option (TH T.toTT0) :=
 match getT h k with
 | some (.lit s xs)=>bif Nat.beq (T.sz t) s then match unL m t xs with | some ys=>some ((k,.typ m t ys)::delT h k) | none=>none else none
 | some _=>some h
 | none=>none
theorem zyc {e:TE T.toTT0} {h h1:TH T.toTT0} {k:Nat} {m:Bool} {t:Nat} (ht:zr5 h k m t=some h1):Gh P pro T e h e h1:=by
 unfold zr5 at ht
 split at ht
 ·rename_i s xs hr
  cases hb:Nat.beq (T.sz t) s with
  | false=>rw [hb] at ht; cases ht
  | true =>
   rw [hb,cond_true] at ht
   split at ht
   ·rename_i ys hy
    cases ht
    have hgr:za (denH T.toTT0 h) k=some ⟨s,xs.map (denL T.toTT0 [])⟩:=by rw [z1s,hr]; rfl
    have hrow:denR T.toTT0 (.typ m t ys)=⟨s,xs.map (denL T.toTT0 [])⟩:=by simp only [denR,zhr _ _ hy,Nat.eq_of_beq_eq_true hb]
    have hh:denH T.toTT0 ((k,.typ m t ys)::delT h k)=(k,⟨s,(xs.map (denL T.toTT0 [])).map (fixA (fun _=>none) 0)⟩)::zd (denH T.toTT0 h) k:=by
     rw [z53]; simp only [denH,hrow,zw]
    have h1:=zb.fix (P:=P) (pro:=pro) (e:=denE T.toTT0 (denH T.toTT0 h) e) (fun _=>none) (fun _ _ h=>(by cases h)) hgr
    unfold Gh
    rw [hh]
    refine h1.trans (zb.le fun u=>?_)
    have hkill:z43 (fun _=>none) k=fun _ _=>false:=by
     funext k' q
     unfold z43
     cases q <;> simp
    simp only [zx,hkill,zh9,denE]
    have hl:∀ k' q,ze ((k,⟨s,(xs.map (denL T.toTT0 [])).map (fixA (fun _=>none) 0)⟩)::zd (denH T.toTT0 h) k) k' q=ze (denH T.toTT0 h) k' q:=fun k' q=>by
     refine z1d ?_
     by_cases hk:k'=k
     ·subst hk; rw [z53,hgr]; simp [za]
     ·simp only [za]; rw [if_neg (fun e=>hk e.symm),z1c hk]
    have:=zb0 (T:=T) (bad:=fun _ _=>false) (fun k' q _=>hl k' q) (getE e u)
    rw [zh9] at this
    have hid:z2g (fun _ _=>false) (fun _ _=>false) (getE e u)=getE e u:=zfd _
    rw [this,hid]
    exact AVle.refl _
   ·cases ht
 ·cases ht; exact zb.rfl'
 ·cases ht
def zc2 (bm:List (Nat×Nat)) (c:Nat):Nat:=match look bm c with | some k=>k | none=>c
def zcg:List (Nat×RD)→TE T.toTT0→TH T.toTT0→List (Nat×Nat)→Option (TE T.toTT0×TH T.toTT0)
 | [],e,h,_=>some (e,h)
 | (c,.any)::l,e,h,b=>zcg l e h b
 | (c,.fix ks)::l,e,h,b=>match frzL (zyk h (zc2 b c) ks) e h with
  | some (e,h)=>match zbt e h (zc2 b c) ks with | some (e,h)=>zcg l e h b | none=>none
  | none=>none
 | (c,.typ m t)::l,e,h,b=>match frzL (y75 h (zc2 b c) m++zyk h (zc2 b c) (T.ks m t)) e h with
  | some (e,h)=>match zbt e h (zc2 b c) (T.ks m t) with
   | some (e,h)=>match zr5 h (zc2 b c) m t with | some h=>zcg l e h b | none=>none
   | none=>none
  | none=>none
theorem zch:∀ (l:List (Nat×RD)) (e e1:TE T.toTT0) (h h1:TH T.toTT0) (b:List (Nat×Nat)),zcg l e h b=some (e1,h1)→Gh P pro T e h e1 h1
 | [],_,_,_,_,_,hg=>by cases hg; exact zb.rfl'
 | (c,.any)::l,e,e1,h,h1,b,hg=>zch l e e1 h h1 b hg
 | (c,.fix ks)::l,e,e1,h,h1,b,hg=>by
  simp only [zcg] at hg
  split at hg
  ·rename_i e3 h3 hz
   split at hg
   ·rename_i e2 h2 hf
    exact zb.trans (z68 _ hz).1 (zb.trans (zfa hf) (zch l _ _ _ _ b hg))
   ·cases hg
  ·cases hg
 | (c,.typ m t)::l,e,e1,h,h1,b,hg=>by
  simp only [zcg] at hg
  split at hg
  ·rename_i e4 h4 hz
   split at hg
   ·rename_i e2 h2 hf
    split at hg
    ·rename_i h3 ht
     exact zb.trans (z68 _ hz).1 (zb.trans (zfa hf) (zb.trans (zyc ht) (zch l _ _ _ _ b hg)))
    ·cases hg
   ·cases hg
  ·cases hg
def zqu (pro:List Nat) (bm:List (Nat×Nat)) (S:List Nat) (e:TE T.toTT0) (h:TH T.toTT0):Option (EH T) :=
 bif zn (bm.map Prod.fst) && zn (bm.map Prod.snd) && pro.all (fun k=>look bm k==some k) then
  match z6x h bm with
  | some (hs,_)=>some (S.map fun t=>(t,match z39 bm (getE e t) with | some v=>v | none=>.un),hs)
  | none=>none
 else none
theorem zy0 {bm:List (Nat×Nat)} {S:List Nat} {e:TE T.toTT0} {h:TH T.toTT0} {eh:EH T} (hn:zqu pro bm S e h=some eh):Gh P pro T e h eh.1 eh.2:=by
 unfold zqu at hn
 cases hb:(zn (bm.map Prod.fst) && zn (bm.map Prod.snd) && pro.all (fun k=>look bm k==some k)) with
 | false=>rw [hb] at hn; cases hn
 | true =>
  rw [hb,cond_true] at hn
  simp only [Bool.and_eq_true] at hb
  split at hn
  ·rename_i hs rest hsp
   cases hn
   obtain ⟨s1,s2,s3⟩:=z4a bm h hs rest hsp
   have hkeys:=z7g _ _ _ _ s1
   have hno:za0 pro bm S (denE T.toTT0 (denH T.toTT0 h) e) (denH T.toTT0 h)=some (z1a (S.map fun t=>(t,zbc bm (denE T.toTT0 (denH T.toTT0 h) e t))),denH T.toTT0 hs):=by
    unfold za0
    rw [s1]
    simp only
    rw [if_pos (by simp only [Bool.and_eq_true]; exact ⟨hb.1.1,hb.2⟩)]
   refine zb.trans (zb.norm hno) (zb.le fun t=>?_)
   have hbl:∀ k n q,z1m bm k=some n→ze (denH T.toTT0 hs) n q=ze (denH T.toTT0 h) k q:=fun k n q hkn=>by
    have:=s3 n k hb.1.1 hb.1.2 (z52 bm hkn)
    unfold ze res
    rw [this]
   have hv:∀ t,AVle (zbc bm (denE T.toTT0 (denH T.toTT0 h) e t)) (den T.toTT0 (denH T.toTT0 hs) (match z39 bm (getE e t) with | some v=>v | none=>.un)):=fun t=>by
    split
    ·rename_i v hv
     have:=z6z (T:=T) hbl _ _ hv
     unfold zbc
     simp only [denE,this]
     exact AVle.refl _
    ·exact AVle.un _
   clear hno
   induction S with
   | nil=>exact AVle.refl _
   | cons s S ih =>
    simp only [List.map_cons,z1a]
    rw [show denE T.toTT0 (denH T.toTT0 hs) ((s,match z39 bm (getE e s) with | some v=>v | none=>.un)::S.map fun t=>(t,match z39 bm (getE e t) with | some v=>v | none=>.un))=upd (denE T.toTT0 (denH T.toTT0 hs) (S.map fun t=>(t,match z39 bm (getE e t) with | some v=>v | none=>.un))) s (den T.toTT0 (denH T.toTT0 hs) (match z39 bm (getE e s) with | some v=>v | none=>.un)) from zy]
    unfold upd
    split
    ·exact hv s
    ·exact ih
  ·cases hn
def cnv (pro:List Nat) (D:Dr) (e:TE T.toTT0) (h:TH T.toTT0):Rs (EH T) :=
 (zhk pro D.S e h []).bind fun (e,h,b) =>
  match zcg D.R e h b with
  | some (e,h)=>match zqu pro (D.R.map fun x=>(x.1,zc2 b x.1)) (D.S.map Prod.fst) e h with
   | some eh=>.ok eh
   | none=>.no
  | none=>.no
theorem z3f {D:Dr} {e:TE T.toTT0} {h:TH T.toTT0} {eh:EH T} (hg:(cnv pro D e h).gives eh):Gh P pro T e h eh.1 eh.2:=by
 obtain ⟨⟨e1,h1,b⟩,q1,q2⟩:=Rs.bind_gives _ hg
 dsimp only at q2
 split at q2
 ·rename_i e2 h2 hr
  split at q2
  ·rename_i eh' hn
   cases q2
   exact zb.trans (zjx _ _ _ _ _ _ _ q1) (zb.trans (zch _ _ _ _ _ _ hr) (zy0 hn))
  ·exact q2.elim
 ·exact q2.elim
end
inductive An (P:Program) (T:TT) (pro:List Nat):Type 1 where
 | no
 | two (a b:An P T pro)
 | join (S:Type) (enc:S→EH T) (D:Dr) (a b:An P T pro)
 | loop (V:Type) (c:V→LCon P T pro) (ret:Bool) (D:Dr)
 | alls (S Z:Type) (enc:S→EH T) (encV:Z→Value) (D:Dr)
section
variable {P:Program} {T:TT} {pro:List Nat}
def An.l:An P T pro→An P T pro
 | .two a _=>a
 | _=>.no
def An.r:An P T pro→An P T pro
 | .two _ b=>b
 | _=>.no
def y9p {L:Type} (pro:List Nat) (D:Dr) (K:Out→TE T.toTT0→TH T.toTT0→Raw P T pro L):Out→TE T.toTT0→TH T.toTT0→Raw P T pro (EH T⊕L)
 | .normal,e,h=>Raw.ofRs (fun eh=>.leaf (.inl eh)) (cnv pro D e h)
 | o,e,h=>(K o e h).map .inr
def seqK {L:Type} (A:TE T.toTT0→TH T.toTT0→Raw P T pro L) (K:Out→TE T.toTT0→TH T.toTT0→Raw P T pro L):Out→TE T.toTT0→TH T.toTT0→Raw P T pro L
 | .normal=>A
 | o=>K o
def zrf {L:Type} (id:Nat) (K:Out→TE T.toTT0→TH T.toTT0→Raw P T pro L):Out→TE T.toTT0→TH T.toTT0→Raw P T pro L
 | .exit id'=>bif Nat.beq id' id then K .normal else K (.exit id')
 | o=>K o
def retK {L:Type} (K:Out→TE T.toTT0→TH T.toTT0→Raw P T pro L) (eh:EH T):Raw P T pro L :=
 match isX eh with
 | some u=>K (.panic u) [] []
 | none=>K .ret eh.1 eh.2
theorem KP.none {L:Type} {K:TE T.toTT0→TH T.toTT0→Raw P T pro L} {Q:L→Prop} (h:Sat (K [] []) Q):KP K Q nE []:=⟨[],[],rfl,rfl,h⟩
theorem y3d {L:Type} {K:Out→TE T.toTT0→TH T.toTT0→Raw P T pro L} {Q:L→Prop} {eh:EH T} {o:Out} {E:Env} {H0:H} (hr:zdr eh o E H0) (hs:Sat (retK K eh) Q):KP (K o) Q E H0:=by
 unfold zdr at hr
 unfold retK at hs
 cases hx:isX eh with
 | none =>
  rw [hx] at hr hs
  obtain ⟨rfl,rfl,rfl⟩:=hr
  exact ⟨_,_,rfl,rfl,hs⟩
 | some u =>
  rw [hx] at hr hs
  obtain ⟨rfl,rfl,rfl⟩:=hr
  exact KP.none hs
def scsT:List (VT T)→Option (List Value)
 | []=>some []
 | x::l=>match asc x,scsT l with | some v,some vs=>some (v::vs) | _,_=>none
def panV:VT T→Option Value
 | .ag cs=>match scsT cs with | some vs=>some (.agg vs.toArray) | none=>none
 | v=>asc v
theorem zpr {H0:H}:∀ (l:List (VT T)) (vs:List Value),scsT l=some vs→scL (denL T.toTT0 H0 l)=some vs
 | [],_,h=>by cases h; rfl
 | x::l,vs,h=>by
  unfold scsT at h
  split at h
  ·rename_i v vs' h1 h2
   cases h
   simp only [denL,z2p h1,scL,zpr l vs' h2]
  ·cases h
theorem y36 {H0:H} {v:VT T} {u:Value} (h:panV v=some u):scAV (den T.toTT0 H0 v)=some u:=by
 unfold panV at h
 split at h
 ·split at h
  ·rename_i vs hv
   cases h
   simp only [den,scAV,zpr _ _ hv]
  ·cases h
 ·rw [z2p h]; rfl
def zqf {L:Type}:List (Raw P T pro L)→Raw P T pro L
 | []=>.no
 | [a]=>a
 | a::l=>.both a (zqf l)
theorem zje {L:Type} {Q:L→Prop}:∀ (l:List (Raw P T pro L)),Sat (zqf l) Q→∀ a ∈ l,Sat a Q
 | [],h,a,ha=>(nomatch ha)
 | [x],h,a,ha=>by
  have:a=x:=by simpa using ha
  rw [this]; exact h
 | x::y::l,h,a,ha=>by
  rcases List.mem_cons.1 ha with rfl | ha
  ·exact h.1
  ·exact zje (y::l) h.2 a ha
def zmm (pre:List (Ins×List Nat)) (D:List Nat):List Nat:=(List.range pre.length).filter fun i=>!D.contains i && (match pre[i]? with | some x=>x.2.all D.contains | none=>false)
def evA (pro:List Nat) (cx:Cx P T) (pre:List (Ins×List Nat)) (D:Dr):Nat→List Nat→TE T.toTT0→TH T.toTT0→Raw P T pro (EH T⊕Value)
 | 0,_,_,_=>.no
 | n+1,dn,e,h=>bif (List.range pre.length).all dn.contains then Raw.ofRs (fun eh=>.leaf (.inl eh)) (cnv pro D e h)
  else zqf ((zmm pre dn).map fun i=>match pre[i]? with
   | some x=>zax e x.1.guard (fun e=>zms pro cx x.1 e h (fun e h=>evA pro cx pre D n (i::dn) e h) (fun u _ _=>.leaf (.inr u))) (fun e=>evA pro cx pre D n (i::dn) (putE e x.1.dst (zhj x.1.op)) h)
   | none=>.no)
def FN (P:Program) (pro:List Nat) (r:EH T⊕Value) (E:Env) (H0:H):Prop:=∃ eh,r = .inl eh∧zb P pro E H0 (denE T.toTT0 (denH T.toTT0 eh.2) eh.1) (denH T.toTT0 eh.2)
theorem RunA.mono {pre:List (Ins×List Nat)} {F F':Env→H→Prop} {FX FX':Value→Prop} (hF:∀ e h,F e h→F' e h) (hX:∀ u,FX u→FX' u):∀ (n:Nat) (D:List Nat) (e:Env) (h:H),RunA P pro pre F FX n D e h→RunA P pro pre F' FX' n D e h
 | 0,D,e,h,hr=>⟨hr.1,hF _ _ hr.2⟩
 | n+1,D,e,h,hr=>by
  rcases hr with ⟨h1,h2⟩ | ⟨h1,h2⟩
  ·exact .inl ⟨h1,hF _ _ h2⟩
  ·refine .inr ⟨h1,fun i x hx hi hd=>?_⟩
   obtain ⟨e0,h0,g,hr⟩:=h2 i x hx hi hd
   refine ⟨e0,h0,g,?_⟩
   rcases hr with ⟨hw,hr⟩ | ⟨hw,e1,h1',hs,hr⟩ | ⟨hw,u,hx,hp,hu⟩
   ·exact .inl ⟨hw,RunA.mono hF hX n _ _ _ hr⟩
   ·exact .inr (.inl ⟨hw,e1,h1',hs,RunA.mono hF hX n _ _ _ hr⟩)
   ·exact .inr (.inr ⟨hw,u,hx,hp,hX u hu⟩)
theorem RunA.ghost {pre:List (Ins×List Nat)} {F:Env→H→Prop} {FX:Value→Prop} (hF:∀ e h e1 h1,zb P pro e h e1 h1→F e1 h1→F e h) {n:Nat} {D:List Nat} {e e1:Env} {h h1:H} (g:zb P pro e h e1 h1) (hr:RunA P pro pre F FX n D e1 h1):RunA P pro pre F FX n D e h:=by
 cases n with
 | zero=>exact ⟨hr.1,hF _ _ _ _ g hr.2⟩
 | succ n =>
  rcases hr with ⟨h1,h2⟩ | ⟨h1,h2⟩
  ·exact .inl ⟨h1,hF _ _ _ _ g h2⟩
  ·refine .inr ⟨h1,fun i x hx hi hd=>?_⟩
   obtain ⟨e0,h0,g',hr⟩:=h2 i x hx hi hd
   exact ⟨e0,h0,g.trans g',hr⟩
theorem FN.ghost {r:EH T⊕Value} {E E1:Env} {H0 H1:H} (g:zb P pro E H0 E1 H1) (h:FN P pro r E1 H1):FN P pro r E H0:=by
 obtain ⟨eh,h1,h2⟩:=h
 exact ⟨eh,h1,g.trans h2⟩
theorem zl0 {cx:Cx P T} {pre:List (Ins×List Nat)} {D:Dr} {r:EH T⊕Value}:∀ (n:Nat) (dn:List Nat) (e:TE T.toTT0) (h:TH T.toTT0),Sat (evA pro cx pre D n dn e h) (fun l=>l=r) →
  RunA P pro pre (FN P pro r) (fun u=>r = .inr u) n dn (denE T.toTT0 (denH T.toTT0 h) e) (denH T.toTT0 h)
 | 0,_,_,_,hs=>hs.elim
 | n+1,dn,e,h,hs=>by
  simp only [evA] at hs
  cases hb:(List.range pre.length).all dn.contains with
  | true =>
   rw [hb,cond_true] at hs
   obtain ⟨eh,q1,q2⟩:=Sat.ofRs _ hs
   have q2:Sum.inl eh=r:=q2
   exact .inl ⟨fun i hi=>by simpa using List.all_eq_true.1 hb i (List.mem_range.2 hi),eh,q2.symm,z3f q1⟩
  | false =>
   rw [hb,cond_false] at hs
   refine .inr ⟨?_,fun i x hx hi hd=>?_⟩
   ·rw [List.all_eq_false] at hb
    obtain ⟨i,h1,h2⟩:=hb
    exact ⟨i,List.mem_range.1 h1,by simpa using h2⟩
   ·have hlt:i<pre.length:=(List.getElem?_eq_some_iff.1 hx).1
    have hm:i ∈ zmm pre dn:=by
     unfold zmm
     rw [List.mem_filter]
     refine ⟨List.mem_range.2 hlt,?_⟩
     simp only [hx,Bool.and_eq_true,Bool.not_eq_true',List.all_eq_true]
     exact ⟨by simpa using hi,fun d hdd=>by simpa using hd d hdd⟩
    have hone:=zje _ hs _ (List.mem_map.2 ⟨i,hm,rfl⟩)
    simp only [hx] at hone
    obtain ⟨e',he,h1 | h1⟩:=z9u (H0:=denH T.toTT0 h) hone
    ·rcases zjy h1.2 with ⟨e0,h0,e1,h1',e2,h2,g1,gb,g2,g3,e4,h4,rfl,rfl,hK⟩ | ⟨e0,h0,u,ex,hx,g1,gb,g2,_,hK⟩
     ·rw [he] at g1 gb
      have hK:Sat (evA pro cx pre D n (i::dn) e4 h4) (fun l=>l=r):=hK
      exact ⟨e0,h0,g1,.inr (.inl ⟨z8p h1.1 gb,e1,h1',g2,RunA.ghost (fun _ _ _ _=>FN.ghost) g3 (zl0 n (i::dn) e4 h4 hK)⟩)⟩
     ·rw [he] at g1 gb
      have hK:Sum.inr u=r:=hK
      exact ⟨e0,h0,g1,.inr (.inr ⟨z8p h1.1 gb,u,_,g2,hK.symm⟩)⟩
    ·have:=zl0 n (i::dn) _ h h1.2
     rw [zy,he,z82] at this
     exact ⟨_,_,zb.rfl',.inl ⟨h1.1,this⟩⟩
def zql (e:TE T.toTT0) (c:Operand) (b:Bool):TE T.toTT0:=match c with | .tmp s=>putE e s (.bk b) | _=>e
def evC (cx:Cx P T):IC→An P T pro→{L:Type}→TE T.toTT0→TH T.toTT0→(Out→TE T.toTT0→TH T.toTT0→Raw P T pro L)→Raw P T pro L
 | .reg keep l,_,_,e,h,K=>evRX pro cx l e h (fun e h=>K .normal (zc1 keep e) h) (fun u e h=>K (.panic u) e h)
 | .pan l d t x,_,_,e,h,K=>evR pro cx l e h fun e h=>match panV (evT e x) with | some u=>K (.panic (.iface t u)) (ptT (putE e d .un)) h | none=>.no
 | .draw keep pre tail,an,_,e,h,K =>
  match an with
  | .alls S Z enc encV D=>.alls enc encV (evA pro cx pre D (pre.length+1) [] e h) (fun s=>evR pro cx tail (enc s).1 (enc s).2 fun e h=>K .normal (zc1 keep e) h) (fun z=>K (.panic (encV z)) [] [])
  | _=>zhy pro cx keep pre tail e h (K .normal)
 | .bad,_,_,_,_,_=>.no
 | .skip,_,_,e,h,K=>K .normal e h
 | .ret,_,_,e,h,K=>K .ret e h
 | .exit id,_,_,e,h,K=>K (.exit id) e h
 | .seq x y,an,_,e,h,K =>
  match an with
  | .join S enc D a b=>.join enc (evC cx x a e h (y9p pro D K)) fun s=>evC cx y b (enc s).1 (enc s).2 K
  | an=>evC cx x an.l e h (seqK (fun e h=>evC cx y an.r e h K) K)
 | .cond c x y,an,_,e,h,K =>
  match evT e c with
  | .bk true=>evC cx x an.l e h K
  | .bk false=>evC cx y an.r e h K
  | .sc (.bool b)=>.ite b (evC cx x an.l (zql e c true) h K) (evC cx y an.r (zql e c false) h K)
  | _=>.no
 | .block id x,an,_,e,h,K=>evC cx x an.l e h (zrf id K)
 | .loop x,an,_,e,h,K =>
  match an with
  | .loop _ c ret D=>Raw.ofRs (fun eh=>bif ret then .loopR c x eh (fun v y=>K (.exit (c v).id) ((c v).encY y).1 ((c v).encY y).2) (fun v z=>retK K ((c v).encZ z))
    else .loop c x eh (fun v y=>K (.exit (c v).id) ((c v).encY y).1 ((c v).encY y).2)) (cnv pro D e h)
  | _=>.no
theorem zm8 {e:TE T.toTT0} {H0:H} {c:Operand} {b:Bool} (hc:evT e c = .sc (.bool b)):denE T.toTT0 H0 (zql e c b)=denE T.toTT0 H0 e:=by
 cases c with
 | tmp s=>exact z54 hc
 | _=>rfl
theorem z36 {cx:Cx P T}:∀ (c:IC) (an:An P T pro) {L:Type} (e:TE T.toTT0) (h:TH T.toTT0) (K:Out→TE T.toTT0→TH T.toTT0→Raw P T pro L) (Q:L→Prop),Sat (evC cx c an e h K) Q →
  W P pro c (fun o E H0=>KP (K o) Q E H0) (denE T.toTT0 (denH T.toTT0 h) e) (denH T.toTT0 h)
 | .reg keep l,_,_,e,h,K,Q,hs=>by
  rcases zhz l e h hs with ⟨E,H',r,e2,h2,rfl,rfl,hK⟩ | ⟨u,E,ex,hx,r,hle,hK⟩
  ·exact W.regG ⟨_,_,r,_,_,(zda keep e2).symm,rfl,hK⟩
  ·exact ⟨_,_,_,.after (.regX r) (zb.le hle),ex,hx,rfl,rfl,hK⟩
 | .pan l d t x,_,_,e,h,K,Q,hs=>by
  obtain ⟨E,H',r,e2,h2,rfl,rfl,hK⟩:=zcz l e h hs
  dsimp only at hK
  split at hK
  ·rename_i u hu
   exact ⟨_,_,_,.after (.pan r (by rw [zg]; exact y36 hu)) (zb.le fun t=>by
    have:=zwd (T:=T) (H0:=denH T.toTT0 h2) (H1:=denH T.toTT0 h2) (putE e2 d .un) t
    rwa [zy] at this),_,h2,rfl,rfl,hK⟩
  ·exact hK.elim
 | .draw keep pre tail,an,_,e,h,K,Q,hs=>by
  cases an with
  | alls S Z enc encV D =>
   obtain ⟨r,h1,h2⟩:=hs
   have ha:=zl0 (r:=Sum.map enc encV r) (pre.length+1) [] e h h1
   cases r with
   | inl s =>
    obtain ⟨E,H',hr,e2,h2',rfl,rfl,hK⟩:=zcz tail _ _ h2
    refine ⟨.normal,_,_,.allN (F:=fun E H0=>zb P pro E H0 (denE T.toTT0 (denH T.toTT0 (enc s).2) (enc s).1) (denH T.toTT0 (enc s).2)) (fun e1 h1 g=>.ghost g hr) (RunA.mono (fun E H0 hf=>?_) (fun u hu=>?_) _ _ _ _ ha),_,_,(zda keep e2).symm,rfl,hK⟩
    ·obtain ⟨eh,q1,q2⟩:=hf
     cases q1
     exact q2
    ·cases hu
   | inr z =>
    exact ⟨.panic (encV z),_,_,.allX (RunA.mono (fun E H0 hf=>by obtain ⟨eh,q1,q2⟩:=hf; cases q1) (fun u hu=>by cases hu; rfl) _ _ _ _ ha),KP.none h2⟩
  | no=>exact z8d (Q':=fun o E H0=>KP (K o) Q E H0) (fun E H0 hk=>hk) hs
  | two _ _=>exact z8d (Q':=fun o E H0=>KP (K o) Q E H0) (fun E H0 hk=>hk) hs
  | join _ _ _ _ _=>exact z8d (Q':=fun o E H0=>KP (K o) Q E H0) (fun E H0 hk=>hk) hs
  | loop _ _ _ _=>exact z8d (Q':=fun o E H0=>KP (K o) Q E H0) (fun E H0 hk=>hk) hs
 | .bad,_,_,_,_,_,_,hs=>hs.elim
 | .skip,_,_,e,h,K,Q,hs=>W.skip ⟨e,h,rfl,rfl,hs⟩
 | .ret,_,_,e,h,K,Q,hs=>W.ret ⟨e,h,rfl,rfl,hs⟩
 | .exit id,_,_,e,h,K,Q,hs=>W.exit ⟨e,h,rfl,rfl,hs⟩
 | .seq x y,an,L,e,h,K,Q,hs=>by
  have plain:∀ (a b:An P T pro),Sat (evC cx x a e h (seqK (fun e h=>evC cx y b e h K) K)) Q→W P pro (.seq x y) (fun o E H0=>KP (K o) Q E H0) (denE T.toTT0 (denH T.toTT0 h) e) (denH T.toTT0 h):=fun a b hs=>by
   refine W.seq (W.mono (z36 x a e h _ Q hs) fun o E H0 hk=>?_)
   cases o with
   | normal =>
    obtain ⟨e1,h1,rfl,rfl,hK⟩:=hk
    exact z36 y b e1 h1 K Q hK
   | exit id=>exact hk
   | ret=>exact hk
   | panic u=>exact hk
  cases an with
  | alls _ _ _ _ _=>exact plain _ _ hs
  | join S enc D a b =>
   have ih:=z36 x a e h _ _ hs
   refine W.seq (W.mono ih fun o E H0 hk=>?_)
   cases o with
   | normal =>
    obtain ⟨e1,h1,rfl,rfl,hK⟩:=hk
    obtain ⟨eh,q1,s,q2,q3⟩:=Sat.ofRs _ hK
    subst q2
    exact W.ghost (z3f q1) (z36 y b _ _ K Q q3)
   | exit id =>
    obtain ⟨e1,h1,rfl,rfl,hK⟩:=hk
    exact ⟨e1,h1,rfl,rfl,Sat.map (L:=L) (L':=EH T⊕L) Sum.inr (K _ e1 h1) _ hK⟩
   | ret =>
    obtain ⟨e1,h1,rfl,rfl,hK⟩:=hk
    exact ⟨e1,h1,rfl,rfl,Sat.map (L:=L) (L':=EH T⊕L) Sum.inr (K _ e1 h1) _ hK⟩
   | panic u =>
    obtain ⟨e1,h1,rfl,rfl,hK⟩:=hk
    exact ⟨e1,h1,rfl,rfl,Sat.map (L:=L) (L':=EH T⊕L) Sum.inr (K _ e1 h1) _ hK⟩
  | no=>exact plain _ _ hs
  | two a b=>exact plain _ _ hs
  | loop V c ret D=>exact plain _ _ hs
 | .cond c x y,an,_,e,h,K,Q,hs=>by
  simp only [evC] at hs
  split at hs
  ·rename_i hv
   exact W.condT (by rw [zg,hv]; rfl) (z36 x an.l e h K Q hs)
  ·rename_i hv
   exact W.condF (by rw [zg,hv]; rfl) (z36 y an.r e h K Q hs)
  ·rename_i b hv
   refine W.cond (b:=b) (by rw [zg,hv]; rfl) (fun hb=>?_) (fun hb=>?_)
   ·subst hb
    have:=z36 x an.l _ h K Q (hs.1 rfl)
    rwa [zm8 hv] at this
   ·subst hb
    have:=z36 y an.r _ h K Q (hs.2 rfl)
    rwa [zm8 hv] at this
  ·exact hs.elim
 | .block id x,an,_,e,h,K,Q,hs=>by
  refine W.block (W.mono (z36 x an.l e h _ Q hs) fun o E H0 hk=>?_)
  cases o with
  | normal=>exact hk
  | ret=>exact hk
  | panic u=>exact hk
  | exit id' =>
   simp only [zc0]
   simp only [zrf,z1f] at hk
   split
   ·rename_i e; simpa [e] using hk
   ·rename_i e; simpa [e] using hk
 | .loop x,an,_,e,h,K,Q,hs=>by
  cases an with
  | loop V c ret D =>
   obtain ⟨eh,q1,q2⟩:=Sat.ofRs _ hs
   refine W.ghost (z3f q1) ?_
   cases ret with
   | true =>
    obtain ⟨v,hb,x',b,q3,q4,q5⟩:=q2
    subst hb q3
    refine W.mono ((c v).ok x' b q4) fun o E H0 hk=>?_
    cases b with
    | go _=>exact hk.elim
    | out y =>
     obtain ⟨rfl,rfl,rfl⟩:=hk
     exact ⟨_,_,rfl,rfl,q5⟩
    | ret z=>exact y3d hk.2 q5
   | false =>
    obtain ⟨v,hb,x',y,q3,_,q4,q5⟩:=q2
    subst hb q3
    refine W.mono ((c v).ok x' _ q4) fun o E H0 hk=>?_
    obtain ⟨rfl,rfl,rfl⟩:=hk
    exact ⟨_,_,rfl,rfl,q5⟩
  | no=>exact hs.elim
  | alls _ _ _ _ _=>exact hs.elim
  | two _ _=>exact hs.elim
  | join _ _ _ _ _=>exact hs.elim
def y0u (pro:List Nat) (id:Nat) (DX DY DZ:Dr):Out→TE T.toTT0→TH T.toTT0→Raw P T pro (Bo (EH T) (EH T) (EH T))
 | .normal,e,h=>Raw.ofRs (fun eh=>.leaf (.go eh)) (cnv pro DX e h)
 | .exit id',e,h=>bif Nat.beq id' id then Raw.ofRs (fun eh=>.leaf (.out eh)) (cnv pro DY e h) else .no
 | .ret,e,h=>Raw.ofRs (fun eh=>match isX eh with | none=>.leaf (.ret eh) | some _=>.no) (cnv pro DZ e h)
 | .panic u,_,_=>.leaf (.ret (ofX u))
def encB {X Y Z E:Type} (a:X→E) (b:Y→E) (c:Z→E):Bo X Y Z→Bo E E E
 | .go x=>.go (a x)
 | .out y=>.out (b y)
 | .ret z=>.ret (c z)
noncomputable def lcon {X Y Z:Type} (cx:Cx P T) (x:IC) (an:X→An P T pro) (id:Nat) (ret:Bool) (DX DY DZ:Dr) (encX:X→EH T) (encY:Y→EH T) (encZ:Z→EH T) (n:Nat) (t:X→Pt P T pro (Bo X Y Z)) (hret:ret=false→Z→False:=by first | (intro h; cases h; done) | (intro _ z; cases z))
  (ht:∀ s,evC cx x (an s) (encX s).1 (encX s).2 (y0u pro id DX DY DZ)=(t s).raw (encB encX encY encZ):=by intro s; kernel_rfl):LCon P T pro where
 body:=x
 X:=X
 Y:=Y
 Z:=Z
 encX:=encX
 encY:=encY
 encZ:=encZ
 id:=id
 ret:=ret
 G:=iter (fun s=>(t s).run) n
 ok:=by
  have round:∀ s b,(t s).run=some b→W P pro x (fun o E H0=>match b with
    | .go x'=>o = .normal∧∃ e h,Gh P pro T e h (encX x').1 (encX x').2∧E=denE T.toTT0 (denH T.toTT0 h) e∧H0=denH T.toTT0 h
    | .out y=>o = .exit id∧∃ e h,Gh P pro T e h (encY y).1 (encY y).2∧E=denE T.toTT0 (denH T.toTT0 h) e∧H0=denH T.toTT0 h
    | .ret z=>o ≠ .normal∧∃ E1 H1,zb P pro E H0 E1 H1∧zdr (encZ z) o E1 H1) (denE T.toTT0 (denH T.toTT0 (encX s).2) (encX s).1) (denH T.toTT0 (encX s).2):=by
   intro s b hb
   have h1:=z1y (encB encX encY encZ) (t s) b hb
   rw [← ht s] at h1
   refine W.mono (z36 x (an s) _ _ _ _ h1) fun o E H0 hk=>?_
   obtain ⟨e,h,rfl,rfl,hK⟩:=hk
   cases o with
   | normal =>
    obtain ⟨eh,q1,q2⟩:=Sat.ofRs _ hK
    cases b <;> cases q2
    exact ⟨rfl,e,h,z3f q1,rfl,rfl⟩
   | exit id' =>
    simp only [y0u,z1f] at hK
    by_cases hid:id'=id
    ·subst hid
     simp only [decide_true,cond_true] at hK
     obtain ⟨eh,q1,q2⟩:=Sat.ofRs _ hK
     cases b <;> cases q2
     exact ⟨rfl,e,h,z3f q1,rfl,rfl⟩
    ·simp only [hid,decide_false,cond_false] at hK
     exact hK.elim
   | ret =>
    obtain ⟨eh,q1,q2⟩:=Sat.ofRs _ hK
    split at q2
    ·rename_i hx
     cases b <;> cases q2
     refine ⟨by simp,_,_,z3f q1,?_⟩
     unfold zdr
     rw [hx]
     exact ⟨rfl,rfl,rfl⟩
    ·exact q2.elim
   | panic u =>
    have hK:Bo.ret (ofX u)=encB encX encY encZ b:=hK
    cases b with
    | go _=>cases hK
    | out _=>cases hK
    | ret z =>
     simp only [encB,Bo.ret.injEq] at hK
     refine ⟨by simp,nE,[],zb.fell,?_⟩
     unfold zdr
     rw [← hK]
     exact ⟨rfl,rfl,rfl⟩
  intro s
  induction n generalizing s with
  | zero=>intro b hb; cases hb
  | succ k ih =>
   intro b hb
   unfold iter at hb
   split at hb
   ·rename_i s' hs
    refine W.loop (W.mono (round s _ hs) fun o E H0 hq=>?_)
    obtain ⟨rfl,e,h,g,rfl,rfl⟩:=hq
    exact W.ghost g (ih s' b hb)
   ·rename_i hne
    have hr:=round s _ hb
    cases b with
    | go s'=>exact absurd hb (hne s')
    | out y =>
     obtain ⟨o,E,H0,hex,rfl,e,h,g,rfl,rfl⟩:=hr
     exact ⟨_,_,_,.loopX (by simp) (.after hex g),rfl,rfl,rfl⟩
    | ret z =>
     obtain ⟨o,E,H0,hex,hno,E1,H1,g,hri⟩:=hr
     refine ⟨_,_,_,.loopX hno (.after hex g),?_,hri⟩
     cases hret':ret with
     | true=>rfl
     | false=>exact (hret hret' z).elim
end
def fnC (P:Program) (f:Nat) (ks:List (List Nat)):IC :=
 match P.funcs[f]? with
 | some fn=>match fn.body with
  | some code=>match z3g P fn.ntmps code ks with | some (c,_)=>c | none=>.skip
  | none=>.skip
 | none=>.skip
def fnTs (P:Program) (f:Nat):List RS :=
 match P.funcs[f]? with
 | some fn=>match z2c P fn.results.toList with | some ts=>ts | none=>[]
 | none=>[]
def fnN (P:Program) (f:Nat):Nat:=match P.funcs[f]? with | some fn=>fn.ntmps | none=>0
def zke (P:Program) (f:Nat) (ks:List (List Nat)):Bool :=
 match P.funcs[f]? with
 | some fn=>match fn.body with
  | some code=>(z3g P fn.ntmps code ks).isSome && (z2c P fn.results.toList).isSome
  | none=>false
 | none=>false
theorem ze8 {P:Program} {f:Nat} {ks:List (List Nat)} (h:zke P f ks=true):FnIs P f (fnN P f) (fnC P f ks) (fnTs P f):=by
 unfold zke at h
 split at h
 ·rename_i fn hfn
  split at h
  ·rename_i code hc
   simp only [Bool.and_eq_true,Option.isSome_iff_exists] at h
   obtain ⟨⟨⟨c,ks'⟩,h1⟩,⟨ts,h2⟩⟩:=h
   refine ⟨fn,code,hfn,hc,?_,?_,ks,ks',?_⟩
   ·simp [fnN,hfn]
   ·simp [fnTs,hfn,h2]
   ·have:fnC P f ks=c:=by simp [fnC,hfn,hc,h1]
    rw [this]
    simp only [fnN,hfn]
    exact h1
  ·cases h
 ·cases h
def subC:List Nat→IC→IC
 | [],c=>c
 | 0::p,.seq x _=>subC p x
 | 0::p,.cond _ x _=>subC p x
 | 0::p,.block _ x=>subC p x
 | 0::p,.loop x=>subC p x
 | _::p,.seq _ y=>subC p y
 | _::p,.cond _ _ y=>subC p y
 | _,c=>c
section
variable {P:Program} {T:TT} {pro:List Nat}
def argT:Nat→List (VT T)→TE T.toTT0
 | _,[]=>[]
 | n,x::l=>(n,x)::argT (n+1) l
theorem zbb {H0:H}:∀ (l:List (VT T)) (n:Nat),denE T.toTT0 H0 (argT n l)=argE n (denL T.toTT0 H0 l)
 | [],_=>rfl
 | x::l,n=>by
  simp only [argT,denL,argE,← zbb l (n+1)]
  exact zy (e:=argT (n+1) l)
def finK (pro:List Nat) (D:Dr):Out→TE T.toTT0→TH T.toTT0→Raw P T pro (EH T)
 | .exit _,_,_=>.no
 | .panic _,_,_=>.no
 | _,e,h=>Raw.ofRs .leaf (cnv pro D e h)
def y7w (pro:List Nat) (D:Dr):Out→TE T.toTT0→TH T.toTT0→Raw P T pro (EH T)
 | .exit _,_,_=>.no
 | .panic u,_,_=>.leaf (ofX u)
 | _,e,h=>Raw.ofRs (fun eh=>match isX eh with | none=>.leaf eh | some _=>.no) (cnv pro D e h)
def rsT (e:TE T.toTT0) (h:TH T.toTT0):RS→Option (VT T)
 | .t s=>some (getE e s)
 | .c s agg n =>
  match getE e s with
  | .pt k [] i c=>match getT h k with
   | some (.lit _ xs)=>match xs[i]? with
    | some cs=>match zed agg n k [] i c cs with | .ok v=>some v | _=>none
    | none=>none
   | _=>none
  | _=>none
def rsTs (e:TE T.toTT0) (h:TH T.toTT0):List RS→Option (List (VT T))
 | []=>some []
 | r::l=>match rsT e h r,rsTs e h l with | some x,some xs=>some (x::xs) | _,_=>none
def retT (ts:List RS) (keys:List Nat) (eh:EH T):Option (VT T×TH T.toTT0) :=
 match rsTs eh.1 eh.2 ts,z6x eh.2 (keys.map fun k=>(k,k)) with
 | some l,some (ho,_)=>match z39 (keys.map fun k=>(k,k)) (match l with | [x]=>x | l=>.tu l) with
  | some r=>bif zn keys then some (r,ho) else none
  | none=>none
 | _,_=>none
theorem y7d {e:TE T.toTT0} {h:TH T.toTT0} {r:RS} {v:VT T} (hr:rsT e h r=some v):rsAV (denE T.toTT0 (denH T.toTT0 h) e) (denH T.toTT0 h) r=some (den T.toTT0 (denH T.toTT0 h) v):=by
 cases r with
 | t s=>cases hr; rfl
 | c s agg n =>
  simp only [rsT] at hr
  split at hr
  ·rename_i k i c hp
   split at hr
   ·rename_i s' xs hg
    split at hr
    ·rename_i cs hcs
     split at hr
     ·rename_i w hl
      cases hr
      have hgr:za (denH T.toTT0 h) k=some ⟨s',xs.map (denL T.toTT0 [])⟩:=by rw [z1s,hg]; rfl
      have hres:res (denH T.toTT0 h) k []=some (s',xs.map (denL T.toTT0 [])):=by unfold res; rw [hgr]; rfl
      have:=zc6 (T:=T) (agg:=agg) (n:=n) (k:=k) (i:=i) (c:=c) (p:=[]) (cs:=cs) (v:=v) hres (by simp [hcs]) (by rw [hl]; exact rfl)
      simp only [rsAV,rdop,ev,denE,hp,den,hres]
      exact this
     ·cases hr
    ·cases hr
   ·cases hr
  ·cases hr
theorem zic {e:TE T.toTT0} {h:TH T.toTT0}:∀ (ts:List RS) (l:List (VT T)),rsTs e h ts=some l→z5v (denE T.toTT0 (denH T.toTT0 h) e) (denH T.toTT0 h) ts=some (denL T.toTT0 (denH T.toTT0 h) l)
 | [],_,h=>by cases h; rfl
 | r::ts,l,hr=>by
  simp only [rsTs] at hr
  split at hr
  ·rename_i x xs h1 h2
   cases hr
   simp only [z5v,y7d h1,zic ts xs h2,denL]
  ·cases hr
theorem zpf:∀ (ks:List Nat) (k:Nat),k ∈ ks→look (ks.map fun k=>(k,k)) k=some k
 | [],_,h=>by cases h
 | k'::ks,k,h=>by
  simp only [List.map_cons,look]
  split
  ·rename_i e; rw [e]
  ·rename_i hne
   refine zpf ks k ?_
   rcases List.mem_cons.1 h with h | h
   ·exact absurd h.symm hne
   ·exact h
theorem zh7:∀ (ks:List Nat) (k n:Nat),z1m (ks.map fun k=>(k,k)) k=some n→n=k∧k ∈ ks
 | [],_,_,h=>by cases h
 | k'::ks,k,n,h=>by
  simp only [List.map_cons,z1m] at h
  split at h
  ·rename_i e; cases h; exact ⟨e,by simp [e]⟩
  ·obtain ⟨q1,q2⟩:=zh7 ks k n h
   exact ⟨q1,List.mem_cons_of_mem _ q2⟩
theorem zei {ts:List RS} {keys:List Nat} {eh:EH T} {r:VT T} {ho hin:TH T.toTT0} (hr:retT ts keys eh=some (r,ho)) (hin':(hin.map Prod.fst).all (fun k=>keys.contains k)=true) {o:Out} (hno:(match o with | .exit _=>False | .panic _=>False | _=>True)) :
  Ends ts (denH T.toTT0 hin) (den T.toTT0 (denH T.toTT0 ho) r) (denH T.toTT0 ho) o (denE T.toTT0 (denH T.toTT0 eh.2) eh.1) (denH T.toTT0 eh.2):=by
 unfold retT at hr
 split at hr
 ·rename_i l ho' left h1 h2
  split at hr
  ·rename_i r' hb
   cases hn:zn keys with
   | false=>rw [hn] at hr; cases hr
   | true =>
    rw [hn] at hr
    cases hr
    obtain ⟨s1,s2,s3⟩:=z4a _ _ _ _ h2
    have hk1:(keys.map fun k=>(k,k)).map Prod.fst=keys:=by rw [List.map_map]; exact List.map_id' _
    have hk2:(keys.map fun k=>(k,k)).map Prod.snd=keys:=by rw [List.map_map]; exact List.map_id' _
    refine ⟨hno,keys.map fun k=>(k,k),_,denH T.toTT0 left,?_,s1,by rw [hk1]; exact hn,z6z (Ho:=denH T.toTT0 eh.2) (fun k n q hkn=>?_) _ _ hb,?_⟩
    ·unfold z3j
     rw [zic _ _ h1]
     cases l with
     | nil=>rfl
     | cons x l=>cases l <;> rfl
    ·obtain ⟨e1,hk⟩:=zh7 keys k n hkn
     subst e1
     have:=s3 n n (by rw [hk1]; exact hn) (by rw [hk2]; exact hn) (List.mem_map.2 ⟨n,hk,rfl⟩)
     unfold ze res
     rw [this]
    ·rw [z1i,List.all_eq_true]
     intro k hk
     have:=List.all_eq_true.1 hin' k hk
     rw [zpf keys k (by simpa using this)]
     simp
  ·cases hr
 ·cases hr
noncomputable def zq {X R:Type} (cx:Cx P T) (f:Nat) (ks:List (List Nat)) (an:X→An P T pro) (A:List VD) (Hd:List (Nat×List Kd)) (Nk:List Nat) (D:Dr) (keys:List Nat) (strong:Bool)
  (encA:X→List (VT T)) (encH:X→TH T.toTT0) (encE:R→EH T) (encR:R→VT T) (encO:R→TH T.toTT0) (t:X→Pt P T pro R)
  (hf:zke P f ks=true:=by kernel_rfl)
  (ht:∀ x,evC cx (fnC P f ks) (an x) (argT 0 (encA x)) (encH x) (finK pro D)=(t x).raw encE:=by intro x; kernel_rfl)
  (hp:∀ x,(encH x).map Prod.fst=pro:=by intro x; kernel_rfl) (hk:pro.all (fun k=>keys.contains k)=true:=by kernel_rfl)
  (hr:∀ y,retT (fnTs P f) keys (encE y)=some (encR y,encO y):=by intro y; kernel_rfl)
  (hs:strong=true→∀ y,(z8l (encR y) && z7s (encO y))=true:=by first | (intro h; cases h; done) | (intro _ y; kernel_rfl)):Con P T where
 f:=f
 X:=X
 Y:=R
 A:=A
 H:=Hd
 N:=Nk
 encA:=encA
 encH:=encH
 G:=fun x=>(t x).run
 encR:=encR
 encO:=encO
 strong:=strong
 ok:=fun x y hx=>by
  have h1:=z1y encE (t x) y hx
  rw [← ht x] at h1
  have h2:=z36 _ (an x) _ _ _ _ h1
  rw [zbb] at h2
  have hG:CallG P f (denL T.toTT0 (denH T.toTT0 (encH x)) (encA x)) (denH T.toTT0 (encH x)) (den T.toTT0 (denH T.toTT0 (encO y)) (encR y)) (denH T.toTT0 (encO y)):=by
   refine .of_E (ze8 hf) ?_
   rw [z1i,hp x]
   obtain ⟨o,E,H0,hex,e,h,rfl,rfl,hK⟩:=h2
   cases o with
   | exit id=>exact hK.elim
   | panic u=>exact hK.elim
   | normal =>
    obtain ⟨eh,q1,q2⟩:=Sat.ofRs _ hK
    cases q2
    exact ⟨_,_,_,.after hex (z3f q1),zei (hr y) (by rw [hp x]; exact hk) trivial⟩
   | ret =>
    obtain ⟨eh,q1,q2⟩:=Sat.ofRs _ hK
    cases q2
    exact ⟨_,_,_,.after hex (z3f q1),zei (hr y) (by rw [hp x]; exact hk) trivial⟩
  refine ⟨fun hst=>?_,hG⟩
  have:=hs hst y
  simp only [Bool.and_eq_true] at this
  exact CallG.narrow hG (z99 _ this.1) (z7t _ this.2)
def y9r {A B:Type}:A⊕B→Option A
 | .inl a=>some a
 | .inr _=>none
noncomputable def conX {X R Z:Type} (cx:Cx P T) (f:Nat) (ks:List (List Nat)) (an:X→An P T pro) (A:List VD) (Hd:List (Nat×List Kd)) (Nk:List Nat) (D:Dr) (keys:List Nat)
  (encA:X→List (VT T)) (encH:X→TH T.toTT0) (encE:R→EH T) (encR:R→VT T) (encO:R→TH T.toTT0) (encV:Z→Value) (t:X→Pt P T pro (R⊕Z))
  (hf:zke P f ks=true:=by kernel_rfl)
  (ht:∀ x,evC cx (fnC P f ks) (an x) (argT 0 (encA x)) (encH x) (y7w pro D)=(t x).raw (sumE encE fun z=>ofX (encV z)):=by intro x; kernel_rfl)
  (hp:∀ x,(encH x).map Prod.fst=pro:=by intro x; kernel_rfl) (hk:pro.all (fun k=>keys.contains k)=true:=by kernel_rfl)
  (hr:∀ y,retT (fnTs P f) keys (encE y)=some (encR y,encO y):=by intro y; kernel_rfl)
  (hx:∀ y,isX (encE y)=none:=by intro y; kernel_rfl):Con P T :=
 have key:∀ x r,(t x).run=some r→match r with
   | .inl y=>CallG P f (denL T.toTT0 (denH T.toTT0 (encH x)) (encA x)) (denH T.toTT0 (encH x)) (den T.toTT0 (denH T.toTT0 (encO y)) (encR y)) (denH T.toTT0 (encO y))
   | .inr z=>z59 P f (denL T.toTT0 (denH T.toTT0 (encH x)) (encA x)) (denH T.toTT0 (encH x)) (encV z):=fun x r hrun=>by
  have h1:=z1y (sumE encE fun z=>ofX (encV z)) (t x) r hrun
  rw [← ht x] at h1
  have h2:=z36 _ (an x) _ _ _ _ h1
  rw [zbb] at h2
  obtain ⟨o,E,H0,hex,e,h,rfl,rfl,hK⟩:=h2
  have hkeys:(denH T.toTT0 (encH x)).map Prod.fst=pro:=by rw [z1i,hp x]
  have nor:∀ (r:R⊕Z),Sat (Raw.ofRs (fun eh=>match isX eh with | none=>(.leaf eh:Raw P T pro (EH T)) | some _=>.no) (cnv pro D e h)) (fun l=>l=sumE encE (fun z=>ofX (encV z)) r)→∃ y,r = .inl y∧(cnv pro D e h).gives (encE y):=fun r hK=>by
   obtain ⟨eh,q1,q2⟩:=Sat.ofRs _ hK
   split at q2
   ·rename_i hi
    have q2:eh=_:=q2
    subst q2
    cases r with
    | inl y=>exact ⟨y,rfl,q1⟩
    | inr z=>exact absurd hi (by simp [sumE,ofX,isX])
   ·exact q2.elim
  cases o with
  | exit id=>exact hK.elim
  | panic u =>
   have hK:ofX u=sumE encE (fun z=>ofX (encV z)) r:=hK
   cases r with
   | inl y =>
    have:=hx y
    simp only [sumE] at hK
    rw [← hK] at this
    exact absurd this (by simp [ofX,isX])
   | inr z =>
    simp only [sumE,ofX,Prod.mk.injEq,List.cons.injEq,TV.sc.injEq,and_true,true_and] at hK
    subst hK
    rw [← hkeys] at hex
    exact z59.of_ex (ze8 hf) hex
  | normal =>
   obtain ⟨y,rfl,q1⟩:=nor r hK
   rw [← hkeys] at hex
   refine CallG.of_E (ze8 hf) ⟨_,_,_,.after hex (by rw [hkeys]; exact z3f q1),zei (hr y) (by rw [hp x]; exact hk) trivial⟩
  | ret =>
   obtain ⟨y,rfl,q1⟩:=nor r hK
   rw [← hkeys] at hex
   refine CallG.of_E (ze8 hf) ⟨_,_,_,.after hex (by rw [hkeys]; exact z3f q1),zei (hr y) (by rw [hp x]; exact hk) trivial⟩
 { f:=f,X:=X,Y:=R,A:=A,H:=Hd,N:=Nk,encA:=encA,encH:=encH,encR:=encR,encO:=encO,strong:=false,x:=true,V:=Z,encV:=encV,FX:=fun x=>(t x).run,okX:=key,G:=fun x=>(t x).run.bind y9r,ok:=fun x y h=>⟨fun h=>(nomatch h),by
   obtain ⟨r,h1,h2⟩:=zh h
   cases r with
   | inl y'=>cases h2; exact key x _ h1
   | inr z=>cases h2⟩ }
def y7p (P:Program) (T:TT) (f:Nat) {X R:Type} (encA:X→List (VT T)) (encR:R→VT T) (G:X→Option R):Prop :=
 ∀ x y,G x=some y→z1r P f (denL T.toTT0 [] (encA x)) [] (den T.toTT0 [] (encR y)) []
abbrev CtrQ (P:Program) (T:TT) (f:Nat) {X R:Type} (encA:X→List (VT T)) (encR:R→VT T):={G:X→Option R // y7p P T f encA encR G}
def conB {X R:Type} (f:Nat) (A:List VD) (encA:X→List (VT T)) (encR:R→VT T) (q:CtrQ P T f encA encR):Con P T where
 f:=f
 X:=X
 Y:=R
 A:=A
 H:=[]
 N:=[]
 encA:=encA
 encH:=fun _=>[]
 G:=q.1
 encR:=encR
 encO:=fun _=>[]
 strong:=true
 ok:=fun x y h=>⟨fun _=>q.2 x y h,(q.2 x y h).toG⟩
def recQ {X R:Type} {f:Nat} {encA:X→List (VT T)} {encR:R→VT T} (s:CtrQ P T f encA encR→CtrQ P T f encA encR):Nat→CtrQ P T f encA encR
 | 0=>⟨fun _=>none,fun _ _ h=>nomatch h⟩
 | n+1=>s (recQ s n)
end
section
variable {El:Nat→Type} {T:TT0}
def gI (k:IntKind):TV El→Option Int
 | .sc (.int k' n)=>if k'=k then some n else none
 | .ik k' n=>if k'=k then some n else none
 | _=>none
def gB:TV El→Option Bool
 | .sc (.bool b)=>some b
 | .bk b=>some b
 | _=>none
def gS:TV El→Option ByteArray
 | .sc (.string b)=>some b
 | _=>none
def gM (t:Nat):TV El→Option (List (El t))
 | .im t' xs=>if h:t'=t then some (h ▸ xs) else none
 | _=>none
def gO (m:Bool) (t:Nat):TV El→Option (List (El t))
 | .ow m' t' xs=>if h:t'=t then (bif m==m' then some (h ▸ xs) else none) else none
 | _=>none
theorem z31 {k:IntKind} {v:TV T.El} {n:Int} {h:H} (hv:gI k v=some n):den T h v = .sc (.int k n):=by
 unfold gI at hv
 split at hv
 ·split at hv
  ·rename_i hk; cases hv; subst hk; rfl
  ·cases hv
 ·split at hv
  ·rename_i hk; cases hv; subst hk; rfl
  ·cases hv
 ·cases hv
theorem y0p {v:TV T.El} {b:Bool} {h:H} (hv:gB v=some b):den T h v = .sc (.bool b):=by
 unfold gB at hv
 split at hv
 ·cases hv; rfl
 ·cases hv; rfl
 ·cases hv
theorem y9o {v:TV T.El} {b:ByteArray} {h:H} (hv:gS v=some b):den T h v = .sc (.string b):=by
 unfold gS at hv
 split at hv
 ·cases hv; rfl
 ·cases hv
theorem zea {t:Nat} {v:TV T.El} {xs:List (T.El t)} {h:H} (hv:gM t v=some xs):den T h v = .im (T.sz t) (xs.map (T.ca false t)):=by
 unfold gM at hv
 split at hv
 ·split at hv
  ·rename_i hk; subst hk; cases hv; rfl
  ·cases hv
 ·cases hv
theorem zeb {m:Bool} {t:Nat} {v:TV T.El} {xs:List (T.El t)} {h:H} (hv:gO m t v=some xs):den T h v = .ow (T.sz t) (xs.map (T.ca m t)):=by
 unfold gO at hv
 split at hv
 ·split at hv
  ·rename_i m' _ _ hk
   subst hk
   cases hm:m==m' with
   | false=>rw [hm] at hv; cases hv
   | true =>
    rw [hm] at hv
    cases hv
    have:m=m':=by simpa using hm
    subst this; rfl
  ·cases hv
 ·cases hv
theorem z4j {l:List AV} (h:l.all (fun a=>!isZ a)=true):∀ a ∈ l,isZ a=false:=fun a ha=>by
 have:=List.all_eq_true.1 h a ha
 simpa using this
end
end Loom
namespace Loom
attribute [local instance] Dfs.none
open Go
section
variable {P:Program} {N:Nat}
theorem Now.callR {f:Nat} {fn:Func} {code:Code} {ts:List RS} {args:List AV} {r:AV} {hout:H} (h1:P.funcs[f]? = some fn) (h2:fn.body=some code) (h3:fn.ntmps=N) (h4:z2c P fn.results.toList=some ts) (hni:noIm r=true) (hnh:z3h hout=true)
  (hw:∀ (a:Act) (w0:World) (Q:Exit→Act→World→Prop),Now N w0 none (argE 0 args) [] a w0→(∀ e' a' w',z3j e' hout ts=some r→Now N w0 none e' hout a' w'→Q .ret a' w')→code.wp P Q a w0):z1r P f args [] r hout:=by
 intro I σ w vs hh hv
 apply calls_of_wp h1 h2
 have R:Rel I N σ (argE 0 args) [] { tmps:=vs.toArray++Array.replicate (fn.ntmps - vs.toArray.size) undef,defers:=[] } w:=by
  refine ⟨hh,?_,fun t=>?_,rfl⟩
  ·simp only [Array.size_append,Array.size_replicate,List.size_toArray]
   omega
  ·have:=z8u (I:=I) (σ:=σ) (B:=bl w) args 0 [] vs (List.replicate (fn.ntmps - vs.toArray.size) undef) rfl hv t
   have e2:(vs.toArray++Array.replicate (fn.ntmps - vs.toArray.size) undef)=(vs++List.replicate (fn.ntmps - vs.toArray.size) undef).toArray:=by
    apply Array.ext'
    simp
   simp only [e2]
   simpa [Array.getD_eq_getD_getElem?,List.getD_eq_getElem?_getD] using this
 refine hw _ w _ ⟨⟨I,σ,R,(fun x hx=>by cases hx),fun b ks hb=>by cases hb⟩,(fun b ks hb=>by cases hb),Le.refl w,fun _ _=>rfl⟩ fun e' a' w' hr n=>?_
 obtain ⟨⟨I',σ',R',hf,-⟩,-,le,old⟩:=n
 obtain ⟨u,q1,q2⟩:=z4p R' fn h4 hr
 have ls:=le.size
 have hJ:HRel (fun b=>I' b∨I b) σ' hout w':=R'.heap.wide (fun b hb=>.inl hb) (fun b hb h=>by
  rcases h with h | h
  ·exact (R'.heap.apart b hb).1 h
  ·have:=hh.low b h
   have:=hf b hb
   omega) (fun b hb=>by
  rcases hb with h | h
  ·exact R'.heap.low b h
  ·have:=hh.low b h; omega)
 exact ⟨R'.defers,u,q1,u,σ',rfl,HRel.narrow (fun b hb=>.inr hb) hnh hJ,Va.narrow _ _ hni (Va.wide (J:=fun b=>I' b∨I b) (fun b hb=>.inl hb) _ _ q2),(fun k hk=>by cases hk),le,(fun b hb _=>old b hb),fun b hb=>.inr (hf b hb)⟩
theorem y1q (w:World) (t e:TypeId) (a:Option Addr) (n c:Nat) (h:P.underlying t=some (.slice e)):(binOp .eql t (.slice a n c) (.slice none 0 0)).run P w = .ok (.bool a.isNone) w:=by
 have key:∀ d,(Op.equalIn (d+1) t (.slice a n c) (.slice none 0 0)).run P w = .ok a.isNone w:=fun d=>by
  cases a <;> simp [Op.equalIn,run_underlying h]
 simp only [binOp]
 simp [Op.equal,Op.maxDepth,key 9999]
theorem yab {T:TT} {f:Nat} {fn:Func} {b:Code} {t el ty:Nat} (h1:P.funcs[f]? = some fn) (h2:fn.body=some b) (h3:fn.ntmps=8) (h4:z2c P fn.results.toList=some [.t 2])
  (hb:b = .seq (lf b) (.seq (.seq (.region (rid (lf (lf (rt b)))) (rops (lf (lf (rt b)))) false) (.cond (.tmp 4) (lf (rt (lf (rt b)))) .skip)) (rt (rt b))))
  (i0:IsC P 8 (lf b) (.reg [0] [⟨2,none,.rd (.mov (.const (.slice none 0 0)))⟩]))
  (hn:List.range (rops (lf (lf (rt b)))).size=[0,1])
  (o0:((rops (lf (lf (rt b))))[0]?).bind (comp P 8 (rops (lf (lf (rt b)))))=some ⟨3,none,.rd (.mov (.tmp 0))⟩)
  (o1:((rops (lf (lf (rt b))))[1]?).map (fun o=>(o.guard,o.dst,o.op))=some (none,some 4,.binOp .eql t (.tmp 3) (.const (.slice none 0 0)) t))
  (i2:IsC P 8 (lf (rt (lf (rt b)))) (.seq (.reg [2] [⟨2,none,.rd (.mov (.const (.slice none 0 0)))⟩]) .ret))
  {c3:IC} (i3:IsC P 8 (rt (rt b)) c3) (hu:P.underlying t=some (.slice el)) (hpl:T.pl ty=true) (xs:List (T.El ty))
  (hW:W P [] c3 (fun o e h=>o = .ret∧e 2 = .sl 100000 [] 0 xs.length∧h=[(100000,⟨T.sz ty,xs.map (T.ca false ty)⟩)]) (z1a [(0,.im (T.sz ty) (xs.map (T.ca false ty)))]) []) :
  z1r P f [.im (T.sz ty) (xs.map (T.ca false ty))] [] (.sl 100000 [] 0 xs.length) [(100000,⟨T.sz ty,xs.map (T.ca false ty)⟩)]:=by
 have hni:z3h [(100000,(⟨T.sz ty,xs.map (T.ca false ty)⟩:Row))]=true:=by
  simp only [z3h,List.all_cons,List.all_nil,Bool.and_true]
  exact z3t (fun x=>T.pl_ok ty x hpl) xs
 refine Now.callR (N:=8) (fn:=fn) (ts:=[.t 2]) h1 h2 h3 h4 rfl hni fun a w0 Q nw hr=>?_
 have fin:∀ e' a' w',e' 2 = .sl 100000 [] 0 xs.length→Now 8 w0 none e' [(100000,⟨T.sz ty,xs.map (T.ca false ty)⟩)] a' w'→Q .ret a' w':=fun e' a' w' he n=>hr e' a' w' (by simp only [z3j,z5v,rsAV,he]) n
 rw [hb]
 refine wp_seq (nw.ex (c:=.reg [0] [⟨2,none,.rd (.mov (.const (.slice none 0 0)))⟩]) (R:=fun o e h=>o = .normal∧e=z1a [(0,.im (T.sz ty) (xs.map (T.ca false ty)))]∧h=[]) i0 (W.regG (RG.fin 1 [] (z1a [(0,.im (T.sz ty) (xs.map (T.ca false ty)))]) [] rfl ⟨rfl,rfl,rfl⟩)) ?_)
 rintro o e h a w ⟨rfl,rfl,rfl⟩ nw
 show (Code.seq _ _).wp _ _ _ _
 refine wp_seq ?_
 refine wp_seq (wp_region ?_)
 rw [hn]
 refine nw.rda (d:=3) (b:=.mov (.tmp 0)) (.im (T.sz ty) (xs.map (T.ca false ty))) o0 rfl fun a w nw=>?_
 obtain ⟨o,ho,hgd,hd,hop⟩:=zhe o1
 obtain ⟨A,L,c,hv,hxs⟩:∃ (A:Option Addr) (L c:Nat),a.eval (.tmp 3) = .slice A L c∧(A=none→xs=[]):=by
  obtain ⟨⟨I,σ,R,-,-⟩,-,-,-⟩:=nw
  have:=R.vals 3
  simp only [upd,if_true] at this
  obtain ⟨A,c,h5,h6,h7⟩:=this
  refine ⟨A,_,c,h5,fun hA=>?_⟩
  cases xs with
  | nil=>rfl
  | cons x xs =>
   obtain ⟨A',_,_,_,h8,_⟩:=h7 (by simp)
   rw [hA] at h8; cases h8
 refine nw.val (v:=.bool A.isNone) ho hgd hd (by decide) (by
  have hc:a.eval (.const (.slice none 0 0)) = .slice none 0 0:=rfl
  simp only [execOp,hop,hv,hc,eqGuard,Sem.run_bind,Sem.run_pure,Result.andThen_ok]
  simp [y1q w t el A L c hu]) fun a nw=>?_
 have hic:IsC P 8 (.cond (.tmp 4) (lf (rt (lf (rt b)))) .skip) (.cond (.tmp 4) (.seq (.reg [2] [⟨2,none,.rd (.mov (.const (.slice none 0 0)))⟩]) .ret) .skip):=by
  obtain ⟨ks,ks',hc⟩:=i2
  exact ⟨ks,ks',by simp only [z3g,hc]⟩
 cases hA:A.isNone with
 | true =>
  have:xs=[]:=hxs (by simpa using hA)
  subst this
  rw [hA] at nw
  have nw:=nw.gh (P:=P) (e1:=z1a [(4,Bl true)]) (h1:=[]) (zb.norm (bm:=[]) (S:=[4]) rfl)
  refine nw.ex (code:=.cond (.tmp 4) (lf (rt (lf (rt b)))) .skip) (c:=.cond (.tmp 4) (.seq (.reg [2] [⟨2,none,.rd (.mov (.const (.slice none 0 0)))⟩]) .ret) .skip)
   (R:=fun o e h=>o = .ret∧e 2 = .sl 100000 [] 0 0∧h=[(100000,⟨T.sz ty,[]⟩)]) ?_ (W.condT rfl (W.seq (W.regG (RG.fin 1 [] (z1a [(2,.zs)]) [] rfl ?_)))) ?_
  ·exact hic
  ·refine W.ghost (zb.nil (t:=2) (d:=100000) (s:=T.sz ty) rfl (by simp) (by simp)) (W.ret ⟨rfl,?_,rfl⟩)
   simp [upd]
  ·rintro o e h a w ⟨rfl,he,rfl⟩ nw
   exact fin _ _ _ he nw
 | false =>
  rw [hA] at nw
  have nw:=nw.gh (P:=P) (e1:=z1a [(0,.im (T.sz ty) (xs.map (T.ca false ty))),(4,Bl false)]) (h1:=[]) (zb.norm (bm:=[]) (S:=[0,4]) rfl)
  refine nw.ex (code:=.cond (.tmp 4) (lf (rt (lf (rt b)))) .skip) (c:=.cond (.tmp 4) (.seq (.reg [2] [⟨2,none,.rd (.mov (.const (.slice none 0 0)))⟩]) .ret) .skip)
   (R:=fun o e h=>o = .normal∧e=z1a [(0,.im (T.sz ty) (xs.map (T.ca false ty))),(4,Bl false)]∧h=[]) ?_ (W.condF rfl (W.skip ⟨rfl,rfl,rfl⟩)) ?_
  ·exact hic
  ·rintro o e h a w ⟨rfl,rfl,rfl⟩ nw
   have nw:=nw.gh (P:=P) (e1:=z1a [(0,.im (T.sz ty) (xs.map (T.ca false ty)))]) (h1:=[]) (zb.norm (bm:=[]) (S:=[0]) rfl)
   refine nw.ex i3 hW ?_
   rintro o e h a w ⟨rfl,he,rfl⟩ nw
   exact fin _ _ _ he nw
def y3m:Dr:=⟨[(2,.ref 100000)],[(100000,.any)]⟩
def zrm {T:TT}:Out→TE T.toTT0→TH T.toTT0→Raw P T [] (EH T)
 | .normal,e,h=>Raw.ofRs .leaf (cnv [] y3m e h)
 | _,_,_=>.no
theorem yad {T:TT} {creg:IC} {cx:Cx P T} {ty:Nat} {xs:List (T.El ty)} (hs:Sat (evC cx creg .no [(0,.im ty xs)] [] zrm) (fun eh=>eh=([(2,.sw 100000 [])],[(100000,.typ false ty xs)]))) :
  W P [] (.seq creg .ret) (fun o e h=>o = .ret∧e 2 = .sl 100000 [] 0 xs.length∧h=[(100000,⟨T.sz ty,xs.map (T.ca false ty)⟩)]) (z1a [(0,.im (T.sz ty) (xs.map (T.ca false ty)))]) []:=by
 refine W.seq ?_
 have h:=z36 (pro:=[]) creg .no [(0,.im ty xs)] [] zrm _ hs
 have e0:denE T.toTT0 (denH T.toTT0 []) [(0,.im ty xs)]=z1a [(0,.im (T.sz ty) (xs.map (T.ca false ty)))]:=by
  rw [show ([(0,TV.im ty xs)]:TE T.toTT0)=putE [] 0 (.im ty xs) from rfl,zy]
  rfl
 rw [e0] at h
 refine W.mono h fun o E H0 hk=>?_
 obtain ⟨e',h',rfl,rfl,hk⟩:=hk
 cases o with
 | normal =>
  obtain ⟨eh,q1,q2⟩:=Sat.ofRs _ hk
  have q2:eh=_:=q2
  subst q2
  refine W.ghost (z3f q1) (W.ret ⟨rfl,?_,rfl⟩)
  simp [denE,getE,den,ze,res,za,resE,denH,denR]
 | exit _=>exact hk.elim
 | ret=>exact hk.elim
 | panic _=>exact hk.elim
end
theorem znc {I:Nat→Prop} {σ:Pl} {B:zm} {k:Nat} {p:Path} {i:Nat}:∀ (x:List Value) (c:Nat) (cs:List Value),CeC I σ B k p i c (x.map .sc) cs→cs=x∧∀ u ∈ x,u.oneCell'=true
 | [],_,_,h=>⟨h,fun _ h=>nomatch h⟩
 | u::x,c,cs,h=>by
  obtain ⟨v,cs',rfl,⟨rfl,h1⟩,h2⟩:=h
  obtain ⟨rfl,h3⟩:=znc x (c+1) cs' h2
  refine ⟨rfl,fun u hu=>?_⟩
  rcases List.mem_cons.1 hu with rfl | hu
  ·exact h1
  ·exact h3 u hu
theorem zkj {I:Nat→Prop} {σ:Pl} {B:zm} {k:Nat} {p:Path} {i:Nat}:∀ (x:List Value) (c:Nat),(∀ u ∈ x,u.oneCell'=true)→CeC I σ B k p i c (x.map .sc) x
 | [],_,_=>rfl
 | u::x,c,h=>⟨u,x,rfl,⟨rfl,h u (by simp)⟩,zkj x (c+1) fun v hv=>h v (by simp [hv])⟩
theorem zno {σ:Pl} {k:Nat} {p:Path} {i:Nat}:∀ (x:List Value) (c:Nat),fpC σ k p i c (x.map .sc)=[]
 | [],_=>rfl
 | u::x,c=>by simp only [List.map_cons,fpC,fpA,zno x (c+1),List.append_nil]
theorem znd {I:Nat→Prop} {σ:Pl} {B:zm} {k:Nat} {p:Path}:∀ (x:List Value) (i:Nat) (cs:List Value),CeE I σ B k p i 1 (x.map fun u=>[AV.sc u]) cs→cs.take x.length=x
 | [],_,_,_=>rfl
 | u::x,i,cs,h=>by
  obtain ⟨_,h1,h2⟩:=h
  obtain ⟨v,cs',h3,⟨rfl,_⟩,h4⟩:=h1
  have h5:=znd x (i+1) _ h2
  cases cs with
  | nil=>simp at h3
  | cons w cs =>
   simp only [List.take_succ_cons,List.cons.injEq] at h3
   obtain ⟨rfl,_⟩:=h3
   simp only [List.length_cons,List.take_succ_cons,List.cons.injEq,true_and]
   simpa using h5
theorem y2o {σ:Pl} {k:Nat} {p:Path}:∀ (x:List Value) (i:Nat),fpE σ k p i (x.map fun u=>[AV.sc u])=[]
 | [],_=>rfl
 | u::x,i=>by simp only [List.map_cons,fpE,fpC,fpA,y2o x (i+1),List.append_nil]
theorem CallG.fields {P:Program} {f:Nat} {x:List Value} {cs:List Nat}
  (hc:∀ b,CallG P f [.pp (.xp b x 0)] [] (.sl 100000 [] 0 cs.length) [(100000,⟨1,cs.map fun c=>[.sc (.pointer (some ⟨b,c,none⟩))]⟩)]) :
  CallG P f [.pt 200000 [] 0 0] [(200000,⟨x.length,[x.map .sc]⟩)] (.pp (.fs 200000 cs)) [(200000,⟨x.length,[x.map .sc]⟩)]:=by
 intro I σ w vs hh hv
 obtain ⟨v,vs',rfl,⟨L,hL,rfl⟩,rfl⟩:=hv
 have hrow:zu I σ (bl w) 200000 ⟨x.length,[x.map .sc]⟩:=hh.ok.1
 have hrow0:=hrow
 unfold zu at hrow
 rw [hL] at hrow
 obtain ⟨hs,hcap,cur,E,hB,hsz,hE⟩:=hrow
 obtain ⟨_,hE1,_⟩:=hE
 obtain ⟨hx1,hx2⟩:=znc _ _ _ hE1
 have hfp:fpH σ [(200000,⟨x.length,[x.map .sc]⟩)]=[L.b]:=by
  simp only [fpH,fpR,hL,fpE,zno,List.append_nil]
 have hLb:=hh.apart L.b (by rw [hfp]; simp)
 have hhi:HRel (fun b=>I b∨b=L.b) σ [] w:=⟨trivial,List.nodup_nil,List.nodup_nil,fun b h=>(nomatch h),fun b h=>by
  rcases h with h | rfl
  ·exact hh.low b h
  ·exact hLb.2⟩
 rw [show 0 * L.s+0=0 by omega]
 refine (hc L.b _ σ w [.pointer (some ⟨L.b,0,none⟩)] hhi ⟨_,[],rfl,⟨rfl,.inr rfl,cur,E.t,E.fr,hB,hx1,hx2⟩,rfl⟩).mono ?_
 rintro en w' ⟨v,σ',I',rfl,h1,h2,h3,h4,_,h6,h7,h8⟩
 have hsame:bl w' L.b=bl w L.b:=h7 _ hLb.2 (fun h=>nomatch h)
 have hnf:∀ b ∈ fpH σ' [(100000,⟨1,cs.map fun c=>[AV.sc (.pointer (some ⟨L.b,c,none⟩))]⟩)],w.heap.size≤b:=fun b hb=>by
  rcases h8 b hb with h | h
  ·cases h
  ·exact h
 have hI2:∀ b,I' b→I b∨b=L.b∨w.heap.size≤b:=fun b hb=>by
  rcases h2 b hb with (h | h) | h | h
  ·exact .inl h
  ·exact .inr (.inl h)
  ·cases h
  ·exact .inr (.inr h)
 refine ⟨v,σ,fun b=>(I' b∧b ≠ L.b)∨b ∈ fpH σ' [(100000,⟨1,cs.map fun c=>[AV.sc (.pointer (some ⟨L.b,c,none⟩))]⟩)],rfl,fun b hb=>.inl ⟨h1 b (.inl hb),fun e=>hLb.1 (e ▸ hb)⟩,fun b hb=>?_,⟨?_,hh.keys,hh.nodup,fun b hb=>?_,fun b hb=>?_⟩,?_,fun _ _=>rfl,h6,fun b hb hn=>h7 b hb (fun h=>nomatch h),fun b hb=>.inl hb⟩
 ·rcases hb with ⟨hb,hne⟩ | hb
  ·rcases hI2 b hb with h | h | h
   ·exact .inl h
   ·exact absurd h hne
   ·exact .inr (.inr h)
  ·exact .inr (.inr (hnf b hb))
 ·refine ⟨?_,trivial⟩
  unfold zu
  rw [hL]
  refine ⟨hs,hcap,cur,E,hsame.trans hB,hsz,?_,?_,trivial⟩
  ·simp
  ·dsimp only
   rw [hx1]
   exact zkj x 0 hx2
 ·rw [hfp] at hb
  have hb:b=L.b:=by simpa using hb
  subst hb
  refine ⟨fun h=>?_,Nat.lt_of_lt_of_le hLb.2 h6.size⟩
  rcases h with ⟨_,h⟩ | h
  ·exact h rfl
  ·exact absurd (hnf _ h) (by have:=hLb.2; omega)
 ·rcases hb with ⟨hb,_⟩ | hb
  ·exact h3.low b hb
  ·exact (h3.apart b hb).2
 ·refine ⟨L,?_⟩
  have hr:=h3.ok.1
  unfold zu at hr
  simp only [Va] at h4
  cases hσ:σ' 100000 [] with
  | none =>
   rw [hσ] at h4 hr
   obtain ⟨h5,_,a,rfl⟩:=h4
   simp only [List.map_eq_nil_iff] at hr
   subst hr
   exact ⟨a,0,hL,rfl,Nat.le_refl _,fun h=>absurd rfl h⟩
  | some L' =>
   rw [hσ] at h4 hr
   obtain ⟨a,c,rfl,h5,h9,ha⟩:=h4
   obtain ⟨s1,s2,cur',E',s3,s4,s5⟩:=hr
   refine ⟨some a,c,hL,rfl,h9,fun hne=>?_⟩
   have:=ha (by simp)
   subst this
   refine ⟨_,cur',E'.t,E'.fr,rfl,rfl,.inr ?_,s3,?_⟩
   ·simp only [fpH,fpR,hσ,List.mem_append,List.mem_cons]
    exact .inl (.inl trivial)
   ·have:=znd (cs.map fun c=>Value.pointer (some ⟨L.b,c,none⟩)) 0 cur'.toList (by rw [List.map_map]; exact s5)
    simp only [Nat.zero_mul,List.drop_zero]
    rw [List.length_map] at this
    exact this
theorem CallG.fields' {P:Program} {f:Nat} {x:List Value} {cs:List Nat}
  (hc:∀ b,CallG P f [.pp (.xp b x 0)] [] (.sl 100000 [] 0 ((cs.map fun c=>(⟨b,c,none⟩:Addr)).map fun a=>[AV.sc (.pointer (some a))]).length) [(100000,⟨1,(cs.map fun c=>(⟨b,c,none⟩:Addr)).map fun a=>[AV.sc (.pointer (some a))]⟩)]) :
  CallG P f [.pt 200000 [] 0 0] [(200000,⟨x.length,[x.map .sc]⟩)] (.pp (.fs 200000 cs)) [(200000,⟨x.length,[x.map .sc]⟩)] :=
 CallG.fields fun b=>by
  have:=hc b
  rw [List.length_map,List.length_map,List.map_map] at this
  exact this
def gP {El:Nat→Type}:TV El→Option Addr
 | .sc (.pointer (some a))=>some a
 | _=>none
theorem y9n {T:TT0} {v:TV T.El} {a:Addr} {h:H} (hv:gP v=some a):den T h v = .sc (.pointer (some a)):=by
 unfold gP at hv
 split at hv
 ·cases hv; rfl
 ·cases hv
end Loom
