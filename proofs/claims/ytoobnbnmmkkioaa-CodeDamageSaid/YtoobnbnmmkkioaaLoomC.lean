/- Loom,an abstract machine over the kit's calculus: rows,z1n,stores,calls,regions,what they owe; and its evaluator (part 3 of 4). -/
import Derived.Test.YtoobnbnmmkkioaaLoomB
set_option linter.unusedVariables false
set_option linter.unusedSimpArgs false
set_option linter.unusedSectionVars false
namespace Loom
attribute [local instance] Dfs.none
open Go Go.ChangeMaps
section
def lf:Code→Code
 | .seq a _=>a
 | .cond _ a _=>a
 | .loop a=>a
 | .block _ a=>a
 | c=>c
def rt:Code→Code
 | .seq _ b=>b
 | .cond _ _ b=>b
 | c=>c
def rops:Code→Array Oper
 | .region _ ops _=>ops
 | _=>#[]
def rid:Code→Nat
 | .region n _ _=>n
 | _=>0
theorem zlp {ops:Array Oper} {i:Nat} {g:Option (Nat×Bool)} {d:Option Nat} {op:Op} (h:(ops[i]?).map (fun o=>(o.guard,o.dst,o.op))=some (g,d,op)):∃ o,ops[i]? = some o∧o.guard=g∧o.dst=d∧o.op=op:=by
 obtain ⟨o,h1,h2⟩:=Option.map_eq_some_iff.1 h
 simp only [Prod.mk.injEq] at h2
 exact ⟨o,h1,h2.1,h2.2.1,h2.2.2⟩
variable {P:Program} {N:Nat} {w0 w w':World} {m:Option (Nat×List ByteArray)} {e e1:Env} {h h1:H} {a:Act} {Q:Exit→Act→World→Prop} {ops:Array Oper}
theorem Now.rd {i:Nat} {is:List Nat} {x:Ins} (n:Now N w0 m e h a w) (ho:(ops[i]?).bind (comp P N ops)=some x) (hs:x.guard=none∧z2x [] e h x.dst x.op=some (e1,h1))
  (hK:∀ a' w',Now N w0 m e1 h1 a' w'→wpOps P ops Q is a' w'):wpOps P ops Q (i::is) a w:=by
 obtain ⟨o,h1,h2⟩:=Option.bind_eq_some_iff.1 ho
 exact n.loom h1 h2 hs.1 (.plain hs.2) hK
theorem Now.rda {i d:Nat} {is:List Nat} {b:IB} (av:AV) (n:Now N w0 m e h a w) (ho:(ops[i]?).bind (comp P N ops)=some ⟨d,none,.rd b⟩) (hs:rdop (ev e) (res h) b=some av)
  (hK:∀ a' w',Now N w0 m (Loom.upd e d av) h a' w'→wpOps P ops Q is a' w'):wpOps P ops Q (i::is) a w :=
 n.rd ho ⟨rfl,by simp only [z2x,hs]⟩ hK
theorem Now.gh (n:Now N w0 m e h a w) (g:zc P [] e h e1 h1):Now N w0 m e1 h1 a w:=by
 obtain ⟨⟨I,σ,R,hf,hm⟩,km,le,old⟩:=n
 exact Now.step hf hm km le old (g I N σ a w R)
theorem Now.call {f:Nat} {fn:Func} {code:Code} {ts:List RS} {args:List AV} {v:Value} (h1:P.funcs[f]? = some fn) (h2:fn.body=some code) (h3:fn.ntmps=N) (h4:z33 P fn.results.toList=some ts)
  (hw:∀ (a:Act) (w0:World) (Q:Exit→Act→World→Prop),Now N w0 none (argE 0 args) [] a w0→(∀ m e' h' a' w',z4s e' h' ts=some (.sc v)→Now N w0 m e' h' a' w'→Q .ret a' w')→code.wp P Q a w0):z28 P f args [] (.sc v) []:=by
 intro I σ w vs hh hv
 apply calls_of_wp h1 h2
 have R:Rel I N σ (argE 0 args) [] { tmps:=vs.toArray++Array.replicate (fn.ntmps - vs.toArray.size) undef,defers:=[] } w:=by
  refine ⟨hh,?_,fun t=>?_,rfl⟩
  ·simp only [Array.size_append,Array.size_replicate,List.size_toArray]
   omega
  ·have:=zb2 (I:=I) (σ:=σ) (B:=bl w) args 0 [] vs (List.replicate (fn.ntmps - vs.toArray.size) undef) rfl hv t
   have e2:(vs.toArray++Array.replicate (fn.ntmps - vs.toArray.size) undef)=(vs++List.replicate (fn.ntmps - vs.toArray.size) undef).toArray:=by
    apply Array.ext'
    simp
   simp only [e2]
   simpa [Array.getD_eq_getD_getElem?,List.getD_eq_getElem?_getD] using this
 refine hw _ w _ ⟨⟨I,σ,R,(fun x hx=>by cases hx),fun b ks hb=>by cases hb⟩,(fun b ks hb=>by cases hb),Le.refl w,fun _ _=>rfl⟩ fun m e' h' a' w' hr n=>?_
 obtain ⟨⟨I',σ',R',-,-⟩,-,le,old⟩:=n
 obtain ⟨u,q1,q2⟩:=z69 R' fn h4 hr
 have ls:=le.size
 exact ⟨R'.defers,u,q1,u,σ,rfl,⟨trivial,List.nodup_nil,List.nodup_nil,(fun b hb=>by cases hb),fun b hb=>by have:=hh.low b hb; omega⟩,q2,fun _ _=>rfl,le,fun b hb _=>old b hb,fun b hb=>by cases hb⟩
end
theorem VaL.scs {I:Nat→Prop} {σ:Pl} {B:zj}:∀ (vs:List Value) {us:List Value},VaL I σ B (vs.map AV.sc) us→us=vs
 | [],_,h=>h
 | v::vs,_,h=>by
  obtain ⟨u,cs,rfl,h1,h2⟩:=h
  obtain rfl:u=v:=h1
  rw [VaL.scs vs h2]
theorem z28.quiet {P:Program} {f:Nat} {vs:List Value} {r:Value} (hc:∀ w,Calls P f vs.toArray w fun e w'=>e = .returned r∧w'=w):z28 P f (vs.map AV.sc) [] (.sc r) []:=by
 intro I σ w us hh hv
 obtain rfl:=VaL.scs vs hv
 refine (hc w).mono ?_
 rintro e w' ⟨rfl,rfl⟩
 exact ⟨r,σ,rfl,hh,rfl,fun _ _=>rfl,Le.refl _,fun _ _ _=>rfl,fun b hb=>.inl hb⟩
section
variable {P:Program} {pro keep:List Nat} {σ:Pl} {I:Nat→Prop} {B:zj} {e:Env} {h:H}
theorem CeE.takeN {k s:Nat} {p:Path}:∀ (m:Nat) {i:Nat} {xs:Els} {cs:List Value},CeE I σ B k p i s xs cs→CeE I σ B k p i s (xs.take m) cs
 | 0,_,_,_,_=>by simp only [List.take_zero]; trivial
 | _+1,_,[],_,_=>trivial
 | m+1,_,_::_,_,hc=>⟨hc.1,hc.2.1,hc.2.2.takeN m⟩
theorem zkl {k:Nat} {p:Path}:∀ (m i:Nat) (xs:Els),(fpE σ k p i (xs.take m)).Sublist (fpE σ k p i xs)
 | 0,_,_=>by simp only [List.take_zero,fpE]; exact List.nil_sublist _
 | _+1,_,[]=>List.Sublist.refl _
 | m+1,i,x::xs=>by
  simp only [List.take_succ_cons,fpE]
  exact (List.Sublist.refl _).append (zkl m (i+1) xs)
theorem HRel.take {w:World} {k:Nat} {r:Row} (m:Nat) (hh:HRel I σ h w) (hg:za h k=some r):HRel I σ ((k,⟨r.s,r.xs.take m⟩)::zd h k) w∧∀ b ∈ fpH σ ((k,⟨r.s,r.xs.take m⟩)::zd h k),b ∈ fpH σ h:=by
 have hp:=z3z hg
 have h1:=hh.perm hp
 have hsub:(fpR σ k ⟨r.s,r.xs.take m⟩).Sublist (fpR σ k r):=by
  unfold fpR
  cases σ k [] with
  | none=>exact List.Sublist.refl _
  | some L=>exact (zkl m 0 r.xs).cons_cons _
 have hsubH:(fpH σ ((k,⟨r.s,r.xs.take m⟩)::zd h k)).Sublist (fpH σ ((k,r)::zd h k)):=by
  simp only [fpH]
  exact hsub.append (List.Sublist.refl _)
 obtain ⟨ok,keys,nd,ap,low⟩:=h1
 refine ⟨⟨⟨?_,ok.2⟩,keys,hsubH.nodup nd,fun b hb=>ap b (hsubH.subset hb),low⟩,fun b hb=>((fpH.perm hp).mem_iff).2 (hsubH.subset hb)⟩
 have o1:=ok.1
 unfold zr at o1 ⊢
 cases hs:σ k [] with
 | none=>simp only [hs] at o1 ⊢; simp [o1]
 | some L =>
  simp only [hs] at o1 ⊢
  obtain ⟨q1,q2,cur,E,q3,q4,q5⟩:=o1
  exact ⟨q1,by simp; omega,cur,E,q3,q4,q5.takeN m⟩
theorem zc.take {k:Nat} {r:Row} (m:Nat) (hg:za h k=some r):zc P pro e h e ((k,⟨r.s,r.xs.take m⟩)::zd h k):=fun I N _ σ a w R=>by
 obtain ⟨c1,c2⟩:=R.heap.take m hg
 exact ⟨σ,I,fun _ h=>h,fun _ h=>.inl h,⟨c1,R.size,R.vals,R.defers⟩,fun _ _=>rfl,Le.refl _,fun _ _ _=>rfl,fun b hb=>.inl (c2 b hb)⟩
variable {Q:Out→Env→H→Prop} {l:List Ins} {R:Type} {r:R}
end
inductive TP where
 | xp (b:Nat) (x:List Value) (c:Nat)
 | fs (k:Nat) (cs:List Nat)
 | fp (k:Nat) (cs:List Nat) (i:Nat)
 | px (k:Nat) (c:Nat)
def denP:TP→AV
 | .xp b x c=>.pp (.xp b x c)
 | .fs k cs=>.pp (.fs k cs)
 | .fp k cs i=>.pp (.fp k cs i)
 | .px k c=>.pt k [] 0 c
inductive TV (El:Nat→Type):Type where
 | un
 | sc (v:Value)
 | ik (k:IntKind) (n:Int)
 | bk (b:Bool)
 | zs
 | ag (cs:List (TV El))
 | tu (vs:List (TV El))
 | im (t:Nat) (xs:List (El t))
 | ip (s:Nat) (cs:List (TV El)) (c:Nat)
 | sl (k:Nat) (p:Path) (off len:Nat)
 | sw (k:Nat) (p:Path)
 | pt (k:Nat) (p:Path) (i c:Nat)
 | fn (f:Nat) (caps:List (TV El))
 | ow (m:Bool) (t:Nat) (xs:List (El t))
 | oo (m:Bool) (t:Nat) (xs:List (El t)) (i:Nat) (cs:List (TV El))
 | pp (q:TP)
inductive TR (El:Nat→Type):Type where
 | typ (m:Bool) (t:Nat) (xs:List (El t))
 | lit (s:Nat) (xs:List (List (TV El)))
 | opn (m:Bool) (t:Nat) (xs:List (El t)) (i:Nat) (cs:List (TV El))
structure TT0 where
 El:Nat→Type
 sz:Nat→Nat
 ca:Bool→(t:Nat)→El t→List AV
abbrev TE (T:TT0):=List (Nat×TV T.El)
abbrev TH (T:TT0):=List (Nat×TR T.El)
def ze (h:H) (k:Nat) (p:Path):Nat :=
 match res h k p with
 | some (_,xs)=>xs.length
 | none=>0
section
variable {T:TT0}
mutual
def den (T:TT0) (h:H):TV T.El→AV
 | .un=>.un
 | .sc v=>.sc v
 | .ik k n=>.sc (.int k n)
 | .bk b=>.sc (.bool b)
 | .zs=>.zs
 | .ag cs=>.ag (denL T h cs)
 | .tu cs=>.tu (denL T h cs)
 | .im t xs=>.im (T.sz t) (xs.map (T.ca false t))
 | .ip s cs c=>.ip s [denL T [] cs] 0 c
 | .sl k p off len=>.sl k p off len
 | .sw k p=>.sl k p 0 (ze h k p)
 | .pt k p i c=>.pt k p i c
 | .fn f caps=>.fn f (denL T h caps)
 | .ow m t xs=>.ow (T.sz t) (xs.map (T.ca m t))
 | .oo m t xs i cs=>.ow (T.sz t) ((xs.map (T.ca m t)).set i (denL T [] cs))
 | .pp q=>denP q
def denL (T:TT0) (h:H):List (TV T.El)→List AV
 | []=>[]
 | x::l=>den T h x::denL T h l
end
theorem zx (h:H):∀ (l:List (TV T.El)),denL T h l=l.map (den T h)
 | []=>rfl
 | x::l=>by simp [denL,zx h l]
mutual
def inR:TV T.El→Bool
 | .un | .sc _ | .ik _ _ | .bk _ | .zs | .im _ _ | .ow _ _ _=>true
 | .oo _ _ _ _ cs=>inRL cs
 | .ag _ | .tu _ | .ip _ _ _ | .sl _ _ _ _ | .sw _ _ | .pt _ _ _ _ | .fn _ _ | .pp _=>false
def inRL:List (TV T.El)→Bool
 | []=>true
 | x::l=>inR x && inRL l
end
def denR (T:TT0):TR T.El→Row
 | .typ m t xs=>⟨T.sz t,xs.map (T.ca m t)⟩
 | .lit s xs=>⟨s,xs.map (denL T [])⟩
 | .opn m t xs i cs=>⟨T.sz t,(xs.map (T.ca m t)).set i (denL T [] cs)⟩
def denH (T:TT0):TH T→H
 | []=>[]
 | (k,r)::h=>(k,denR T r)::denH T h
def getE:TE T→Nat→TV T.El
 | [],_=>.un
 | (k,v)::l,t=>bif Nat.beq t k then v else getE l t
def denE (T:TT0) (h:H) (e:TE T):Env:=fun t=>den T h (getE e t)
def getT:TH T→Nat→Option (TR T.El)
 | [],_=>none
 | (k',r)::h,k=>bif Nat.beq k' k then some r else getT h k
def delT:TH T→Nat→TH T
 | [],_=>[]
 | (k',r)::h,k=>bif Nat.beq k' k then h else (k',r)::delT h k
def putE (e:TE T) (d:Nat) (v:TV T.El):TE T:=(d,v)::e
theorem z1b {a b:Nat}:Nat.beq a b=decide (a=b):=by
 rw [Bool.eq_iff_iff]; simp
theorem z1p:∀ (h:TH T) (k:Nat),za (denH T h) k=(getT h k).map (denR T)
 | [],_=>rfl
 | (k',r)::h,k=>by
  simp only [denH,za,getT,z1b]
  by_cases e:k'=k
  ·simp [e]
  ·simp [e,z1p h k]
theorem zu:∀ (h:TH T) (k:Nat),zd (denH T h) k=denH T (delT h k)
 | [],_=>rfl
 | (k',r)::h,k=>by
  simp only [denH,zd,delT,z1b]
  by_cases e:k'=k
  ·simp [e]
  ·simp [e,denH,zu h k]
theorem z2g:∀ (a b:TH T),denH T (a++b)=denH T a++denH T b
 | [],b=>rfl
 | (k,r)::a,b=>by simp [denH,z2g a b]
theorem z1e:∀ (h:TH T),(denH T h).map Prod.fst=h.map Prod.fst
 | []=>rfl
 | (k,r)::h=>by simp [denH,z1e h]
theorem zy {h:H} {e:TE T} {d:Nat} {v:TV T.El}:denE T h (putE e d v)=upd (denE T h e) d (den T h v):=by
 funext t
 simp only [denE,putE,getE,upd,z1b]
 by_cases e:t=d <;> simp [e]
def zae (v:Value):TV T.El :=
 match cval v with
 | .zs=>.zs
 | .sc (.int k n)=>.ik k n
 | .sc (.bool b)=>.bk b
 | .sc v=>.sc v
 | .ag cs=>.ag (cs.map fun | .zs=>.zs | .sc v=>.sc v | _=>.un)
 | _=>.un
theorem zdl (h:H) (v:Value):den T h (zae v)=cval v:=by
 unfold zae
 have key:∀ v:Value,cval v = .zs∨(∃ u,cval v = .sc u)∨cval v = .un∨∃ l:List AV,cval v = .ag l∧∀ x ∈ l,x = .zs∨∃ u,x = .sc u:=by
  intro v
  unfold cval
  split
  ·exact .inl rfl
  ·split
   ·refine .inr (.inr (.inr ⟨_,rfl,fun x hx=>?_⟩))
    obtain ⟨y,_,rfl⟩:=List.mem_map.1 hx
    split
    ·exact .inl rfl
    ·exact .inr ⟨_,rfl⟩
   ·exact .inr (.inr (.inl rfl))
  ·exact .inr (.inl ⟨_,rfl⟩)
 rcases key v with h1 | ⟨u,h1⟩ | h1 | ⟨l,h1,h2⟩
 ·rw [h1]; rfl
 ·rw [h1]
  cases u <;> rfl
 ·rw [h1]; rfl
 ·rw [h1]
  simp only [den,zx,List.map_map]
  congr 1
  refine (List.map_congr_left fun x hx=>?_).trans (List.map_id l)
  rcases h2 x hx with rfl | ⟨u,rfl⟩ <;> rfl
def evT (e:TE T):Operand→TV T.El
 | .tmp t=>getE e t
 | .const v=>zae v
 | .func f=>.fn f []
 | .global _=>.un
theorem zg {h:H} {e:TE T} (o:Operand):ev (denE T h e) o=den T h (evT e o):=by
 cases o with
 | tmp t=>rfl
 | const v=>exact (zdl h v).symm
 | func f=>simp [ev,evT,den,denL]
 | global _=>rfl
theorem AVle.trans {a b c:AV} (h:AVle a b) (k:AVle b c):AVle a c:=fun I σ B v x=>k I σ B v (h I σ B v x)
theorem AVle.un (a:AV):AVle a .un:=fun _ _ _ _ _=>trivial
theorem AVle.kill (bad:Nat→Path→Bool) (a:AV):AVle a (kill bad a):=fun _ _ _ v h=>Va.kill (fun _ _ _=>rfl) a v h
theorem AVle.ip {s i c:Nat} {xs:Els} {x:List AV} (hx:xs[i]? = some x):AVle (.ip s xs i c) (.ip s [x] 0 c):=fun I σ B v hv=>by
 obtain ⟨A,cur,E,fr,h1,h2,h3,h4,h5⟩:=hv
 have h6:=ImE.get xs _ h5 i x hx
 refine ⟨⟨A.block,A.off+i * s,none⟩,cur,E,fr,?_,rfl,h3,h4,h6.1,?_,trivial⟩
 ·rw [h1]; simp
 ·rw [List.drop_drop] at h6
  exact h6.2
theorem AVle.zsIm (s:Nat):AVle .zs (.im s []):=fun I σ B v ⟨x,hx⟩=>⟨x,0,hx,Nat.le_refl _,fun hn=>absurd rfl hn⟩
theorem zc.le {P:Program} {pro:List Nat} {e e1:Env} {h:H} (he:∀ t,AVle (e t) (e1 t)):zc P pro e h e1 h:=fun I N _ σ a w R =>
 Step.of_rel ⟨R.heap,R.size,fun t=>he t I σ (bl w) _ (R.vals t),R.defers⟩ rfl
theorem AVle.upd {e e':Env} {d:Nat} {a b:AV} (he:∀ t,AVle (e t) (e' t)) (h:AVle a b) (t:Nat):AVle (Loom.upd e d a t) (Loom.upd e' d b t):=by
 unfold Loom.upd
 split
 ·exact h
 ·exact he t
def zbl {El:Nat→Type} (bad:Nat→Path→Bool):TP→TV El
 | .xp b x c=>.pp (.xp b x c)
 | .fs k cs=>bif bad k [] then .un else .pp (.fs k cs)
 | .fp k cs i=>bif bad k [] then .un else .pp (.fp k cs i)
 | .px k c=>bif bad k [] then .un else .pp (.px k c)
theorem zcp {T:TT0} {H0:H} {bad:Nat→Path→Bool} (q:TP):den T H0 (zbl bad q)=kill bad (denP q):=by
 cases q with
 | xp b x c=>rfl
 | fs k cs=>simp only [zbl,denP,kill,z4p]; cases bad k [] <;> rfl
 | fp k cs i=>simp only [zbl,denP,kill,z4p]; cases bad k [] <;> rfl
 | px k c=>simp only [zbl,denP,kill]; cases bad k [] <;> rfl
mutual
def z2i (bad bw:Nat→Path→Bool):TV T.El→TV T.El
 | .sl k p off len=>bif bad k p then .un else .sl k p off len
 | .sw k p=>bif bad k p || bw k p then .un else .sw k p
 | .pt k p i c=>bif bad k p then .un else .pt k p i c
 | .ag cs=>.ag (z75 bad bw cs)
 | .tu cs=>.tu (z75 bad bw cs)
 | .fn f caps=>.fn f (z75 bad bw caps)
 | .un=>.un
 | .sc v=>.sc v
 | .ik k n=>.ik k n
 | .bk b=>.bk b
 | .zs=>.zs
 | .im t xs=>.im t xs
 | .ip s cs c=>.ip s cs c
 | .ow m t xs=>.ow m t xs
 | .oo m t xs i cs=>.oo m t xs i cs
 | .pp q=>zbl bad q
def z75 (bad bw:Nat→Path→Bool):List (TV T.El)→List (TV T.El)
 | []=>[]
 | a::as=>z2i bad bw a::z75 bad bw as
end
def z5g (bad bw:Nat→Path→Bool):TE T→TE T
 | []=>[]
 | (k,v)::l=>(k,z2i bad bw v)::z5g bad bw l
theorem z2v {bad bw:Nat→Path→Bool}:∀ (e:TE T) (t:Nat),getE (z5g bad bw e) t=z2i bad bw (getE e t)
 | [],_=>rfl
 | (k,v)::l,t=>by
  simp only [z5g,getE]
  cases Nat.beq t k
  ·simpa using z2v l t
  ·rfl
end
def isZ:AV→Bool
 | .zs=>true
 | _=>false
inductive Kd where
 | no
 | im (t:Nat)
 | ow (m:Bool) (t:Nat)
structure TT extends TT0 where
 ks:Bool→Nat→List Kd
 ct:Bool→(t:Nat)→El t→List (TV El)
 un:Bool→(t:Nat)→List (TV El)→Option (El t)
 ct_ok:∀ m t x,denL toTT0 [] (ct m t x)=ca m t x
 ct_in:∀ m t x,inRL (T:=toTT0) (ct m t x)=true
 un_ok:∀ m t cs x,un m t cs=some x→denL toTT0 [] cs=ca m t x
 im_ok:∀ m t x,z3w (ca m t x)=ca false t x
 pl:Nat→Bool
 pl_ok:∀ t x,pl t=true→z2o (ca false t x)=true
 u8:Nat
 bs:List Int→List (El u8)
 bs_ok:∀ l,(bs l).map (ca false u8)=l.map fun n=>[.sc (.int .u8 n)]
 bs_sz:sz u8=1
 sb:List (El u8)→List Int
 sb_ok:∀ m l,l.map (ca m u8)=(sb l).map fun n=>[.sc (.int .u8 n)]
 po:Nat→Bool
 ow_ok:∀ t x,po t=true→z2o (ca true t x)=true
 fl_ok:∀ t x,(ca false t x).all zdt=true
 nz_ok:∀ m t x,∀ a ∈ ca m t x,isZ a=false
inductive Rs (X:Type):Type 1 where
 | ok (v:X)
 | no
 | bnd {A:Type} (x:Option A) (K:A→Rs X)
 | need (p:Prop) [Decidable p] (K:Rs X)
 | ite (b:Bool) (x y:Rs X)
def Rs.gives {X:Type}:Rs X→X→Prop
 | .ok v,u=>u=v
 | .no,_=>False
 | .bnd x K,u=>∃ a,x=some a∧(K a).gives u
 | @Rs.need _ p _ K,u=>p∧K.gives u
 | .ite b x y,u=>(b=true∧x.gives u)∨(b=false∧y.gives u)
section
variable {T:TT}
abbrev VT (T:TT):=TV T.El
abbrev RT (T:TT):=Rs (TV T.El)
mutual
theorem y6e (h h':H):∀ (x:VT T),inR (T:=T.toTT0) x=true→den T.toTT0 h x=den T.toTT0 h' x
 | .un,_ | .sc _,_ | .ik _ _,_ | .bk _,_ | .zs,_ | .im _ _,_ | .ow _ _ _,_=>rfl
 | .oo _ _ _ _ cs,hi=>rfl
 | .ag _,hi | .tu _,hi | .ip _ _ _,hi | .sl _ _ _ _,hi | .sw _ _,hi | .pt _ _ _ _,hi | .fn _ _,hi | .pp _,hi=>by simp [inR] at hi
theorem zpc (h h':H):∀ (x:List (VT T)),inRL (T:=T.toTT0) x=true→denL T.toTT0 h x=denL T.toTT0 h' x
 | [],_=>rfl
 | x::l,hi=>by
  simp only [inRL,Bool.and_eq_true] at hi
  simp only [denL,y6e h h' x hi.1,zpc h h' l hi.2]
end
def z8a {X:Type} (K:TR T.El→Rs X):Path→TR T.El→Rs X
 | [],r=>K r
 | (i,c)::p,.lit s xs =>
  match xs[i]? with
  | some x=>match x[c]? with
   | some (.ow m t ys)=>z8a K p (.typ m t ys)
   | some (.oo m t ys j cs)=>z8a K p (.opn m t ys j cs)
   | _=>.no
  | none=>.no
 | (i,c)::p,.typ m t xs =>
  .bnd (xs[i]?) fun y=>match (T.ct m t y)[c]? with
   | some (.ow m t ys)=>z8a K p (.typ m t ys)
   | _=>.no
 | (i,c)::p,.opn m t xs j cs =>
  .need (i=j∧j<xs.length) (match cs[c]? with
   | some (.ow m t ys)=>z8a K p (.typ m t ys)
   | _=>.no)
def atT {X:Type} (h:TH T.toTT0) (k:Nat) (p:Path) (K:TR T.El→Rs X):Rs X :=
 match getT h k with
 | some r=>z8a K p r
 | none=>.no
theorem z31 {h:H} {cs:List (VT T)} {c:Nat}:(denL T.toTT0 h cs)[c]? = (cs[c]?).map (den T.toTT0 h):=by rw [zx,List.getElem?_map]
theorem z2p {h:H} (cs:List (VT T)):(denL T.toTT0 h cs).length=cs.length:=by rw [zx,List.length_map]
theorem ztm {m:Bool} {t:Nat} {x:T.El t} {c:Nat}:(T.ca m t x)[c]? = ((T.ct m t x)[c]?).map (den T.toTT0 []):=by rw [← T.ct_ok,z31]
theorem z6t {X:Type} {K:TR T.El→Rs X} {v:X}:∀ (p:Path) (r:TR T.El),(z8a K p r).gives v→∃ r',resE (denR T.toTT0 r).s (denR T.toTT0 r).xs p=some ((denR T.toTT0 r').s,(denR T.toTT0 r').xs)∧(K r').gives v
 | [],r,hg=>⟨r,rfl,hg⟩
 | (i,c)::p,.lit s xs,hg=>by
  simp only [z8a] at hg
  split at hg
  ·rename_i x hx
   split at hg
   ·rename_i m t ys hy
    obtain ⟨r',h1,h2⟩:=z6t p _ hg
    refine ⟨r',?_,h2⟩
    simp only [denR,resE,List.getElem?_map,hx,Option.map_some,z31,hy,den]
    exact h1
   ·rename_i m t ys j cs hy
    obtain ⟨r',h1,h2⟩:=z6t p _ hg
    refine ⟨r',?_,h2⟩
    simp only [denR,resE,List.getElem?_map,hx,Option.map_some,z31,hy,den]
    exact h1
   ·exact hg.elim
  ·exact hg.elim
 | (i,c)::p,.typ m t xs,hg=>by
  obtain ⟨y,hy,hg⟩:=hg
  dsimp only at hg
  split at hg
  ·rename_i m' t' ys hc
   obtain ⟨r',h1,h2⟩:=z6t p _ hg
   refine ⟨r',?_,h2⟩
   simp only [denR,resE,List.getElem?_map,hy,Option.map_some,ztm,hc,den]
   exact h1
  ·exact hg.elim
 | (i,c)::p,.opn m t xs j cs,hg=>by
  obtain ⟨⟨rfl,hj⟩,hg⟩:=hg
  split at hg
  ·rename_i m' t' ys hc
   obtain ⟨r',h1,h2⟩:=z6t p _ hg
   refine ⟨r',?_,h2⟩
   simp only [denR,resE]
   rw [List.getElem?_set_self (by simpa using hj)]
   simp only [z31,hc,Option.map_some,den]
   exact h1
  ·exact hg.elim
theorem z58 {X:Type} {h:TH T.toTT0} {k:Nat} {p:Path} {K:TR T.El→Rs X} {v:X} (hg:(atT h k p K).gives v):∃ r',res (denH T.toTT0 h) k p=some ((denR T.toTT0 r').s,(denR T.toTT0 r').xs)∧(K r').gives v:=by
 unfold atT at hg
 split at hg
 ·rename_i r hr
  obtain ⟨r',h1,h2⟩:=z6t p r hg
  refine ⟨r',?_,h2⟩
  simp only [res,z1p,hr,Option.map_some]
  exact h1
 ·exact hg.elim
def nnT:VT T→RT T
 | .un=>.no
 | v=>.ok v
def asc:VT T→Option Value
 | .sc v=>some v
 | .ik k n=>some (.int k n)
 | .bk b=>some (.bool b)
 | _=>none
theorem z2s {h:H} {v:VT T} {u:Value} (hv:asc v=some u):den T.toTT0 h v = .sc u:=by
 cases v <;> simp [asc] at hv <;> subst hv <;> rfl
def z3t:VT T→Bool
 | .ik _ _ | .bk _=>true
 | _=>false
def isK:Value→VT T
 | .int k n=>.ik k n
 | .bool b=>.bk b
 | v=>.sc v
theorem y5b (h:H) (v:Value):den T.toTT0 h (isK v) = .sc v:=by cases v <;> rfl
def scR (kn:Bool) (o:Option Value):RT T :=
 match o with
 | some v=>bif kn then .ok (isK v) else .ok (.sc v)
 | none=>.no
theorem zik {kn:Bool} {o:Option Value} {v:VT T} (h:H) (hg:(scR (T:=T) kn o).gives v):∃ u,o=some u∧den T.toTT0 h v = .sc u:=by
 unfold scR at hg
 split at hg
 ·rename_i u
  cases kn
  ·simp only [cond_false] at hg; cases hg; exact ⟨u,rfl,rfl⟩
  ·simp only [cond_true] at hg; cases hg; exact ⟨u,rfl,y5b h u⟩
 ·exact hg.elim
def binT (op:BinOp) (kn:Bool) (a b:Value):RT T :=
 bif kn then scR true (sbin op a b) else
 match op,a,b with
 | .shl,.int k a,.int k' b=>.need (0≤b) (.ok (.sc (.int k (k.wrap (a * 2 ^ min b.toNat k.bits)))))
 | .shr,.int k a,.int k' b=>.need (0≤b) (.ok (.sc (.int k (a.fdiv (2 ^ min b.toNat k.bits)))))
 | .quo,.int k a,.int k' b=>if k=k' then .need (b ≠ 0) (.ok (.sc (.int k (k.wrap (a.tdiv b))))) else .no
 | .rem,.int k a,.int k' b=>if k=k' then .need (b ≠ 0) (.ok (.sc (.int k (a.tmod b)))) else .no
 | .add,.string a,.string b=>.need (a.size+b.size≤9223372036854775807) (.ok (.sc (.string (a++b))))
 | op,a,b=>scR false (sbin op a b)
theorem y4d {op:BinOp} {kn:Bool} {a b:Value} {v:VT T} (h:H) (hg:(binT (T:=T) op kn a b).gives v):∃ u,sbin op a b=some u∧den T.toTT0 h v = .sc u:=by
 unfold binT at hg
 cases kn
 ·simp only [cond_false] at hg
  split at hg
  ·obtain ⟨h1,rfl⟩:=hg
   exact ⟨_,by simp [sbin,h1],rfl⟩
  ·obtain ⟨h1,rfl⟩:=hg
   exact ⟨_,by simp [sbin,h1],rfl⟩
  ·split at hg
   ·rename_i hk
    obtain ⟨h1,rfl⟩:=hg
    subst hk
    exact ⟨_,by simp [sbin,h1],rfl⟩
   ·exact hg.elim
  ·split at hg
   ·rename_i hk
    obtain ⟨h1,rfl⟩:=hg
    subst hk
    exact ⟨_,by simp [sbin,h1],rfl⟩
   ·exact hg.elim
  ·obtain ⟨h1,rfl⟩:=hg
   exact ⟨_,by simp [sbin,h1],rfl⟩
  ·exact zik h hg
 ·exact zik h hg
def y45 (k:Nat) (p:Path) (i c:Nat):VT T→VT T
 | .ow _ _ _=>.sw k (p++[(i,c)])
 | .oo _ _ _ _ _=>.sw k (p++[(i,c)])
 | a=>a
def ziw (k:Nat) (p:Path) (i:Nat):Nat→List (VT T)→List (VT T)
 | _,[]=>[]
 | c,a::as=>y45 k p i c a::ziw k p i (c+1) as
def z7o:Bool→List (VT T)→RT T
 | true,cs=>.ok (.ag cs)
 | false,[a]=>.ok a
 | false,_=>.no
def z9z (cs:List (VT T)) (c n:Nat):Option (List (VT T)):=bif Nat.ble (c+n) cs.length then some ((cs.drop c).take n) else none
theorem z77 {agg:Bool} {cs:List (VT T)} {v:VT T} {h:H} (hg:(z7o agg cs).gives v):z49 agg (denL T.toTT0 h cs)=some (den T.toTT0 h v):=by
 unfold z7o at hg
 split at hg
 ·cases hg; rfl
 ·cases hg; rfl
 ·exact hg.elim
theorem zas {cs ds:List (VT T)} {c n:Nat} {h:H} (hs:z9z cs c n=some ds):c+n≤(denL T.toTT0 h cs).length∧((denL T.toTT0 h cs).drop c).take n=denL T.toTT0 h ds:=by
 unfold z9z at hs
 cases hb:Nat.ble (c+n) cs.length with
 | false=>rw [hb] at hs; cases hs
 | true =>
  rw [hb] at hs
  simp only [cond_true,Option.some.injEq] at hs
  subst hs
  refine ⟨by rw [z2p]; exact Nat.le_of_ble_eq_true hb,?_⟩
  simp [zx,List.map_take,List.map_drop]
def zf3 (agg:Bool) (n k:Nat) (p:Path) (i c:Nat) (cs:List (VT T)):RT T :=
 bif inRL (T:=T.toTT0) cs then match z9z cs c n with | some ds=>z7o agg (ziw k p i c ds) | none=>.no else .no
theorem zla {h:TH T.toTT0} {k i s:Nat} {p:Path} {ys:Els} {x:List AV} (hr:res (denH T.toTT0 h) k p=some (s,ys)) (hx:ys[i]? = some x):∀ (ds:List (VT T)) (c:Nat),inRL (T:=T.toTT0) ds=true→(∀ j a,ds[j]? = some a→x[c+j]? = some (den T.toTT0 [] a))→zfm k p i c (denL T.toTT0 [] ds)=denL T.toTT0 (denH T.toTT0 h) (ziw k p i c ds)
 | [],c,_,_=>rfl
 | a::ds,c,hi,hj=>by
  simp only [inRL,Bool.and_eq_true] at hi
  have ih:=zla hr hx ds (c+1) hi.2 (fun j b hb=>by have:=hj (j+1) b (by simpa using hb); rwa [show c+(j+1)=c+1+j by omega] at this)
  have h0:=hj 0 a rfl
  rw [Nat.add_zero] at h0
  have hlen:∀ (s2:Nat) (zs:Els),den T.toTT0 [] a = .ow s2 zs→ze (denH T.toTT0 h) k (p++[(i,c)])=zs.length:=fun s2 zs hz=>by
   rw [hz] at h0
   have:res (denH T.toTT0 h) k (p++[(i,c)])=some (s2,zs):=by
    unfold res at hr ⊢
    split at hr
    ·rename_i r hg
     rw [zb0 p _ _ _ _ _ hr]
     simp [resE,hx,h0]
    ·cases hr
   unfold ze
   rw [this]
  simp only [denL,zfm,ziw,ih]
  congr 1
  cases a <;> first | rfl | (simp [inR] at hi; done) | skip
  all_goals (simp only [y45,den,view]; rw [hlen _ _ rfl])
theorem zcs {agg:Bool} {n k i c s:Nat} {p:Path} {cs:List (VT T)} {v:VT T} {h:TH T.toTT0} {ys:Els} (hr:res (denH T.toTT0 h) k p=some (s,ys)) (hx:ys[i]? = some (denL T.toTT0 [] cs)) (hg:(zf3 agg n k p i c cs).gives v) :
  (match z4x ys i c n with | some cs=>z49 agg (zfm k p i c cs) | none=>none)=some (den T.toTT0 (denH T.toTT0 h) v):=by
 unfold zf3 at hg
 cases hi:inRL (T:=T.toTT0) cs with
 | false=>rw [hi] at hg; exact hg.elim
 | true =>
  rw [hi] at hg
  simp only [cond_true] at hg
  split at hg
  ·rename_i ds hd
   obtain ⟨q1,q2⟩:=zas (h:=[]) hd
   simp only [z4x,hx,if_pos q1,q2]
   have hid:inRL (T:=T.toTT0) ds=true:=by
    have key:∀ (cs:List (VT T)),inRL (T:=T.toTT0) cs=true↔∀ x ∈ cs,inR (T:=T.toTT0) x=true:=by
     intro cs
     induction cs with
     | nil=>simp [inRL]
     | cons a l ih=>simp [inRL,ih]
    rw [key] at hi ⊢
    intro x hx2
    unfold z9z at hd
    cases hb:Nat.ble (c+n) cs.length with
    | false=>rw [hb] at hd; cases hd
    | true =>
     rw [hb] at hd
     simp only [cond_true,Option.some.injEq] at hd
     subst hd
     exact hi x (List.mem_of_mem_drop (List.mem_of_mem_take hx2))
   rw [zla (T:=T) hr hx ds c hid (fun j a ha=>by
    have e1:(denL T.toTT0 [] ds)[j]? = some (den T.toTT0 [] a):=by rw [z31,ha]; rfl
    rw [← q2,List.getElem?_take] at e1
    split at e1
    ·rwa [List.getElem?_drop] at e1
    ·cases e1)]
   exact z77 hg
  ·exact hg.elim
end
section
variable {T:TT}
def zc8 (xs ys:List (VT T)):List (Nat×Nat)→Option Bool
 | []=>some true
 | (i,q)::is =>
  match (xs[i]?).bind asc,(ys[i]?).bind asc with
  | some a,some b =>
   match scEq q a b,zc8 xs ys is with
   | some r,some r'=>some (r && r')
   | _,_=>none
  | _,_=>none
theorem zp8 {h:H} {xs:List (VT T)} {i:Nat} {u:Value} (hx:(xs[i]?).bind asc=some u):(denL T.toTT0 h xs)[i]? = some (.sc u):=by
 rw [z31]
 cases hi:xs[i]? with
 | none=>rw [hi] at hx; cases hx
 | some x =>
  rw [hi] at hx
  simp only [Option.map_some,z2s (h:=h) hx]
theorem zfu {h:H} {xs ys:List (VT T)}:∀ (l:List (Nat×Nat)) (r:Bool),zc8 xs ys l=some r→z32 (denL T.toTT0 h xs) (denL T.toTT0 h ys) l=some r
 | [],_,h=>h
 | (i,q)::is,r,hr=>by
  unfold zc8 at hr
  split at hr
  ·rename_i a b ha hb
   split at hr
   ·rename_i r1 r2 h1 h2
    simp only [z32,zp8 (h:=h) ha,zp8 (h:=h) hb,h1,zfu is r2 h2]
    exact hr
   ·cases hr
  ·cases hr
def oneT:VT T→Bool
 | .sc u=>u.oneCell'
 | .ik _ _ | .bk _ | .zs | .im _ _ | .ip _ _ _ | .sl _ _ _ _ | .sw _ _ | .pt _ _ _ _ | .fn _ _ | .pp _=>true
 | _=>false
def z6i:VT T→Option (List (VT T))
 | .ag cs=>some cs
 | a=>bif oneT a then some [a] else none
theorem z7r {h:H} {v:VT T} {cs:List (VT T)} (hc:z6i v=some cs):cellsOf (den T.toTT0 h v)=some (denL T.toTT0 h cs):=by
 cases v <;> simp [z6i,oneT] at hc
 case ag=>subst hc; rfl
 case sc u =>
  cases hu:u.oneCell' with
  | true=>rw [hu] at hc; simp at hc; subst hc; simp [den,cellsOf,zcx,hu,denL]
  | false=>rw [hu] at hc; simp at hc
 case ik k n=>subst hc; simp [den,cellsOf,zcx,denL,Value.oneCell']
 case bk b=>subst hc; simp [den,cellsOf,zcx,denL,Value.oneCell']
 case pp q=>subst hc; cases q <;> simp [den,denP,cellsOf,zcx,denL]
 all_goals (subst hc; simp [den,cellsOf,zcx,denL])
def zca (cells:List (VT T)):List (Nat×Nat×VT T)→Option (List (VT T))
 | []=>some cells
 | (off,size,v)::rest =>
  match z6i v with
  | some cs=>bif Nat.beq cs.length size && Nat.ble (off+size) cells.length then zca (cells.take off++cs++cells.drop (off+size)) rest else none
  | none=>none
theorem zcb {h:H}:∀ (parts:List (Nat×Nat×VT T)) (cells cs:List (VT T)),zca cells parts=some cs→z4u (denL T.toTT0 h cells) (parts.map fun (o,n,x)=>(o,n,den T.toTT0 h x))=some (denL T.toTT0 h cs)
 | [],cells,cs,hf=>by simp only [zca,Option.some.injEq] at hf; subst hf; rfl
 | (off,size,v)::rest,cells,cs,hf=>by
  unfold zca at hf
  split at hf
  ·rename_i ds hd
   cases hb:(Nat.beq ds.length size && Nat.ble (off+size) cells.length) with
   | false=>rw [hb] at hf; cases hf
   | true =>
    rw [hb] at hf
    simp only [cond_true] at hf
    simp only [Bool.and_eq_true] at hb
    have h1:=Nat.eq_of_beq_eq_true hb.1
    have h2:=Nat.le_of_ble_eq_true hb.2
    have ih:=zcb (h:=h) rest _ _ hf
    simp only [List.map_cons,z4u,z7r (h:=h) hd,z2p]
    rw [if_pos ⟨h1,h2⟩]
    rw [← ih]
    congr 1
    simp [zx,List.map_take,List.map_drop]
  ·cases hf
def z66 (l:List Value):List (VT T):=l.map zae
theorem z82 (h:H) (l:List Value):denL T.toTT0 h (z66 l)=l.map cval:=by
 rw [zx,z66,List.map_map]
 exact List.map_congr_left fun x _=>zdl h x
def z7w:VT T→Option Int
 | .sc (.int _ n)=>some n
 | .ik _ n=>some n
 | _=>none
theorem z6l {h:H} {v:VT T} {n:Int} (hv:z7w v=some n):∃ k,den T.toTT0 h v = .sc (.int k n):=by
 unfold z7w at hv
 split at hv
 ·cases hv; exact ⟨_,rfl⟩
 ·cases hv; exact ⟨_,rfl⟩
 ·cases hv
theorem zkq {h:H} {v:VT T} {n:Int} (hv:z7w v=some n):nat? (den T.toTT0 h v)=some n:=by
 obtain ⟨k,hk⟩:=z6l (h:=h) hv
 rw [hk]; rfl
def zdu:List (VT T)→Option (IntKind×List Int)
 | []=>none
 | [v]=>match asc v with | some (.int k n)=>some (k,[n]) | _=>none
 | v::l=>match asc v,zdu l with | some (.int k n),some (k',ns)=>if k=k' then some (k,n::ns) else none | _,_=>none
theorem zkr {h:H}:∀ (l:List (VT T)) (k:IntKind) (ns:List Int),zdu l=some (k,ns)→denL T.toTT0 h l=ns.map fun n=>.sc (.int k n)
 | [],_,_,hl=>by cases hl
 | [v],k,ns,hl=>by
  simp only [zdu] at hl
  split at hl
  ·rename_i k n hv
   cases hl
   simp [denL,z2s (h:=h) hv]
  ·cases hl
 | v::w::l,k,ns,hl=>by
  simp only [zdu] at hl
  split at hl
  ·rename_i k1 n1 k2 ns2 hv hl2
   split at hl
   ·rename_i hk
    subst hk
    cases hl
    have ih:=zkr (h:=h) (w::l) _ _ hl2
    rw [denL,z2s (h:=h) hv,ih]
    rfl
   ·cases hl
  ·cases hl
def nthT (agg:Bool) (n:Nat) (cs:List (VT T)) (j:Nat):RT T:=match z9z cs (j * n) n with | some ds=>z7o agg ds | none=>.no
def zlk (m:Int) (f:Nat→RT T):Nat→Nat→RT T
 | 0,_=>.no
 | n+1,j=>.ite (m==(j:Int)) (f j) (zlk m f n (j+1))
theorem zg3 {m:Int} {f:Nat→RT T} {v:VT T}:∀ (n j:Nat),(zlk m f n j).gives v→∃ i:Nat,j≤i∧i<j+n∧m=(i:Int)∧(f i).gives v
 | 0,_,h=>h.elim
 | n+1,j,h=>by
  rcases h with ⟨h1,h2⟩ | ⟨_,h2⟩
  ·exact ⟨j,Nat.le_refl _,by omega,by simpa using h1,h2⟩
  ·obtain ⟨i,q1,q2,q3,q4⟩:=zg3 n (j+1) h2
   exact ⟨i,by omega,by omega,q3,q4⟩
def idaT (agg:Bool) (len n:Nat) (cs:List (VT T)) (kn:Bool) (m:Int):RT T :=
 bif kn then (if 0≤m∧m<len then nthT agg n cs m.toNat else .no) else
 match agg,n,zdu cs with
 | false,1,some (k,ns)=>bif Nat.beq ns.length len then .bnd (idx ns m) fun y=>.ok (.sc (.int k y)) else .no
 | _,_,_=>zlk m (nthT agg n cs) len 0
def z6a (o:Option Operand) (e:TE T.toTT0):Option (Option Int) :=
 match o with
 | none=>some none
 | some x=>match z7w (evT e x) with | some n=>some (some n) | none=>none
def cutT (len:Nat) (lo hi:Option Int) (K:Nat→Nat→RT T) (whole:RT T):RT T :=
 match lo,hi with
 | none,none=>whole
 | none,some b=>.need (0≤b∧b≤(len:Int)) (K 0 b.toNat)
 | some a,none=>.need (0≤a∧a≤(len:Int)) (K a.toNat len)
 | some a,some b=>.need (0≤a∧a≤b∧b≤(len:Int)) (K a.toNat b.toNat)
def part {α:Type} (xs:List α) (a b:Nat):List α:=(xs.take b).drop a
def z8z:List (VT T)→Option (List (Option Int))
 | []=>some []
 | x::l=>match z8z l with
  | some r=>match x with
   | .sc (.int .i64 n)=>some (some n::r)
   | .ik .i64 n=>some (some n::r)
   | _=>some (none::r)
  | none=>none
def z39 (l:List (Option Int)) (c:Nat):Option Int:=match l[c]? with | some (some n)=>some n | _=>none
theorem zgd {H0:H}:∀ (cs:List (VT T)) (l:List (Option Int)) (c:Nat) (n:Int),z8z cs=some l→z39 l c=some n→∃ v,cs[c]? = some v∧den T.toTT0 H0 v = .sc (.int .i64 n)
 | [],l,c,n,h,hp=>by cases h; simp [z39] at hp
 | x::cs,l,c,n,h,hp=>by
  unfold z8z at h
  split at h
  ·rename_i r hr
   have ih:=fun c hp=>zgd (H0:=H0) cs r c n hr hp
   cases c with
   | zero =>
    split at h
    ·cases h; simp only [z39,List.getElem?_cons_zero,Option.some.injEq] at hp; subst hp; exact ⟨_,rfl,rfl⟩
    ·cases h; simp only [z39,List.getElem?_cons_zero,Option.some.injEq] at hp; subst hp; exact ⟨_,rfl,rfl⟩
    ·cases h; simp [z39] at hp
   | succ c =>
    have key:z39 r c=some n:=by
     split at h <;> (cases h; simpa [z39] using hp)
    obtain ⟨v,h1,h2⟩:=ih c key
    exact ⟨v,by simpa using h1,h2⟩
  ·cases h
def litB:List (List (VT T))→Option (List Int)
 | []=>some []
 | [x]::l=>match asc x,litB l with | some (.int .u8 n),some ns=>some (n::ns) | _,_=>none
 | _=>none
theorem zaw:∀ ns:List Int,z3m (ns.map fun n=>[AV.sc (.int .u8 n)])=some ns
 | []=>rfl
 | n::ns=>by simp only [List.map_cons,z3m,zaw ns]
theorem zr6 {H0:H}:∀ (l:List (List (VT T))) (ns:List Int),litB l=some ns→z3m (l.map (denL T.toTT0 H0))=some ns
 | [],ns,h=>by cases h; rfl
 | []::l,ns,h=>by cases h
 | [x]::l,ns,h=>by
  simp only [litB] at h
  split at h
  ·rename_i n ms h1 h2
   cases h
   simp only [List.map_cons,denL,z2s h1,z3m,zr6 l ms h2]
  ·cases h
 | (_::_::_)::l,ns,h=>by cases h
def rdT (e:TE T.toTT0) (h:TH T.toTT0):IB→RT T
 | .mov x=>nnT (evT e x)
 | .pick c a b =>
  match evT e c with
  | .bk true=>nnT (evT e a)
  | .bk false=>nnT (evT e b)
  | .sc (.bool t)=>.ite t (nnT (evT e a)) (nnT (evT e b))
  | _=>.no
 | .bin op x y =>
  match asc (evT e x),asc (evT e y) with
  | some a,some b=>bif z3t (evT e y) then scR (z3t (evT e x)) (sbin op a b) else binT op false a b
  | _,_=>.no
 | .beq neg x y =>
  match asc (evT e x),asc (evT e y) with
  | some (.bool a),some (.bool b)=>scR (z3t (evT e x) && z3t (evT e y)) (some (.bool (if neg then a != b else a==b)))
  | _,_=>.no
 | .eqs neg n plan x y =>
  match evT e x,evT e y with
  | .ag xs,.ag ys =>
   bif Nat.beq xs.length n && Nat.beq ys.length n then match zc8 xs ys plan with | some r=>.ok (.sc (.bool (if neg then !r else r))) | none=>.no else .no
  | _,_=>.no
 | .un1 op x =>
  match op,asc (evT e x) with
  | .not,some (.bool b)=>scR (z3t (evT e x)) (some (.bool (!b)))
  | .neg,some (.int k n)=>scR (z3t (evT e x)) (some (.int k (k.wrap (0 - n))))
  | .xor,some (.int k n)=>scR (z3t (evT e x)) (some (.int k (cmpl k n)))
  | _,_=>.no
 | .cvt k x =>
  match asc (evT e x) with
  | some (.int _ n)=>scR (z3t (evT e x)) (some (.int k (k.wrap n)))
  | _=>.no
 | .fad off x =>
  match evT e x with
  | .pt k p i c=>.ok (.pt k p i (c+off))
  | .ip s cs c=>.ok (.ip s cs (c+off))
  | .pp (.xp b x c)=>.ok (.pp (.xp b x (c+off)))
  | _=>.no
 | .aad len n x i =>
  match evT e x,z7w (evT e i) with
  | .pt k p o c,some m=>bif z3t (evT e i) then (if 0≤m∧m<(len:Int) then .ok (.pt k p o (c+m.toNat * n)) else .no) else zlk m (fun j=>.ok (.pt k p o (c+j * n))) len 0
  | _,_=>.no
 | .iad s x i =>
  match z7w (evT e i) with
  | none=>.no
  | some n =>
  match evT e x with
  | .im t xs=>bif Nat.beq (T.sz t) s then .bnd (idx xs n) fun y=>.ok (.ip s (T.ct false t y) 0) else .no
  | .sw k p=>atT h k p fun
   | .lit s' xs=>bif Nat.beq s' s then bif z3t (evT e i) then (if 0≤n∧n<(xs.length:Int) then .ok (.pt k p n.toNat 0) else .no) else .need (0≤n∧n<(xs.length:Int)) (.ok (.pt k p n.toNat 0)) else .no
   | .typ _ t xs=>bif Nat.beq (T.sz t) s then .need (0≤n∧n<(xs.length:Int)) (.ok (.pt k p n.toNat 0)) else .no
   | .opn _ t xs _ _=>bif Nat.beq (T.sz t) s then .need (0≤n∧n<(xs.length:Int)) (.ok (.pt k p n.toNat 0)) else .no
  | .sl k p off len=>atT h k p fun r=>bif Nat.beq (denR T.toTT0 r).s s then .need (0≤n∧n<(len:Int)) (.ok (.pt k p (off+n.toNat) 0)) else .no
  | .pp (.fs k cs)=>bif Nat.beq s 1 then .need (0≤n∧n<(cs.length:Int)) (.ok (.pp (.fp k cs n.toNat))) else .no
  | _=>.no
 | .load agg n x =>
  match evT e x with
  | .pt k p i c=>atT h k p fun
   | .lit s xs=>match xs[i]? with | some cs=>zf3 agg n k p i c cs | none=>.no
   | .typ m t xs=>.bnd (xs[i]?) fun y=>zf3 agg n k p i c (T.ct m t y)
   | .opn m t xs j cs=>.need (i=j∧j<xs.length) (zf3 agg n k p i c cs)
  | .ip s cs c=>bif inRL (T:=T.toTT0) cs then match z9z cs c n with | some ds=>bif inRL (T:=T.toTT0) ds then z7o agg ds else .no | none=>.no else .no
  | .pp (.xp _ x c)=>bif Nat.ble (c+n) x.length then z7o agg (((x.drop c).take n).map .sc) else .no
  | .pp (.fp k cs i)=>bif Nat.beq n 1 && !agg then .bnd (cs[i]?) fun c=>.ok (.pp (.px k c)) else .no
  | .pp (.px k c)=>bif Nat.beq n 1 && !agg then (match getT h k with
   | some (.lit _ (cs::_))=>match z8z cs with | some l=>.bnd (z39 l c) fun y=>.ok (.sc (.int .i64 y)) | none=>.no
   | _=>.no) else .no
  | _=>.no
 | .fld agg off n x =>
  match evT e x with
  | .ag cs=>match z9z cs off n with | some ds=>z7o agg ds | none=>.no
  | _=>.no
 | .ida agg len n x i =>
  match evT e x,z7w (evT e i) with
  | .ag cs,some m=>idaT agg len n cs (z3t (evT e i)) m
  | _,_=>.no
 | .ids x i =>
  match evT e x,z7w (evT e i) with
  | .sc (.string s),some m=>.need (0≤m∧m<(s.size:Int)) (.ok (.sc (.int .u8 (zb s m))))
  | _,_=>.no
 | .len x =>
  match evT e x with
  | .sl _ _ _ len=>.ok (.sc (.int .i64 len))
  | .sw k p=>atT h k p fun
   | .lit _ xs=>.ok (.ik .i64 xs.length)
   | .typ _ _ xs=>.ok (.sc (.int .i64 xs.length))
   | .opn _ _ xs _ _=>.ok (.sc (.int .i64 xs.length))
  | .im _ xs=>.ok (.sc (.int .i64 xs.length))
  | .pp (.fs _ cs)=>.ok (.sc (.int .i64 cs.length))
  | .zs=>.ok (.ik .i64 0)
  | _=>.no
 | .lens x =>
  match evT e x with
  | .sc (.string s)=>.ok (.sc (.int .i64 s.size))
  | _=>.no
 | .b2s x =>
  match evT e x with
  | .im t xs=>if hh:t=T.u8 then .ok (.sc (.string (zv (T.sb (hh ▸ xs))))) else .no
  | .zs=>.ok (.sc (.string (zv [])))
  | .sw k p=>atT h k p fun
   | .typ _ t xs=>if hh:t=T.u8 then .ok (.sc (.string (zv (T.sb (hh ▸ xs))))) else .no
   | .lit s xs=>bif Nat.beq s 1 then match litB xs with | some ns=>.ok (.sc (.string (zv ns))) | none=>.no else .no
   | _=>.no
  | _=>.no
 | .ext n x =>
  match evT e x with
  | .tu vs=>match vs[n]? with | some a=>nnT a | none=>.no
  | _=>.no
 | .nchk x =>
  match evT e x with
  | .pt k p i c=>.ok (.pt k p i c)
  | .ip s cs c=>.ok (.ip s cs c)
  | .pp (.xp b x c)=>.ok (.pp (.xp b x c))
  | .pp (.px k c)=>.ok (.pp (.px k c))
  | .fn f caps=>.ok (.fn f caps)
  | _=>.no
 | .slc s x lo hi =>
  match z6a lo e,z6a hi e with
  | some lo,some hi =>
   match evT e x with
   | .sl k p off len=>atT h k p fun r=>bif Nat.beq (denR T.toTT0 r).s s then cutT len lo hi (fun a b=>.ok (.sl k p (off+a) (b - a))) (.ok (.sl k p off len)) else .no
   | .sw k p=>atT h k p fun
    | .lit s' xs=>bif Nat.beq s' s then cutT xs.length lo hi (fun a b=>.ok (.sl k p a (b - a))) (.ok (.sw k p)) else .no
    | .typ _ t xs=>bif Nat.beq (T.sz t) s then cutT xs.length lo hi (fun a b=>.ok (.sl k p a (b - a))) (.ok (.sw k p)) else .no
    | .opn _ t xs _ _=>bif Nat.beq (T.sz t) s then cutT xs.length lo hi (fun a b=>.ok (.sl k p a (b - a))) (.ok (.sw k p)) else .no
   | .im t xs=>bif Nat.beq (T.sz t) s then cutT xs.length lo hi (fun a b=>.ok (.im t (part xs a b))) (.ok (.im t xs)) else .no
   | .zs=>cutT 0 lo hi (fun a b=>.ok .zs) (.ok .zs)
   | _=>.no
  | _,_=>.no
 | .slc0 x =>
  match evT e x with
  | .sl _ _ _ _ | .sw _ _ | .im _ _ | .zs=>.ok .zs
  | _=>.no
 | .sls x lo hi =>
  match z6a lo e,z6a hi e,evT e x with
  | some lo,some hi,.sc (.string s)=>cutT s.size lo hi (fun a b=>.ok (.sc (.string (s.extract a b)))) (.ok (.sc (.string s)))
  | _,_,_=>.no
 | .build zero parts =>
  match zca (z66 zero) (parts.map fun (o,n,x)=>(o,n,evT e x)) with
  | some cs=>.ok (.ag cs)
  | none=>.no
 | .mkf f caps=>bif caps.all (fun x=>match evT e x with | .un=>false | _=>true) then .ok (.fn f (caps.map (evT e))) else .no
 | .mm isMax x y =>
  match asc (evT e x),asc (evT e y) with
  | some (.int k a),some (.int k' b)=>if k=k' then scR (z3t (evT e x) && z3t (evT e y)) (some (.int k (if isMax then (if b > a then b else a) else (if b<a then b else a)))) else .no
  | _,_=>.no
 | _=>.no
end
section
variable {T:TT}
theorem zbn {h:H} {x v:VT T} (hg:(nnT x).gives v):nn (den T.toTT0 h x)=some (den T.toTT0 h v):=by
 cases x <;> first | exact hg.elim | (cases hg; rfl) | (rename_i q; cases hg; cases q <;> rfl) | (cases hg; simp [den,nn])
theorem zp {X:Type} {b:Bool} {x:Rs X} {v:X} (hg:(bif b then x else .no).gives v):b=true∧x.gives v:=by
 cases b
 ·exact hg.elim
 ·exact ⟨rfl,hg⟩
theorem zak {X:Type} {p:Prop} [Decidable p] {x:Rs X} {v:X} (hg:(if p then x else .no).gives v):p∧x.gives v:=by
 split at hg
 ·exact ⟨by assumption,hg⟩
 ·exact hg.elim
theorem z7q {kn:Bool} {u:Value} {v:VT T} (h:H) (hg:(scR (T:=T) kn (some u)).gives v):den T.toTT0 h v = .sc u:=by
 obtain ⟨u',h1,h2⟩:=zik h hg
 cases h1; exact h2
theorem zz0 {h:H} {e:TE T.toTT0} {o:Option Operand} {r:Option Int} (ho:z6a o e=some r):loV (o.map (ev (denE T.toTT0 h e)))=some (r.getD 0):=by
 unfold z6a at ho
 cases o with
 | none=>cases ho; rfl
 | some x =>
  simp only at ho
  split at ho
  ·rename_i n hn
   cases ho
   simp only [Option.map_some,loV,zg,zkq hn,Option.getD_some]
  ·cases ho
theorem zyz {h:H} {e:TE T.toTT0} {o:Option Operand} {r:Option Int} {len:Nat} (ho:z6a o e=some r):hiV len (o.map (ev (denE T.toTT0 h e)))=some (r.getD len):=by
 unfold z6a at ho
 cases o with
 | none=>cases ho; rfl
 | some x =>
  simp only at ho
  split at ho
  ·rename_i n hn
   cases ho
   simp only [Option.map_some,hiV,zg,zkq hn,Option.getD_some]
  ·cases ho
theorem zei {h:H} {e:TE T.toTT0} {len:Nat} {lo hi:Option Operand} {a b:Option Int} {K:Nat→Nat→RT T} {whole:RT T} {v:VT T} (ha:z6a lo e=some a) (hb:z6a hi e=some b) (hg:(cutT len a b K whole).gives v) :
  ∃ l m:Nat,z65 len (lo.map (ev (denE T.toTT0 h e))) (hi.map (ev (denE T.toTT0 h e)))=some (l,m)∧l≤m∧m≤len∧((K l m).gives v∨(l=0∧m=len∧whole.gives v)):=by
 have h1:=zz0 (h:=h) ha
 have h2:=zyz (h:=h) (len:=len) hb
 unfold cutT at hg
 split at hg
 ·refine ⟨0,len,by simpa using za8 h1 h2 (by simp),Nat.zero_le _,Nat.le_refl _,.inr ⟨rfl,rfl,hg⟩⟩
 ·obtain ⟨hc,hg⟩:=hg
  exact ⟨_,_,by simpa using za8 h1 h2 (by simp; omega),Nat.zero_le _,by omega,.inl hg⟩
 ·obtain ⟨hc,hg⟩:=hg
  exact ⟨_,_,by simpa using za8 h1 h2 (by simp; omega),by omega,Nat.le_refl _,.inl hg⟩
 ·obtain ⟨hc,hg⟩:=hg
  exact ⟨_,_,by simpa using za8 h1 h2 (by simp; omega),by omega,by omega,.inl hg⟩
theorem y0g {α β:Type} (f:α→β) (xs:List α) (a b:Nat):(part xs a b).map f=((xs.map f).take b).drop a:=by simp [part,List.map_drop,List.map_take]
theorem zo7 {e:TE T.toTT0} {h:TH T.toTT0} {b:IB} {v:VT T} (hg:(rdT e h b).gives v) :
  ∃ av,rdop (ev (denE T.toTT0 (denH T.toTT0 h) e)) (res (denH T.toTT0 h)) b=some av∧AVle av (den T.toTT0 (denH T.toTT0 h) v):=by
 have fin:∀ {o:Option AV} {w:VT T},o=some (den T.toTT0 (denH T.toTT0 h) w)→∃ av,o=some av∧AVle av (den T.toTT0 (denH T.toTT0 h) w):=fun ho=>⟨_,ho,AVle.refl _⟩
 have sc:∀ {o:Option AV} {w:VT T} {u:Value},o=some (.sc u)→den T.toTT0 (denH T.toTT0 h) w = .sc u→∃ av,o=some av∧AVle av (den T.toTT0 (denH T.toTT0 h) w):=fun ho hw=>⟨_,ho,by rw [hw]; exact AVle.refl _⟩
 cases b with
 | mov x=>exact fin (by simp only [rdop,zg]; exact zbn hg)
 | pick c a b =>
  simp only [rdT] at hg
  split at hg
  ·rename_i hc
   exact fin (by simp only [rdop,zg,hc,den,if_true]; exact zbn hg)
  ·rename_i hc
   exact fin (by simp only [rdop,zg,hc,den,Bool.false_eq_true,if_false]; exact zbn hg)
  ·rename_i t hc
   rcases hg with ⟨rfl,hg⟩ | ⟨rfl,hg⟩
   ·exact fin (by simp only [rdop,zg,hc,den,if_true]; exact zbn hg)
   ·exact fin (by simp only [rdop,zg,hc,den,Bool.false_eq_true,if_false]; exact zbn hg)
  ·exact hg.elim
 | bin op x y =>
  simp only [rdT] at hg
  split at hg
  ·rename_i a b ha hb
   have key:∃ u,sbin op a b=some u∧den T.toTT0 (denH T.toTT0 h) v = .sc u:=by
    cases hk:z3t (evT e y) with
    | true=>rw [hk,cond_true] at hg; exact zik _ hg
    | false=>rw [hk,cond_false] at hg; exact y4d _ hg
   obtain ⟨u,h1,h2⟩:=key
   exact sc (by simp only [rdop,zg,z2s ha,z2s hb,h1]) h2
  ·exact hg.elim
 | beq neg x y =>
  simp only [rdT] at hg
  split at hg
  ·rename_i a b ha hb
   exact sc (by simp only [rdop,zg,z2s ha,z2s hb]) (z7q _ hg)
  ·exact hg.elim
 | eqs neg n plan x y =>
  simp only [rdT] at hg
  split at hg
  ·rename_i xs ys hx hy
   obtain ⟨h1,hg⟩:=zp hg
   simp only [Bool.and_eq_true] at h1
   split at hg
   ·rename_i r hr
    cases hg
    exact fin (by
     simp only [rdop,zg,hx,hy,den,z2p]
     rw [if_pos ⟨Nat.eq_of_beq_eq_true h1.1,Nat.eq_of_beq_eq_true h1.2⟩,zfu _ _ hr])
   ·exact hg.elim
  ·exact hg.elim
 | un1 op x =>
  simp only [rdT] at hg
  split at hg
  ·rename_i b hb
   exact sc (by simp only [rdop,zg,z2s hb]) (z7q _ hg)
  ·rename_i k n hb
   exact sc (by simp only [rdop,zg,z2s hb]) (z7q _ hg)
  ·rename_i k n hb
   exact sc (by simp only [rdop,zg,z2s hb]) (z7q _ hg)
  ·exact hg.elim
 | cvt k x =>
  simp only [rdT] at hg
  split at hg
  ·rename_i k' n hb
   exact sc (by simp only [rdop,zg,z2s hb]) (z7q _ hg)
  ·exact hg.elim
 | fad off x =>
  simp only [rdT] at hg
  split at hg
  ·rename_i k p i c hx
   cases hg
   exact fin (by simp only [rdop,zg,hx,den])
  ·rename_i s cs c hx
   cases hg
   exact fin (by simp only [rdop,zg,hx,den])
  ·rename_i b x' c hx
   cases hg
   exact fin (by simp only [rdop,zg,hx,den,denP])
  ·exact hg.elim
 | iad s x i =>
  simp only [rdT] at hg
  split at hg
  ·exact hg.elim
  ·rename_i n hn
   obtain ⟨kk,hi⟩:=z6l (h:=denH T.toTT0 h) hn
   split at hg
   ·rename_i t xs hx
    obtain ⟨hs,hg⟩:=zp hg
    obtain ⟨y,hy,hg⟩:=hg
    cases hg
    obtain ⟨h0,h1,h2⟩:=zgc hy
    have hlt:n<((xs.map (T.ca false t)).length:Int):=by rw [List.length_map]; omega
    refine ⟨.ip s (xs.map (T.ca false t)) n.toNat 0,?_,?_⟩
    ·simp only [rdop,zg,hx,hi,den]
     rw [if_pos ⟨Nat.eq_of_beq_eq_true hs,h0,hlt⟩]
    ·have:den T.toTT0 (denH T.toTT0 h) (.ip s (T.ct false t y) 0) = .ip s [T.ca false t y] 0 0:=by simp only [den,T.ct_ok]
     rw [this]
     exact AVle.ip (by rw [List.getElem?_map,h2]; rfl)
   ·rename_i k p hx
    obtain ⟨r',hr,hg⟩:=z58 hg
    have hl:ze (denH T.toTT0 h) k p=(denR T.toTT0 r').xs.length:=by unfold ze; rw [hr]
    have key:∀ (s':Nat) (len:Nat),(denR T.toTT0 r').s=s'→(denR T.toTT0 r').xs.length=len→s'=s→0≤n∧n<(len:Int)→∃ av,rdop (ev (denE T.toTT0 (denH T.toTT0 h) e)) (res (denH T.toTT0 h)) (.iad s x i)=some av∧AVle av (den T.toTT0 (denH T.toTT0 h) (.pt k p n.toNat 0)):=by
     intro s' len e1 e2 e3 e4
     refine fin ?_
     simp only [rdop,zg,hx,hi,den,hl,e2]
     rw [if_pos e4,hr]
     simp [e1,e3]
    split at hg
    ·rename_i s' xs
     obtain ⟨hs,hg⟩:=zp hg
     have:(0≤n∧n<(xs.length:Int))∧v = .pt k p n.toNat 0:=by
      cases hk:z3t (evT e i) with
      | true=>rw [hk] at hg; exact zak hg
      | false=>rw [hk] at hg; exact hg
     obtain ⟨hc,rfl⟩:=this
     exact key s' xs.length rfl (by simp [denR]) (Nat.eq_of_beq_eq_true hs) hc
    ·rename_i m t xs
     obtain ⟨hs,hc,rfl⟩:=zp hg
     exact key _ xs.length rfl (by simp [denR]) (Nat.eq_of_beq_eq_true hs) hc
    ·rename_i m t xs _ _
     obtain ⟨hs,hc,rfl⟩:=zp hg
     exact key _ xs.length rfl (by simp [denR]) (Nat.eq_of_beq_eq_true hs) hc
   ·rename_i k p off len hx
    obtain ⟨r',hr,hg⟩:=z58 hg
    obtain ⟨hs,hc,rfl⟩:=zp hg
    refine fin ?_
    simp only [rdop,zg,hx,hi,den]
    rw [if_pos hc,hr]
    simp [Nat.eq_of_beq_eq_true hs]
   ·rename_i k cs hx
    obtain ⟨hs,hc,rfl⟩:=zp hg
    refine fin ?_
    simp only [rdop,zg,hx,hi,den,denP]
    rw [if_pos ⟨Nat.eq_of_beq_eq_true hs,hc⟩]
   ·exact hg.elim
 | load agg n x =>
  simp only [rdT] at hg
  split at hg
  ·rename_i k p i c hx
   obtain ⟨r',hr,hg⟩:=z58 hg
   refine fin ?_
   simp only [rdop,zg,hx,den,hr]
   split at hg
   ·rename_i s xs
    split at hg
    ·rename_i cs hcs
     exact zcs (T:=T) hr (by simp [denR,hcs]) hg
    ·exact hg.elim
   ·rename_i m t xs
    obtain ⟨y,hy,hg⟩:=hg
    exact zcs (T:=T) hr (by simp [denR,hy,T.ct_ok]) hg
   ·rename_i m t xs j cs
    obtain ⟨⟨rfl,hj⟩,hg⟩:=hg
    exact zcs (T:=T) hr (by simp only [denR]; rw [List.getElem?_set_self (by simpa using hj)]) hg
  ·rename_i s cs c hx
   obtain ⟨hi,hg⟩:=zp hg
   split at hg
   ·rename_i ds hd
    obtain ⟨hid,hg⟩:=zp hg
    obtain ⟨q1,q2⟩:=zas (h:=[]) hd
    refine fin ?_
    simp only [rdop,zg,hx,den,z4x,List.getElem?_cons_zero]
    rw [if_pos q1,q2]
    have:=z77 (h:=denH T.toTT0 h) hg
    rwa [zpc (denH T.toTT0 h) [] ds hid] at this
   ·exact hg.elim
  ·rename_i b x' c hx
   obtain ⟨hl,hg⟩:=zp hg
   refine fin ?_
   simp only [rdop,zg,hx,den,denP]
   rw [if_pos (Nat.le_of_ble_eq_true hl)]
   have:=z77 (h:=denH T.toTT0 h) hg
   rw [← this,zx,List.map_map]
   rfl
  ·rename_i k cs i hx
   obtain ⟨hb,c,hc,hg⟩:=zp hg
   cases hg
   simp only [Bool.and_eq_true,Bool.not_eq_true'] at hb
   refine fin ?_
   simp only [rdop,zg,hx,den,denP,hc]
   rw [if_pos ⟨Nat.eq_of_beq_eq_true hb.1,hb.2⟩]
  ·rename_i k c hx
   obtain ⟨hb,hg⟩:=zp hg
   simp only [Bool.and_eq_true,Bool.not_eq_true'] at hb
   obtain ⟨hn,hag⟩:=hb
   have hn:=Nat.eq_of_beq_eq_true hn
   subst hn hag
   split at hg
   ·rename_i s cs xs hr
    split at hg
    ·rename_i l hl
     obtain ⟨y,hy,hg⟩:=hg
     cases hg
     obtain ⟨v0,hv,hd⟩:=zgd (H0:=[]) cs l c y hl hy
     have hres:res (denH T.toTT0 h) k []=some (s,(cs::xs).map (denL T.toTT0 [])):=by unfold res; rw [z1p,hr]; rfl
     obtain ⟨hlt,hget⟩:=List.getElem?_eq_some_iff.1 hv
     have hlen:c+1≤(denL T.toTT0 [] cs).length:=by rw [z2p]; omega
     have hcell:((denL T.toTT0 [] cs).drop c).take 1=[AV.sc (.int .i64 y)]:=by
      have:(denL T.toTT0 [] cs)[c]? = some (.sc (.int .i64 y)):=by rw [z31,hv]; simp [hd]
      obtain ⟨h1,h2⟩:=List.getElem?_eq_some_iff.1 this
      rw [List.drop_eq_getElem_cons h1,h2]
      rfl
     refine fin ?_
     simp only [rdop,zg,hx,den,denP,hres,z4x,List.map_cons,List.getElem?_cons_zero]
     rw [if_pos hlen,hcell]
     rfl
    ·exact hg.elim
   ·exact hg.elim
  ·exact hg.elim
 | fld agg off n x =>
  simp only [rdT] at hg
  split at hg
  ·rename_i cs hx
   split at hg
   ·rename_i ds hd
    obtain ⟨q1,q2⟩:=zas (h:=denH T.toTT0 h) hd
    refine fin ?_
    simp only [rdop,zg,hx,den]
    rw [if_pos q1,q2]
    exact z77 hg
   ·exact hg.elim
  ·exact hg.elim
 | aad len n x i =>
  simp only [rdT] at hg
  split at hg
  ·rename_i k p o c m hx hm
   obtain ⟨kk,hi⟩:=z6l (h:=denH T.toTT0 h) hm
   have nth:∀ (j:Nat),m=(j:Int)→m<len→v = .pt k p o (c+j * n)→∃ av,rdop (ev (denE T.toTT0 (denH T.toTT0 h) e)) (res (denH T.toTT0 h)) (.aad len n x i)=some av∧AVle av (den T.toTT0 (denH T.toTT0 h) v):=by
    clear hg
    intro j hj hlt hg
    subst hj hg
    refine fin ?_
    simp only [rdop,zg,hx,hi,den]
    rw [if_pos ⟨by omega,hlt⟩]
    simp only [Int.toNat_natCast]
   cases hk:z3t (evT e i) with
   | true =>
    rw [hk] at hg
    obtain ⟨hc,hg⟩:=zak hg
    exact nth m.toNat (by omega) (by omega) hg
   | false =>
    rw [hk] at hg
    obtain ⟨j,_,q2,q3,q4⟩:=zg3 _ _ hg
    exact nth j q3 (by omega) q4
  ·exact hg.elim
 | ida agg len n x i =>
  simp only [rdT] at hg
  split at hg
  ·rename_i cs m hx hm
   obtain ⟨kk,hi⟩:=z6l (h:=denH T.toTT0 h) hm
   have nth:∀ (j:Nat),m=(j:Int)→m<len→(nthT agg n cs j).gives v→∃ av,rdop (ev (denE T.toTT0 (denH T.toTT0 h) e)) (res (denH T.toTT0 h)) (.ida agg len n x i)=some av∧AVle av (den T.toTT0 (denH T.toTT0 h) v):=by
    clear hg
    intro j hj hlt hg
    subst hj
    unfold nthT at hg
    split at hg
    ·rename_i ds hd
     obtain ⟨q1,q2⟩:=zas (h:=denH T.toTT0 h) hd
     refine fin ?_
     simp only [rdop,zg,hx,hi,den]
     rw [if_pos ⟨by omega,hlt,by simpa using q1⟩]
     simp only [Int.toNat_natCast,q2]
     exact z77 hg
    ·exact hg.elim
   unfold idaT at hg
   cases hk:z3t (evT e i) with
   | true =>
    rw [hk] at hg
    obtain ⟨hc,hg⟩:=zak hg
    exact nth m.toNat (by omega) (by omega) hg
   | false =>
    rw [hk] at hg
    simp only [cond_false] at hg
    split at hg
    ·rename_i k ns hns
     obtain ⟨hl,y,hy,rfl⟩:=zp hg
     have hl:=Nat.eq_of_beq_eq_true hl
     obtain ⟨h0,h1,h2⟩:=zgc hy
     refine fin ?_
     have hcs:=zkr (h:=denH T.toTT0 h) cs k ns hns
     simp only [rdop,zg,hx,hi,den,hcs,Nat.mul_one,List.length_map]
     rw [if_pos ⟨h0,by omega,by omega⟩]
     have:(((ns.map fun n=>AV.sc (.int k n)).drop m.toNat).take 1)=[.sc (.int k y)]:=by
      rw [List.take_one]
      simp [List.head?_drop,h2]
     rw [this]
     rfl
    ·obtain ⟨j,_,q2,q3,q4⟩:=zg3 _ _ hg
     exact nth j q3 (by omega) q4
  ·exact hg.elim
 | ids x i =>
  simp only [rdT] at hg
  split at hg
  ·rename_i s m hx hm
   obtain ⟨kk,hi⟩:=z6l (h:=denH T.toTT0 h) hm
   obtain ⟨hc,rfl⟩:=hg
   exact fin (by simp only [rdop,zg,hx,hi,den,zb]; rw [if_pos hc])
  ·exact hg.elim
 | len x =>
  simp only [rdT] at hg
  split at hg
  ·rename_i k p off len hx
   cases hg
   exact fin (by simp only [rdop,zg,hx,den])
  ·rename_i k p hx
   obtain ⟨r',hr,hg⟩:=z58 hg
   have hl:ze (denH T.toTT0 h) k p=(denR T.toTT0 r').xs.length:=by unfold ze; rw [hr]
   split at hg <;> (cases hg; exact fin (by simp [rdop,zg,hx,den,hl,denR]))
  ·rename_i t xs hx
   cases hg
   exact fin (by simp [rdop,zg,hx,den])
  ·rename_i k cs hx
   cases hg
   exact fin (by simp [rdop,zg,hx,den,denP])
  ·rename_i hx
   cases hg
   exact fin (by simp only [rdop,zg,hx,den])
  ·exact hg.elim
 | lens x =>
  simp only [rdT] at hg
  split at hg
  ·rename_i s hx
   cases hg
   exact fin (by simp only [rdop,zg,hx,den])
  ·exact hg.elim
 | b2s x =>
  simp only [rdT] at hg
  split at hg
  ·rename_i t xs hx
   split at hg
   ·rename_i hh
    subst hh
    cases hg
    exact fin (by simp only [rdop,zg,hx,den,T.bs_sz,if_true,T.sb_ok,zaw])
   ·exact hg.elim
  ·rename_i hx
   cases hg
   exact fin (by simp only [rdop,zg,hx,den])
  ·rename_i k p hx
   obtain ⟨r',hr,hg⟩:=z58 hg
   have hl:ze (denH T.toTT0 h) k p=(denR T.toTT0 r').xs.length:=by unfold ze; rw [hr]
   split at hg
   ·rename_i m t xs
    split at hg
    ·rename_i hh
     subst hh
     cases hg
     refine fin ?_
     simp only [rdop,zg,hx,den,hr,hl]
     rw [if_pos ⟨by simp only [denR,T.bs_sz],by omega⟩,List.drop_zero,List.take_of_length_le (Nat.le_refl _)]
     simp only [denR,T.sb_ok,zaw]
    ·exact hg.elim
   ·rename_i s xs
    cases hb:Nat.beq s 1 with
    | false=>rw [hb] at hg; exact hg.elim
    | true =>
     rw [hb,cond_true] at hg
     split at hg
     ·rename_i ns hns
      cases hg
      refine fin ?_
      simp only [rdop,zg,hx,den,hr,hl]
      rw [if_pos ⟨by simp only [denR]; exact Nat.eq_of_beq_eq_true hb,by omega⟩,List.drop_zero,List.take_of_length_le (Nat.le_refl _)]
      simp only [denR,zr6 _ _ hns]
     ·exact hg.elim
   ·exact hg.elim
  ·exact hg.elim
 | ext n x =>
  simp only [rdT] at hg
  split at hg
  ·rename_i vs hx
   split at hg
   ·rename_i a ha
    exact fin (by simp only [rdop,zg,hx,den,z31,ha,Option.map_some]; exact zbn hg)
   ·exact hg.elim
  ·exact hg.elim
 | nchk x =>
  simp only [rdT] at hg
  split at hg
  all_goals first
   | (rename_i hx; cases hg; exact fin (by simp only [rdop,zg,hx,den,denP]))
   | exact hg.elim
 | slc s x lo hi =>
  simp only [rdT] at hg
  split at hg
  ·rename_i a b ha hb
   have slice:∀ (k:Nat) (p:Path) (off len:Nat) (r':TR T.El) (v1:VT T),den T.toTT0 (denH T.toTT0 h) (evT e x) = .sl k p off len→res (denH T.toTT0 h) k p=some ((denR T.toTT0 r').s,(denR T.toTT0 r').xs)→(denR T.toTT0 r').s=s →
     (cutT len a b (fun a b=>.ok (.sl k p (off+a) (b - a))) (.ok v1)).gives v→den T.toTT0 (denH T.toTT0 h) v1 = .sl k p off len→∃ av,rdop (ev (denE T.toTT0 (denH T.toTT0 h) e)) (res (denH T.toTT0 h)) (.slc s x lo hi)=some av∧AVle av (den T.toTT0 (denH T.toTT0 h) v):=by
    intro k p off len r' v1 hx hr hs hg h1
    obtain ⟨l,m,q1,q2,q3,q4⟩:=zei (h:=denH T.toTT0 h) ha hb hg
    have:rdop (ev (denE T.toTT0 (denH T.toTT0 h) e)) (res (denH T.toTT0 h)) (.slc s x lo hi)=some (.sl k p (off+l) (m - l)):=by
     simp only [rdop,zg,hx,hr,hs,if_true,q1]
    rcases q4 with hv | ⟨rfl,rfl,hv⟩
    ·cases hv; exact ⟨_,this,AVle.refl _⟩
    ·cases hv
     exact ⟨_,this,by rw [h1,Nat.add_zero,Nat.sub_zero]; exact AVle.refl _⟩
   split at hg
   ·rename_i k p off len hx
    obtain ⟨r',hr,hg⟩:=z58 hg
    obtain ⟨hs,hg⟩:=zp hg
    exact slice k p off len r' (.sl k p off len) (by rw [hx]; rfl) hr (Nat.eq_of_beq_eq_true hs) hg rfl
   ·rename_i k p hx
    obtain ⟨r',hr,hg⟩:=z58 hg
    have hl:ze (denH T.toTT0 h) k p=(denR T.toTT0 r').xs.length:=by unfold ze; rw [hr]
    have cut0:∀ {len:Nat} {w:RT T},(cutT len a b (fun a b=>.ok (.sl k p a (b - a))) w).gives v→(cutT len a b (fun a b=>.ok (.sl k p (0+a) (b - a))) w).gives v:=fun hg=>by
     simpa only [Nat.zero_add] using hg
    split at hg
    all_goals
     obtain ⟨hs,hg⟩:=zp hg
     exact slice k p 0 _ _ (.sw k p) (by rw [hx]; simp only [den,hl]; rfl) hr (Nat.eq_of_beq_eq_true hs) (by simpa [denR] using cut0 hg) (by simp only [den,hl])
   ·rename_i t xs hx
    obtain ⟨hs,hg⟩:=zp hg
    obtain ⟨l,m,q1,q2,q3,q4⟩:=zei (h:=denH T.toTT0 h) ha hb hg
    have:rdop (ev (denE T.toTT0 (denH T.toTT0 h) e)) (res (denH T.toTT0 h)) (.slc s x lo hi)=some (.im s (((xs.map (T.ca false t)).take m).drop l)):=by
     simp only [rdop,zg,hx,den,Nat.eq_of_beq_eq_true hs,if_true,List.length_map,q1]
    refine ⟨_,this,?_⟩
    rcases q4 with hv | ⟨rfl,rfl,hv⟩
    ·cases hv
     simp only [den,y0g,Nat.eq_of_beq_eq_true hs]; exact AVle.refl _
    ·cases hv
     simp only [den,Nat.eq_of_beq_eq_true hs,List.drop_zero]
     rw [List.take_of_length_le (by simp)]; exact AVle.refl _
   ·rename_i hx
    obtain ⟨l,m,q1,q2,q3,q4⟩:=zei (h:=denH T.toTT0 h) ha hb hg
    have:v = .zs:=by
     rcases q4 with hv | ⟨_,_,hv⟩ <;> exact hv
    subst this
    exact fin (by simp only [rdop,zg,hx,den,q1])
   ·exact hg.elim
  ·exact hg.elim
 | slc0 x =>
  simp only [rdT] at hg
  split at hg
  all_goals first
   | (rename_i hx; cases hg; exact fin (by simp only [rdop,zg,hx,den]))
   | exact hg.elim
 | sls x lo hi =>
  simp only [rdT] at hg
  split at hg
  ·rename_i a b s ha hb hx
   obtain ⟨l,m,q1,q2,q3,q4⟩:=zei (h:=denH T.toTT0 h) ha hb hg
   have:rdop (ev (denE T.toTT0 (denH T.toTT0 h) e)) (res (denH T.toTT0 h)) (.sls x lo hi)=some (.sc (.string (s.extract l m))):=by
    simp only [rdop,zg,hx,den,q1]
   refine ⟨_,this,?_⟩
   rcases q4 with hv | ⟨rfl,rfl,hv⟩
   ·cases hv; exact AVle.refl _
   ·cases hv
    have:s.extract 0 s.size=s:=by simp
    rw [this]; exact AVle.refl _
  ·exact hg.elim
 | build zero parts =>
  simp only [rdT] at hg
  split at hg
  ·rename_i cs hcs
   cases hg
   have:=zcb (h:=denH T.toTT0 h) _ _ _ hcs
   rw [z82,List.map_map] at this
   refine fin ?_
   simp only [rdop,den]
   have e1:(parts.map fun (o,n,x)=>(o,n,ev (denE T.toTT0 (denH T.toTT0 h) e) x))=parts.map ((fun (o,n,x)=>(o,n,den T.toTT0 (denH T.toTT0 h) x)) ∘ fun (o,n,x)=>(o,n,evT e x)) :=
    List.map_congr_left fun ⟨o,n,x⟩ _=>by simp only [Function.comp,zg]
   rw [e1,this]
  ·exact hg.elim
 | mkf f caps =>
  simp only [rdT] at hg
  obtain ⟨hc,hg⟩:=zp hg
  cases hg
  refine fin ?_
  simp only [rdop,den]
  rw [if_pos,zx,List.map_map]
  ·congr 2
   exact List.map_congr_left fun x _=>zg x
  ·rw [List.all_eq_true] at hc ⊢
   intro x hx
   have:=hc x hx
   rw [zg]
   cases hv:evT e x <;> rw [hv] at this <;> first | (rename_i q; cases q <;> rfl) | simp_all [den,nn]
 | mm isMax x y =>
  simp only [rdT] at hg
  split at hg
  ·rename_i k a k' b ha hb
   obtain ⟨hk,hg⟩:=zak hg
   exact sc (by simp only [rdop,zg,z2s ha,z2s hb]; rw [if_pos hk]) (z7q _ hg)
  ·exact hg.elim
 | box _ _=>exact hg.elim
 | bsl _ _ _ _=>exact hg.elim
 | mks _ _ _ _=>exact hg.elim
 | app _ _ _ _=>exact hg.elim
 | store _ _ _=>exact hg.elim
 | call _ _=>exact hg.elim
 | callv _ _=>exact hg.elim
end
section
variable {T:TT}
theorem AVle.ag {l l':List AV} (h:∀ (I:Nat→Prop) (σ:Pl) (B:zj) (v:List Value),VaC I σ B l v→VaC I σ B l' v):AVle (.ag l) (.ag l'):=fun I σ B v ⟨a,h1,h2⟩=>⟨a,h1,h I σ B _ h2⟩
theorem AVle.tu {l l':List AV} (h:∀ (I:Nat→Prop) (σ:Pl) (B:zj) (v:List Value),VaL I σ B l v→VaL I σ B l' v):AVle (.tu l) (.tu l'):=fun I σ B v ⟨a,h1,h2⟩=>⟨a,h1,h I σ B _ h2⟩
theorem AVle.fn {f:Nat} {l l':List AV} (h:∀ (I:Nat→Prop) (σ:Pl) (B:zj) (v:List Value),VaL I σ B l v→VaL I σ B l' v):AVle (.fn f l) (.fn f l'):=fun I σ B v ⟨a,h1,h2⟩=>⟨a,h1,h I σ B _ h2⟩
inductive z53:List AV→List AV→Prop
 | nil:z53 [] []
 | cons {a b:AV} {l l':List AV}:AVle a b→z53 l l'→z53 (a::l) (b::l')
theorem z53.C {l l':List AV} (h:z53 l l'):∀ (I:Nat→Prop) (σ:Pl) (B:zj) (v:List Value),VaC I σ B l v→VaC I σ B l' v:=by
 induction h with
 | nil=>exact fun _ _ _ _ h=>h
 | cons h1 _ ih=>exact fun I σ B v ⟨u,cs,h2,h3,h4,h5⟩=>⟨u,cs,h2,h3,h1 I σ B u h4,ih I σ B cs h5⟩
theorem z53.L {l l':List AV} (h:z53 l l'):∀ (I:Nat→Prop) (σ:Pl) (B:zj) (v:List Value),VaL I σ B l v→VaL I σ B l' v:=by
 induction h with
 | nil=>exact fun _ _ _ _ h=>h
 | cons h1 _ ih=>exact fun I σ B v ⟨u,cs,h2,h4,h5⟩=>⟨u,cs,h2,h1 I σ B u h4,ih I σ B cs h5⟩
theorem z1a {h h':H} {k:Nat} {p:Path} (hg:za h' k=za h k):ze h' k p=ze h k p:=by
 unfold ze res; rw [hg]
mutual
theorem z6r {H0 H1:H} {b1 bad bw:Nat→Path→Bool} (hb:∀ k p,b1 k p=true→bad k p=true) (hl:∀ k p,bad k p=false→bw k p=false→ze H1 k p=ze H0 k p):∀ (v:VT T),AVle (kill b1 (den T.toTT0 H0 v)) (den T.toTT0 H1 (z2i bad bw v))
 | .un | .sc _ | .ik _ _ | .bk _ | .zs | .im _ _ | .ip _ _ _ | .ow _ _ _ | .oo _ _ _ _ _=>AVle.refl _
 | .pp q=>by
  simp only [den,z2i]
  rw [zcp]
  cases q with
  | xp b x c=>exact AVle.refl _
  | fs k cs =>
   simp only [denP,kill,z4p]
   cases h1:bad k [] with
   | true=>exact AVle.un _
   | false =>
    have:b1 k []=false:=by cases h2:b1 k [] with | false=>rfl | true=>rw [hb k [] h2] at h1; cases h1
    rw [this]; exact AVle.refl _
  | fp k cs i =>
   simp only [denP,kill,z4p]
   cases h1:bad k [] with
   | true=>exact AVle.un _
   | false =>
    have:b1 k []=false:=by cases h2:b1 k [] with | false=>rfl | true=>rw [hb k [] h2] at h1; cases h1
    rw [this]; exact AVle.refl _
  | px k c =>
   simp only [denP,kill]
   cases h1:bad k [] with
   | true=>exact AVle.un _
   | false =>
    have:b1 k []=false:=by cases h2:b1 k [] with | false=>rfl | true=>rw [hb k [] h2] at h1; cases h1
    rw [this]; exact AVle.refl _
 | .ag cs=>by simp only [den,kill,z2i]; exact AVle.ag (zcr hb hl cs).C
 | .tu cs=>by simp only [den,kill,z2i]; exact AVle.tu (zcr hb hl cs).L
 | .fn f cs=>by simp only [den,kill,z2i]; exact AVle.fn (zcr hb hl cs).L
 | .sl k p off len=>by
  simp only [den,kill,z2i]
  cases h1:bad k p with
  | true=>simp only [cond_true,den]; exact AVle.un _
  | false =>
   have:b1 k p=false:=by cases h2:b1 k p with | false=>rfl | true=>rw [hb k p h2] at h1; cases h1
   simp only [this,Bool.false_eq_true,if_false,cond_false,den]; exact AVle.refl _
 | .pt k p i c=>by
  simp only [den,kill,z2i]
  cases h1:bad k p with
  | true=>simp only [cond_true,den]; exact AVle.un _
  | false =>
   have:b1 k p=false:=by cases h2:b1 k p with | false=>rfl | true=>rw [hb k p h2] at h1; cases h1
   simp only [this,Bool.false_eq_true,if_false,cond_false,den]; exact AVle.refl _
 | .sw k p=>by
  simp only [den,kill,z2i]
  cases h1:bad k p with
  | true=>simp only [Bool.true_or,cond_true,den]; exact AVle.un _
  | false =>
   have:b1 k p=false:=by cases h2:b1 k p with | false=>rfl | true=>rw [hb k p h2] at h1; cases h1
   simp only [this,Bool.false_eq_true,if_false,Bool.false_or]
   cases h3:bw k p with
   | true=>simp only [cond_true,den]; exact AVle.un _
   | false=>simp only [cond_false,den,hl k p h1 h3]; exact AVle.refl _
theorem zcr {H0 H1:H} {b1 bad bw:Nat→Path→Bool} (hb:∀ k p,b1 k p=true→bad k p=true) (hl:∀ k p,bad k p=false→bw k p=false→ze H1 k p=ze H0 k p):∀ (l:List (VT T)),z53 (z2n b1 (denL T.toTT0 H0 l)) (denL T.toTT0 H1 (z75 bad bw l))
 | []=>.nil
 | x::l=>.cons (z6r hb hl x) (zcr hb hl l)
end
theorem zic (a:AV):kill (fun _ _=>false) a=a:=by
 have key:(∀ a:AV,kill (fun _ _=>false) a=a)∧(∀ l:List AV,z2n (fun _ _=>false) l=l):=by
  constructor
  ·intro a
   induction a using AV.rec (motive_2:=fun l=>z2n (fun _ _=>false) l=l) (motive_3:=fun _=>True) with
   | un | sc _ | zs | im _ _ _ | ip _ _ _ _ _ | ow _ _ _=>rfl
   | ag cs ih=>simp only [kill,ih]
   | tu cs ih=>simp only [kill,ih]
   | sl k p off len=>simp [kill]
   | pt k p i c=>simp [kill]
   | pp q=>cases q <;> simp [kill,z4p]
   | fn f cs ih=>simp only [kill,ih]
   | nil=>rfl
   | cons a l h1 h2=>simp only [z2n,h1,h2]
   | _=>trivial
  ·intro l
   induction l with
   | nil=>rfl
   | cons x l ih =>
    simp only [z2n,ih]
    congr 1
    induction x using AV.rec (motive_2:=fun l=>z2n (fun _ _=>false) l=l) (motive_3:=fun _=>True) with
    | un | sc _ | zs | im _ _ _ | ip _ _ _ _ _ | ow _ _ _=>rfl
    | ag cs ih=>simp only [kill,ih]
    | tu cs ih=>simp only [kill,ih]
    | sl k p off len=>simp [kill]
    | pt k p i c=>simp [kill]
    | pp q=>cases q <;> simp [kill,z4p]
    | fn f cs ih=>simp only [kill,ih]
    | nil=>rfl
    | cons a l h1 h2=>simp only [z2n,h1,h2]
    | _=>trivial
 exact key.1 a
structure StT (T:TT) where
 v:VT T
 bad:Nat→Path→Bool
 bw:Nat→Path→Bool
 tch:List Nat
 h:TH T.toTT0
def StOk (P:Program) (pro:List Nat) (T:TT) (e:TE T.toTT0) (h:TH T.toTT0) (x:Ins) (s:StT T):Prop :=
 (∀ (e':Env),(∀ t ∈ z3a x,e' t=denE T.toTT0 (denH T.toTT0 h) e t)→∃ e0 h0' e1 h1',zc P pro e' (denH T.toTT0 h) e0 h0'∧(∀ t b,e' t=Bl b→e0 t=Bl b)∧z2h P pro e0 h0' x.dst x.op e1 h1'∧zc P pro e1 h1' (upd (fun t=>kill s.bad (e' t)) x.dst (den T.toTT0 (denH T.toTT0 s.h) s.v)) (denH T.toTT0 s.h)) ∧
 (∀ k p,s.bad k p=false→s.bw k p=false→ze (denH T.toTT0 s.h) k p=ze (denH T.toTT0 h) k p) ∧
 (∀ k,s.tch.contains k=false→za (denH T.toTT0 s.h) k=za (denH T.toTT0 h) k)
def StT.env (s:StT T) (e:TE T.toTT0) (d:Nat):TE T.toTT0:=putE (z5g s.bad s.bw e) d s.v
theorem StT.env_ghost {P:Program} {pro:List Nat} {e:TE T.toTT0} {h:TH T.toTT0} {d:Nat} {s:StT T} (hl:∀ k p,s.bad k p=false→s.bw k p=false→ze (denH T.toTT0 s.h) k p=ze (denH T.toTT0 h) k p) :
  zc P pro (upd (fun t=>kill s.bad (denE T.toTT0 (denH T.toTT0 h) e t)) d (den T.toTT0 (denH T.toTT0 s.h) s.v)) (denH T.toTT0 s.h) (denE T.toTT0 (denH T.toTT0 s.h) (s.env e d)) (denH T.toTT0 s.h):=by
 refine zc.le fun t=>?_
 rw [StT.env,zy]
 refine AVle.upd (fun t=>?_) (AVle.refl _) t
 simp only [denE,z2v]
 exact z6r (fun _ _ h=>h) hl _
theorem zz {k k':Nat} (hk:k' ≠ k):∀ (h:H),za (zd h k) k'=za h k'
 | []=>rfl
 | (k1,r)::h=>by
  simp only [zd,za]
  by_cases e:k1=k
  ·subst e
   simp only [if_true]
   rw [if_neg (fun e=>hk e.symm)]
  ·rw [if_neg e]
   simp only [za,zz hk h]
def absT (h:TH T.toTT0) (g:List Nat):VT T→Option (VT T×List Nat×TH T.toTT0)
 | .sc u=>bif u.oneCell' then some (.sc u,g,h) else none
 | .ik k n=>some (.sc (.int k n),g,h)
 | .bk b=>some (.sc (.bool b),g,h)
 | .zs=>some (.zs,g,h)
 | .im t xs=>some (.im t xs,g,h)
 | .pp (.xp b x c)=>some (.sc (.pointer (some ⟨b,c,none⟩)),g,h)
 | .sw k []=>bif g.contains k then none else
  match getT h k with
  | some (.typ m t xs)=>some (.ow m t xs,k::g,delT h k)
  | some (.opn m t xs i cs)=>some (.oo m t xs i cs,k::g,delT h k)
  | _=>none
 | _=>none
def zgz (h:TH T.toTT0) (g:List Nat):List (VT T)→Option (List (VT T)×List Nat×TH T.toTT0)
 | []=>some ([],g,h)
 | v::l =>
  match absT h g v with
  | some (v',g1,h1)=>match zgz h1 g1 l with
   | some (l',g2,h2)=>some (v'::l',g2,h2)
   | none=>none
  | none=>none
def zby (h:TH T.toTT0) (g:List Nat):List (List (VT T))→Option (List (List (VT T))×List Nat×TH T.toTT0)
 | []=>some ([],g,h)
 | v::l =>
  match zgz h g v with
  | some (v',g1,h1)=>match zby h1 g1 l with
   | some (l',g2,h2)=>some (v'::l',g2,h2)
   | none=>none
  | none=>none
structure Gone (H0:H) (h:TH T.toTT0) (g g':List Nat) (h':TH T.toTT0):Prop where
 sub:∀ k,g.contains k=true→g'.contains k=true
 same:∀ k,g'.contains k=false→za (denH T.toTT0 h') k=za H0 k
theorem y4a {H0:H} {h h':TH T.toTT0} {g g':List Nat} {v v':VT T} (hs:∀ k,g.contains k=false→za (denH T.toTT0 h) k=za H0 k) (ha:absT h g v=some (v',g',h')) :
  absC (denH T.toTT0 h) (den T.toTT0 H0 v)=some (den T.toTT0 [] v',denH T.toTT0 h')∧Gone (T:=T) H0 h g g' h':=by
 have triv:Gone (T:=T) H0 h g g h:=⟨fun _ h=>h,hs⟩
 unfold absT at ha
 split at ha
 ·rename_i u
  cases hu:u.oneCell' with
  | false=>rw [hu] at ha; cases ha
  | true=>rw [hu] at ha; cases ha; exact ⟨by simp [den,absC,hu],triv⟩
 ·cases ha; exact ⟨by simp [den,absC,Value.oneCell'],triv⟩
 ·cases ha; exact ⟨by simp [den,absC,Value.oneCell'],triv⟩
 ·cases ha; exact ⟨by simp [den,absC],triv⟩
 ·cases ha; exact ⟨by simp [den,absC],triv⟩
 ·cases ha; exact ⟨by simp [den,denP,absC],triv⟩
 ·rename_i k
  cases hc:g.contains k with
  | true=>rw [hc] at ha; cases ha
  | false =>
   rw [hc] at ha
   simp only [cond_false] at ha
   have row:∀ (r:TR T.El) (w:VT T),getT h k=some r→den T.toTT0 [] w = .ow (denR T.toTT0 r).s (denR T.toTT0 r).xs→absC (denH T.toTT0 h) (den T.toTT0 H0 (.sw k []))=some (den T.toTT0 [] w,denH T.toTT0 (delT h k))∧Gone (T:=T) H0 h g (k::g) (delT h k):=by
    intro r w hr hw
    have h1:za (denH T.toTT0 h) k=some (denR T.toTT0 r):=by rw [z1p,hr]; rfl
    have h2:ze H0 k []=(denR T.toTT0 r).xs.length:=by
     unfold ze res
     rw [← hs k hc,h1]
     rfl
    refine ⟨?_,?_,fun k' hk'=>?_⟩
    ·simp only [den,absC,h1,h2]
     rw [if_pos ⟨trivial,trivial⟩,if_pos (Nat.le_refl _),List.take_length,zu,hw]
    ·intro k' hk'; simp [hk']; exact .inr (by simpa using hk')
    ·simp only [List.contains_cons,Bool.or_eq_false_iff,beq_eq_false_iff_ne] at hk'
     rw [← zu,zz hk'.1,hs k' hk'.2]
   split at ha
   ·rename_i m t xs hr
    cases ha
    exact row _ _ hr rfl
   ·rename_i m t xs i cs hr
    cases ha
    exact row _ _ hr rfl
   ·cases ha
 ·cases ha
theorem zg2 {H0:H}:∀ (l l':List (VT T)) (h h':TH T.toTT0) (g g':List Nat),(∀ k,g.contains k=false→za (denH T.toTT0 h) k=za H0 k)→zgz h g l=some (l',g',h') →
  absL (denH T.toTT0 h) (denL T.toTT0 H0 l)=some (denL T.toTT0 [] l',denH T.toTT0 h')∧Gone (T:=T) H0 h g g' h'
 | [],_,h,_,g,_,hs,ha=>by cases ha; exact ⟨rfl,fun _ h=>h,hs⟩
 | v::l,_,h,_,g,_,hs,ha=>by
  unfold zgz at ha
  split at ha
  ·rename_i v' g1 h1 hv
   split at ha
   ·rename_i l' g2 h2 hl
    cases ha
    obtain ⟨q1,q2⟩:=y4a hs hv
    obtain ⟨q3,q4⟩:=zg2 l l' h1 _ g1 _ q2.same hl
    exact ⟨by simp only [denL,absL,q1,q3],fun k hk=>q4.sub k (q2.sub k hk),q4.same⟩
   ·cases ha
  ·cases ha
theorem z9i {H0:H}:∀ (l l':List (List (VT T))) (h h':TH T.toTT0) (g g':List Nat),(∀ k,g.contains k=false→za (denH T.toTT0 h) k=za H0 k)→zby h g l=some (l',g',h') →
  absE (denH T.toTT0 h) (l.map (denL T.toTT0 H0))=some (l'.map (denL T.toTT0 []),denH T.toTT0 h')∧Gone (T:=T) H0 h g g' h'∧l'.length=l.length
 | [],_,h,_,g,_,hs,ha=>by cases ha; exact ⟨rfl,⟨fun _ h=>h,hs⟩,rfl⟩
 | v::l,_,h,_,g,_,hs,ha=>by
  unfold zby at ha
  split at ha
  ·rename_i v' g1 h1 hv
   split at ha
   ·rename_i l' g2 h2 hl
    cases ha
    obtain ⟨q1,q2⟩:=zg2 _ _ _ _ _ _ hs hv
    obtain ⟨q3,q4,q5⟩:=z9i l l' h1 _ g1 _ q2.same hl
    exact ⟨by simp only [List.map_cons,absE,q1,q3],⟨fun k hk=>q4.sub k (q2.sub k hk),q4.same⟩,by simp [q5]⟩
   ·cases ha
  ·cases ha
theorem z74 {h:TH T.toTT0} {k:Nat}:∀ k',[k].contains k'=false→za (denH T.toTT0 (delT h k)) k'=za (denH T.toTT0 h) k':=fun k' hk=>by
 rw [← zu,zz]
 simpa using hk
end
def fix1 (o:Option AV):AV→AV
 | .zs=>o.getD .zs
 | y=>y
def fixA (tg:Nat→Option AV):Nat→List AV→List AV
 | _,[]=>[]
 | c,y::ys=>fix1 (tg c) y::fixA tg (c+1) ys
def tgOk (tg:Nat→Option AV):Prop:=∀ c a,tg c=some a→∃ s,a = .im s []∨a = .ow s []
theorem zn6 (tg:Nat→Option AV):∀ (l:List AV) (c:Nat),(fixA tg c l).length=l.length
 | [],_=>rfl
 | y::l,c=>by simp [fixA,zn6 tg l]
def zsAt (tg:Nat→Option AV) (xs:Els) (i c:Nat):Bool :=
 match (xs[i]?).bind (·[c]?) with
 | some y=>isZ y && (tg c).isSome
 | none=>false
def z47 (tg:Nat→Option AV) (k:Nat) (k':Nat) (q:Path):Bool:=k'==k && match q with | (_,c)::_=>(tg c).isSome | []=>false
section
variable {I:Nat→Prop} {σ σ1:Pl} {B:zj} {k:Nat} {tg:Nat→Option AV}
theorem CeC.fix (ht:tgOk tg) (i:Nat):∀ (ys:List AV) (c:Nat) (cs:List Value),
  (∀ j y,ys[j]? = some y→(y = .zs→(tg (c+j)).isSome=true→σ1 k [(i,c+j)]=none)∧((y = .zs→(tg (c+j)).isSome=false)→∀ q,σ1 k ((i,c+j)::q)=σ k ((i,c+j)::q))) →
  CeC I σ B k [] i c ys cs→CeC I σ1 B k [] i c (fixA tg c ys) cs∧fpC σ1 k [] i c (fixA tg c ys)=fpC σ k [] i c ys
 | [],c,cs,_,h=>⟨h,rfl⟩
 | y::ys,c,_,hj,h=>by
  obtain ⟨v,cs',rfl,h1,h2⟩:=h
  obtain ⟨t1,t2⟩:=CeC.fix ht i ys (c+1) cs' (fun j y' hy=>by
   have:=hj (j+1) y' (by simpa using hy)
   rwa [show c+(j+1)=c+1+j by omega] at this) h2
  have h0:=hj 0 y rfl
  rw [Nat.add_zero] at h0
  have keep:((y = .zs→(tg c).isSome=false))→Ce I σ1 B k [] i c y v∧fpA σ1 k [] i c y=fpA σ k [] i c y:=fun hk =>
   ⟨Ce.ren (p:=[]) (p':=[]) (fun q=>h0.2 hk q) y v h1,fpA.ren (p:=[]) (p':=[]) (fun q=>h0.2 hk q) y⟩
  have key:Ce I σ1 B k [] i c (fix1 (tg c) y) v∧fpA σ1 k [] i c (fix1 (tg c) y)=fpA σ k [] i c y:=by
   cases y with
   | zs =>
    simp only [fix1]
    cases hc:tg c with
    | none=>simp only [Option.getD_none]; exact keep (fun _=>by simp [hc])
    | some a =>
     simp only [Option.getD_some]
     have hn:=h0.1 rfl (by simp [hc])
     obtain ⟨s,rfl | rfl⟩:=ht c a hc
     ·refine ⟨?_,rfl⟩
      obtain ⟨x,hx⟩:=h1
      exact ⟨x,0,hx,Nat.le_refl _,fun hn=>absurd rfl hn⟩
     ·refine ⟨?_,by simp only [fpA,List.nil_append,hn]⟩
      simp only [Ce,List.nil_append,hn]
      exact ⟨trivial,h1⟩
   | _=>exact keep (fun h=>by cases h)
  exact ⟨⟨v,cs',rfl,key.1,t1⟩,by rw [fixA,fpC,fpC,t2,key.2]⟩
theorem CeE.fix (ht:tgOk tg) (s:Nat):∀ (xs:Els) (i:Nat) (cs:List Value),
  (∀ n x j y,xs[n]? = some x→x[j]? = some y→(y = .zs→(tg j).isSome=true→σ1 k [(i+n,j)]=none)∧((y = .zs→(tg j).isSome=false)→∀ q,σ1 k ((i+n,j)::q)=σ k ((i+n,j)::q))) →
  CeE I σ B k [] i s xs cs→CeE I σ1 B k [] i s (xs.map (fixA tg 0)) cs∧fpE σ1 k [] i (xs.map (fixA tg 0))=fpE σ k [] i xs
 | [],_,_,_,h=>⟨trivial,rfl⟩
 | x::xs,i,cs,hj,h=>by
  obtain ⟨t1,t2⟩:=CeE.fix ht s xs (i+1) _ (fun n x' j y hx hy=>by
   have:=hj (n+1) x' j y (by simpa using hx) hy
   rwa [show i+(n+1)=i+1+n by omega] at this) h.2.2
  obtain ⟨u1,u2⟩:=CeC.fix (σ1:=σ1) ht i x 0 _ (fun j y hy=>by
   have:=hj 0 x j y rfl hy
   simpa using this) h.2.1
  exact ⟨⟨by rw [zn6]; exact h.1,u1,t1⟩,by rw [List.map_cons,fpE,fpE,t2,u2]⟩
end
section
variable {P:Program} {pro:List Nat} {e:Env} {h:H}
theorem zc.fix {k:Nat} {r:Row} (tg:Nat→Option AV) (ht:tgOk tg) (hg:za h k=some r) :
  zc P pro e h (z1i (z47 tg k) e) ((k,⟨r.s,r.xs.map (fixA tg 0)⟩)::zd h k):=by
 intro I N _ σ a w R
 let σ1:Pl:=fun k' q=>match q with | [(i,c)]=>if k'=k∧zsAt tg r.xs i c=true then none else σ k' q | q=>σ k' q
 have hne:∀ k',k' ≠ k→∀ q,σ1 k' q=σ k' q:=fun k' hk q=>by
  simp only [σ1]
  split
  ·rw [if_neg (fun h=>hk h.1)]
  ·rfl
 have hσ0:σ1 k []=σ k []:=rfl
 obtain ⟨d1,d2,d3,d4,d5,d6⟩:=R.heap.del hg
 have hcell:∀ n x j y,r.xs[n]? = some x→x[j]? = some y→(y = .zs→(tg j).isSome=true→σ1 k [(n,j)]=none)∧((y = .zs→(tg j).isSome=false)→∀ q,σ1 k ((n,j)::q)=σ k ((n,j)::q)):=by
  intro n x j y hx hy
  have hz:zsAt tg r.xs n j=(isZ y && (tg j).isSome):=by
   unfold zsAt
   simp only [hx,Option.bind_some,hy]
  refine ⟨fun h1 h2=>?_,fun h1 q=>?_⟩
  ·simp only [σ1]
   rw [if_pos ⟨trivial,by rw [hz,h1,h2]; rfl⟩]
  ·cases q with
   | nil =>
    simp only [σ1]
    rw [if_neg]
    rintro ⟨_,h2⟩
    rw [hz,Bool.and_eq_true] at h2
    have:y = .zs:=by cases y <;> first | rfl | (simp [isZ] at h2)
    have:=h1 this
    rw [this] at h2
    simp at h2
   | cons _ _=>rfl
 have hrow:zr I σ1 (bl w) k ⟨r.s,r.xs.map (fixA tg 0)⟩∧fpR σ1 k ⟨r.s,r.xs.map (fixA tg 0)⟩=fpR σ k r:=by
  unfold zr at d2 ⊢
  unfold fpR
  rw [hσ0]
  cases hL:σ k [] with
  | none =>
   simp only [hL] at d2 ⊢
   exact ⟨by simp [d2],trivial⟩
  | some L =>
   simp only [hL] at d2 ⊢
   obtain ⟨f1,f2,cur,E,f3,f4,f5⟩:=d2
   obtain ⟨t1,t2⟩:=CeE.fix (σ1:=σ1) ht r.s r.xs 0 _ (fun n x j y hx hy=>by simpa using hcell n x j y hx hy) f5
   exact ⟨⟨f1,by simpa using f2,cur,E,f3,f4,t1⟩,by rw [t2]⟩
 have hadd:=d1.add (σ':=σ1) (w':=w) (k:=k) (r:=⟨r.s,r.xs.map (fixA tg 0)⟩) d3 hne (fun _ _ _=>rfl) (Nat.le_refl _) hrow.1 (by rw [hrow.2]; exact d4) (fun b hb=>by
  rw [hrow.2] at hb
  exact ⟨(d5 b hb).1,R.heap.apart b (d5 b hb).2⟩)
 refine ⟨σ1,I,fun _ h=>h,fun _ h=>.inl h,⟨hadd,R.size,fun t=>?_,R.defers⟩,fun k' _=>?_,Le.refl _,fun _ _ _=>rfl,fun b hb=>.inl ?_⟩
 ·refine Va.kill (fun k' q hb=>?_) _ _ (R.vals t)
  simp only [σ1]
  split
  ·rename_i i c
   rw [if_neg]
   rintro ⟨e1,e2⟩
   subst e1
   have:(tg c).isSome=true:=by
    unfold zsAt at e2
    split at e2
    ·simp only [Bool.and_eq_true] at e2; exact e2.2
    ·cases e2
   simp [z47,this] at hb
  ·rfl
 ·rfl
 ·rw [z1h,hrow.2,fpH.ren _ (fun k' hk' q=>hne k' (fun e=>by subst e; exact d3 hk') q)] at hb
  rcases List.mem_append.1 hb with hb | hb
  ·exact (d5 b hb).2
  ·exact d6 b hb
end
section
variable {T:TT}
def kdAV (T:TT):Kd→Option AV
 | .no=>none
 | .im t=>some (.im (T.sz t) [])
 | .ow m t=>some (.ow (T.sz t) [])
def tgOf (T:TT) (ks:List Kd) (c:Nat):Option AV:=(ks[c]?).bind (kdAV T)
theorem zbt (ks:List Kd):tgOk (tgOf T ks):=fun c a h=>by
 unfold tgOf at h
 cases hk:ks[c]? with
 | none=>rw [hk] at h; cases h
 | some k =>
  rw [hk] at h
  cases k <;> cases h
  ·exact ⟨_,.inl rfl⟩
  ·exact ⟨_,.inr rfl⟩
def fixT:List Kd→List (VT T)→List (VT T)
 | k::ks,v::vs=>(match v with | .zs=>(match k with | .im t=>.im t [] | .ow m t=>.ow m t [] | .no=>.zs) | v=>v)::fixT ks vs
 | [],vs=>vs
 | _,[]=>[]
theorem z84:∀ (l:List AV) (tg:Nat→Option AV) (c:Nat),(∀ j,tg (c+j)=none)→fixA tg c l=l
 | [],_,_,_=>rfl
 | y::l,tg,c,h=>by
  have h0:=h 0
  rw [Nat.add_zero] at h0
  rw [fixA,z84 l tg (c+1) (fun j=>by rw [show c+1+j=c+(j+1) by omega]; exact h _),h0]
  cases y <;> rfl
theorem y6f {h:H} {v:VT T} (hv:v ≠ .zs) (o:Option AV):fix1 o (den T.toTT0 h v)=den T.toTT0 h v:=by
 cases v <;> first | exact absurd rfl hv | rfl | (rename_i q; cases q <;> rfl)
theorem zb9 {h:H} (ks:List Kd):∀ (vs:List (VT T)) (c:Nat),denL T.toTT0 h (fixT (ks.drop c) vs)=fixA (tgOf T ks) c (denL T.toTT0 h vs)
 | [],c=>by
  cases ks.drop c <;> rfl
 | v::vs,c=>by
  have ih:=zb9 (h:=h) ks vs (c+1)
  cases hd:ks.drop c with
  | nil =>
   have:∀ j,tgOf T ks (c+j)=none:=fun j=>by
    unfold tgOf
    have hl:ks.length≤c:=by simpa using hd
    rw [List.getElem?_eq_none (by omega)]; rfl
   rw [z84 _ _ _ this]
   rfl
  | cons k ks' =>
   have hk:ks[c]? = some k:=by
    have:=congrArg (·[0]?) hd
    simpa using this
   have hd':ks.drop (c+1)=ks':=by
    rw [← List.drop_drop,hd]; rfl
   rw [hd'] at ih
   have htg:tgOf T ks c=kdAV T k:=by unfold tgOf; rw [hk]; rfl
   simp only [fixT,denL,fixA,ih,htg]
   congr 1
   split
   ·cases k <;> rfl
   ·rename_i hv
    rw [y6f hv]
def unL (m:Bool) (t:Nat):List (List (VT T))→Option (List (T.El t))
 | []=>some []
 | x::l=>match T.un m t x,unL m t l with | some y,some ys=>some (y::ys) | _,_=>none
theorem ziu {m:Bool} {t:Nat}:∀ (l:List (List (VT T))) (ys:List (T.El t)),unL m t l=some ys→l.map (denL T.toTT0 [])=ys.map (T.ca m t)
 | [],ys,h=>by cases h; rfl
 | x::l,ys,h=>by
  unfold unL at h
  split at h
  ·rename_i y ys' h1 h2
   cases h
   rw [List.map_cons,List.map_cons,T.un_ok _ _ _ _ h1,ziu l ys' h2]
  ·cases h
def rowT (ty:Option (Bool×Nat)) (s:Nat) (xs:List (List (VT T))):Option (TR T.El) :=
 match ty with
 | none=>some (.lit s xs)
 | some (m,t)=>bif Nat.beq (T.sz t) s then match unL m t (xs.map (fixT (T.ks m t))) with | some ys=>some (.typ m t ys) | none=>none else none
theorem zrj {ty:Option (Bool×Nat)} {s:Nat} {xs:List (List (VT T))} {r:TR T.El} (hr:rowT ty s xs=some r):∃ tg,tgOk tg∧denR T.toTT0 r=⟨s,(xs.map (denL T.toTT0 [])).map (fixA tg 0)⟩:=by
 unfold rowT at hr
 split at hr
 ·cases hr
  refine ⟨fun _=>none,fun _ _ h=>(by cases h),?_⟩
  simp only [denR,List.map_map]
  congr 1
  exact List.map_congr_left fun x _=>(z84 _ _ _ (fun _=>rfl)).symm
 ·rename_i m t
  cases hb:Nat.beq (T.sz t) s with
  | false=>rw [hb] at hr; cases hr
  | true =>
   rw [hb] at hr
   simp only [cond_true] at hr
   split at hr
   ·rename_i ys hy
    cases hr
    have:=ziu _ _ hy
    refine ⟨tgOf T (T.ks m t),zbt _,?_⟩
    simp only [denR,← this,List.map_map,Nat.eq_of_beq_eq_true hb]
    congr 1
    exact List.map_congr_left fun x _=>by
     have:=zb9 (h:=[]) (T.ks m t) x 0
     simpa using this
   ·cases hr
def z7h {α:Type} (s:Nat):Nat→List α→List (List α)
 | 0,_=>[]
 | n+1,l=>l.take s::z7h s n (l.drop s)
theorem zc3 {h:H} {s:Nat}:∀ (n:Nat) (l:List (VT T)),(z7h s n l).map (denL T.toTT0 h)=z3q s n (denL T.toTT0 h l)
 | 0,l=>rfl
 | n+1,l=>by
  rw [z7h,z3q,List.map_cons,zc3 n]
  congr 1
  ·simp [zx,List.map_take]
  ·simp [zx,List.map_drop]
theorem zay {α:Type} {s:Nat}:∀ (n:Nat) (l:List α),(z7h s n l).length=n
 | 0,_=>rfl
 | n+1,l=>by simp [z7h,zay n]
def mkT (ty:Option (Bool×Nat)) (pro:List Nat) (e:TE T.toTT0) (h:TH T.toTT0) (d:Nat) (b:IB):Rs (StT T) :=
 bif pro.contains d then .no else
 match b with
 | .box s x =>
  match z6i (evT e x) with
  | none=>.no
  | some cs=>bif Nat.beq cs.length s then
   match zby (delT h d) [d] [cs] with
   | none=>.no
   | some (xs,g,h')=>match rowT ty s xs with
    | none=>.no
    | some r=>.ok ⟨.pt d [] 0 0,fun k _=>g.contains k,fun _ _=>false,g,(d,r)::h'⟩
   else .no
 | .bsl s len zero parts =>
  match zca (List.replicate len (z66 zero)).flatten (parts.map fun (i,x)=>(i * s,s,evT e x)) with
  | none=>.no
  | some cs =>
   match zby (delT h d) [d] (z7h s len cs) with
   | none=>.no
   | some (xs,g,h')=>match rowT ty s xs with
    | none=>.no
    | some r=>.ok ⟨.sw d [],fun k _=>g.contains k,fun _ _=>false,g,(d,r)::h'⟩
 | .mks s bytes zero l =>
  match z7w (evT e l),ty with
  | some n,some (m,t)=>bif Nat.beq (T.sz t) s then
   match T.un m t (fixT (T.ks m t) (z66 zero)) with
   | some z=>.need (0≤n∧n * (bytes:Int)≤140737488355328) (.ok ⟨.sw d [],fun k _=>[d].contains k,fun _ _=>false,[d],(d,.typ m t (List.replicate n.toNat z))::delT h d⟩)
   | none=>.no
   else .no
  | _,_=>.no
 | _=>.no
structure MkOk (T:TT) (e:TE T.toTT0) (h:TH T.toTT0) (d:Nat) (b:IB) (s:StT T):Prop where
 ex:∃ (av:AV) (r:Row) (rest:H) (tg:Nat→Option AV),mkop (ev (denE T.toTT0 (denH T.toTT0 h) e)) (denH T.toTT0 h) d b=some (av,(d,r)::rest)∧tgOk tg∧denH T.toTT0 s.h=(d,⟨r.s,r.xs.map (fixA tg 0)⟩)::rest ∧
  av=den T.toTT0 (denH T.toTT0 s.h) s.v∧(∀ k,kill (z47 tg k) av=av)∧(∀ k p,k=d→s.bad k p=true)∧(∀ k p,s.bad k p=false→s.bw k p=false→ze (denH T.toTT0 s.h) k p=ze (denH T.toTT0 h) k p)∧∀ k,s.tch.contains k=false→za (denH T.toTT0 s.h) k=za (denH T.toTT0 h) k
theorem zcu {h h':TH T.toTT0} {d:Nat} {g:List Nat} {r:TR T.El} (hG:Gone (T:=T) (denH T.toTT0 h) (delT h d) [d] g h') :
  (∀ (k:Nat) (p:Path),k=d→g.contains k=true)∧(∀ (k:Nat) (p:Path),g.contains k=false→ze (denH T.toTT0 ((d,r)::h')) k p=ze (denH T.toTT0 h) k p) ∧
   ∀ (k:Nat),g.contains k=false→za (denH T.toTT0 ((d,r)::h')) k=za (denH T.toTT0 h) k:=by
 have h1:∀ (k:Nat) (p:Path),k=d→g.contains k=true:=fun k p hk=>hG.sub k (by simp [hk])
 have h2:∀ (k:Nat),g.contains k=false→za (denH T.toTT0 ((d,r)::h')) k=za (denH T.toTT0 h) k:=fun k hk=>by
  have hkd:k ≠ d:=fun e=>by rw [h1 k [] e] at hk; cases hk
  simp only [denH,za]
  rw [if_neg (fun e=>hkd e.symm)]
  exact hG.same k hk
 exact ⟨h1,fun k p hk=>z1a (h2 k hk),h2⟩
theorem y9d {ty:Option (Bool×Nat)} {pro:List Nat} {e:TE T.toTT0} {h:TH T.toTT0} {d:Nat} {b:IB} {s:StT T} (hg:(mkT ty pro e h d b).gives s):pro.contains d=false∧MkOk T e h d b s:=by
 unfold mkT at hg
 cases hp:pro.contains d with
 | true=>rw [hp] at hg; exact hg.elim
 | false =>
 refine ⟨rfl,?_⟩
 rw [hp] at hg
 simp only [cond_false] at hg
 split at hg
 ·rename_i s' x
  split at hg
  ·exact hg.elim
  ·rename_i cs hcs
   obtain ⟨hl,hg⟩:=zp hg
   split at hg
   ·exact hg.elim
   ·rename_i xs g h' ha
    split at hg
    ·exact hg.elim
    ·rename_i r hr
     cases hg
     obtain ⟨q1,q2,q3⟩:=z9i (H0:=denH T.toTT0 h) _ _ _ _ _ _ z74 ha
     obtain ⟨tg,t1,t2⟩:=zrj hr
     obtain ⟨l1,l2,l3⟩:=zcu (r:=r) q2
     have hc:=z7r (h:=denH T.toTT0 h) hcs
     refine ⟨⟨.pt d [] 0 0,⟨s',xs.map (denL T.toTT0 [])⟩,denH T.toTT0 h',tg,?_,t1,?_,rfl,fun k=>rfl |>.trans ?_,l1,fun k p hk _=>l2 k p hk,l3⟩⟩
     ·simp only [mkop,zg,hc,z2p]
      rw [if_pos (Nat.eq_of_beq_eq_true hl)]
      simp only [List.map_cons,List.map_nil] at q1
      rw [zu,q1]
     ·simp only [denH,t2]
     ·simp [kill,z47]
 ·rename_i s' len zero parts
  split at hg
  ·exact hg.elim
  ·rename_i cs hcs
   split at hg
   ·exact hg.elim
   ·rename_i xs g h' ha
    split at hg
    ·exact hg.elim
    ·rename_i r hr
     cases hg
     obtain ⟨q1,q2,q3⟩:=z9i (H0:=denH T.toTT0 h) _ _ _ _ _ _ z74 ha
     obtain ⟨tg,t1,t2⟩:=zrj hr
     obtain ⟨l1,l2,l3⟩:=zcu (r:=r) q2
     have hf:=zcb (h:=denH T.toTT0 h) _ _ _ hcs
     rw [List.map_map] at hf
     have hxl:xs.length=len:=by rw [q3,zay]
     have hlen:ze (denH T.toTT0 ((d,r)::h')) d []=len:=by
      unfold ze res
      simp only [denH,za,if_true,resE,t2,List.length_map,hxl]
     refine ⟨⟨.sl d [] 0 len,⟨s',xs.map (denL T.toTT0 [])⟩,denH T.toTT0 h',tg,?_,t1,?_,?_,fun k=>rfl |>.trans ?_,l1,fun k p hk _=>l2 k p hk,l3⟩⟩
     ·have e0:denL T.toTT0 (denH T.toTT0 h) (List.replicate len (z66 zero)).flatten=(List.replicate len (zero.map cval)).flatten:=by
       rw [zx,List.map_flatten,List.map_replicate,← zx,z82]
      have e1:(parts.map fun (i,x)=>(i * s',s',ev (denE T.toTT0 (denH T.toTT0 h) e) x))=parts.map ((fun (o,n,x)=>(o,n,den T.toTT0 (denH T.toTT0 h) x)) ∘ fun (i,x)=>(i * s',s',evT e x)) :=
       List.map_congr_left fun ⟨i,x⟩ _=>by simp only [Function.comp,zg]
      simp only [mkop]
      rw [e1,← e0,hf]
      simp only
      rw [zc3] at q1
      rw [zu,q1]
     ·simp only [denH,t2]
     ·simp only [den,hlen]
     ·simp [kill,z47]
 ·rename_i s' bytes zero l
  split at hg
  ·rename_i n m t hn
   obtain ⟨hs,hg⟩:=zp hg
   split at hg
   ·rename_i z hz
    obtain ⟨hc,rfl⟩:=hg
    obtain ⟨kk,hi⟩:=z6l (h:=denH T.toTT0 h) hn
    have hG:Gone (T:=T) (denH T.toTT0 h) (delT h d) [d] [d] (delT h d):=⟨fun _ h=>h,z74⟩
    obtain ⟨l1,l2,l3⟩:=zcu (r:=.typ m t (List.replicate n.toNat z)) hG
    have hz2:fixA (tgOf T (T.ks m t)) 0 (zero.map cval)=T.ca m t z:=by
     rw [← T.un_ok _ _ _ _ hz,← z82 (T:=T) [] zero]
     have:=zb9 (T:=T) (h:=[]) (T.ks m t) (z66 zero) 0
     simpa using this.symm
    refine ⟨⟨.sl d [] 0 n.toNat,⟨s',List.replicate n.toNat (zero.map cval)⟩,denH T.toTT0 (delT h d),tgOf T (T.ks m t),?_,zbt _,?_,?_,fun k=>rfl |>.trans ?_,l1,fun k p hk _=>l2 k p hk,l3⟩⟩
    ·simp only [mkop,zg,hi]
     rw [if_pos hc,zu]
    ·simp only [denH,denR,Nat.eq_of_beq_eq_true hs,List.map_replicate,hz2]
    ·simp only [den]
     congr 1
     unfold ze res
     simp only [denH,za,if_true,resE,denR,List.length_map,List.length_replicate]
    ·simp [kill,z47]
   ·exact hg.elim
  ·exact hg.elim
 ·exact hg.elim
theorem z85 {b bad:Nat→Path→Bool} (hb:∀ k p,b k p=true→bad k p=true) (x:AV):AVle (kill b x) (kill bad x):=by
 have h1:kill bad (kill b x)=kill bad x:=by
  rw [zam.1]
  congr 1
  funext k p
  cases h:b k p with
  | false=>rfl
  | true=>simp [hb k p h]
 rw [← h1]
 exact AVle.kill bad _
theorem zya {P:Program} {ty:Option (Bool×Nat)} {pro:List Nat} {e:TE T.toTT0} {h:TH T.toTT0} {d:Nat} {g:Option (Nat×Bool)} {b:IB} {s:StT T} (hg:(mkT ty pro e h d b).gives s):StOk P pro T e h ⟨d,g,.mk b⟩ s:=by
 obtain ⟨hp,⟨av,r,rest,tg,m1,m2,m3,m4,m5,m6,m7⟩⟩:=y9d hg
 refine ⟨fun e' he=>?_,m7⟩
 have hcg:mkop (ev e') (denH T.toTT0 h) d b=some (av,(d,r)::rest):=by
  rw [← m1]
  exact zia b fun o ho=>by
   have:=z4z (x:=⟨d,g,.mk b⟩) (e:=e') (EA:=denE T.toTT0 (denH T.toTT0 h) e) he (o:=o) (by simpa [opsK] using ho)
   exact this
 refine ⟨e',_,upd (z1i (fun k _=>k==d) e') d av,(d,r)::rest,zc.rfl',fun _ _ h=>h,.plain (by simp only [z2x,hp,Bool.false_eq_true,if_false,hcg]),?_⟩
 refine zc.trans (zc.fix (k:=d) (r:=r) tg m2 (by simp [za])) ?_
 rw [show zd ((d,r)::rest) d=rest by simp [zd],← m3]
 refine zc.le fun t=>?_
 simp only [z1i,upd]
 split
 ·rw [m5,← m4]; exact AVle.refl _
 ·rw [zam.1]
  refine z85 (fun k p hk=>?_) _
  simp only [Bool.or_eq_true,beq_iff_eq,z47,Bool.and_eq_true] at hk
  exact m6 k p (hk.elim id (·.1))
end
def lenR (s:Nat) (xs:Els) (q:Path):Nat:=match resE s xs q with | some (_,ys)=>ys.length | none=>0
theorem z3g {h:H} {k:Nat} {r:Row} {q:Path} (hg:za h k=some r):ze h k q=lenR r.s r.xs q:=by
 unfold ze lenR res; rw [hg]; first | done | rfl
theorem z6s {s i c:Nat} {xs:Els} {q:Path}:lenR s xs ((i,c)::q)=match (xs[i]?).bind (·[c]?) with | some (.ow s' ys)=>lenR s' ys q | _=>0:=by
 unfold lenR
 simp only [resE]
 cases h1:xs[i]? with
 | none=>simp
 | some x =>
  simp only [Option.bind_some]
  cases h2:x[c]? with
  | none=>simp
  | some y=>cases y <;> simp
theorem zn5 (tg:Nat→Option AV):∀ (l:List AV) (c j:Nat),(fixA tg c l)[j]? = (l[j]?).map (fix1 (tg (c+j)))
 | [],_,_=>by simp [fixA]
 | y::l,c,0=>by simp [fixA]
 | y::l,c,j+1=>by simp only [fixA,List.getElem?_cons_succ]; rw [zn5 tg l (c+1) j,show c+1+j=c+(j+1) by omega]
theorem zn7 {tg:Nat→Option AV} (ht:tgOk tg) {s:Nat} {xs:Els} (q:Path):lenR s (xs.map (fixA tg 0)) q=lenR s xs q:=by
 cases q with
 | nil=>simp [lenR,resE]
 | cons x q =>
  obtain ⟨i,c⟩:=x
  rw [z6s,z6s,List.getElem?_map]
  cases h1:xs[i]? with
  | none=>rfl
  | some x =>
   simp only [Option.map_some,Option.bind_some,zn5,Nat.zero_add]
   cases h2:x[c]? with
   | none=>rfl
   | some y =>
    simp only [Option.map_some]
    cases y with
    | zs =>
     simp only [fix1]
     cases h3:tg c with
     | none=>rfl
     | some a =>
      obtain ⟨s',rfl | rfl⟩:=ht c a h3
      ·rfl
      ·simp only [Option.getD_some]
       cases q with
       | nil=>rfl
       | cons z q=>obtain ⟨i',c'⟩:=z; rfl
    | _=>rfl
theorem y5m {l vs:List AV} {c n c':Nat} (h:c+n≤l.length) (hv:vs.length=n) (hc:¬ (c≤c'∧c'<c+n)):(l.take c++vs++l.drop (c+n))[c']? = l[c']?:=by
 rcases Nat.lt_or_ge c' c with h1 | h1
 ·rw [List.append_assoc,List.getElem?_append_left (by rw [List.length_take]; omega),List.getElem?_take,if_pos h1]
 ·have h2:c+n≤c':=by omega
  rw [List.getElem?_append_right (by simp only [List.length_append,List.length_take]; omega),List.getElem?_drop]
  congr 1
  simp only [List.length_append,List.length_take]
  omega
theorem zgf {k i c n:Nat} {vs:List AV} (hv:vs.length=n):∀ (p:Path) (s s1:Nat) (xs ys:Els) (x0:List AV) (q:Path),resE s xs p=some (s1,ys)→ys[i]? = some x0→c+n≤x0.length→under k p c n k q=false →
  lenR s (updE xs p (z1j i c n vs)) q=lenR s xs q
 | [],s,s1,xs,ys,x0,q,hr,hx,hl,hu=>by
  simp only [resE,Option.some.injEq,Prod.mk.injEq] at hr
  obtain ⟨_,rfl⟩:=hr
  simp only [updE,z1j,hx]
  cases q with
  | nil=>simp [lenR,resE]
  | cons z q =>
   obtain ⟨i',c'⟩:=z
   have hc:¬ (c≤c'∧c'<c+n):=fun ⟨h1,h2⟩=>by simp [under,h1,h2] at hu
   rw [z6s,z6s,List.getElem?_set]
   by_cases hi:i=i'
   ·subst hi
    have hlt:=(List.getElem?_eq_some_iff.1 hx).1
    rw [if_pos rfl,if_pos hlt,hx]
    simp only [Option.bind_some,y5m hl hv hc]
   ·rw [if_neg hi]
 | (i0,c0)::p,s,s1,xs,ys,x0,q,hr,hx,hl,hu=>by
  simp only [resE] at hr
  split at hr
  ·cases hr
  ·rename_i x hx0
   split at hr
   ·rename_i s2 zs hz
    simp only [updE,hx0,hz]
    cases q with
    | nil=>simp [lenR,resE]
    | cons z q =>
     obtain ⟨i',c'⟩:=z
     rw [z6s,z6s,List.getElem?_set]
     have hlt:=(List.getElem?_eq_some_iff.1 hx0).1
     have hlt2:=(List.getElem?_eq_some_iff.1 hz).1
     by_cases hi:i0=i'
     ·subst hi
      rw [if_pos rfl,if_pos hlt,hx0]
      simp only [Option.bind_some,List.getElem?_set]
      by_cases hc:c0=c'
      ·subst hc
       rw [if_pos rfl,if_pos hlt2,hz]
       simp only
       refine zgf (k:=k) hv p s2 s1 zs ys x0 q hr hx hl ?_
       simp only [under,List.length_cons,List.take_succ_cons,List.map_cons,List.drop_succ_cons,beq_self_eq_true,Bool.true_and] at hu ⊢
       have hc:∀ A B:List Nat,(c0::A==c0::B)=(A==B):=fun A B=>by
        rw [Bool.eq_iff_iff]; simp
       rw [hc] at hu
       exact hu
      ·rw [if_neg hc]
     ·rw [if_neg hi]
   ·cases hr
section
variable {T:TT}
def Rs.bind {X Y:Type}:Rs X→(X→Rs Y)→Rs Y
 | .ok v,f=>f v
 | .no,_=>.no
 | .bnd x K,f=>.bnd x fun a=>(K a).bind f
 | @Rs.need _ p _ K,f=>.need p (K.bind f)
 | .ite b x y,f=>.ite b (x.bind f) (y.bind f)
theorem Rs.bind_gives {X Y:Type} {f:X→Rs Y} {y:Y}:∀ (r:Rs X),(r.bind f).gives y→∃ x,r.gives x∧(f x).gives y
 | .ok v,h=>⟨v,rfl,h⟩
 | .no,h=>h.elim
 | .bnd x K,⟨a,h1,h2⟩=>by
  obtain ⟨x',h3,h4⟩:=Rs.bind_gives (K a) h2
  exact ⟨x',⟨a,h1,h3⟩,h4⟩
 | @Rs.need _ p _ K,⟨h1,h2⟩=>by
  obtain ⟨x',h3,h4⟩:=Rs.bind_gives K h2
  exact ⟨x',⟨h1,h3⟩,h4⟩
 | .ite b x y',h=>by
  rcases h with ⟨h1,h2⟩ | ⟨h1,h2⟩
  ·obtain ⟨x',h3,h4⟩:=Rs.bind_gives x h2
   exact ⟨x',.inl ⟨h1,h3⟩,h4⟩
  ·obtain ⟨x',h3,h4⟩:=Rs.bind_gives y' h2
   exact ⟨x',.inr ⟨h1,h3⟩,h4⟩
def zh5:TR T.El→Option (VT T)
 | .typ m t xs=>some (.ow m t xs)
 | .opn m t xs i cs=>some (.oo m t xs i cs)
 | .lit _ _=>none
theorem zc1 {h:H} {r:TR T.El} {v:VT T} (hr:zh5 r=some v):den T.toTT0 h v = .ow (denR T.toTT0 r).s (denR T.toTT0 r).xs:=by
 cases r <;> cases hr <;> rfl
theorem zg6 {h:H} {cs:List (VT T)} {c:Nat} {v:VT T}:denL T.toTT0 h (cs.set c v)=(denL T.toTT0 h cs).set c (den T.toTT0 h v):=by simp [zx,List.map_set]
theorem zmd {s:Nat} {xs:List (List (VT T))}:denR T.toTT0 (.lit s xs)=⟨s,xs.map (denL T.toTT0 [])⟩:=rfl
theorem zzm {m:Bool} {t i:Nat} {xs:List (T.El t)} {cs:List (VT T)}:denR T.toTT0 (.opn m t xs i cs)=⟨T.sz t,(xs.map (T.ca m t)).set i (denL T.toTT0 [] cs)⟩:=rfl
def zfg:VT T→Option (TR T.El)
 | .ow m t xs=>some (.typ m t xs)
 | .oo m t xs i cs=>some (.opn m t xs i cs)
 | _=>none
theorem z8e {h:H} {r:TR T.El} {v:VT T} (hr:zfg v=some r):den T.toTT0 h v = .ow (denR T.toTT0 r).s (denR T.toTT0 r).xs:=by
 cases v <;> cases hr <;> rfl
def zil (m:Bool) (t:Nat) (xs:List (T.El t)) (j:Nat) (cs:List (VT T)):TR T.El :=
 match T.un m t cs with
 | some y=>.typ m t (xs.set j y)
 | none=>.opn m t xs j cs
theorem ze3 {m:Bool} {t:Nat} {xs:List (T.El t)} {j:Nat} {cs:List (VT T)}:denR T.toTT0 (zil m t xs j cs)=⟨T.sz t,(xs.map (T.ca m t)).set j (denL T.toTT0 [] cs)⟩:=by
 unfold zil
 split
 ·rename_i y hy
  simp only [denR,List.map_set,T.un_ok _ _ _ _ hy]
 ·rfl
def updT (f:TR T.El→Rs (TR T.El)):Path→TR T.El→Rs (TR T.El)
 | [],r=>f r
 | (i,c)::p,.lit s xs =>
  match xs[i]? with
  | none=>.no
  | some x=>match (x[c]?).bind zfg with
   | none=>.no
   | some r0=>(updT f p r0).bind fun r1=>match zh5 r1 with | some v=>.ok (.lit s (xs.set i (x.set c v))) | none=>.no
 | (i,c)::p,.typ m t xs =>
  .bnd (xs[i]?) fun y=>match ((T.ct m t y)[c]?).bind zfg with
   | none=>.no
   | some r0=>(updT f p r0).bind fun r1=>match zh5 r1 with | some v=>.ok (zil m t xs i ((T.ct m t y).set c v)) | none=>.no
 | (i,c)::p,.opn m t xs j cs =>
  .need (i=j∧j<xs.length) (match (cs[c]?).bind zfg with
   | none=>.no
   | some r0=>(updT f p r0).bind fun r1=>match zh5 r1 with | some v=>.ok (zil m t xs i (cs.set c v)) | none=>.no)
theorem zbu {f:TR T.El→Rs (TR T.El)} {F:Els→Els} {G:Nat→Els→Prop} (hf:∀ r r',(f r).gives r'→G (denR T.toTT0 r).s (denR T.toTT0 r).xs∧denR T.toTT0 r'=⟨(denR T.toTT0 r).s,F (denR T.toTT0 r).xs⟩) :
  ∀ (p:Path) (r r':TR T.El),(updT f p r).gives r'→∃ s ys,resE (denR T.toTT0 r).s (denR T.toTT0 r).xs p=some (s,ys)∧G s ys∧denR T.toTT0 r'=⟨(denR T.toTT0 r).s,updE (denR T.toTT0 r).xs p F⟩
 | [],r,r',hg=>by
  obtain ⟨h1,h2⟩:=hf r r' hg
  exact ⟨_,_,rfl,h1,h2⟩
 | (i,c)::p,.lit s xs,r',hg=>by
  simp only [updT] at hg
  split at hg
  ·exact hg.elim
  ·rename_i x hx
   split at hg
   ·exact hg.elim
   ·rename_i r0 h0
    obtain ⟨r1,q1,q2⟩:=Rs.bind_gives _ hg
    obtain ⟨y,hy,hr0⟩:=Option.bind_eq_some_iff.1 h0
    obtain ⟨s1,ys,t1,t2,t3⟩:=zbu hf p r0 r1 q1
    split at q2
    ·rename_i v hv
     cases q2
     have hxe:(denR T.toTT0 (.lit s xs)).xs[i]? = some (denL T.toTT0 [] x):=by simp [denR,hx]
     have hce:(denL T.toTT0 [] x)[c]? = some (.ow (denR T.toTT0 r0).s (denR T.toTT0 r0).xs):=by rw [z31,hy,Option.map_some,z8e hr0]
     refine ⟨s1,ys,by simp only [resE,hxe,hce]; exact t1,t2,?_⟩
     have hv':=zc1 (T:=T) (h:=[]) hv
     rw [t3] at hv'
     simp only [updE,hxe,hce]
     rw [zmd,List.map_set,zg6,hv']
     rfl
    ·exact q2.elim
 | (i,c)::p,.typ m t xs,r',hg=>by
  obtain ⟨z,hz,hg⟩:=hg
  dsimp only at hg
  split at hg
  ·exact hg.elim
  ·rename_i r0 h0
   obtain ⟨r1,q1,q2⟩:=Rs.bind_gives _ hg
   obtain ⟨y,hy,hr0⟩:=Option.bind_eq_some_iff.1 h0
   obtain ⟨s1,ys,t1,t2,t3⟩:=zbu hf p r0 r1 q1
   split at q2
   ·rename_i v hv
    cases q2
    have hxe:(denR T.toTT0 (.typ m t xs)).xs[i]? = some (T.ca m t z):=by simp [denR,hz]
    have hce:(T.ca m t z)[c]? = some (.ow (denR T.toTT0 r0).s (denR T.toTT0 r0).xs):=by rw [ztm,hy,Option.map_some,z8e hr0]
    refine ⟨s1,ys,by simp only [resE,hxe,hce]; exact t1,t2,?_⟩
    have hv':=zc1 (T:=T) (h:=[]) hv
    rw [t3] at hv'
    simp only [updE,hxe,hce,ze3]
    rw [zg6,hv',T.ct_ok]
    rfl
   ·exact q2.elim
 | (i,c)::p,.opn m t xs j cs,r',hg=>by
  obtain ⟨⟨rfl,hj⟩,hg⟩:=hg
  split at hg
  ·exact hg.elim
  ·rename_i r0 h0
   obtain ⟨r1,q1,q2⟩:=Rs.bind_gives _ hg
   obtain ⟨y,hy,hr0⟩:=Option.bind_eq_some_iff.1 h0
   obtain ⟨s1,ys,t1,t2,t3⟩:=zbu hf p r0 r1 q1
   split at q2
   ·rename_i v hv
    cases q2
    have hxe:(denR T.toTT0 (.opn m t xs i cs)).xs[i]? = some (denL T.toTT0 [] cs):=by
     simp only [denR]; rw [List.getElem?_set_self (by simpa using hj)]
    have hce:(denL T.toTT0 [] cs)[c]? = some (.ow (denR T.toTT0 r0).s (denR T.toTT0 r0).xs):=by rw [z31,hy,Option.map_some,z8e hr0]
    refine ⟨s1,ys,by simp only [resE,hxe,hce]; exact t1,t2,?_⟩
    have hv':=zc1 (T:=T) (h:=[]) hv
    rw [t3] at hv'
    simp only [updE,hxe,hce,ze3]
    rw [zg6,hv',zzm,List.set_set]
   ·exact q2.elim
def putT (fx:Bool) (i c n:Nat) (vs:List (VT T)):TR T.El→Rs (TR T.El)
 | .lit s xs =>
  match xs[i]? with
  | some x0=>bif Nat.ble (c+n) x0.length then .ok (.lit s (xs.set i (x0.take c++vs++x0.drop (c+n)))) else .no
  | none=>.no
 | .typ m t xs=>.bnd (xs[i]?) fun y =>
  bif Nat.ble (c+n) (T.ct m t y).length then
   let cs:=(T.ct m t y).take c++vs++(T.ct m t y).drop (c+n)
   match T.un m t (bif fx then fixT (T.ks m t) cs else cs) with
   | some z=>.ok (.typ m t (xs.set i z))
   | none=>bif fx then .no else .ok (.opn m t xs i cs)
  else .no
 | .opn m t xs j cs=>.need (i=j∧j<xs.length) (bif Nat.ble (c+n) cs.length then .ok (zil m t xs i (cs.take c++vs++cs.drop (c+n))) else .no)
def tgR (fx:Bool):TR T.El→Nat→Option AV
 | .typ m t _=>bif fx then tgOf T (T.ks m t) else fun _=>none
 | _=>fun _=>none
theorem y9q (fx:Bool) (r:TR T.El):tgOk (tgR fx r):=by
 cases r with
 | typ m t xs=>cases fx; exact fun _ _ h=>(by cases h); exact zbt _
 | _=>exact fun _ _ h=>(by cases h)
theorem zpk (tg:Nat→Option AV):∀ (l:List AV) (c:Nat),(∀ a ∈ l,isZ a=false)→fixA tg c l=l
 | [],_,_=>rfl
 | y::l,c,h=>by
  rw [fixA,zpk tg l (c+1) (fun a ha=>h a (by simp [ha]))]
  have:=h y (by simp)
  cases y <;> simp [isZ] at this <;> rfl
theorem yaa {m:Bool} {t:Nat} {y:T.El t}:∀ a ∈ T.ca m t y,isZ a=false:=T.nz_ok m t y
theorem zsp {tg:Nat→Option AV} {m:Bool} {t:Nat} (xs:List (T.El t)):(xs.map (T.ca m t)).map (fixA tg 0)=xs.map (T.ca m t):=by
 rw [List.map_map]
 exact List.map_congr_left fun y _=>zpk tg _ 0 yaa
theorem z5i (xs:Els):xs.map (fixA (fun _=>none) 0)=xs:=by
 conv=>rhs; rw [← List.map_id xs]
 exact List.map_congr_left fun x _=>z84 _ _ _ (fun _=>rfl)
theorem zjf {fx:Bool} {i c n:Nat} {vs:List (VT T)} (r r':TR T.El) (hg:(putT fx i c n vs r).gives r') :
  (∃ x0,(denR T.toTT0 r).xs[i]? = some x0∧c+n≤x0.length)∧denR T.toTT0 r'=⟨(denR T.toTT0 r).s,(z1j i c n (denL T.toTT0 [] vs) (denR T.toTT0 r).xs).map (fixA (tgR fx r) 0)⟩:=by
 cases r with
 | lit s xs =>
  simp only [putT] at hg
  split at hg
  ·rename_i x0 hx
   obtain ⟨hb,hg⟩:=zp hg
   cases hg
   have hxe:(denR T.toTT0 (.lit s xs)).xs[i]? = some (denL T.toTT0 [] x0):=by simp [denR,hx]
   refine ⟨⟨_,hxe,by rw [z2p]; exact Nat.le_of_ble_eq_true hb⟩,?_⟩
   simp only [z1j,hxe,tgR,z5i]
   simp [denR,zx,List.map_set,List.map_take,List.map_drop]
  ·exact hg.elim
 | typ m t xs =>
  obtain ⟨y,hy,hg⟩:=hg
  obtain ⟨hb,hg⟩:=zp hg
  dsimp only at hg
  split at hg
  ·rename_i z hz
   cases hg
   have hxe:(denR T.toTT0 (.typ m t xs)).xs[i]? = some (T.ca m t y):=by simp [denR,hy]
   have hl:(T.ca m t y).length=(T.ct m t y).length:=by rw [← T.ct_ok,z2p]
   refine ⟨⟨_,hxe,by rw [hl]; exact Nat.le_of_ble_eq_true hb⟩,?_⟩
   simp only [z1j,hxe,tgR]
   have hzc:fixA (bif fx then tgOf T (T.ks m t) else fun _=>none) 0 ((T.ca m t y).take c++denL T.toTT0 [] vs++(T.ca m t y).drop (c+n))=T.ca m t z:=by
    have e1:(T.ca m t y).take c++denL T.toTT0 [] vs++(T.ca m t y).drop (c+n)=denL T.toTT0 [] ((T.ct m t y).take c++vs++(T.ct m t y).drop (c+n)):=by
     simp [← T.ct_ok,zx,List.map_take,List.map_drop]
    rw [e1,← T.un_ok _ _ _ _ hz]
    cases fx
    ·simp only [cond_false]; exact z84 _ _ _ (fun _=>rfl)
    ·simp only [cond_true]
     have:=zb9 (T:=T) (h:=[]) (T.ks m t) ((T.ct m t y).take c++vs++(T.ct m t y).drop (c+n)) 0
     simpa using this.symm
   simp only [denR,List.map_set,hzc,zsp]
  ·cases hfx:fx with
   | true=>rw [hfx] at hg; exact hg.elim
   | false =>
    rw [hfx,cond_false] at hg
    cases hg
    have hxe:(denR T.toTT0 (.typ m t xs)).xs[i]? = some (T.ca m t y):=by simp [denR,hy]
    have hl:(T.ca m t y).length=(T.ct m t y).length:=by rw [← T.ct_ok,z2p]
    refine ⟨⟨_,hxe,by rw [hl]; exact Nat.le_of_ble_eq_true hb⟩,?_⟩
    simp only [z1j,hxe,tgR,cond_false,z5i]
    simp only [denR]
    simp [← T.ct_ok,zx,List.map_take,List.map_drop]
 | opn m t xs j cs =>
  obtain ⟨⟨rfl,hj⟩,hg⟩:=hg
  obtain ⟨hb,hg⟩:=zp hg
  cases hg
  have hxe:(denR T.toTT0 (.opn m t xs i cs)).xs[i]? = some (denL T.toTT0 [] cs):=by
   simp only [denR]; rw [List.getElem?_set_self (by simpa using hj)]
  refine ⟨⟨_,hxe,by rw [z2p]; exact Nat.le_of_ble_eq_true hb⟩,?_⟩
  simp only [z1j,hxe,tgR,z5i,ze3]
  simp [denR,zx,List.map_take,List.map_drop]
end
section
variable {T:TT}
def isZT:VT T→Bool
 | .zs=>true
 | _=>false
def setI (c:Nat) (y:Int):Nat→List (VT T)→List (Option Int)→List (VT T)
 | j,v::cs,some n::l=>.sc (.int .i64 (bif Nat.beq c j then y else n))::setI c y (j+1) cs l
 | j,v::cs,_::l=>v::setI c y (j+1) cs l
 | _,cs,_=>cs
def intX:VT T→Option Int
 | .sc (.int .i64 y)=>some y
 | .ik .i64 y=>some y
 | _=>none
theorem y06 {H0:H} {v:VT T} {y:Int} (h:intX v=some y):den T.toTT0 H0 v = .sc (.int .i64 y):=by
 unfold intX at h
 split at h <;> cases h <;> rfl
theorem zl1 (c:Nat) (y:Int):∀ (cs:List (VT T)) (l:List (Option Int)) (j:Nat),z8z cs=some l→c<j→denL T.toTT0 [] (setI c y j cs l)=denL T.toTT0 [] cs
 | [],l,j,h,hc=>by cases h; rfl
 | x::cs,l,j,h,hc=>by
  unfold z8z at h
  split at h
  ·rename_i r hr
   have ih:=zl1 c y cs r (j+1) hr (by omega)
   have hb:Nat.beq c j=false:=by rw [z1b]; simp; omega
   split at h
   ·cases h; simp only [setI,denL,ih,hb,cond_false]; try rfl
   ·cases h; simp only [setI,denL,ih,hb,cond_false]; try rfl
   ·cases h; simp only [setI,denL,ih]
  ·cases h
theorem zrl (c:Nat) (y:Int):∀ (cs:List (VT T)) (l:List (Option Int)) (j i:Nat) (n:Int),z8z cs=some l→c=j+i→z39 l i=some n→denL T.toTT0 [] (setI c y j cs l)=(denL T.toTT0 [] cs).set i (.sc (.int .i64 y))
 | [],l,j,i,n,h,hc,hp=>by cases h; simp [z39] at hp
 | x::cs,l,j,i,n,h,hc,hp=>by
  unfold z8z at h
  split at h
  ·rename_i r hr
   cases i with
   | zero =>
    have hb:Nat.beq c j=true:=by rw [z1b]; simp; omega
    have ih:=zl1 c y cs r (j+1) hr (by omega)
    split at h
    ·cases h; simp only [setI,denL,ih,hb,cond_true,List.set_cons_zero]; try rfl
    ·cases h; simp only [setI,denL,ih,hb,cond_true,List.set_cons_zero]; try rfl
    ·cases h; simp [z39] at hp
   | succ i =>
    have hb:Nat.beq c j=false:=by rw [z1b]; simp; omega
    have key:z39 r i=some n:=by
     split at h <;> (cases h; simpa [z39] using hp)
    have ih:=zrl c y cs r (j+1) i n hr (by omega) key
    split at h
    ·cases h; simp only [setI,denL,ih,hb,cond_false,List.set_cons_succ]; try rfl
    ·cases h; simp only [setI,denL,ih,hb,cond_false,List.set_cons_succ]; try rfl
    ·cases h; simp only [setI,denL,ih,List.set_cons_succ]
  ·cases h
def stP (e:TE T.toTT0) (h:TH T.toTT0) (n:Nat) (k c:Nat) (x:Operand):Rs (StT T) :=
 bif Nat.beq n 1 then
  match getT h k,intX (evT e x) with
  | some (.lit s (cs::xs)),some y=>match z8z cs with
   | some l=>.bnd (z39 l c) fun _=>.ok ⟨.un,fun k' q=>Nat.beq k' k && !q.isEmpty,fun _ _=>false,[k],(k,.lit s (setI c y 0 cs l::xs))::delT h k⟩
   | none=>.no
  | _,_=>.no
 else .no
theorem y0l {α:Type} (l:List α) (c:Nat) (v:α) (h:c+1≤l.length):l.set c v=l.take c++[v]++l.drop (c+1):=by
 rw [List.set_eq_take_append_cons_drop,if_pos (by omega)]; simp
theorem y9p {P:Program} {pro:List Nat} {e:TE T.toTT0} {h:TH T.toTT0} {d:Nat} {g:Option (Nat×Bool)} {n k c:Nat} {a x:Operand} {s:StT T} (ha:evT e a = .pp (.px k c)) (hg:(stP e h n k c x).gives s):StOk P pro T e h ⟨d,g,.st n a x⟩ s:=by
 unfold stP at hg
 obtain ⟨hn,hg⟩:=zp hg
 have hn:=Nat.eq_of_beq_eq_true hn
 subst hn
 split at hg
 ·rename_i s0 cs xs y hr hv
  split at hg
  ·rename_i l hl
   obtain ⟨n0,hp,hg⟩:=hg
   cases hg
   have hd:=y06 (H0:=denH T.toTT0 h) hv
   have hset:=zrl c y cs l 0 c n0 hl (by omega) hp
   obtain ⟨v0,hv0,_⟩:=zgd (H0:=[]) cs l c n0 hl hp
   have hlt:c<cs.length:=(List.getElem?_eq_some_iff.1 hv0).1
   have hgr:za (denH T.toTT0 h) k=some ⟨s0,(cs::xs).map (denL T.toTT0 [])⟩:=by rw [z1p,hr]; rfl
   have hst:stop (ev (denE T.toTT0 (denH T.toTT0 h) e)) (denH T.toTT0 h) 1 a x=some (denH T.toTT0 ((k,.lit s0 (setI c y 0 cs l::xs))::delT h k),under k [] c 1):=by
    simp only [stop,zg,ha,den,denP,hgr,resE,List.map_cons,List.getElem?_cons_zero,z2p]
    rw [if_pos (by omega),hd]
    simp only [cellsOf,List.length_singleton,if_true,absL,absC]
    simp only [denH,denR,List.map_cons,updE,z1j,List.getElem?_cons_zero,List.set_cons_zero,hset,zu]
    rw [y0l _ _ _ (by rw [z2p]; omega)]
    rfl
   refine ⟨fun e' he=>?_,fun k' q hb _=>?_,fun k' hk'=>?_⟩
   ·have hcg:stop (ev e') (denH T.toTT0 h) 1 a x=some (denH T.toTT0 ((k,.lit s0 (setI c y 0 cs l::xs))::delT h k),under k [] c 1):=by
     rw [← hst]
     exact zir (z4z (x:=⟨d,g,.st 1 a x⟩) he (by simp [opsK])) (z4z (x:=⟨d,g,.st 1 a x⟩) he (by simp [opsK]))
    refine ⟨e',_,z1i (under k [] c 1) e',denH T.toTT0 ((k,.lit s0 (setI c y 0 cs l::xs))::delT h k),zc.rfl',fun _ _ h=>h,.plain (by simp only [z2x,hcg]),?_⟩
    refine zc.le fun t=>?_
    simp only [z1i,upd]
    split
    ·exact AVle.un _
    ·refine z85 (fun k' q hk=>?_) _
     simp only [under,List.length_nil,List.take_zero,List.map_nil,List.drop_zero,beq_self_eq_true,Bool.and_true,Bool.and_eq_true] at hk
     obtain ⟨hk1,hk2⟩:=hk
     cases q with
     | nil=>cases hk2
     | cons z q=>simpa [z1b] using hk1
   ·by_cases hk:k'=k
    ·subst hk
     have:q=[]:=by
      cases q with
      | nil=>rfl
      | cons z q=>simp [z1b] at hb
     subst this
     rw [z3g (r:=⟨s0,(setI c y 0 cs l::xs).map (denL T.toTT0 [])⟩) (by simp [denH,za,denR]),z3g hgr]
     simp [lenR,resE]
    ·refine z1a ?_
     simp only [denH,za]
     rw [if_neg (fun e=>hk e.symm),← zu]
     exact zz hk _
   ·have hk:k' ≠ k:=fun e=>by subst e; simp at hk'
    simp only [denH,za]
    rw [if_neg (fun e=>hk e.symm),← zu]
    exact zz hk _
  ·exact hg.elim
 ·exact hg.elim
def stT (e:TE T.toTT0) (h:TH T.toTT0) (n:Nat) (a x:Operand):Rs (StT T) :=
 match evT e a with
 | .pp (.px k c)=>stP e h n k c x
 | .pt k p i c =>
  match getT h k,z6i (evT e x) with
  | some r,some vs=>bif Nat.beq vs.length n then
   match zgz (delT h k) [k] vs with
   | none=>.no
   | some (vs',g,h') =>
    let fx:=p.isEmpty && vs'.any isZT
    (updT (putT fx i c n vs') p r).bind fun r' =>
    .ok ⟨.un,fun k' q=>under k p c n k' q || (g.contains k' && !(Nat.beq k' k)) || (fx && Nat.beq k' k && !q.isEmpty),fun _ _=>false,g,(k,r')::h'⟩
   else .no
  | _,_=>.no
 | _=>.no
theorem zyw {P:Program} {pro:List Nat} {e:TE T.toTT0} {h:TH T.toTT0} {d:Nat} {g:Option (Nat×Bool)} {n:Nat} {a x:Operand} {s:StT T} (hg:(stT e h n a x).gives s):StOk P pro T e h ⟨d,g,.st n a x⟩ s:=by
 unfold stT at hg
 split at hg
 ·rename_i k c ha
  exact y9p ha hg
 ·rename_i k p i c ha
  split at hg
  ·rename_i r vs hr hvs
   obtain ⟨hn,hg⟩:=zp hg
   have hn:=Nat.eq_of_beq_eq_true hn
   split at hg
   ·exact hg.elim
   ·rename_i vs' gg h' hab
    dsimp only at hg
    generalize hfx:(p.isEmpty && vs'.any isZT)=fx at hg
    obtain ⟨r',hup,hg⟩:=Rs.bind_gives _ hg
    cases hg
    obtain ⟨q1,q2⟩:=zg2 (H0:=denH T.toTT0 h) _ _ _ _ _ _ z74 hab
    have hv:=z7r (h:=denH T.toTT0 h) hvs
    have hgr:za (denH T.toTT0 h) k=some (denR T.toTT0 r):=by rw [z1p,hr]; rfl
    have hvl:(denL T.toTT0 [] vs').length=n:=by
     have:∀ (l l':List AV) (hp hp':H),absL hp l=some (l',hp')→l'.length=l.length:=by
      intro l
      induction l with
      | nil=>intro l' hp hp' hh; simp only [absL,Option.some.injEq,Prod.mk.injEq] at hh; rw [← hh.1]
      | cons y l ih =>
       intro l' hp hp' hh
       unfold absL at hh
       split at hh
       ·split at hh
        ·rename_i h2
         simp only [Option.some.injEq,Prod.mk.injEq] at hh
         rw [← hh.1,List.length_cons,ih _ _ _ h2,List.length_cons]
        ·cases hh
       ·cases hh
     rw [this _ _ _ _ q1,z2p,hn]
    have hgk:gg.contains k=true:=q2.sub k (by simp)
    obtain ⟨tg,ht,hkb,s1,ys,x0,t1,tx,tl,t3⟩:∃ tg,tgOk tg∧(fx=false→tg=fun _=>none)∧∃ s1 ys x0,resE (denR T.toTT0 r).s (denR T.toTT0 r).xs p=some (s1,ys)∧ys[i]? = some x0∧c+n≤x0.length ∧
      denR T.toTT0 r'=⟨(denR T.toTT0 r).s,(updE (denR T.toTT0 r).xs p (z1j i c n (denL T.toTT0 [] vs'))).map (fixA tg 0)⟩:=by
     cases p with
     | nil =>
      obtain ⟨⟨x0,t1,t2⟩,t3⟩:=zjf r r' hup
      exact ⟨tgR fx r,y9q _ _,fun h=>by subst h; cases r <;> rfl,_,_,x0,rfl,t1,t2,t3⟩
     | cons z p =>
      have hfx:fx=false:=by rw [← hfx]; rfl
      subst hfx
      obtain ⟨s1,ys,t1,⟨x0,t2,t4⟩,t3⟩:=zbu (f:=putT false i c n vs') (F:=z1j i c n (denL T.toTT0 [] vs')) (G:=fun _ ys=>∃ x0,ys[i]? = some x0∧c+n≤x0.length) (fun r0 r1 h0=>by
       obtain ⟨h1,h2⟩:=zjf r0 r1 h0
       refine ⟨h1,?_⟩
       rw [h2]
       have:tgR (T:=T) false r0=fun _=>none:=by cases r0 <;> rfl
       rw [this,z5i]) (z::p) r r' hup
      exact ⟨fun _=>none,fun _ _ h=>(by cases h),fun _=>rfl,s1,ys,x0,t1,t2,t4,by rw [t3,z5i]⟩
    have hst:stop (ev (denE T.toTT0 (denH T.toTT0 h) e)) (denH T.toTT0 h) n a x=some ((k,⟨(denR T.toTT0 r).s,updE (denR T.toTT0 r).xs p (z1j i c n (denL T.toTT0 [] vs'))⟩)::denH T.toTT0 h',under k p c n):=by
     simp only [stop,zg,ha,den,hgr,t1,tx,hv,z2p,zu,q1]
     rw [if_pos tl,if_pos hn]
    have htch:∀ k',gg.contains k'=false→za (denH T.toTT0 ((k,r')::h')) k'=za (denH T.toTT0 h) k':=fun k' hk'=>by
     have hne:k ≠ k':=fun e=>by rw [← e,hgk] at hk'; cases hk'
     simp only [denH,za]
     rw [if_neg hne]
     exact q2.same k' hk'
    refine ⟨fun e' he=>?_,fun k' q hb _=>?_,htch⟩
    ·have hcg:stop (ev e') (denH T.toTT0 h) n a x=some ((k,⟨(denR T.toTT0 r).s,updE (denR T.toTT0 r).xs p (z1j i c n (denL T.toTT0 [] vs'))⟩)::denH T.toTT0 h',under k p c n):=by
      rw [← hst]
      exact zir (z4z (x:=⟨d,g,.st n a x⟩) he (by simp [opsK])) (z4z (x:=⟨d,g,.st n a x⟩) he (by simp [opsK]))
     refine ⟨e',_,z1i (under k p c n) e',(k,⟨(denR T.toTT0 r).s,updE (denR T.toTT0 r).xs p (z1j i c n (denL T.toTT0 [] vs'))⟩)::denH T.toTT0 h',zc.rfl',fun _ _ h=>h,.plain (by simp only [z2x,hcg]),?_⟩
     refine zc.trans (zc.fix (k:=k) (r:=⟨(denR T.toTT0 r).s,updE (denR T.toTT0 r).xs p (z1j i c n (denL T.toTT0 [] vs'))⟩) tg ht (by simp [za])) ?_
     simp only [zd,if_true]
     rw [show denH T.toTT0 ((k,r')::h')=(k,⟨(denR T.toTT0 r).s,(updE (denR T.toTT0 r).xs p (z1j i c n (denL T.toTT0 [] vs'))).map (fixA tg 0)⟩)::denH T.toTT0 h' by simp only [denH,t3]]
     refine zc.le fun t=>?_
     simp only [z1i,upd]
     split
     ·exact AVle.un _
     ·rw [zam.1]
      refine z85 (fun k' q hk=>?_) _
      simp only [Bool.or_eq_true] at hk ⊢
      rcases hk with hk | hk
      ·exact .inl (.inl hk)
      ·right
       cases hf:fx with
       | false =>
        rw [hkb hf] at hk
        simp [z47] at hk
        split at hk <;> simp at hk
       | true =>
        simp only [z47,Bool.and_eq_true,beq_iff_eq] at hk
        obtain ⟨rfl,hk⟩:=hk
        cases q with
        | nil=>cases hk
        | cons _ _=>simp
    ·simp only [Bool.or_eq_false_iff] at hb
     by_cases hk:k'=k
     ·subst hk
      rw [z3g (r:=denR T.toTT0 r') (by simp [denH,za]),z3g hgr,t3]
      simp only
      rw [zn7 ht]
      exact zgf (k:=k') hvl p _ s1 _ ys x0 q t1 tx tl hb.1.1
     ·refine z1a ?_
      simp only [denH,za]
      rw [if_neg (fun e=>hk e.symm)]
      refine q2.same k' ?_
      have:=hb.1.2
      simp only [z1b,hk,decide_false,Bool.not_false,Bool.and_true] at this
      exact this
  ·exact hg.elim
 ·exact hg.elim
end
section
variable {T:TT}
def srcT (m:Bool) (t s:Nat) (e:TE T.toTT0) (h:TH T.toTT0) (y:Operand):Rs (List (T.El t)×Option Nat) :=
 bif Nat.beq (T.sz t) s then
 match evT e y with
 | .zs=>.ok ([],none)
 | .sc (.string b)=>if hh:T.u8=t then bif m then .no else .ok (hh ▸ T.bs (bytesOf b),none) else .no
 | .im t' ws=>if hh:t'=t then bif m then .no else .ok (hh ▸ ws,none) else .no
 | .sw k p=>atT h k p fun
  | .typ m' t' ws=>if hh:t'=t then
    match m',m,p with
    | false,false,_=>.ok (hh ▸ ws,none)
    | true,true,[]=>.ok (hh ▸ ws,some k)
    | _,_,_=>.no
   else .no
  | _=>.no
 | .sl k p off len=>atT h k p fun
  | .typ m' t' ws=>if hh:t'=t then bif m || m' then .no else .need (off+len≤ws.length) (.ok (((hh ▸ ws:List (T.El t)).drop off).take len,none)) else .no
  | _=>.no
 | _=>.no
 else .no
theorem zn8 {t:Nat} (xs:List (T.El t)):zah (xs.map (T.ca false t))=true:=by
 unfold zah
 rw [List.all_eq_true]
 intro y hy
 obtain ⟨x,_,rfl⟩:=List.mem_map.1 hy
 exact T.fl_ok t x
theorem zjj {m:Bool} {t s:Nat} {e:TE T.toTT0} {h:TH T.toTT0} {y:Operand} {ws:List (T.El t)} {mv:Option Nat} (hg:(srcT m t s e h y).gives (ws,mv)) :
  T.sz t=s∧∃ mv',srcE (denH T.toTT0 h) s (den T.toTT0 (denH T.toTT0 h) (evT e y))=some (ws.map (T.ca m t),mv')∧(mv'=none∨mv'=mv):=by
 unfold srcT at hg
 obtain ⟨hs,hg⟩:=zp hg
 have hs:=Nat.eq_of_beq_eq_true hs
 refine ⟨hs,?_⟩
 split at hg
 ·rename_i hy
  cases hg
  exact ⟨none,by simp [hy,den,srcE],.inl rfl⟩
 ·rename_i b hy
  split at hg
  ·rename_i hh
   subst hh
   cases m with
   | true=>exact hg.elim
   | false =>
    cases hg
    refine ⟨none,?_,.inl rfl⟩
    simp only [hy,den,srcE]
    rw [if_pos (by rw [← hs]; exact T.bs_sz),T.bs_ok]
  ·exact hg.elim
 ·rename_i t' ws' hy
  split at hg
  ·rename_i hh
   subst hh
   cases m with
   | true=>exact hg.elim
   | false =>
    cases hg
    exact ⟨none,by simp only [hy,den,srcE]; rw [if_pos hs],.inl rfl⟩
  ·exact hg.elim
 ·rename_i k p hy
  obtain ⟨r,hr,hg⟩:=z58 hg
  have hl:ze (denH T.toTT0 h) k p=(denR T.toTT0 r).xs.length:=by unfold ze; rw [hr]
  split at hg
  ·rename_i m' t' ws'
   split at hg
   ·rename_i hh
    subst hh
    split at hg
    ·cases hg
     refine ⟨none,?_,.inl rfl⟩
     simp only [hy,den,srcE,hr,hl]
     simp only [denR,hs]
     rw [if_pos ⟨trivial,by omega⟩,List.drop_zero,List.take_length,if_pos (zn8 _)]
    ·cases hg
     refine ⟨if zah ((ws'.map (T.ca true t')))=true then none else some k,?_,?_⟩
     ·simp only [hy,den,srcE,hr,hl]
      simp only [denR,hs]
      rw [if_pos ⟨trivial,by omega⟩,List.drop_zero,List.take_length]
      split <;> simp
     ·split <;> simp
    ·exact hg.elim
   ·exact hg.elim
  ·exact hg.elim
 ·rename_i k p off len hy
  obtain ⟨r,hr,hg⟩:=z58 hg
  split at hg
  ·rename_i m' t' ws'
   split at hg
   ·rename_i hh
    subst hh
    cases m <;> cases m' <;> first | exact hg.elim | skip
    obtain ⟨hc,hg⟩:=hg
    cases hg
    refine ⟨none,?_,.inl rfl⟩
    simp only [hy,den,srcE,hr]
    simp only [denR,hs]
    rw [if_pos ⟨trivial,by simpa using hc⟩]
    have:((ws'.map (T.ca false t')).drop off).take len=((ws'.drop off).take len).map (T.ca false t'):=by simp [List.map_take,List.map_drop]
    rw [this,if_pos (zn8 _)]
   ·exact hg.elim
  ·exact hg.elim
 ·exact hg.elim
theorem zfs {a b:Nat}:∀ (h:H),zd (zd h a) b=zd (zd h b) a
 | []=>rfl
 | (k,r)::h=>by
  by_cases ha:k=a
  ·by_cases hb:k=b
   ·subst ha; subst hb; rfl
   ·simp only [zd,if_pos ha,if_neg hb]
  ·by_cases hb:k=b
   ·simp only [zd,if_neg ha,if_pos hb]
   ·simp only [zd,if_neg ha,if_neg hb,zfs h]
theorem zc.drop {P:Program} {pro:List Nat} {e:Env} {h:H} (k:Nat):zc P pro e h e (zd h k):=fun I N _ σ a w R=>by
 obtain ⟨q1,q2,q3,q4⟩:=z4m R.heap k
 exact ⟨σ,I,fun _ h=>h,fun _ h=>.inl h,⟨q1,R.size,R.vals,R.defers⟩,fun _ _=>rfl,Le.refl _,fun _ _ _=>rfl,fun b hb=>.inl (q3 b hb)⟩
def z7z (h:TH T.toTT0):Option Nat→TH T.toTT0
 | none=>h
 | some k=>delT h k
theorem zyy {h:TH T.toTT0} {mv:Option Nat}:z1r (denH T.toTT0 h) mv=denH T.toTT0 (z7z h mv):=by
 cases mv with
 | none=>rfl
 | some k=>exact zu h k
def isO (mv:Option Nat) (k:Nat):Bool:=match mv with | some k'=>Nat.beq k' k | none=>false
def apT (ty:Option (Bool×Nat)) (pro:List Nat) (e:TE T.toTT0) (h:TH T.toTT0) (d s bytes:Nat) (x y:Operand):Rs (StT T) :=
 match evT e x with
 | .zs =>
  match ty with
  | none=>.no
  | some (m,t)=>bif pro.contains d then .no else
   (srcT m t s e h y).bind fun (ws,mv)=>bif isO mv d then .no else
    .need (ws.length * bytes≤140737488355328) (.ok ⟨.sw d [],fun k _=>Nat.beq k d || isO mv k,fun _ _=>false,d::mv.toList,(d,.typ m t ws)::delT (z7z h mv) d⟩)
 | .sw k [] =>
  match getT h k with
  | some (.typ m t xs)=>bif pro.contains k then .no else
   (srcT m t s e h y).bind fun (ws,mv)=>bif isO mv k then .no else
    .need ((xs.length+ws.length) * bytes≤140737488355328) (.ok ⟨.sw k [],fun k' _=>Nat.beq k' k || isO mv k',fun _ _=>false,k::mv.toList,(k,.typ m t (xs++ws))::delT (z7z h mv) k⟩)
  | _=>.no
 | .sl k [] 0 len =>
  match getT h k with
  | some (.typ m t xs)=>bif pro.contains k then .no else
   (srcT m t s e h y).bind fun (ws,mv)=>bif isO mv k then .no else
    .need (len≤xs.length∧(len+ws.length) * bytes≤140737488355328) (.ok ⟨.sw k [],fun k' _=>Nat.beq k' k || isO mv k',fun _ _=>false,k::mv.toList,(k,.typ m t (xs.take len++ws))::delT (z7z h mv) k⟩)
  | _=>.no
 | _=>.no
theorem zm2 {P:Program} {pro:List Nat} {e:TE T.toTT0} {h:TH T.toTT0} {d s bytes k:Nat} {g:Option (Nat×Bool)} {x y:Operand} {mv mv':Option Nat} {m:Bool} {t:Nat} {zs:List (T.El t)} (hp:pro.contains k=false) (hs:T.sz t=s) (hk:isO mv k=false) (hm:mv'=none∨mv'=mv)
  (hap:apop (ev (denE T.toTT0 (denH T.toTT0 h) e)) (denH T.toTT0 h) d s bytes x y=some (.sl k [] 0 zs.length,(k,⟨s,zs.map (T.ca m t)⟩)::zd (z1r (denH T.toTT0 h) mv') k,k)) :
  StOk P pro T e h ⟨d,g,.app s bytes x y⟩ ⟨.sw k [],fun k' _=>Nat.beq k' k || isO mv k',fun _ _=>false,k::mv.toList,(k,.typ m t zs)::delT (z7z h mv) k⟩:=by
 have hsame:∀ k',k' ≠ k→isO mv k'=false→za (denH T.toTT0 ((k,.typ m t zs)::delT (z7z h mv) k)) k'=za (denH T.toTT0 h) k':=fun k' h1 h2=>by
  simp only [denH,za]
  rw [if_neg (fun e=>h1 e.symm),← zu,zz h1]
  cases mv with
  | none=>rfl
  | some k2 =>
   simp only [z7z,← zu]
   refine zz (fun e=>?_) _
   simp [isO,e] at h2
 refine ⟨fun e' he=>?_,fun k' q hb _=>z1a ?_,fun k' hk'=>?_⟩
 ·have hcg:=hap
  rw [← zs2 (z4z (x:=⟨d,g,.app s bytes x y⟩) he (o:=x) (by simp [opsK])) (z4z (x:=⟨d,g,.app s bytes x y⟩) he (o:=y) (by simp [opsK]))] at hcg
  refine ⟨e',_,upd (z1i (fun k' _=>k'==k) e') d (.sl k [] 0 zs.length),_,zc.rfl',fun _ _ h=>h,.plain (by simp only [z2x,hcg,hp,Bool.false_eq_true,if_false]; rfl),?_⟩
  have hheap:zc P pro (upd (z1i (fun k' _=>k'==k) e') d (.sl k [] 0 zs.length)) ((k,⟨s,zs.map (T.ca m t)⟩)::zd (z1r (denH T.toTT0 h) mv') k) (upd (z1i (fun k' _=>k'==k) e') d (.sl k [] 0 zs.length)) (denH T.toTT0 ((k,.typ m t zs)::delT (z7z h mv) k)):=by
   have goal:denH T.toTT0 ((k,.typ m t zs)::delT (z7z h mv) k)=(k,⟨s,zs.map (T.ca m t)⟩)::zd (z1r (denH T.toTT0 h) mv) k:=by
    simp only [denH,denR,hs,← zu,zyy]
   rw [goal]
   rcases hm with rfl | rfl
   ·cases mv with
    | none=>exact zc.rfl'
    | some k2 =>
     have hne:k2 ≠ k:=by
      simp only [isO,z1b,decide_eq_false_iff_not] at hk
      exact hk
     have:=zc.drop (P:=P) (pro:=pro) (e:=upd (z1i (fun k' _=>k'==k) e') d (.sl k [] 0 zs.length)) (h:=(k,⟨s,zs.map (T.ca m t)⟩)::zd (denH T.toTT0 h) k) k2
     simp only [zd,if_neg (Ne.symm hne)] at this
     rw [zfs] at this
     exact this
   ·exact zc.rfl'
  refine zc.trans hheap (zc.le fun u=>?_)
  have hl:ze (denH T.toTT0 ((k,.typ m t zs)::delT (z7z h mv) k)) k []=zs.length:=by
   unfold ze res
   simp [denH,za,resE,denR]
  simp only [z1i,upd]
  split
  ·simp only [den,hl]; exact AVle.refl _
  ·exact z85 (fun k' q hk'=>by simp only [beq_iff_eq] at hk'; subst hk'; simp) _
 ·simp only [Bool.or_eq_false_iff,z1b,decide_eq_false_iff_not] at hb
  exact hsame k' hb.1 hb.2
 ·simp only [List.contains_cons,Bool.or_eq_false_iff,beq_eq_false_iff_ne] at hk'
  refine hsame k' hk'.1 ?_
  cases mv with
  | none=>rfl
  | some k2 =>
   have:=hk'.2
   simp only [Option.toList,List.contains_cons,Bool.or_eq_false_iff,beq_eq_false_iff_ne] at this
   simp only [isO,z1b,decide_eq_false_iff_not]
   exact fun e=>this.1 e.symm
theorem ztf {P:Program} {ty:Option (Bool×Nat)} {pro:List Nat} {e:TE T.toTT0} {h:TH T.toTT0} {d s bytes:Nat} {g:Option (Nat×Bool)} {x y:Operand} {st:StT T} (hg:(apT ty pro e h d s bytes x y).gives st):StOk P pro T e h ⟨d,g,.app s bytes x y⟩ st:=by
 have nob:∀ {b:Bool} {X:Type} {r:Rs X} {v:X},(bif b then .no else r).gives v→b=false∧r.gives v:=fun {b _ _ _} hg=>by
  cases b
  ·exact ⟨rfl,hg⟩
  ·exact hg.elim
 have take:∀ {k:Nat} {mv mv':Option Nat} {r:TR T.El},isO mv k=false→(mv'=none∨mv'=mv)→getT h k=some r→za (z1r (denH T.toTT0 h) mv') k=some (denR T.toTT0 r):=fun {k mv mv' r} hk hm hr=>by
  have h0:za (denH T.toTT0 h) k=some (denR T.toTT0 r):=by rw [z1p,hr]; rfl
  rcases hm with rfl | rfl
  ·exact h0
  ·cases mv' with
   | none=>exact h0
   | some k2 =>
    have hne:k2 ≠ k:=by
     simp only [isO,z1b,decide_eq_false_iff_not] at hk
     exact hk
    rw [z1r,zz (Ne.symm hne),h0]
 unfold apT at hg
 split at hg
 ·rename_i hx
  split at hg
  ·exact hg.elim
  ·rename_i m t
   obtain ⟨hp,hg⟩:=nob hg
   obtain ⟨⟨ws,mv⟩,hsrc,hg⟩:=Rs.bind_gives _ hg
   obtain ⟨hk,hg⟩:=nob hg
   obtain ⟨hc,rfl⟩:=hg
   obtain ⟨hs,mv',h1,h2⟩:=zjj hsrc
   refine zm2 hp hs hk h2 ?_
   simp only [apop,zg,h1,hx,den,List.length_map]
   rw [if_pos hc]
 ·rename_i k hx
  split at hg
  ·rename_i m t xs hr
   obtain ⟨hp,hg⟩:=nob hg
   obtain ⟨⟨ws,mv⟩,hsrc,hg⟩:=Rs.bind_gives _ hg
   obtain ⟨hk,hg⟩:=nob hg
   obtain ⟨hc,rfl⟩:=hg
   obtain ⟨hs,mv',h1,h2⟩:=zjj hsrc
   refine zm2 hp hs hk h2 ?_
   have hgr:za (denH T.toTT0 h) k=some (denR T.toTT0 (.typ m t xs)):=by rw [z1p,hr]; rfl
   have hl:ze (denH T.toTT0 h) k []=xs.length:=by rw [z3g hgr]; simp [lenR,resE,denR]
   simp only [apop,zg,h1,hx,den,hl,take hk h2 hr,denR,List.length_map]
   rw [if_pos ⟨trivial,trivial⟩,if_pos ⟨hs,Nat.le_refl _,hc⟩,List.take_of_length_le (by simp),List.map_append,List.length_append]
  ·exact hg.elim
 ·rename_i k len hx
  split at hg
  ·rename_i m t xs hr
   obtain ⟨hp,hg⟩:=nob hg
   obtain ⟨⟨ws,mv⟩,hsrc,hg⟩:=Rs.bind_gives _ hg
   obtain ⟨hk,hg⟩:=nob hg
   obtain ⟨⟨hc1,hc⟩,rfl⟩:=hg
   obtain ⟨hs,mv',h1,h2⟩:=zjj hsrc
   refine zm2 hp hs hk h2 ?_
   simp only [apop,zg,h1,hx,den,take hk h2 hr,denR,List.length_map]
   rw [if_pos ⟨trivial,trivial⟩,if_pos ⟨hs,hc1,hc⟩,List.map_append,List.map_take,List.length_append,List.length_take,Nat.min_eq_left hc1]
  ·exact hg.elim
 ·exact hg.elim
end
section
variable {T:TT}
mutual
theorem zbm {H0 H1:H} {bad:Nat→Path→Bool} (hl:∀ k p,bad k p=false→ze H1 k p=ze H0 k p):∀ (v:VT T),kill bad (den T.toTT0 H0 v)=den T.toTT0 H1 (z2i bad (fun _ _=>false) v)
 | .un | .sc _ | .ik _ _ | .bk _ | .zs | .im _ _ | .ip _ _ _ | .ow _ _ _ | .oo _ _ _ _ _=>rfl
 | .pp q=>(zcp q).symm
 | .ag cs=>by simp only [den,kill,z2i,zcq hl cs]
 | .tu cs=>by simp only [den,kill,z2i,zcq hl cs]
 | .fn f cs=>by simp only [den,kill,z2i,zcq hl cs]
 | .sl k p off len=>by
  simp only [den,kill,z2i]
  cases h1:bad k p <;> rfl
 | .pt k p i c=>by
  simp only [den,kill,z2i]
  cases h1:bad k p <;> rfl
 | .sw k p=>by
  simp only [den,kill,z2i,Bool.or_false]
  cases h1:bad k p with
  | true=>rfl
  | false=>simp only [Bool.false_eq_true,if_false,cond_false,den,hl k p h1]
theorem zcq {H0 H1:H} {bad:Nat→Path→Bool} (hl:∀ k p,bad k p=false→ze H1 k p=ze H0 k p):∀ (l:List (VT T)),z2n bad (denL T.toTT0 H0 l)=denL T.toTT0 H1 (z75 bad (fun _ _=>false) l)
 | []=>rfl
 | x::l=>by simp only [denL,z2n,z75,zbm hl x,zcq hl l]
end
mutual
theorem zge:∀ (v:VT T),z2i (fun _ _=>false) (fun _ _=>false) v=v
 | .un | .sc _ | .ik _ _ | .bk _ | .zs | .im _ _ | .ip _ _ _ | .ow _ _ _ | .oo _ _ _ _ _ | .sl _ _ _ _ | .pt _ _ _ _ | .sw _ _=>rfl
 | .pp q=>by cases q <;> rfl
 | .ag cs=>by simp only [z2i,zal cs]
 | .tu cs=>by simp only [z2i,zal cs]
 | .fn f cs=>by simp only [z2i,zal cs]
theorem zal:∀ (l:List (VT T)),z75 (fun _ _=>false) (fun _ _=>false) l=l
 | []=>rfl
 | x::l=>by simp only [z75,zge x,zal l]
end
def zs8 {X:Type} (i:Nat) (K:List (VT T)→Rs X):TR T.El→Rs X
 | .lit s xs=>match xs[i]? with | some cs=>K cs | none=>.no
 | .typ m t xs=>.bnd (xs[i]?) fun y=>K (T.ct m t y)
 | .opn m t xs j cs=>.need (i=j∧j<xs.length) (K cs)
theorem zzn {X:Type} {i:Nat} {K:List (VT T)→Rs X} {r:TR T.El} {v:X} (hg:(zs8 i K r).gives v):∃ cs,(denR T.toTT0 r).xs[i]? = some (denL T.toTT0 [] cs)∧(K cs).gives v:=by
 cases r with
 | lit s xs =>
  simp only [zs8] at hg
  split at hg
  ·rename_i cs hcs
   exact ⟨cs,by simp [denR,hcs],hg⟩
  ·exact hg.elim
 | typ m t xs =>
  obtain ⟨y,hy,hg⟩:=hg
  exact ⟨T.ct m t y,by simp [denR,hy,T.ct_ok],hg⟩
 | opn m t xs j cs =>
  obtain ⟨⟨rfl,hj⟩,hg⟩:=hg
  exact ⟨cs,by simp only [denR]; rw [List.getElem?_set_self (by simpa using hj)],hg⟩
def zi6:Path→Option (Path×Nat×Nat)
 | []=>none
 | [(i,c)]=>some ([],i,c)
 | x::p=>match zi6 p with | some (q,i,c)=>some (x::q,i,c) | none=>none
theorem zks:∀ (p q:Path) (i c:Nat),zi6 p=some (q,i,c)→p=q++[(i,c)]
 | [],_,_,_,h=>by cases h
 | [(i,c)],_,_,_,h=>by cases h; rfl
 | x::y::p,q,i,c,h=>by
  simp only [zi6] at h
  split at h
  ·rename_i q' i' c' h'
   cases h
   rw [zks (y::p) q' i c h']
   rfl
  ·cases h
def detT (pro:List Nat) (h:TH T.toTT0) (j k:Nat) (p:Path) (i c:Nat):Rs (TH T.toTT0) :=
 bif pro.contains j || (h.map Prod.fst).contains j then .no else
 match getT h k with
 | none=>.no
 | some r=>z8a (zs8 i fun cs=>match (cs[c]?).bind zfg with
  | none=>.no
  | some rj=>(updT (putT false i c 1 [.un]) p r).bind fun r'=>.ok ((j,rj)::(k,r')::delT h k)) p r
def z67 (j k:Nat) (p:Path) (c:Nat) (k':Nat) (q:Path):Bool:=Nat.beq k' j || under k p c 1 k' q
theorem y4j {P:Program} {pro:List Nat} {h h1:TH T.toTT0} {j k i c:Nat} {p:Path} (hg:(detT pro h j k p i c).gives h1) :
  (∀ (e:Env) (t:Nat),e t = .sl k (p++[(i,c)]) 0 (ze (denH T.toTT0 h) k (p++[(i,c)]))→zc P pro e (denH T.toTT0 h) (upd (z1i (z67 j k p c) e) t (.sl j [] 0 (ze (denH T.toTT0 h1) j []))) (denH T.toTT0 h1)) ∧
  (∀ k' q,z67 j k p c k' q=false→ze (denH T.toTT0 h1) k' q=ze (denH T.toTT0 h) k' q)∧(∀ k',k' ≠ j→k' ≠ k→za (denH T.toTT0 h1) k'=za (denH T.toTT0 h) k'):=by
 unfold detT at hg
 have hj:pro.contains j=false∧(h.map Prod.fst).contains j=false:=by
  cases hb:(pro.contains j || (h.map Prod.fst).contains j) with
  | true=>rw [hb] at hg; exact hg.elim
  | false=>simpa using hb
 rw [hj.1,hj.2] at hg
 simp only [Bool.or_false,cond_false] at hg
 split at hg
 ·exact hg.elim
 ·rename_i r hr
  obtain ⟨ry,hp,hg⟩:=z6t _ _ hg
  obtain ⟨cs,hcs,hg⟩:=zzn hg
  split at hg
  ·exact hg.elim
  ·rename_i rj hrj
   obtain ⟨r',hup,hg⟩:=Rs.bind_gives _ hg
   cases hg
   obtain ⟨v,hv,hrow⟩:=Option.bind_eq_some_iff.1 hrj
   have hgr:za (denH T.toTT0 h) k=some (denR T.toTT0 r):=by rw [z1p,hr]; rfl
   have hcell:(denL T.toTT0 [] cs)[c]? = some (.ow (denR T.toTT0 rj).s (denR T.toTT0 rj).xs):=by rw [z31,hv,Option.map_some,z8e hrow]
   have hlen:ze (denH T.toTT0 h) k (p++[(i,c)])=(denR T.toTT0 rj).xs.length:=by
    rw [z3g hgr]
    unfold lenR
    rw [zb0 p _ _ _ _ _ hp]
    simp [resE,hcs,hcell]
   obtain ⟨s1,ys,t1,⟨x0,t2,t4⟩,t3⟩:=zbu (f:=putT false i c 1 [.un]) (F:=z1j i c 1 [.un]) (G:=fun _ ys=>∃ x0,ys[i]? = some x0∧c+1≤x0.length) (fun r0 r1 h0=>by
    obtain ⟨h1,h2⟩:=zjf r0 r1 h0
    refine ⟨h1,?_⟩
    rw [h2]
    have:tgR (T:=T) false r0=fun _=>none:=by cases r0 <;> rfl
    rw [this,z5i]
    rfl) p r r' hup
   rw [t1] at hp
   simp only [Option.some.injEq,Prod.mk.injEq] at hp
   obtain ⟨rfl,rfl⟩:=hp
   have hx0:x0=denL T.toTT0 [] cs:=by rw [t2] at hcs; exact Option.some.inj hcs
   have hset:updE (denR T.toTT0 r).xs p (z1j i c 1 [.un])=updE (denR T.toTT0 r).xs p (fun ys=>ys.set i ((denL T.toTT0 [] cs).set c .un)):=by
    refine ziv p _ _ _ _ t1 ?_
    simp only [z1j,t2,hx0]
    congr 1
    rw [List.set_eq_take_append_cons_drop]
    rw [hx0] at t4
    rw [if_pos (by omega)]
    simp
   have hjk:j ≠ k:=fun e=>by
    have:(h.map Prod.fst).contains k=true:=by
     have:=z8y _ hgr
     rw [z1e] at this
     simpa using this
    rw [← e,hj.2] at this
    cases this
   have hlj:ze (denH T.toTT0 ((j,rj)::(k,r')::delT h k)) j []=(denR T.toTT0 rj).xs.length:=by
    unfold ze res; simp [denH,za,resE]
   refine ⟨fun e t ht=>?_,fun k' q hb=>?_,fun k' h1 h2=>by simp only [denH,za]; rw [if_neg (fun e=>h1 e.symm),if_neg (fun e=>h2 e.symm),← zu,zz h2]⟩
   ·rw [hlen] at ht
    have:=zc.detachAt (P:=P) (pro:=pro) (e:=e) (h:=denH T.toTT0 h) (t:=t) (s0:=(denR T.toTT0 ry).s) j ht hgr t1 hcs hcell (by rw [z1e]; exact hj.2) (by
     rw [List.all_eq_true]
     intro k' hk'
     simp only [bne_iff_ne,ne_eq]
     rintro rfl
     have:=hj.1
     simp [hk'] at this)
    rw [hlj]
    have hh:denH T.toTT0 ((j,rj)::(k,r')::delT h k)=(j,⟨(denR T.toTT0 rj).s,(denR T.toTT0 rj).xs⟩)::(k,⟨(denR T.toTT0 r).s,updE (denR T.toTT0 r).xs p (fun ys=>ys.set i ((denL T.toTT0 [] cs).set c .un))⟩)::zd (denH T.toTT0 h) k:=by
     simp only [denH,t3,hset,zu]
    rw [hh]
    have hb:(fun k' q=>k'==j || under k p c 1 k' q)=z67 j k p c:=by
     funext k' q
     unfold z67
     congr 1
     rw [Bool.eq_iff_iff]; simp
    rw [hb] at this
    exact this
   ·simp only [z67,Bool.or_eq_false_iff,z1b,decide_eq_false_iff_not] at hb
    by_cases hk:k'=k
    ·subst hk
     rw [z3g (r:=denR T.toTT0 r') (by simp [denH,za,hjk]),z3g hgr,t3]
     exact zgf (k:=k') rfl p _ _ _ _ x0 q t1 t2 t4 hb.2
    ·refine z1a ?_
     simp only [denH,za]
     rw [if_neg (fun e=>hb.1 e.symm),if_neg (fun e=>hk e.symm),← zu,zz hk]
def appT (ty:Option (Bool×Nat)) (pro:List Nat) (e:TE T.toTT0) (h:TH T.toTT0) (d s bytes:Nat) (x y:Operand):Rs (StT T) :=
 match evT e x,x with
 | .sw k (z::p),.tmp t =>
  match zi6 (z::p) with
  | none=>.no
  | some (p,i,c) =>
   let j:=400000+d
   (detT pro h j k p i c).bind fun h1 =>
    (apT ty pro (putE (z5g (z67 j k p c) (fun _ _=>false) e) t (.sw j [])) h1 d s bytes x y).bind fun st =>
     .ok ⟨st.v,fun k' q=>z67 j k p c k' q || st.bad k' q,st.bw,j::k::st.tch,st.h⟩
 | _,_=>apT ty pro e h d s bytes x y
theorem zt6 {k i c:Nat} {p:Path}:under k p c 1 k (p++[(i,c)])=true:=by
 simp [under]
theorem zp7 {P:Program} {ty:Option (Bool×Nat)} {pro:List Nat} {e:TE T.toTT0} {h:TH T.toTT0} {d s bytes:Nat} {g:Option (Nat×Bool)} {x y:Operand} {st:StT T} (hg:(appT ty pro e h d s bytes x y).gives st):StOk P pro T e h ⟨d,g,.app s bytes x y⟩ st:=by
 unfold appT at hg
 split at hg
 ·rename_i k z p0 t hx
  split at hg
  ·exact hg.elim
  ·rename_i p i c hlast
   obtain ⟨h1,hd,hg⟩:=Rs.bind_gives _ hg
   obtain ⟨st1,ha,hg⟩:=Rs.bind_gives _ hg
   cases hg
   obtain ⟨d1,d2,d3⟩:=y4j (P:=P) hd
   obtain ⟨a1,a2,a3⟩:=ztf (P:=P) (g:=g) ha
   have hp:=zks _ _ _ _ hlast
   refine ⟨fun e' he=>?_,fun k' q hb hw=>?_,fun k' hk'=>?_⟩
   ·have het:e' t = .sl k (p++[(i,c)]) 0 (ze (denH T.toTT0 h) k (p++[(i,c)])):=by
     rw [he t (by simp [z3a,opsK,zfi])]
     show den T.toTT0 _ (evT e (.tmp t))=_
     rw [hx,hp]; rfl
    have hgh:=d1 e' t het
    obtain ⟨e0,h0',e1,h1',g1,gb,g2,g3⟩:=a1 (upd (z1i (z67 (400000+d) k p c) e') t (.sl (400000+d) [] 0 (ze (denH T.toTT0 h1) (400000+d) []))) (fun u hu=>by
     rw [zy]
     simp only [upd]
     split
     ·rfl
     ·simp only [z1i,denE,z2v]
      rw [he u hu]
      exact zbm d2 _)
    refine ⟨e0,h0',e1,h1',hgh.trans g1,fun u b hu=>gb u b ?_,g2,g3.trans (zc.le fun u=>?_)⟩
    ·simp only [upd]
     split
     ·rename_i hut
      subst hut
      rw [het] at hu; cases hu
     ·simp only [z1i,hu,kill]
    simp only [upd]
    split
    ·exact AVle.refl _
    ·split
     ·rename_i hu
      subst hu
      have:kill (fun k' q=>z67 (400000+d) k p c k' q || st1.bad k' q) (e' u) = .un:=by
       rw [het]; simp [kill,z67,zt6]
      rw [this]; exact AVle.un _
     ·simp only [z1i]
      rw [zam.1]
      exact AVle.refl _
   ·simp only [Bool.or_eq_false_iff] at hb
    rw [a2 k' q hb.2 hw,d2 k' q hb.1]
   ·simp only [List.contains_cons,Bool.or_eq_false_iff,beq_eq_false_iff_ne] at hk'
    rw [a3 k' hk'.2.2,d3 k' hk'.1 hk'.2.1]
 ·exact ztf hg
end
section
variable {P:Program} {T:TT} {pro:List Nat}
def renP (k i c k':Nat) (p:Path):Option Path :=
 match p with
 | []=>none
 | (i',c')::q=>bif Nat.beq k' k && (Nat.beq c' c && Nat.beq i' i) then some q else none
mutual
def renT (k i c j:Nat):VT T→VT T
 | .sl k' p off len=>bif Nat.beq k' j then .un else match renP k i c k' p with | some q=>.sl j q off len | none=>.sl k' p off len
 | .sw k' p=>bif Nat.beq k' j then .un else match renP k i c k' p with | some q=>.sw j q | none=>.sw k' p
 | .pt k' p o c0=>bif Nat.beq k' j then .un else match renP k i c k' p with | some q=>.pt j q o c0 | none=>.pt k' p o c0
 | .ag cs=>.ag (zfe k i c j cs)
 | .tu cs=>.tu (zfe k i c j cs)
 | .fn f cs=>.fn f (zfe k i c j cs)
 | .un=>.un
 | .sc v=>.sc v
 | .ik k n=>.ik k n
 | .bk b=>.bk b
 | .zs=>.zs
 | .im t xs=>.im t xs
 | .ip s cs c=>.ip s cs c
 | .ow m t xs=>.ow m t xs
 | .oo m t xs i cs=>.oo m t xs i cs
 | .pp q=>zbl (fun k' _=>Nat.beq k' j) q
def zfe (k i c j:Nat):List (VT T)→List (VT T)
 | []=>[]
 | x::l=>renT k i c j x::zfe k i c j l
end
theorem zym {k i c k':Nat} {p:Path} (h:renP k i c k' p=none):∀ q,¬ (k'=k∧p=(i,c)::q):=by
 rintro q ⟨rfl,rfl⟩
 simp [renP] at h
theorem zyn {k i c k':Nat} {p q:Path} (h:renP k i c k' p=some q):k'=k∧p=(i,c)::q:=by
 unfold renP at h
 split at h
 ·cases h
 ·rename_i i' c' q'
  cases hb:(Nat.beq k' k && (Nat.beq c' c && Nat.beq i' i)) with
  | false=>rw [hb] at h; cases h
  | true =>
   rw [hb] at h
   cases h
   simp only [Bool.and_eq_true] at hb
   exact ⟨Nat.eq_of_beq_eq_true hb.1,by rw [Nat.eq_of_beq_eq_true hb.2.1,Nat.eq_of_beq_eq_true hb.2.2]⟩
theorem zrg {k i c j k':Nat} {p:Path} {off len:Nat}:renV k i c j (.sl k' p off len)=if k'=j then .un else match renP k i c k' p with | some q=>.sl j q off len | none=>.sl k' p off len:=by
 unfold renV
 split
 ·rfl
 ·cases p with
  | nil=>rfl
  | cons x q =>
   obtain ⟨i',c'⟩:=x
   simp only [renP,z1b]
   by_cases h:k'=k∧i'=i∧c'=c
   ·obtain ⟨rfl,rfl,rfl⟩:=h; simp
   ·rw [if_neg h]
    have:(decide (k'=k) && (decide (c'=c) && decide (i'=i)))=false:=by
     rw [Bool.eq_false_iff]
     intro hb
     simp only [Bool.and_eq_true,decide_eq_true_eq] at hb
     exact h ⟨hb.1,hb.2.2,hb.2.1⟩
    rw [this]; rfl
theorem y5p {k i c j k':Nat} {p:Path} {o c0:Nat}:renV k i c j (.pt k' p o c0)=if k'=j then .un else match renP k i c k' p with | some q=>.pt j q o c0 | none=>.pt k' p o c0:=by
 unfold renV
 split
 ·rfl
 ·cases p with
  | nil=>rfl
  | cons x q =>
   obtain ⟨i',c'⟩:=x
   simp only [renP,z1b]
   by_cases h:k'=k∧i'=i∧c'=c
   ·obtain ⟨rfl,rfl,rfl⟩:=h; simp
   ·rw [if_neg h]
    have:(decide (k'=k) && (decide (c'=c) && decide (i'=i)))=false:=by
     rw [Bool.eq_false_iff]
     intro hb
     simp only [Bool.and_eq_true,decide_eq_true_eq] at hb
     exact h ⟨hb.1,hb.2.2,hb.2.1⟩
    rw [this]; rfl
mutual
theorem zoa {H0 H1:H} {k i c j:Nat} (h1:∀ q,ze H1 j q=ze H0 k ((i,c)::q)) (h2:∀ k' q,k' ≠ j→(∀ q',¬ (k'=k∧q=(i,c)::q'))→ze H1 k' q=ze H0 k' q):∀ (v:VT T),den T.toTT0 H1 (renT k i c j v)=renV k i c j (den T.toTT0 H0 v)
 | .un | .sc _ | .ik _ _ | .bk _ | .zs | .im _ _ | .ip _ _ _ | .ow _ _ _ | .oo _ _ _ _ _=>by simp only [renT,den,renV]
 | .pp q=>by
  simp only [renT,den]
  rw [zcp]
  have hb:(fun (k':Nat) (_:Path)=>Nat.beq k' j)=fun k' _=>k'==j:=by funext k' _; rw [z1b]; simp only [BEq.beq]
  rw [hb]
  cases q with
  | px k' c0 =>
   simp only [denP,kill,renV]
   by_cases hj:k'=j <;> simp [hj]
  | _=>rfl
 | .ag cs=>by simp only [renT,den,renV,zap h1 h2 cs]
 | .tu cs=>by simp only [renT,den,renV,zap h1 h2 cs]
 | .fn f cs=>by simp only [renT,den,renV,zap h1 h2 cs]
 | .sl k' p off len=>by
  simp only [renT,den,zrg,z1b]
  by_cases hj:k'=j
  ·simp [hj,den]
  ·simp only [hj,decide_false,cond_false,if_false]
   cases renP k i c k' p <;> rfl
 | .pt k' p o c0=>by
  simp only [renT,den,y5p,z1b]
  by_cases hj:k'=j
  ·simp [hj,den]
  ·simp only [hj,decide_false,cond_false,if_false]
   cases renP k i c k' p <;> rfl
 | .sw k' p=>by
  simp only [renT,den,zrg,z1b]
  by_cases hj:k'=j
  ·simp [hj,den]
  ·simp only [hj,decide_false,cond_false,if_false]
   cases hr:renP k i c k' p with
   | some q =>
    obtain ⟨rfl,rfl⟩:=zyn hr
    simp only [den,h1]
   | none =>
    simp only [den,h2 k' p hj (zym hr)]
theorem zap {H0 H1:H} {k i c j:Nat} (h1:∀ q,ze H1 j q=ze H0 k ((i,c)::q)) (h2:∀ k' q,k' ≠ j→(∀ q',¬ (k'=k∧q=(i,c)::q'))→ze H1 k' q=ze H0 k' q):∀ (l:List (VT T)),denL T.toTT0 H1 (zfe k i c j l)=zaq k i c j (denL T.toTT0 H0 l)
 | []=>rfl
 | x::l=>by simp only [zfe,denL,zaq,zoa h1 h2 x,zap h1 h2 l]
end
def z7x (k i c j:Nat):TE T.toTT0→TE T.toTT0
 | []=>[]
 | (t,v)::l=>(t,renT k i c j v)::z7x k i c j l
theorem zgb {k i c j t:Nat}:∀ (e:TE T.toTT0),getE (z7x k i c j e) t=renT k i c j (getE e t)
 | []=>by simp [z7x,getE,renT]
 | (t',v)::l=>by
  have ih:=zgb (k:=k) (i:=i) (c:=c) (j:=j) (t:=t) l
  simp only [z7x,getE]
  cases Nat.beq t t' <;> simp [ih]
def zha (pro:List Nat) (h:TH T.toTT0) (j k i c:Nat):Option (TH T.toTT0) :=
 bif pro.contains j || (h.map Prod.fst).contains j then none else
 match getT h k with
 | some (.lit s xs)=>match xs[i]? with
  | some cs=>match (cs[c]?).bind zfg with
   | some rj=>some ((j,rj)::(k,.lit s (xs.set i (cs.set c .un)))::delT h k)
   | none=>none
  | none=>none
 | _=>none
theorem zg7 {h h1:TH T.toTT0} {e:TE T.toTT0} {j k i c:Nat} (hg:zha pro h j k i c=some h1) :
  zc P pro (denE T.toTT0 (denH T.toTT0 h) e) (denH T.toTT0 h) (denE T.toTT0 (denH T.toTT0 h1) (z7x k i c j e)) (denH T.toTT0 h1):=by
 unfold zha at hg
 have hj:pro.contains j=false∧(h.map Prod.fst).contains j=false:=by
  cases hb:(pro.contains j || (h.map Prod.fst).contains j) with
  | true=>rw [hb] at hg; cases hg
  | false=>simpa using hb
 rw [hj.1,hj.2] at hg
 simp only [Bool.or_false,cond_false] at hg
 split at hg
 ·rename_i s xs hr
  split at hg
  ·rename_i cs hcs
   split at hg
   ·rename_i rj hrj
    cases hg
    obtain ⟨v,hv,hrow⟩:=Option.bind_eq_some_iff.1 hrj
    have hgr:za (denH T.toTT0 h) k=some ⟨s,xs.map (denL T.toTT0 [])⟩:=by rw [z1p,hr]; rfl
    have hx:(xs.map (denL T.toTT0 []))[i]? = some (denL T.toTT0 [] cs):=by simp [hcs]
    have hcell:(denL T.toTT0 [] cs)[c]? = some (.ow (denR T.toTT0 rj).s (denR T.toTT0 rj).xs):=by rw [z31,hv,Option.map_some,z8e hrow]
    have hjk:j ≠ k:=fun e=>by
     have:(h.map Prod.fst).contains k=true:=by
      have:=z8y _ hgr
      rw [z1e] at this
      simpa using this
     rw [← e,hj.2] at this
     cases this
    have:=zc.detach (P:=P) (pro:=pro) (e:=denE T.toTT0 (denH T.toTT0 h) e) j hgr hx hcell (by rw [z1e]; exact hj.2) (by
     rw [List.all_eq_true]
     intro k' hk'
     simp only [bne_iff_ne,ne_eq]
     rintro rfl
     have:=hj.1
     simp [hk'] at this)
    have hh:denH T.toTT0 ((j,rj)::(k,TR.lit s (xs.set i (cs.set c .un)))::delT h k)=(j,⟨(denR T.toTT0 rj).s,(denR T.toTT0 rj).xs⟩)::(k,⟨s,(xs.map (denL T.toTT0 [])).set i ((denL T.toTT0 [] cs).set c .un)⟩)::zd (denH T.toTT0 h) k:=by
     simp only [denH,denR,zu,List.map_set]
     congr 3
     simp only [zx,List.map_set]
     rfl
    rw [hh]
    have he:denE T.toTT0 ((j,⟨(denR T.toTT0 rj).s,(denR T.toTT0 rj).xs⟩)::(k,⟨s,(xs.map (denL T.toTT0 [])).set i ((denL T.toTT0 [] cs).set c .un)⟩)::zd (denH T.toTT0 h) k) (z7x k i c j e)=fun t=>renV k i c j (denE T.toTT0 (denH T.toTT0 h) e t):=by
     funext t
     simp only [denE,zgb]
     refine zoa (fun q=>?_) (fun k' q hk hq=>?_) _
     ·unfold ze res
      rw [hgr]
      simp only [za,if_true,resE,hx,hcell]
     ·by_cases hkk:k'=k
      ·subst hkk
       unfold ze res
       rw [hgr]
       simp only [za]
       rw [if_neg hjk]
       simp only [if_true]
       cases q with
       | nil=>simp [resE]
       | cons z q =>
        obtain ⟨i',c'⟩:=z
        simp only [resE,List.getElem?_set]
        by_cases hi:i=i'
        ·subst hi
         have hil:i<(xs.map (denL T.toTT0 [])).length:=by
          obtain ⟨hl,_⟩:=List.getElem?_eq_some_iff.1 hx
          exact hl
         simp only [if_true,hil,hx]
         have hcc:c ≠ c':=fun e=>by subst e; exact hq q ⟨rfl,rfl⟩
         rw [List.getElem?_set_ne hcc]
        ·simp only [hi,if_false]
      ·refine z1a ?_
       simp only [za]
       rw [if_neg (fun e=>hk e.symm),if_neg (fun e=>hkk e.symm),zz hkk]
    rw [he]
    exact this
   ·cases hg
  ·cases hg
 ·cases hg
def y9y:VT T→Option (Nat×Nat×Nat)
 | .sw k [(i,c)]=>some (k,i,c)
 | _=>none
def zc5 (pro:List Nat):Nat→TE T.toTT0→TH T.toTT0→List (VT T)→Option (TE T.toTT0×TH T.toTT0)
 | _,e,h,[]=>some (e,h)
 | j,e,h,x::l=>match y9y x with
  | some (k,i,c)=>match zha pro h j k i c with | some h1=>zc5 pro (j+1) (z7x k i c j e) h1 l | none=>none
  | none=>zc5 pro (j+1) e h l
theorem ze2 {k i c j t:Nat} {e:TE T.toTT0} {H0 H1:H} {b:Bool} (h:denE T.toTT0 H0 e t=Bl b):denE T.toTT0 H1 (z7x k i c j e) t=Bl b:=by
 simp only [denE,zgb] at h ⊢
 cases hv:getE e t <;> rw [hv] at h <;> first | (rename_i q; cases q <;> cases h; done) | (simp [den] at h <;> simp [renT,den,h])
theorem zc6:∀ (l:List (VT T)) (j:Nat) (e e1:TE T.toTT0) (h h1:TH T.toTT0),zc5 pro j e h l=some (e1,h1) →
  zc P pro (denE T.toTT0 (denH T.toTT0 h) e) (denH T.toTT0 h) (denE T.toTT0 (denH T.toTT0 h1) e1) (denH T.toTT0 h1)∧∀ t b,denE T.toTT0 (denH T.toTT0 h) e t=Bl b→denE T.toTT0 (denH T.toTT0 h1) e1 t=Bl b
 | [],j,e,e1,h,h1,hg=>by
  simp only [zc5,Option.some.injEq,Prod.mk.injEq] at hg
  obtain ⟨rfl,rfl⟩:=hg
  exact ⟨zc.rfl',fun _ _ h=>h⟩
 | x::l,j,e,e1,h,h1,hg=>by
  simp only [zc5] at hg
  split at hg
  ·rename_i k i c heq
   split at hg
   ·rename_i h2 hd
    obtain ⟨q1,q2⟩:=zc6 l (j+1) _ e1 _ h1 hg
    exact ⟨(zg7 hd).trans q1,fun t b hb=>q2 t b (ze2 hb)⟩
   ·cases hg
  ·exact zc6 l (j+1) e e1 h h1 hg
def zfa (e:TE T.toTT0):List Operand→List (VT T)
 | []=>[]
 | o::l=>match z6i (evT e o) with | some cs=>cs++zfa e l | none=>zfa e l
end
inductive VD where
 | any
 | im (t:Nat)
 | ag (l:List VD)
 | pt (key:Nat)
 | fn (f:Nat) (l:List VD)
section
variable {T:TT}
structure Con (P:Program) (T:TT) where
 f:Nat
 X:Type
 Y:Type
 A:List VD
 H:List (Nat×List Kd)
 N:List Nat
 encA:X→List (VT T)
 encH:X→TH T.toTT0
 G:X→Option Y
 encR:Y→VT T
 encO:Y→TH T.toTT0
 strong:Bool
 ok:∀ x y,G x=some y→(strong=true→z28 P f (denL T.toTT0 (denH T.toTT0 (encH x)) (encA x)) (denH T.toTT0 (encH x)) (den T.toTT0 (denH T.toTT0 (encO y)) (encR y)) (denH T.toTT0 (encO y))) ∧
  CallG P f (denL T.toTT0 (denH T.toTT0 (encH x)) (encA x)) (denH T.toTT0 (encH x)) (den T.toTT0 (denH T.toTT0 (encO y)) (encR y)) (denH T.toTT0 (encO y))
 x:Bool:=false
 V:Type:=Empty
 encV:V→Value:=by intro z; cases z
 FX:X→Option (Y⊕V):=fun _=>none
 okX:∀ x r,FX x=some r→match r with
  | .inl y=>CallG P f (denL T.toTT0 (denH T.toTT0 (encH x)) (encA x)) (denH T.toTT0 (encH x)) (den T.toTT0 (denH T.toTT0 (encO y)) (encR y)) (denH T.toTT0 (encO y))
  | .inr z=>z5p P f (denL T.toTT0 (denH T.toTT0 (encH x)) (encA x)) (denH T.toTT0 (encH x)) (encV z):=by intro _ _ h; cases h
mutual
def yct:VD→VT T→Option (List (Nat×Nat))
 | .pt key,.pt k [] 0 0=>some [(key,k)]
 | .pt _,_=>none
 | .fn f ds,.fn f' cs=>bif Nat.beq f f' then zix ds cs else none
 | .fn _ _,_=>none
 | .ag ds,.ag cs=>zix ds cs
 | .ag _,_=>none
 | .any,_=>some []
 | .im _,_=>some []
def zix:List VD→List (VT T)→Option (List (Nat×Nat))
 | [],[]=>some []
 | d::ds,v::vs=>match yct d v,zix ds vs with | some a,some b=>some (a++b) | _,_=>none
 | _,_=>none
end
mutual
def zlm (rest:TH T.toTT0) (m:List (Nat×Nat)):VD→VT T→RT T
 | .any,.sc v=>.ok (.sc v)
 | .any,.ik k n=>.ok (.sc (.int k n))
 | .any,.bk b=>.ok (.sc (.bool b))
 | .any,.zs=>.ok .zs
 | .any,.im t xs=>.ok (.im t xs)
 | .any,_=>.no
 | .im t,.im t' xs=>bif Nat.beq t t' then .ok (.im t' xs) else .no
 | .im t,.zs=>.ok (.im t [])
 | .im t,.sw k p=>bif (m.map Prod.snd).contains k then .no else atT rest k p fun
  | .typ _ t' xs=>bif Nat.beq t t' then .ok (.im t' xs) else .no
  | _=>.no
 | .im t,.sl k p off len=>atT rest k p fun
  | .typ _ t' xs=>bif Nat.beq t t' then .need (off+len≤xs.length) (.ok (.im t' ((xs.drop off).take len))) else .no
  | _=>.no
 | .im _,_=>.no
 | .ag ds,.ag cs=>(zb4 rest m ds cs).bind fun cs'=>.ok (.ag cs')
 | .ag _,_=>.no
 | .pt _,.pt k [] i c=>match z1k m k with | some n=>.ok (.pt n [] i c) | none=>.no
 | .pt _,_=>.no
 | .fn _ ds,.fn f cs=>(zb4 rest m ds cs).bind fun cs'=>.ok (.fn f cs')
 | .fn _ _,_=>.no
def zb4 (rest:TH T.toTT0) (m:List (Nat×Nat)):List VD→List (VT T)→Rs (List (VT T))
 | [],[]=>.ok []
 | d::ds,v::vs=>(zlm rest m d v).bind fun v'=>(zb4 rest m ds vs).bind fun vs'=>.ok (v'::vs')
 | _,_=>.no
end
mutual
def y3r:VT T→Bool
 | .sl _ _ _ _ | .sw _ _=>true
 | .ag cs=>z30 cs
 | .tu cs=>z30 cs
 | .fn _ cs=>z30 cs
 | .un | .sc _ | .ik _ _ | .bk _ | .zs | .im _ _ | .ip _ _ _ | .pt _ _ _ _ | .ow _ _ _ | .oo _ _ _ _ _ | .pp _=>false
def z30:List (VT T)→Bool
 | []=>false
 | x::l=>y3r x || z30 l
end
theorem z6w {m:Bool} {t:Nat} (xs:List (T.El t)):z2z (xs.map (T.ca m t))=xs.map (T.ca false t):=z4k (fun x=>T.im_ok m t x) xs
mutual
theorem zzk {H0 Hn:H} {rest:TH T.toTT0} {m:List (Nat×Nat)} {bor:Bool} (hs:∀ k,(m.map Prod.snd).contains k=false→za (denH T.toTT0 rest) k=za H0 k) :
  ∀ (d:VD) (v v':VT T),(zlm rest m d v).gives v'→(y3r v=true→bor=true)→∃ a,conv (denH T.toTT0 rest) m bor (den T.toTT0 H0 v)=some a∧AVle a (den T.toTT0 Hn v')
 | .any,v,v',hg,hb=>by
  cases v <;> first | exact hg.elim | (cases hg; exact ⟨_,rfl,AVle.refl _⟩)
 | .im t,v,v',hg,hb=>by
  cases v with
  | im t' xs =>
   obtain ⟨h1,rfl⟩:=zp hg
   exact ⟨_,rfl,AVle.refl _⟩
  | zs=>cases hg; exact ⟨_,rfl,by simp only [den,List.map_nil]; exact AVle.zsIm _⟩
  | sw k p =>
   simp only [zlm] at hg
   cases hc:(m.map Prod.snd).contains k with
   | true=>rw [hc] at hg; exact hg.elim
   | false =>
    rw [hc,cond_false] at hg
    obtain ⟨r,hr,hg⟩:=z58 hg
    split at hg
    ·rename_i m' t' xs
     obtain ⟨h1,rfl⟩:=zp hg
     have hl:ze H0 k p=xs.length:=by
      have:res H0 k p=res (denH T.toTT0 rest) k p:=by unfold res; rw [hs k hc]
      unfold ze
      rw [this,hr]; simp [denR]
     have hbor:bor=true:=hb rfl
     refine ⟨_,?_,AVle.refl _⟩
     simp only [den,conv,hbor,if_true,hr,hl,denR]
     rw [if_pos (by simp),List.drop_zero,List.take_of_length_le (by simp),z6w]
    ·exact hg.elim
  | sl k p off len =>
   obtain ⟨r,hr,hg⟩:=z58 hg
   split at hg
   ·rename_i m' t' xs
    obtain ⟨h1,hc,rfl⟩:=zp hg
    have hbor:bor=true:=hb rfl
    refine ⟨_,?_,AVle.refl _⟩
    have:(((xs.map (T.ca m' t')).drop off).take len)=((xs.drop off).take len).map (T.ca m' t'):=by simp [List.map_take,List.map_drop]
    simp only [den,conv,hbor,if_true,hr,denR]
    rw [if_pos (by simpa using hc),this,z6w]
   ·exact hg.elim
  | _=>exact hg.elim
 | .ag ds,v,v',hg,hb=>by
  cases v with
  | ag cs =>
   obtain ⟨cs',h1,h2⟩:=Rs.bind_gives _ hg
   cases h2
   obtain ⟨l,q1,q2⟩:=z6n (Hn:=Hn) (bor:=bor) hs ds cs cs' h1 hb
   exact ⟨.ag l,by simp only [den,conv,q1],by simp only [den]; exact AVle.ag q2.C⟩
  | _=>exact hg.elim
 | .pt key,v,v',hg,hb=>by
  cases v with
  | pt k p i c =>
   cases p with
   | nil =>
    simp only [zlm] at hg
    split at hg
    ·rename_i n hn
     cases hg
     exact ⟨_,by simp only [den,conv,hn,if_true],AVle.refl _⟩
    ·exact hg.elim
   | cons _ _=>exact hg.elim
  | _=>exact hg.elim
 | .fn f ds,v,v',hg,hb=>by
  cases v with
  | fn f' cs =>
   obtain ⟨cs',h1,h2⟩:=Rs.bind_gives _ hg
   cases h2
   obtain ⟨l,q1,q2⟩:=z6n (Hn:=Hn) (bor:=bor) hs ds cs cs' h1 hb
   exact ⟨.fn f' l,by simp only [den,conv,q1],by simp only [den]; exact AVle.fn q2.L⟩
  | _=>exact hg.elim
theorem z6n {H0 Hn:H} {rest:TH T.toTT0} {m:List (Nat×Nat)} {bor:Bool} (hs:∀ k,(m.map Prod.snd).contains k=false→za (denH T.toTT0 rest) k=za H0 k) :
  ∀ (ds:List VD) (vs vs':List (VT T)),(zb4 rest m ds vs).gives vs'→(z30 vs=true→bor=true)→∃ l,z2d (denH T.toTT0 rest) m bor (denL T.toTT0 H0 vs)=some l∧z53 l (denL T.toTT0 Hn vs')
 | [],vs,vs',hg,hb=>by
  cases vs with
  | nil=>cases hg; exact ⟨[],rfl,.nil⟩
  | cons _ _=>exact hg.elim
 | d::ds,vs,vs',hg,hb=>by
  cases vs with
  | nil=>exact hg.elim
  | cons v vs =>
   obtain ⟨v1,h1,hg⟩:=Rs.bind_gives _ hg
   obtain ⟨vs1,h2,hg⟩:=Rs.bind_gives _ hg
   cases hg
   obtain ⟨a,q1,q2⟩:=zzk (Hn:=Hn) (bor:=bor) hs d v v1 h1 (fun h=>hb (by simp [z30,h]))
   obtain ⟨l,q3,q4⟩:=z6n (Hn:=Hn) (bor:=bor) hs ds vs vs1 h2 (fun h=>hb (by simp [z30,h]))
   exact ⟨a::l,by simp only [denL,z2d,q1,q3],.cons q2 q4⟩
end
def z7c:TH T.toTT0→List (Nat×Nat)→Option (TH T.toTT0×TH T.toTT0)
 | h,[]=>some ([],h)
 | h,(n,o)::m =>
  match getT h o with
  | some r=>match z7c (delT h o) m with
   | some (hs,rest)=>some ((n,r)::hs,rest)
   | none=>none
  | none=>none
theorem z4j:∀ (m:List (Nat×Nat)) (h hs rest:TH T.toTT0),z7c h m=some (hs,rest) →
  z2a (denH T.toTT0 h) m=some (denH T.toTT0 hs,denH T.toTT0 rest)∧(∀ k,(m.map Prod.snd).contains k=false→za (denH T.toTT0 rest) k=za (denH T.toTT0 h) k) ∧
  ∀ n o,zn (m.map Prod.fst)=true→zn (m.map Prod.snd)=true→(n,o) ∈ m→za (denH T.toTT0 hs) n=za (denH T.toTT0 h) o
 | [],h,_,_,hh=>by cases hh; exact ⟨rfl,fun _ _=>rfl,fun _ _ _ _ h=>(by cases h)⟩
 | (n,o)::m,h,_,_,hh=>by
  unfold z7c at hh
  split at hh
  ·rename_i r hr
   split at hh
   ·rename_i hs rest h2
    cases hh
    obtain ⟨q1,q2,q3⟩:=z4j m _ _ _ h2
    have hgr:za (denH T.toTT0 h) o=some (denR T.toTT0 r):=by rw [z1p,hr]; rfl
    refine ⟨?_,fun k hk=>?_,fun n' o' h1 h2 hm=>?_⟩
    ·simp only [z2a,hgr,zu,q1,denH]
    ·simp only [List.map_cons,List.contains_cons,Bool.or_eq_false_iff,beq_eq_false_iff_ne] at hk
     rw [q2 k hk.2,← zu,zz hk.1]
    ·simp only [List.map_cons,zn,Bool.and_eq_true,Bool.not_eq_true'] at h1 h2
     rcases List.mem_cons.1 hm with hm | hm
     ·cases hm
      simp only [denH,za,if_true,hgr]
     ·have hn:n ≠ n':=fun e=>by
       have:(m.map Prod.fst).contains n=true:=by
        rw [e]; simp only [List.contains_eq_mem,decide_eq_true_eq]; exact List.mem_map.2 ⟨_,hm,rfl⟩
       rw [h1.1] at this; cases this
      have ho:o' ≠ o:=fun e=>by
       have:(m.map Prod.snd).contains o=true:=by
        rw [← e]; simp only [List.contains_eq_mem,decide_eq_true_eq]; exact List.mem_map.2 ⟨_,hm,rfl⟩
       rw [h2.1] at this; cases this
      simp only [denH,za]
      rw [if_neg hn,q3 n' o' h1.2 h2.2 hm,← zu,zz ho]
   ·cases hh
  ·cases hh
def z2k (h:TH T.toTT0):List Nat→TH T.toTT0
 | []=>h
 | k::ks=>z2k (delT h k) ks
theorem z5d:∀ (ks:List Nat) (h:TH T.toTT0),z1f (denH T.toTT0 h) ks=denH T.toTT0 (z2k h ks)
 | [],_=>rfl
 | k::ks,h=>by simp only [z1f,z2k,zu,z5d ks]
theorem z7l:∀ (ks:List Nat) (h:H) (k:Nat),ks.contains k=false→za (z1f h ks) k=za h k
 | [],_,_,_=>rfl
 | k'::ks,h,k,hk=>by
  simp only [List.contains_cons,Bool.or_eq_false_iff,beq_eq_false_iff_ne] at hk
  rw [z1f,z7l ks _ k hk.2,zz hk.1]
theorem z2w:∀ (a b:H) (k:Nat),za (a++b) k=match za a k with | some r=>some r | none=>za b k
 | [],_,_=>rfl
 | (k',r)::a,b,k=>by
  simp only [List.cons_append,za]
  split
  ·rfl
  ·exact z2w a b k
mutual
def z3d (bm:List (Nat×Nat)):VT T→Option (VT T)
 | .sc v=>some (.sc v)
 | .zs=>some .zs
 | .un=>some .un
 | .im t xs=>some (.im t xs)
 | .sl k p off len=>match z1k bm k with | some n=>some (.sl n p off len) | none=>none
 | .sw k p=>match z1k bm k with | some n=>some (.sw n p) | none=>none
 | .pt k p i c=>match z1k bm k with | some n=>some (.pt n p i c) | none=>none
 | .ag cs=>match zb3 bm cs with | some cs'=>some (.ag cs') | none=>none
 | .tu vs=>match zb3 bm vs with | some cs'=>some (.tu cs') | none=>none
 | .fn f caps=>match zb3 bm caps with | some cs'=>some (.fn f cs') | none=>none
 | .ip s cs c=>some (.ip s cs c)
 | .ik _ _ | .bk _ | .ow _ _ _ | .oo _ _ _ _ _=>none
 | .pp (.fs k cs)=>match z1k bm k with | some n=>some (.pp (.fs n cs)) | none=>none
 | .pp (.xp b x c)=>some (.pp (.xp b x c))
 | .pp _=>none
def zb3 (bm:List (Nat×Nat)):List (VT T)→Option (List (VT T))
 | []=>some []
 | x::l=>match z3d bm x,zb3 bm l with | some x',some l'=>some (x'::l') | _,_=>none
end
mutual
theorem z7f {Ho H1:H} {bm:List (Nat×Nat)} (hl:∀ k n p,z1k bm k=some n→ze H1 n p=ze Ho k p):∀ (v v':VT T),z3d bm v=some v'→back bm (den T.toTT0 Ho v)=some (den T.toTT0 H1 v')
 | .sc _,_,h | .zs,_,h | .un,_,h | .im _ _,_,h | .ip _ _ _,_,h=>by cases h; rfl
 | .sl k p off len,v',h=>by
  simp only [z3d] at h
  split at h
  ·rename_i n hn; cases h; simp only [den,back,hn]
  ·cases h
 | .sw k p,v',h=>by
  simp only [z3d] at h
  split at h
  ·rename_i n hn; cases h; simp only [den,back,hn,hl k n p hn]
  ·cases h
 | .pt k p i c,v',h=>by
  simp only [z3d] at h
  split at h
  ·rename_i n hn; cases h; simp only [den,back,hn]
  ·cases h
 | .ag cs,v',h=>by
  simp only [z3d] at h
  split at h
  ·rename_i cs' hc; cases h; simp only [den,back,za7 hl cs cs' hc]
  ·cases h
 | .tu cs,v',h=>by
  simp only [z3d] at h
  split at h
  ·rename_i cs' hc; cases h; simp only [den,back,za7 hl cs cs' hc]
  ·cases h
 | .fn f cs,v',h=>by
  simp only [z3d] at h
  split at h
  ·rename_i cs' hc; cases h; simp only [den,back,za7 hl cs cs' hc]
  ·cases h
 | .ik _ _,_,h | .bk _,_,h | .ow _ _ _,_,h | .oo _ _ _ _ _,_,h=>by cases h
 | .pp (.xp _ _ _),_,h=>by cases h; rfl
 | .pp (.fp _ _ _),_,h | .pp (.px _ _),_,h=>by cases h
 | .pp (.fs k cs),v',h=>by
  simp only [z3d] at h
  split at h
  ·rename_i n hn; cases h; simp only [den,denP,back,zh0,hn]
  ·cases h
theorem za7 {Ho H1:H} {bm:List (Nat×Nat)} (hl:∀ k n p,z1k bm k=some n→ze H1 n p=ze Ho k p):∀ (v v':List (VT T)),zb3 bm v=some v'→z6c bm (denL T.toTT0 Ho v)=some (denL T.toTT0 H1 v')
 | [],_,h=>by cases h; rfl
 | x::l,v',h=>by
  simp only [zb3] at h
  split at h
  ·rename_i x' l' h1 h2
   cases h
   simp only [denL,z6c,z7f hl x x' h1,za7 hl l l' h2]
  ·cases h
end
mutual
def z93:VT T→Bool
 | .im _ _ | .ip _ _ _ | .oo _ _ _ _ _ | .pp _=>false
 | .ow m t _=>bif m then T.po t else T.pl t
 | .ag cs=>z9r cs
 | .tu cs=>z9r cs
 | .fn _ cs=>z9r cs
 | .un | .sc _ | .ik _ _ | .bk _ | .zs | .sl _ _ _ _ | .sw _ _ | .pt _ _ _ _=>true
def z9r:List (VT T)→Bool
 | []=>true
 | x::l=>z93 x && z9r l
end
theorem znv {m:Bool} {t:Nat} (h:(bif m then T.po t else T.pl t)=true) (xs:List (T.El t)):z92 (xs.map (T.ca m t))=true:=by
 refine z4i (fun x=>?_) xs
 cases m with
 | true=>exact T.ow_ok t x h
 | false=>exact T.pl_ok t x (by simpa using h)
mutual
theorem z9s {h:H}:∀ (v:VT T),z93 v=true→noIm (den T.toTT0 h v)=true
 | .un,_ | .sc _,_ | .ik _ _,_ | .bk _,_ | .zs,_ | .sl _ _ _ _,_ | .sw _ _,_ | .pt _ _ _ _,_=>rfl
 | .im _ _,hn | .ip _ _ _,hn | .oo _ _ _ _ _,hn | .pp _,hn=>by simp [z93] at hn
 | .ow m t xs,hn=>by simp only [den,noIm]; exact znv hn xs
 | .ag cs,hn=>by simp only [den,noIm]; exact z89 cs hn
 | .tu cs,hn=>by simp only [den,noIm]; exact z89 cs hn
 | .fn _ cs,hn=>by simp only [den,noIm]; exact z89 cs hn
theorem z89 {h:H}:∀ (v:List (VT T)),z9r v=true→z2o (denL T.toTT0 h v)=true
 | [],_=>rfl
 | x::l,hn=>by
  simp only [z9r,Bool.and_eq_true] at hn
  simp only [denL,z2o,z9s x hn.1,z89 l hn.2,Bool.and_self]
end
def zyc:TR T.El→Bool
 | .typ m t _=>bif m then T.po t else T.pl t
 | .lit _ xs=>xs.all z9r
 | .opn _ _ _ _ _=>false
def z87 (h:TH T.toTT0):Bool:=h.all fun x=>zyc x.2
theorem z88:∀ (h:TH T.toTT0),z87 h=true→z6f (denH T.toTT0 h)=true
 | [],_=>rfl
 | (k,r)::h,hn=>by
  simp only [z87,List.all_cons,Bool.and_eq_true] at hn
  have ih:=z88 h hn.2
  simp only [z6f,denH,List.all_cons,Bool.and_eq_true]
  refine ⟨?_,ih⟩
  cases r with
  | typ m t xs=>exact znv hn.1 xs
  | lit s xs =>
   have h1:=hn.1
   simp only [zyc] at h1
   simp only [denR]
   clear ih hn
   induction xs with
   | nil=>rfl
   | cons x xs ih =>
    simp only [List.all_cons,Bool.and_eq_true] at h1
    simp only [List.map_cons,z92,z89 x h1.1,ih h1.2,Bool.and_self]
  | opn=>cases hn.1
end
abbrev EH (T:TT):=TE T.toTT0×TH T.toTT0
def isX {T:TT} (eh:EH T):Option Value :=
 match eh.1 with
 | [(k,.sc v)]=>bif Nat.beq k 999999 then some v else none
 | _=>none
def ofX {T:TT} (u:Value):EH T:=([(999999,.sc u)],[])
def zee {T:TT} (eh:EH T) (o:Out) (e:Env) (h:H):Prop :=
 match isX eh with
 | some u=>o = .panic u∧e=nE∧h=[]
 | none=>o = .ret∧e=denE T.toTT0 (denH T.toTT0 eh.2) eh.1∧h=denH T.toTT0 eh.2
structure LCon (P:Program) (T:TT) (pro:List Nat) where
 body:IC
 X:Type
 Y:Type
 Z:Type
 encX:X→EH T
 encY:Y→EH T
 encZ:Z→EH T
 id:Nat
 ret:Bool
 G:X→Option (Bo X Y Z)
 ok:∀ x b,G x=some b→W P pro (.loop body) (fun o e h=>match b with
  | .go _=>False
  | .out y=>o = .exit id∧e=denE T.toTT0 (denH T.toTT0 (encY y).2) (encY y).1∧h=denH T.toTT0 (encY y).2
  | .ret z=>ret=true∧zee (encZ z) o e h) (denE T.toTT0 (denH T.toTT0 (encX x).2) (encX x).1) (denH T.toTT0 (encX x).2)
inductive Raw (P:Program) (T:TT) (pro:List Nat):Type→Type 1 where
 | leaf {L:Type} (x:L):Raw P T pro L
 | no {L:Type}:Raw P T pro L
 | ite {L:Type} (b:Bool) (x y:Raw P T pro L):Raw P T pro L
 | bnd {L A:Type} (x:Option A) (K:A→Raw P T pro L):Raw P T pro L
 | need {L:Type} (p:Prop) [Decidable p] (K:Raw P T pro L):Raw P T pro L
 | join {L S:Type} (enc:S→EH T) (B:Raw P T pro (EH T⊕L)) (K:S→Raw P T pro L):Raw P T pro L
 | call {L:Type} (C:Con P T) (args:List (VT T)) (hin:TH T.toTT0) (K:C.Y→Raw P T pro L):Raw P T pro L
 | callX {L:Type} (C:Con P T) (args:List (VT T)) (hin:TH T.toTT0) (K:C.Y→Raw P T pro L) (KX:C.V→Raw P T pro L):Raw P T pro L
 | both {L:Type} (A B:Raw P T pro L):Raw P T pro L
 | alls {L S Z:Type} (enc:S→EH T) (encV:Z→Value) (B:Raw P T pro (EH T⊕Value)) (K:S→Raw P T pro L) (KX:Z→Raw P T pro L):Raw P T pro L
 | loop {L V:Type} (c:V→LCon P T pro) (body:IC) (eh:EH T) (KY:(v:V)→(c v).Y→Raw P T pro L):Raw P T pro L
 | loopR {L V:Type} (c:V→LCon P T pro) (body:IC) (eh:EH T) (KY:(v:V)→(c v).Y→Raw P T pro L) (KZ:(v:V)→(c v).Z→Raw P T pro L):Raw P T pro L
section
variable {P:Program} {T:TT} {pro:List Nat}
def yc9 {S E L:Type} (enc:S→E) (A:S→Prop) (Q:L→Prop):E⊕L→Prop
 | .inl eh=>∃ s,enc s=eh∧A s
 | .inr l=>Q l
def boP {X Y Z:Type} (A:Y→Prop) (B:Z→Prop):Bo X Y Z→Prop
 | .go _=>False
 | .out y=>A y
 | .ret z=>B z
def zk {S R:Type} (A:S→Option R):S⊕R→Option R
 | .inl s=>A s
 | .inr r=>some r
def sumP {A B:Type} (Q:A→Prop) (Q':B→Prop):A⊕B→Prop
 | .inl y=>Q y
 | .inr z=>Q' z
def Sat:{L:Type}→Raw P T pro L→(L→Prop)→Prop
 | _,.leaf x,Q=>Q x
 | _,.no,_=>False
 | _,.ite b x y,Q=>(b=true→Sat x Q)∧(b=false→Sat y Q)
 | _,.bnd x K,Q=>∃ a,x=some a∧Sat (K a) Q
 | _,@Raw.need _ _ _ _ p _ K,Q=>p∧Sat K Q
 | _,.join enc B K,Q=>Sat B (yc9 enc (fun s=>Sat (K s) Q) Q)
 | _,.call C args hin K,Q=>∃ x y,C.encA x=args∧C.encH x=hin∧C.G x=some y∧Sat (K y) Q
 | _,.callX C args hin K KX,Q=>∃ x r,C.encA x=args∧C.encH x=hin∧C.FX x=some r∧sumP (fun y=>Sat (K y) Q) (fun z=>Sat (KX z) Q) r
 | _,.both A B,Q=>Sat A Q∧Sat B Q
 | _,.alls (S:=S) (Z:=Z) enc encV B K KX,Q=>∃ r:S⊕Z,Sat B (fun l=>l=Sum.map enc encV r)∧sumP (fun s=>Sat (K s) Q) (fun z=>Sat (KX z) Q) r
 | _,.loop c body eh KY,Q=>∃ v,(c v).body=body∧∃ x y,(c v).encX x=eh∧(c v).ret=false∧(c v).G x=some (.out y)∧Sat (KY v y) Q
 | _,.loopR c body eh KY KZ,Q=>∃ v,(c v).body=body∧∃ x b,(c v).encX x=eh∧(c v).G x=some b∧boP (fun y=>Sat (KY v y) Q) (fun z=>Sat (KZ v z) Q) b
theorem Sat.mono:∀ {L:Type} (t:Raw P T pro L) {Q Q':L→Prop},(∀ l,Q l→Q' l)→Sat t Q→Sat t Q'
 | _,.leaf x,_,_,h,hs=>h _ hs
 | _,.no,_,_,_,hs=>hs
 | _,.ite b x y,_,_,h,hs=>⟨fun hb=>Sat.mono x h (hs.1 hb),fun hb=>Sat.mono y h (hs.2 hb)⟩
 | _,.bnd x K,_,_,h,hs=>by
  obtain ⟨a,h1,h2⟩:=hs
  exact ⟨a,h1,Sat.mono (K a) h h2⟩
 | _,@Raw.need _ _ _ _ p _ K,_,_,h,hs=>⟨hs.1,Sat.mono K h hs.2⟩
 | _,.join enc B K,_,_,h,hs=>Sat.mono B (fun l hl=>by
  cases l with
  | inl eh=>obtain ⟨s,h1,h2⟩:=hl; exact ⟨s,h1,Sat.mono (K s) h h2⟩
  | inr l=>exact h l hl) hs
 | _,.call C args hin K,_,_,h,hs=>by
  obtain ⟨x,y,h1,h2,h3,h4⟩:=hs
  exact ⟨x,y,h1,h2,h3,Sat.mono (K y) h h4⟩
 | _,.callX C args hin K KX,_,_,h,hs=>by
  obtain ⟨x,r,h1,h2,h3,h4⟩:=hs
  refine ⟨x,r,h1,h2,h3,?_⟩
  cases r with
  | inl y=>exact Sat.mono (K y) h h4
  | inr z=>exact Sat.mono (KX z) h h4
 | _,.both A B,_,_,h,hs=>⟨Sat.mono A h hs.1,Sat.mono B h hs.2⟩
 | _,.alls enc encV B K KX,_,_,h,hs=>by
  obtain ⟨r,h1,h2⟩:=hs
  refine ⟨r,h1,?_⟩
  cases r with
  | inl y=>exact Sat.mono (K y) h h2
  | inr z=>exact Sat.mono (KX z) h h2
 | _,.loop c body eh KY,_,_,h,hs=>by
  obtain ⟨v,h0,x,y,h1,hr,h2,h3⟩:=hs
  exact ⟨v,h0,x,y,h1,hr,h2,Sat.mono (KY v y) h h3⟩
 | _,.loopR c body eh KY KZ,_,_,h,hs=>by
  obtain ⟨v,h0,x,b,h1,h2,h3⟩:=hs
  exact ⟨v,h0,x,b,h1,h2,by
   cases b with
   | go _=>exact h3
   | out y=>exact Sat.mono (KY v y) h h3
   | ret z=>exact Sat.mono (KZ v z) h h3⟩
def Raw.map:{L L':Type}→(L→L')→Raw P T pro L→Raw P T pro L'
 | _,_,f,.leaf x=>.leaf (f x)
 | _,_,_,.no=>.no
 | _,_,f,.ite b x y=>.ite b (x.map f) (y.map f)
 | _,_,f,.bnd x K=>.bnd x fun a=>(K a).map f
 | _,_,f,@Raw.need _ _ _ _ p _ K=>.need p (K.map f)
 | _,_,f,.join enc B K=>.join enc (B.map (Sum.map id f)) fun s=>(K s).map f
 | _,_,f,.call C args hin K=>.call C args hin fun y=>(K y).map f
 | _,_,f,.callX C args hin K KX=>.callX C args hin (fun y=>(K y).map f) (fun z=>(KX z).map f)
 | _,_,f,.both A B=>.both (A.map f) (B.map f)
 | _,_,f,.alls enc encV B K KX=>.alls enc encV B (fun s=>(K s).map f) (fun z=>(KX z).map f)
 | _,_,f,.loop c body eh KY=>.loop c body eh fun v y=>(KY v y).map f
 | _,_,f,.loopR c body eh KY KZ=>.loopR c body eh (fun v y=>(KY v y).map f) (fun v z=>(KZ v z).map f)
theorem Sat.map:∀ {L L':Type} (f:L→L') (t:Raw P T pro L) (Q:L'→Prop),Sat (t.map f) Q→Sat t fun l=>Q (f l)
 | _,_,f,.leaf x,Q,h=>h
 | _,_,_,.no,_,h=>h
 | _,_,f,.ite b x y,Q,h=>⟨fun hb=>Sat.map f x Q (h.1 hb),fun hb=>Sat.map f y Q (h.2 hb)⟩
 | _,_,f,.bnd x K,Q,h=>by
  obtain ⟨a,h1,h2⟩:=h
  exact ⟨a,h1,Sat.map f (K a) Q h2⟩
 | _,_,f,@Raw.need _ _ _ _ p _ K,Q,h=>⟨h.1,Sat.map f K Q h.2⟩
 | _,_,f,.join enc B K,Q,h=>by
  have:=Sat.map (Sum.map id f) B _ h
  refine Sat.mono B (fun l hl=>?_) this
  cases l with
  | inl eh=>obtain ⟨s,h1,h2⟩:=hl; exact ⟨s,h1,Sat.map f (K s) Q h2⟩
  | inr l=>exact hl
 | _,_,f,.call C args hin K,Q,h=>by
  obtain ⟨x,y,h1,h2,h3,h4⟩:=h
  exact ⟨x,y,h1,h2,h3,Sat.map f (K y) Q h4⟩
 | _,_,f,.callX C args hin K KX,Q,h=>by
  obtain ⟨x,r,h1,h2,h3,h4⟩:=h
  refine ⟨x,r,h1,h2,h3,?_⟩
  cases r with
  | inl y=>exact Sat.map f (K y) Q h4
  | inr z=>exact Sat.map f (KX z) Q h4
 | _,_,f,.both A B,Q,h=>⟨Sat.map f A Q h.1,Sat.map f B Q h.2⟩
 | _,_,f,.alls enc encV B K KX,Q,h=>by
  obtain ⟨r,h1,h2⟩:=h
  refine ⟨r,h1,?_⟩
  cases r with
  | inl y=>exact Sat.map f (K y) Q h2
  | inr z=>exact Sat.map f (KX z) Q h2
 | _,_,f,.loop c body eh KY,Q,h=>by
  obtain ⟨v,h0,x,y,h1,hr,h2,h3⟩:=h
  exact ⟨v,h0,x,y,h1,hr,h2,Sat.map f (KY v y) Q h3⟩
 | _,_,f,.loopR c body eh KY KZ,Q,h=>by
  obtain ⟨v,h0,x,b,h1,h2,h3⟩:=h
  exact ⟨v,h0,x,b,h1,h2,by
   cases b with
   | go _=>exact h3
   | out y=>exact Sat.map f (KY v y) Q h3
   | ret z=>exact Sat.map f (KZ v z) Q h3⟩
def Raw.ofRs {L X:Type} (K:X→Raw P T pro L):Rs X→Raw P T pro L
 | .ok v=>K v
 | .no=>.no
 | .bnd x F=>.bnd x fun a=>Raw.ofRs K (F a)
 | @Rs.need _ p _ F=>.need p (Raw.ofRs K F)
 | .ite b x y=>.ite b (Raw.ofRs K x) (Raw.ofRs K y)
theorem Sat.ofRs {L X:Type} {K:X→Raw P T pro L} {Q:L→Prop}:∀ (r:Rs X),Sat (Raw.ofRs K r) Q→∃ v,r.gives v∧Sat (K v) Q
 | .ok v,h=>⟨v,rfl,h⟩
 | .no,h=>h.elim
 | .bnd x F,h=>by
  obtain ⟨a,h1,h2⟩:=h
  obtain ⟨v,h3,h4⟩:=Sat.ofRs (F a) h2
  exact ⟨v,⟨a,h1,h3⟩,h4⟩
 | @Rs.need _ p _ F,h=>by
  obtain ⟨h1,h2⟩:=h
  obtain ⟨v,h3,h4⟩:=Sat.ofRs F h2
  exact ⟨v,⟨h1,h3⟩,h4⟩
 | .ite b x y,h=>by
  obtain ⟨h1,h2⟩:=h
  cases b with
  | true =>
   obtain ⟨v,h3,h4⟩:=Sat.ofRs x (h1 rfl)
   exact ⟨v,.inl ⟨rfl,h3⟩,h4⟩
  | false =>
   obtain ⟨v,h3,h4⟩:=Sat.ofRs y (h2 rfl)
   exact ⟨v,.inr ⟨rfl,h3⟩,h4⟩
inductive Pt (P:Program) (T:TT) (pro:List Nat):Type→Type 1 where
 | leaf {R:Type} (x:R):Pt P T pro R
 | no {R:Type}:Pt P T pro R
 | ite {R:Type} (b:Bool) (x y:Pt P T pro R):Pt P T pro R
 | bnd {R A:Type} (x:Option A) (K:A→Pt P T pro R):Pt P T pro R
 | need {R:Type} (p:Prop) [Decidable p] (K:Pt P T pro R):Pt P T pro R
 | join {R S:Type} (enc:S→EH T) (B:Pt P T pro (S⊕R)) (K:S→Pt P T pro R):Pt P T pro R
 | call {R:Type} (C:Con P T) (x:C.X) (K:C.Y→Pt P T pro R):Pt P T pro R
 | callX {R:Type} (C:Con P T) (x:C.X) (K:C.Y→Pt P T pro R) (KX:C.V→Pt P T pro R):Pt P T pro R
 | both {R:Type} (A B:Pt P T pro R):Pt P T pro R
 | alls {R S Z:Type} (enc:S→EH T) (encV:Z→Value) (B:Pt P T pro (S⊕Z)) (K:S→Pt P T pro R) (KX:Z→Pt P T pro R):Pt P T pro R
 | loop {R V:Type} (c:V→LCon P T pro) (v:V) (x:(c v).X) (KY:(v:V)→(c v).Y→Pt P T pro R):Pt P T pro R
 | loopR {R V:Type} (c:V→LCon P T pro) (v:V) (x:(c v).X) (KY:(v:V)→(c v).Y→Pt P T pro R) (KZ:(v:V)→(c v).Z→Pt P T pro R):Pt P T pro R
def sumE {A B C:Type} (f:A→C) (g:B→C):A⊕B→C
 | .inl y=>f y
 | .inr z=>g z
open Classical in
noncomputable def twoO {R:Type} (a b:Option R):Option R:=if a=b then a else none
theorem zl7 {R:Type} {a b:Option R} {r:R} (h:twoO a b=some r):a=some r∧b=some r:=by
 unfold twoO at h
 split at h
 ·rename_i e; exact ⟨h,e ▸ h⟩
 ·cases h
theorem zrn {R:Type} {a b:Option R} (h:a=b):twoO a b=a:=by unfold twoO; rw [if_pos h]
noncomputable def Pt.run:{R:Type}→Pt P T pro R→Option R
 | _,.leaf x=>some x
 | _,.no=>none
 | _,.ite b x y=>bif b then x.run else y.run
 | _,.bnd x K=>x.bind fun a=>(K a).run
 | _,@Pt.need _ _ _ _ p _ K=>Loom.need p K.run
 | _,.join enc B K=>B.run.bind (zk fun s=>(K s).run)
 | _,.call C x K=>(C.G x).bind fun y=>(K y).run
 | _,.callX C x K KX=>(C.FX x).bind (sumE (fun y=>(K y).run) (fun z=>(KX z).run))
 | _,.both A B=>twoO A.run B.run
 | _,.alls enc encV B K KX=>B.run.bind (sumE (fun s=>(K s).run) (fun z=>(KX z).run))
 | _,.loop c v x KY=>((c v).G x).bind (Bo.then (fun y=>bif (c v).ret then none else (KY v y).run) (fun _=>none))
 | _,.loopR c v x KY KZ=>((c v).G x).bind (Bo.then (fun y=>(KY v y).run) (fun z=>(KZ v z).run))
def Pt.raw:{R L:Type}→(R→L)→Pt P T pro R→Raw P T pro L
 | _,_,f,.leaf x=>.leaf (f x)
 | _,_,_,.no=>.no
 | _,_,f,.ite b x y=>.ite b (x.raw f) (y.raw f)
 | _,_,f,.bnd x K=>.bnd x fun a=>(K a).raw f
 | _,_,f,@Pt.need _ _ _ _ p _ K=>.need p (K.raw f)
 | _,_,f,.join enc B K=>.join enc (B.raw (Sum.map enc f)) fun s=>(K s).raw f
 | _,_,f,.call C x K=>.call C (C.encA x) (C.encH x) fun y=>(K y).raw f
 | _,_,f,.callX C x K KX=>.callX C (C.encA x) (C.encH x) (fun y=>(K y).raw f) (fun z=>(KX z).raw f)
 | _,_,f,.both A B=>.both (A.raw f) (B.raw f)
 | _,_,f,.alls enc encV B K KX=>.alls enc encV (B.raw (Sum.map enc encV)) (fun s=>(K s).raw f) (fun z=>(KX z).raw f)
 | _,_,f,.loop c v x KY=>.loop c (c v).body ((c v).encX x) fun v y=>(KY v y).raw f
 | _,_,f,.loopR c v x KY KZ=>.loopR c (c v).body ((c v).encX x) (fun v y=>(KY v y).raw f) (fun v z=>(KZ v z).raw f)
theorem z1x:∀ {R L:Type} (f:R→L) (t:Pt P T pro R) (r:R),t.run=some r→Sat (t.raw f) fun l=>l=f r
 | _,_,f,.leaf x,r,h=>by cases h; exact rfl
 | _,_,_,.no,_,h=>by cases h
 | _,_,f,.ite b x y,r,h=>⟨fun hb=>by subst hb; exact z1x f x r h,fun hb=>by subst hb; exact z1x f y r h⟩
 | _,_,f,.bnd x K,r,h=>by
  obtain ⟨a,h1,h2⟩:=zh h
  exact ⟨a,h1,z1x f (K a) r h2⟩
 | _,_,f,@Pt.need _ _ _ _ p _ K,r,h=>by
  obtain ⟨h1,h2⟩:=zyb h
  exact ⟨h1,z1x f K r h2⟩
 | _,_,f,.join enc B K,r,h=>by
  simp only [Pt.run] at h
  obtain ⟨b,h1,h2⟩:=zh h
  refine Sat.mono (B.raw (Sum.map enc f)) (fun l hl=>?_) (z1x (Sum.map enc f) B b h1)
  subst hl
  cases b with
  | inl s=>exact ⟨s,rfl,z1x f (K s) r h2⟩
  | inr r'=>cases h2; exact rfl
 | _,_,f,.call C x K,r,h=>by
  obtain ⟨y,h1,h2⟩:=zh h
  exact ⟨x,y,rfl,rfl,h1,z1x f (K y) r h2⟩
 | _,_,f,.callX C x K KX,r,h=>by
  obtain ⟨b,h1,h2⟩:=zh h
  refine ⟨x,b,rfl,rfl,h1,?_⟩
  cases b with
  | inl y=>exact z1x f (K y) r h2
  | inr z=>exact z1x f (KX z) r h2
 | _,_,f,.both A B,r,h=>⟨z1x f A r (zl7 h).1,z1x f B r (zl7 h).2⟩
 | _,_,f,.alls enc encV B K KX,r,h=>by
  obtain ⟨b,h1,h2⟩:=zh h
  refine ⟨b,z1x (Sum.map enc encV) B b h1,?_⟩
  cases b with
  | inl y=>exact z1x f (K y) r h2
  | inr z=>exact z1x f (KX z) r h2
 | _,_,f,.loop c v x KY,r,h=>by
  obtain ⟨b,h1,h2⟩:=zh h
  cases b with
  | go _=>cases h2
  | out y =>
   simp only [Bo.then] at h2
   cases hr:(c v).ret with
   | true=>rw [hr] at h2; cases h2
   | false=>rw [hr] at h2; exact ⟨v,rfl,x,y,rfl,hr,h1,z1x f (KY v y) r h2⟩
  | ret z=>cases h2
 | _,_,f,.loopR c v x KY KZ,r,h=>by
  obtain ⟨b,h1,h2⟩:=zh h
  cases b with
  | go _=>cases h2
  | out y=>exact ⟨v,rfl,x,_,rfl,h1,z1x f (KY v y) r h2⟩
  | ret z=>exact ⟨v,rfl,x,_,rfl,h1,z1x f (KZ v z) r h2⟩
end
section
variable {P:Program} {T:TT} {pro:List Nat}
def zy6:Kd→Bool
 | .no=>false
 | _=>true
def kdAt (ks:List Kd) (c:Nat):Bool:=match ks[c]? with | some k=>zy6 k | none=>false
def zjb (ks:List Kd) (k:Nat) (k':Nat) (q:Path):Bool:=Nat.beq k' k && match q with | (_,c)::_=>kdAt ks c | []=>false
theorem zse (ks:List Kd) (k:Nat):z47 (tgOf T ks) k=zjb ks k:=by
 funext k' q
 unfold z47 zjb
 have:(k'==k)=Nat.beq k' k:=by rw [Bool.eq_iff_iff]; simp
 rw [this]
 congr 1
 cases q with
 | nil=>rfl
 | cons x q =>
  obtain ⟨i,c⟩:=x
  simp only [tgOf,kdAt]
  cases ks[c]? with
  | none=>rfl
  | some kd=>cases kd <;> rfl
def zf6:List Kd→List (VT T)→Bool
 | k::ks,v::vs=>(zy6 k && isZT v) || zf6 ks vs
 | _,_=>false
def zcg (e:TE T.toTT0) (h:TH T.toTT0) (k:Nat) (ks:List Kd):Option (TE T.toTT0×TH T.toTT0) :=
 match getT h k with
 | some (.lit s xs)=>bif xs.any (zf6 ks) then some (z5g (zjb ks k) (fun _ _=>false) e,(k,.lit s (xs.map (fixT ks)))::delT h k) else some (e,h)
 | some _=>some (e,h)
 | none=>none
theorem zga {e e1:TE T.toTT0} {h h1:TH T.toTT0} {k:Nat} {ks:List Kd} (hf:zcg e h k ks=some (e1,h1)) :
  zc P pro (denE T.toTT0 (denH T.toTT0 h) e) (denH T.toTT0 h) (denE T.toTT0 (denH T.toTT0 h1) e1) (denH T.toTT0 h1):=by
 unfold zcg at hf
 split at hf
 ·rename_i s xs hr
  cases hb:xs.any (zf6 ks) with
  | false=>rw [hb] at hf; cases hf; exact zc.rfl'
  | true =>
   rw [hb] at hf
   cases hf
   have hgr:za (denH T.toTT0 h) k=some ⟨s,xs.map (denL T.toTT0 [])⟩:=by rw [z1p,hr]; rfl
   have hrow:(xs.map (fixT ks)).map (denL T.toTT0 [])=(xs.map (denL T.toTT0 [])).map (fixA (tgOf T ks) 0):=by
    rw [List.map_map,List.map_map]
    exact List.map_congr_left fun x _=>by simpa using zb9 (T:=T) (h:=[]) ks x 0
   refine zc.trans (zc.fix (tgOf T ks) (zbt ks) hgr) ?_
   simp only [denH,zmd,hrow,← zu]
   refine zc.le fun t=>?_
   simp only [z1i,denE,z2v,zse]
   refine z6r (fun _ _ h=>h) (fun k' q _ _=>?_) _
   by_cases hk:k'=k
   ·subst hk
    rw [z3g (r:=⟨s,(xs.map (denL T.toTT0 [])).map (fixA (tgOf T ks) 0)⟩) (by simp [za]),z3g hgr]
    exact zn7 (zbt ks) q
   ·exact z1a (by simp only [za]; rw [if_neg (fun e=>hk e.symm),zz hk])
 ·cases hf; exact zc.rfl'
 ·cases hf
def zch (e:TE T.toTT0) (h:TH T.toTT0):List (Nat×List Kd)→Option (TE T.toTT0×TH T.toTT0)
 | []=>some (e,h)
 | (k,ks)::l=>match zcg e h k ks with | some (e,h)=>zch e h l | none=>none
theorem zci:∀ (l:List (Nat×List Kd)) (e e1:TE T.toTT0) (h h1:TH T.toTT0),zch e h l=some (e1,h1) →
  zc P pro (denE T.toTT0 (denH T.toTT0 h) e) (denH T.toTT0 h) (denE T.toTT0 (denH T.toTT0 h1) e1) (denH T.toTT0 h1)
 | [],_,_,_,_,hf=>by cases hf; exact zc.rfl'
 | (k,ks)::l,e,e1,h,h1,hf=>by
  unfold zch at hf
  split at hf
  ·rename_i e2 h2 h3
   exact (zga h3).trans (zci l _ _ _ _ hf)
  ·cases hf
def z6h (P:Program) (e:TE T.toTT0):IK→Option (Nat×List (VT T))
 | .call f l=>some (f,l.map (evT e))
 | .callv x l=>match evT e x with | .fn f caps=>bif fnOk P f then some (f,l.map (evT e)++caps) else none | _=>none
 | _=>none
theorem zfp {e:TE T.toTT0} {H0:H} {op:IK} {f d:Nat} {vs:List (VT T)} (ha:z6h P e op=some (f,vs)) {e':Env} {h':H} (hc:z9f P pro (denE T.toTT0 H0 e) H0 d f (denL T.toTT0 H0 vs) e' h'):z2h P pro (denE T.toTT0 H0 e) H0 d op e' h':=by
 unfold z6h at ha
 split at ha
 ·rename_i f l
  cases ha
  refine .call ?_
  rw [zx,List.map_map] at hc
  have:l.map (ev (denE T.toTT0 H0 e))=l.map (den T.toTT0 H0 ∘ evT e):=List.map_congr_left fun x _=>zg x
  rw [this]; exact hc
 ·rename_i x l
  split at ha
  ·rename_i f caps hx
   cases hf:fnOk P f with
   | false=>rw [hf] at ha; cases ha
   | true =>
    rw [hf] at ha
    cases ha
    refine .callv (f:=f) (caps:=denL T.toTT0 H0 caps) (by rw [zg,hx]; rfl) hf ?_
    have:l.map (ev (denE T.toTT0 H0 e))++denL T.toTT0 H0 caps=denL T.toTT0 H0 (l.map (evT e)++caps):=by
     rw [zx,zx,List.map_append,List.map_map]
     congr 1
     exact List.map_congr_left fun x _=>zg x
    rw [this]; exact hc
  ·cases ha
 ·cases ha
def zcd (f:Nat) (args:List (VT T)):List (Con P T)→Option (Con P T×List (Nat×Nat))
 | []=>none
 | C::cs=>bif Nat.beq C.f f then match zix C.A args with | some m=>some (C,m) | none=>zcd f args cs else zcd f args cs
theorem z9l {f:Nat} {args:List (VT T)} {C:Con P T} {m:List (Nat×Nat)}:∀ (cs:List (Con P T)),zcd f args cs=some (C,m)→C.f=f
 | [],h=>by cases h
 | C'::cs,h=>by
  unfold zcd at h
  cases hb:Nat.beq C'.f f with
  | true =>
   rw [hb,cond_true] at h
   split at h
   ·cases h; exact Nat.eq_of_beq_eq_true hb
   ·exact z9l cs h
  | false =>
   rw [hb,cond_false] at h
   exact z9l cs h
structure Pre (T:TT) where
 m:List (Nat×Nat)
 args:List (VT T)
 hin:TH T.toTT0
 rest:TH T.toTT0
 bor:Bool
def preT (C:Con P T) (m:List (Nat×Nat)) (args:List (VT T)) (h:TH T.toTT0):Rs (Pre T) :=
 bif zn (m.map Prod.fst) && zn (m.map Prod.snd) then
  match z7c h m with
  | none=>.no
  | some (hin,rest)=>(zb4 rest m C.A args).bind fun args'=>.ok ⟨m,args',hin,rest,z30 args⟩
 else .no
def zra (d:Nat):List Nat→Nat→List (Nat×Nat)
 | [],_=>[]
 | k::ks,j=>(1000000+d * 100+j,k)::zra d ks (j+1)
def bmOf (m:List (Nat×Nat)) (d:Nat) (N:List Nat):List (Nat×Nat):=(m.map fun x=>(x.2,x.1))++(match N with | [k]=>[(d,k)] | N=>zra d N 0)
def badC (m bm:List (Nat×Nat)) (k:Nat) (q:Path):Bool:=(bm.map Prod.fst).contains k && !((m.map Prod.snd).contains k && q.isEmpty)
def zlq (pro:List Nat) (p:Pre T) (N:List Nat) (e:TE T.toTT0) (d:Nat) (r:VT T) (ho:TH T.toTT0):Option (TE T.toTT0×TH T.toTT0) :=
 let bm:=bmOf p.m d N
 bif zn (bm.map Prod.fst) && zn (bm.map Prod.snd) && zbp p.m bm && zfb pro p.m bm && (!p.bor || (z93 r && z87 ho)) then
  match z7c ho bm,z3d bm r with
  | some (hb,_),some v=>some (putE (z5g (badC p.m bm) (fun k _=>(p.m.map Prod.snd).contains k) e) d v,hb++z2k p.rest (bm.map Prod.fst))
  | _,_=>none
 else none
theorem z7y:∀ (m:List (Nat×Nat)) (h hs rest:H),z2a h m=some (hs,rest)→hs.map Prod.fst=m.map Prod.fst
 | [],h,_,_,hh=>by cases hh; rfl
 | (n,o)::m,h,_,_,hh=>by
  unfold z2a at hh
  split at hh
  ·split at hh
   ·rename_i hs rest h2
    cases hh
    simp [z7y m _ _ _ h2]
   ·cases hh
  ·cases hh
theorem z7t:∀ (h:H) (k:Nat),k ∉ h.map Prod.fst→za h k=none
 | [],_,_=>rfl
 | (k',r)::h,k,hk=>by
  simp only [List.map_cons,List.mem_cons,not_or] at hk
  simp only [za]
  rw [if_neg (fun e=>hk.1 e.symm),z7t h k hk.2]
theorem z7u:∀ (h:H) (k:Nat),k ∈ h.map Prod.fst→∃ r,za h k=some r
 | (k',r)::h,k,hk=>by
  simp only [za]
  by_cases e:k'=k
  ·exact ⟨r,by rw [if_pos e]⟩
  ·rw [if_neg e]
   refine z7u h k ?_
   simp only [List.map_cons,List.mem_cons] at hk
   exact hk.resolve_left (fun h=>e h.symm)
theorem z5h:∀ (m:List (Nat×Nat)) {k n:Nat},z1k m k=some n→(n,k) ∈ m
 | [],_,_,h=>by cases h
 | (a,b)::m,k,n,h=>by
  simp only [z1k] at h
  split at h
  ·rename_i hb
   cases h; subst hb; simp
  ·exact List.mem_cons_of_mem _ (z5h m h)
theorem CallG.le {f:Nat} {args args':List AV} {hin hout:H} {r:AV} (hl:z53 args args') (hc:CallG P f args' hin r hout):CallG P f args hin r hout:=fun I σ w vs hh hv=>hc I σ w vs hh (hl.L I σ (bl w) vs hv)
theorem z28.le {f:Nat} {args args':List AV} {hin hout:H} {r:AV} (hl:z53 args args') (hc:z28 P f args' hin r hout):z28 P f args hin r hout:=fun I σ w vs hh hv=>hc I σ w vs hh (hl.L I σ (bl w) vs hv)
theorem zp9 {C:Con P T} {m:List (Nat×Nat)} {args:List (VT T)} {e e1:TE T.toTT0} {h h1:TH T.toTT0} {p:Pre T} {d:Nat} {N:List Nat} {x:C.X} {y:C.Y} (hp:(preT C m args h).gives p)
  (h1':C.encA x=p.args) (h2:C.encH x=p.hin) (hok:CallG P C.f (denL T.toTT0 (denH T.toTT0 (C.encH x)) (C.encA x)) (denH T.toTT0 (C.encH x)) (den T.toTT0 (denH T.toTT0 (C.encO y)) (C.encR y)) (denH T.toTT0 (C.encO y))) (h4:zlq pro p N e d (C.encR y) (C.encO y)=some (e1,h1)) :
  ∃ e0,z9f P pro (denE T.toTT0 (denH T.toTT0 h) e) (denH T.toTT0 h) d C.f (denL T.toTT0 (denH T.toTT0 h) args) e0 (denH T.toTT0 h1)∧zc P pro e0 (denH T.toTT0 h1) (denE T.toTT0 (denH T.toTT0 h1) e1) (denH T.toTT0 h1):=by
 unfold preT at hp
 obtain ⟨hk,hp⟩:=zp hp
 simp only [Bool.and_eq_true] at hk
 split at hp
 ·exact hp.elim
 ·rename_i hin rest hsp
  obtain ⟨args',hcv,hp⟩:=Rs.bind_gives _ hp
  cases hp
  obtain ⟨s1,s2,s3⟩:=z4j m h hin rest hsp
  obtain ⟨l,q1,q2⟩:=z6n (Hn:=denH T.toTT0 hin) (bor:=z30 args) s2 C.A args args' hcv (fun h=>h)
  unfold zlq at h4
  dsimp only at h4 h1' h2
  generalize hbm:bmOf m d N=bm at h4
  cases hb:(zn (bm.map Prod.fst) && zn (bm.map Prod.snd) && zbp m bm && zfb pro m bm && (!z30 args || (z93 (C.encR y) && z87 (C.encO y)))) with
  | false=>rw [hb] at h4; cases h4
  | true =>
   rw [hb,cond_true] at h4
   simp only [Bool.and_eq_true] at hb
   obtain ⟨⟨⟨⟨b1,b2⟩,b3⟩,b4⟩,b5⟩:=hb
   split at h4
   ·rename_i hb' left v hsb hbk
    cases h4
    obtain ⟨t1,t2,t3⟩:=z4j bm (C.encO y) hb' left hsb
    have hkeys:=z7y _ _ _ _ t1
    have hheap:denH T.toTT0 (hb'++z2k rest (bm.map Prod.fst))=denH T.toTT0 hb'++z1f (denH T.toTT0 rest) (bm.map Prod.fst):=by
     rw [z2g,z5d]
    have hsub:∀ k,(m.map Prod.snd).contains k=true→(bm.map Prod.fst).contains k=true:=by
     intro k hk
     simp only [List.contains_eq_mem,decide_eq_true_eq] at hk ⊢
     rw [← hbm]
     obtain ⟨x,hx,rfl⟩:=List.mem_map.1 hk
     unfold bmOf
     rw [List.map_append,List.mem_append]
     left
     rw [List.map_map]
     exact List.mem_map.2 ⟨x,hx,rfl⟩
    rw [h1',h2] at hok
    have hbl:∀ k n q,z1k bm k=some n→ze (denH T.toTT0 (hb'++z2k rest (bm.map Prod.fst))) n q=ze (denH T.toTT0 (C.encO y)) k q:=by
     intro k n q hkn
     have hm:=z5h bm hkn
     have hg:=t3 n k b1 b2 hm
     have hn:n ∈ (denH T.toTT0 hb').map Prod.fst:=by rw [hkeys]; exact List.mem_map.2 ⟨_,hm,rfl⟩
     obtain ⟨r,hr⟩:=z7u _ _ hn
     have:za (denH T.toTT0 (hb'++z2k rest (bm.map Prod.fst))) n=za (denH T.toTT0 (C.encO y)) k:=by
      rw [hheap,z2w,hr,← hg,hr]
     unfold ze res
     rw [this]
    refine ⟨upd (z1i (z6m m bm) (denE T.toTT0 (denH T.toTT0 h) e)) d (den T.toTT0 (denH T.toTT0 (hb'++z2k rest (bm.map Prod.fst))) v),⟨⟨m,bm,z30 args,denH T.toTT0 hin,denH T.toTT0 rest,_,denH T.toTT0 hb',denH T.toTT0 left,l,_,_,s1,zw _ hk.1,q1,CallG.le q2 hok,t1,zw _ b1,b3,b4,z7f hbl _ _ hbk,fun hb=>?_,rfl,hheap⟩⟩,?_⟩
    ·rw [hb] at b5
     simp only [Bool.not_true,Bool.false_or,Bool.and_eq_true] at b5
     exact ⟨z9s _ b5.1,z88 _ b5.2⟩
    ·refine zc.le fun t=>?_
     rw [zy]
     refine AVle.upd (fun t=>?_) (AVle.refl _) t
     simp only [z1i,denE,z2v]
     refine z6r (fun k q hq=>hq) (fun k q hq hw=>?_) _
     have hm:(m.map Prod.snd).contains k=false:=hw
     have hbk:(bm.map Prod.fst).contains k=false:=by
      have hq':z6m m bm k q=false:=hq
      unfold z6m at hq'
      rw [hm] at hq'
      simpa using hq'
     refine z1a ?_
     rw [hheap,z2w,z7t _ _ (by
      rw [hkeys]
      intro hmem
      have:(bm.map Prod.fst).contains k=true:=by simpa using hmem
      rw [this] at hbk; cases hbk)]
     simp only
     rw [z7l _ _ _ hbk,s2 k hm]
   ·cases h4
def zh4 {L:Type} (P:Program) (pro:List Nat) (cs:List (Con P T)) (e:TE T.toTT0) (h:TH T.toTT0) (d:Nat) (op:IK) (K:TE T.toTT0→TH T.toTT0→Raw P T pro L):Raw P T pro L :=
 match z6h P e op with
 | none=>.no
 | some (f,args) =>
 match zcd f args cs with
 | none=>.no
 | some (C,m) =>
 match zch e h (m.map fun x=>(x.2,(C.H.find? fun y=>Nat.beq y.1 x.1).elim [] Prod.snd)) with
 | none=>.no
 | some (e1,h1) =>
 match z6h P e1 op with
 | none=>.no
 | some (f1,args1)=>bif Nat.beq f1 f then
  Raw.ofRs (fun p=>.call C p.args p.hin fun y=>match zlq pro p C.N e1 d (C.encR y) (C.encO y) with | some (e2,h2)=>K e2 h2 | none=>.no) (preT C m args1 h1)
  else .no
theorem zsd {e e1:TE T.toTT0} {h h1:TH T.toTT0} {k:Nat} {ks:List Kd} (hf:zcg e h k ks=some (e1,h1)):∀ t b,denE T.toTT0 (denH T.toTT0 h) e t=Bl b→denE T.toTT0 (denH T.toTT0 h1) e1 t=Bl b:=by
 unfold zcg at hf
 split at hf
 ·rename_i s xs hr
  cases hb:xs.any (zf6 ks) with
  | false=>rw [hb] at hf; cases hf; exact fun _ _ h=>h
  | true =>
   rw [hb] at hf
   cases hf
   intro t b ht
   simp only [denE,z2v] at ht ⊢
   cases hv:getE e t <;> rw [hv] at ht <;> first | (rename_i q; cases q <;> cases ht; done) | (simp [den] at ht <;> simp [z2i,den,ht])
 ·cases hf; exact fun _ _ h=>h
 ·cases hf
theorem z8w:∀ (l:List (Nat×List Kd)) (e e1:TE T.toTT0) (h h1:TH T.toTT0),zch e h l=some (e1,h1)→∀ t b,denE T.toTT0 (denH T.toTT0 h) e t=Bl b→denE T.toTT0 (denH T.toTT0 h1) e1 t=Bl b
 | [],_,_,_,_,hf=>by cases hf; exact fun _ _ h=>h
 | (k,ks)::l,e,e1,h,h1,hf=>by
  unfold zch at hf
  split at hf
  ·rename_i e2 h2 h3
   exact fun t b ht=>z8w l _ _ _ _ hf t b (zsd h3 t b ht)
  ·cases hf
theorem zjp {L:Type} {cs:List (Con P T)} {e:TE T.toTT0} {h:TH T.toTT0} {d:Nat} {op:IK} {K:TE T.toTT0→TH T.toTT0→Raw P T pro L} {Q:L→Prop} (hs:Sat (zh4 P pro cs e h d op K) Q) :
  ∃ e0 h0 e1 e2 h2,zc P pro (denE T.toTT0 (denH T.toTT0 h) e) (denH T.toTT0 h) e0 h0∧z2h P pro e0 h0 d op e1 (denH T.toTT0 h2)∧zc P pro e1 (denH T.toTT0 h2) (denE T.toTT0 (denH T.toTT0 h2) e2) (denH T.toTT0 h2)∧Sat (K e2 h2) Q ∧
   ∀ t b,denE T.toTT0 (denH T.toTT0 h) e t=Bl b→e0 t=Bl b:=by
 unfold zh4 at hs
 split at hs
 ·exact hs.elim
 ·rename_i f args ha
  split at hs
  ·exact hs.elim
  ·rename_i C m hf
   split at hs
   ·exact hs.elim
   ·rename_i e1 h1 hfx
    split at hs
    ·exact hs.elim
    ·rename_i f1 args1 ha1
     cases hb:Nat.beq f1 f with
     | false=>rw [hb] at hs; exact hs.elim
     | true =>
      rw [hb,cond_true] at hs
      have hb:=Nat.eq_of_beq_eq_true hb
      obtain ⟨p,hp,x,y,q1,q2,q3,q4⟩:=Sat.ofRs _ hs
      dsimp only at q4
      split at q4
      ·rename_i e2 h2 hpost
       obtain ⟨e0,c1,c2⟩:=zp9 hp q1 q2 (C.ok x y q3).2 hpost
       have hCf:C.f=f1:=(z9l cs hf).trans hb.symm
       rw [hCf] at c1
       exact ⟨_,_,e0,e2,h2,zci _ _ _ _ _ hfx,zfp ha1 c1,c2,q4,z8w _ _ _ _ _ hfx⟩
      ·exact q4.elim
theorem z5p.le {f:Nat} {args args':List AV} {hin:H} {u:Value} (hl:z53 args args') (hc:z5p P f args' hin u):z5p P f args hin u:=fun I σ w vs hh hv=>hc I σ w vs hh (hl.L I σ (bl w) vs hv)
theorem zzf {C:Con P T} {m:List (Nat×Nat)} {args:List (VT T)} {h:TH T.toTT0} {p:Pre T} {x:C.X} {z:C.V} (hp:(preT C m args h).gives p)
  (h1':C.encA x=p.args) (h2:C.encH x=p.hin) (h3:C.FX x=some (.inr z)) :
  ∃ hin bor args',z2a (denH T.toTT0 h) m=some (hin,denH T.toTT0 p.rest)∧(m.map Prod.fst).Nodup∧z2d (denH T.toTT0 p.rest) m bor (denL T.toTT0 (denH T.toTT0 h) args)=some args'∧z5p P C.f args' hin (C.encV z):=by
 unfold preT at hp
 obtain ⟨hk,hp⟩:=zp hp
 simp only [Bool.and_eq_true] at hk
 split at hp
 ·exact hp.elim
 ·rename_i hin rest hsp
  obtain ⟨args',hcv,hp⟩:=Rs.bind_gives _ hp
  cases hp
  obtain ⟨s1,s2,s3⟩:=z4j m h hin rest hsp
  obtain ⟨l,q1,q2⟩:=z6n (Hn:=denH T.toTT0 hin) (bor:=z30 args) s2 C.A args args' hcv (fun h=>h)
  dsimp only at h1' h2
  have hok:z5p _ _ _ _ _:=C.okX x _ h3
  rw [h1',h2] at hok
  exact ⟨_,_,l,s1,zw _ hk.1,q1,z5p.le q2 hok⟩
def pt1T:VT T→VT T
 | .pt k p i c=>.pt k p i c
 | _=>.un
def ptT:TE T.toTT0→TE T.toTT0
 | []=>[]
 | (k,v)::l=>(k,pt1T v)::ptT l
theorem zqz:∀ (e:TE T.toTT0) (t:Nat),getE (ptT e) t=pt1T (getE e t)
 | [],_=>rfl
 | (k,v)::l,t=>by
  simp only [ptT,getE]
  cases Nat.beq t k
  ·simpa using zqz l t
  ·rfl
theorem zyk {H0 H1:H} (e:TE T.toTT0) (t:Nat):AVle (ptE (denE T.toTT0 H0 e) t) (denE T.toTT0 H1 (ptT e) t):=by
 simp only [denE,zqz]
 cases hv:getE e t <;> first | exact AVle.un _ | skip
 simp only [pt1T,ptE,denE,hv,den]
 exact AVle.refl _
def zm6 {L:Type} (P:Program) (pro:List Nat) (cs:List (Con P T)) (e:TE T.toTT0) (h:TH T.toTT0) (d:Nat) (f:Nat) (l:List Operand) (K:TE T.toTT0→TH T.toTT0→Raw P T pro L) (KX:Value→TE T.toTT0→TH T.toTT0→Raw P T pro L):Raw P T pro L :=
 match zcd f (l.map (evT e)) cs with
 | none=>.no
 | some (C,m)=>bif C.x then
  match zch e h (m.map fun x=>(x.2,(C.H.find? fun y=>Nat.beq y.1 x.1).elim [] Prod.snd)) with
  | none=>.no
  | some (e1,h1) =>
   Raw.ofRs (fun p=>.callX C p.args p.hin (fun y=>match zlq pro p C.N e1 d (C.encR y) (C.encO y) with | some (e2,h2)=>K e2 h2 | none=>.no) (fun z=>KX (C.encV z) (ptT e1) p.rest)) (preT C m (l.map (evT e1)) h1)
  else zh4 P pro cs e h d (.call f l) K
theorem ztn {L:Type} {cs:List (Con P T)} {e:TE T.toTT0} {h:TH T.toTT0} {d f:Nat} {l:List Operand} {K:TE T.toTT0→TH T.toTT0→Raw P T pro L} {KX:Value→TE T.toTT0→TH T.toTT0→Raw P T pro L} {Q:L→Prop} (hs:Sat (zm6 P pro cs e h d f l K KX) Q) :
  (∃ e0 h0 e1 e2 h2,zc P pro (denE T.toTT0 (denH T.toTT0 h) e) (denH T.toTT0 h) e0 h0∧z2h P pro e0 h0 d (.call f l) e1 (denH T.toTT0 h2)∧zc P pro e1 (denH T.toTT0 h2) (denE T.toTT0 (denH T.toTT0 h2) e2) (denH T.toTT0 h2)∧Sat (K e2 h2) Q ∧
   ∀ t b,denE T.toTT0 (denH T.toTT0 h) e t=Bl b→e0 t=Bl b) ∨
  (∃ e0 h0 u ex hx,zc P pro (denE T.toTT0 (denH T.toTT0 h) e) (denH T.toTT0 h) e0 h0∧(∀ t b,denE T.toTT0 (denH T.toTT0 h) e t=Bl b→e0 t=Bl b)∧z6y P e0 h0 (.call f l) u (denH T.toTT0 hx)∧(∀ t,AVle (ptE e0 t) (denE T.toTT0 (denH T.toTT0 hx) ex t))∧Sat (KX u ex hx) Q):=by
 unfold zm6 at hs
 split at hs
 ·exact hs.elim
 ·rename_i C m hf
  cases hx:C.x with
  | false =>
   rw [hx,cond_false] at hs
   exact .inl (zjp hs)
  | true =>
   rw [hx,cond_true] at hs
   split at hs
   ·exact hs.elim
   ·rename_i e1 h1 hfx
    obtain ⟨p,hp,x,r,q1,q2,q3,q4⟩:=Sat.ofRs _ hs
    have hCf:C.f=f:=z9l cs hf
    cases r with
    | inl y =>
     left
     dsimp only [sumP] at q4
     split at q4
     ·rename_i e2 h2 hpost
      obtain ⟨e0,c1,c2⟩:=zp9 hp q1 q2 (C.okX x _ q3) hpost
      rw [hCf] at c1
      exact ⟨_,_,e0,e2,h2,zci _ _ _ _ _ hfx,zfp (op:=.call f l) rfl c1,c2,q4,z8w _ _ _ _ _ hfx⟩
     ·exact q4.elim
    | inr z =>
     right
     obtain ⟨hin,bor,args',c1,c2,c3,c4⟩:=zzf hp q1 q2 q3
     rw [hCf] at c4
     refine ⟨_,_,C.encV z,ptT e1,p.rest,zci _ _ _ _ _ hfx,z8w _ _ _ _ _ hfx,.call (bor:=bor) c1 c2 ?_ c4,zyk e1,q4⟩
     rw [zx,List.map_map] at c3
     have:l.map (ev (denE T.toTT0 (denH T.toTT0 h1) e1))=l.map (den T.toTT0 (denH T.toTT0 h1) ∘ evT e1):=List.map_congr_left fun x _=>zg x
     rw [this]; exact c3
end
section
variable {P:Program} {T:TT} {pro:List Nat}
def cut1 (e:TE T.toTT0) (h:TH T.toTT0) (t:Nat):Rs (TE T.toTT0×TH T.toTT0) :=
 match getE e t with
 | .sl k [] 0 n =>
  match getT h k with
  | some (.typ m' t' xs)=>.need (n≤xs.length) (.ok (putE (z5g (fun _ _=>false) (fun k' _=>Nat.beq k' k) e) t (.sw k []),(k,.typ m' t' (xs.take n))::delT h k))
  | _=>.no
 | _=>.ok (e,h)
theorem zpb {e e1:TE T.toTT0} {h h1:TH T.toTT0} {t:Nat} (hg:(cut1 e h t).gives (e1,h1)) :
  zc P pro (denE T.toTT0 (denH T.toTT0 h) e) (denH T.toTT0 h) (denE T.toTT0 (denH T.toTT0 h1) e1) (denH T.toTT0 h1)∧∀ u b,denE T.toTT0 (denH T.toTT0 h) e u=Bl b→denE T.toTT0 (denH T.toTT0 h1) e1 u=Bl b:=by
 unfold cut1 at hg
 split at hg
 ·rename_i k n hz
  split at hg
  ·rename_i m' t' xs hr
   obtain ⟨hc,hg⟩:=hg
   cases hg
   have hgr:za (denH T.toTT0 h) k=some ⟨T.sz t',xs.map (T.ca m' t')⟩:=by rw [z1p,hr]; rfl
   have h1:=zc.take (P:=P) (pro:=pro) (e:=denE T.toTT0 (denH T.toTT0 h) e) n hgr
   have hh:denH T.toTT0 ((k,.typ m' t' (xs.take n))::delT h k)=(k,⟨T.sz t',(xs.map (T.ca m' t')).take n⟩)::zd (denH T.toTT0 h) k:=by
    simp only [denH,denR,List.map_take,zu]
   rw [hh]
   refine ⟨h1.trans (zc.le fun u=>?_),fun u b hu=>?_⟩
   ·rw [zy]
    unfold upd
    split
    ·rename_i hu
     subst hu
     have:ze ((k,⟨T.sz t',(xs.map (T.ca m' t')).take n⟩)::zd (denH T.toTT0 h) k) k []=n:=by
      simp only [ze,res,za,if_true,resE,List.length_take,List.length_map]; omega
     simp only [denE,hz,den,this]; exact AVle.refl _
    ·simp only [denE,z2v]
     have:=z6r (T:=T) (H0:=denH T.toTT0 h) (H1:=(k,⟨T.sz t',(xs.map (T.ca m' t')).take n⟩)::zd (denH T.toTT0 h) k) (b1:=fun _ _=>false) (bad:=fun _ _=>false) (bw:=fun k' _=>Nat.beq k' k) (fun _ _ h=>h) (fun k' p _ hk=>z1a (by
      simp only [z1b,decide_eq_false_iff_not] at hk
      simp only [za]
      rw [if_neg (fun e=>hk e.symm),zz hk])) (getE e u)
     rwa [zic] at this
   ·rw [zy]
    unfold upd
    split
    ·rename_i ht
     subst ht
     simp only [denE,hz,den] at hu
     cases hu
    ·simp only [denE,z2v] at hu ⊢
     cases hv:getE e u <;> rw [hv] at hu <;> first | (rename_i q; cases q <;> cases hu; done) | (simp [den] at hu <;> simp [z2i,den,hu])
  ·exact hg.elim
 ·cases hg
  exact ⟨zc.rfl',fun _ _ h=>h⟩
def cuT (pro:List Nat) (j:Nat) (e:TE T.toTT0) (h:TH T.toTT0) (v:Operand):Rs (TE T.toTT0×TH T.toTT0) :=
 match v with
 | .tmp t =>
  match getE e t with
  | .sl k [(i,c)] 0 _=>match zha pro h j k i c with
   | some h1=>cut1 (z7x k i c j e) h1 t
   | none=>.no
  | _=>cut1 e h t
 | _=>.ok (e,h)
theorem y6d {e e1:TE T.toTT0} {h h1:TH T.toTT0} {j:Nat} {v:Operand} (hg:(cuT pro j e h v).gives (e1,h1)) :
  zc P pro (denE T.toTT0 (denH T.toTT0 h) e) (denH T.toTT0 h) (denE T.toTT0 (denH T.toTT0 h1) e1) (denH T.toTT0 h1)∧∀ u b,denE T.toTT0 (denH T.toTT0 h) e u=Bl b→denE T.toTT0 (denH T.toTT0 h1) e1 u=Bl b:=by
 unfold cuT at hg
 split at hg
 ·split at hg
  ·split at hg
   ·rename_i h2 hd
    obtain ⟨q1,q2⟩:=zpb (P:=P) (pro:=pro) hg
    exact ⟨(zg7 hd).trans q1,fun u b hu=>q2 u b (ze2 hu)⟩
   ·exact hg.elim
  ·exact zpb hg
 ·cases hg
  exact ⟨zc.rfl',fun _ _ h=>h⟩
def dapT (pro:List Nat) (j:Nat) (e:TE T.toTT0) (h:TH T.toTT0) (v:Operand):Option (TE T.toTT0×TH T.toTT0) :=
 match v with
 | .tmp t=>match getE e t with
  | .sl k [(i,c)] _ _=>match zha pro h j k i c with
   | some h1=>some (z7x k i c j e,h1)
   | none=>none
  | _=>some (e,h)
 | _=>some (e,h)
theorem y4h {e e1:TE T.toTT0} {h h1:TH T.toTT0} {j:Nat} {v:Operand} (hg:dapT pro j e h v=some (e1,h1)) :
  zc P pro (denE T.toTT0 (denH T.toTT0 h) e) (denH T.toTT0 h) (denE T.toTT0 (denH T.toTT0 h1) e1) (denH T.toTT0 h1)∧∀ u b,denE T.toTT0 (denH T.toTT0 h) e u=Bl b→denE T.toTT0 (denH T.toTT0 h1) e1 u=Bl b:=by
 unfold dapT at hg
 split at hg
 ·split at hg
  ·split at hg
   ·rename_i h2 hd
    simp only [Option.some.injEq,Prod.mk.injEq] at hg
    obtain ⟨rfl,rfl⟩:=hg
    exact ⟨zg7 hd,fun u b hu=>ze2 hu⟩
   ·cases hg
  ·simp only [Option.some.injEq,Prod.mk.injEq] at hg
   obtain ⟨rfl,rfl⟩:=hg
   exact ⟨zc.rfl',fun _ _ h=>h⟩
 ·simp only [Option.some.injEq,Prod.mk.injEq] at hg
  obtain ⟨rfl,rfl⟩:=hg
  exact ⟨zc.rfl',fun _ _ h=>h⟩
end
section
variable {I J:Nat→Prop} {σ:Pl} {B:zj} {w:World} {h:H} {sel:Nat→Bool} {k:Nat}
theorem Im.ceFz {p:Path} {i c:Nat}:∀ (a:AV) (v:Value),Im J B (toIm a) v→Ce J σ B k p i c (toIm a) v
 | .ow _ _,_,h=>h
 | .sc _,_,h=>h
 | .zs,_,h=>h
 | .un,_,h=>h
 | .im _ _,_,h=>h
 | .ag _,_,h=>h.elim
 | .tu _,_,h=>h.elim
 | .ip _ _ _ _,_,h=>h.elim
 | .sl _ _ _ _,_,h=>h.elim
 | .pt _ _ _ _,_,h=>h.elim
 | .fn _ _,_,h=>h.elim
def frC (sel:Nat→Bool):Nat→List AV→List AV
 | _,[]=>[]
 | c,a::as=>(bif sel c then toIm a else a)::frC sel (c+1) as
def gpC (σ:Pl) (k:Nat) (p:Path) (i:Nat) (sel:Nat→Bool):Nat→List AV→List Nat
 | _,[]=>[]
 | c,a::as=>(bif sel c then fpA σ k p i c a else [])++gpC σ k p i sel (c+1) as
def gpE (σ:Pl) (k:Nat) (p:Path) (sel:Nat→Bool):Nat→Els→List Nat
 | _,[]=>[]
 | i,x::xs=>gpC σ k p i sel 0 x++gpE σ k p sel (i+1) xs
theorem zpp:∀ (l:List AV) (c:Nat),(frC sel c l).length=l.length
 | [],_=>rfl
 | a::as,c=>by simp [frC,zpp as (c+1)]
theorem zpo:∀ (l:List AV) (c j:Nat),(frC sel c l)[j]? = (l[j]?).map fun a=>bif sel (c+j) then toIm a else a
 | [],_,_=>by simp [frC]
 | a::as,c,0=>by simp [frC]
 | a::as,c,j+1=>by
  simp only [frC,List.getElem?_cons_succ]
  rw [zpo as (c+1) j,show c+1+j=c+(j+1) by omega]
theorem y01 {p:Path} {i c:Nat} (a:AV):fpA σ k p i c (toIm a)=[]∧(bif true then toIm a else a)=toIm a:=by cases a <;> exact ⟨rfl,rfl⟩
theorem zub {p:Path} {i:Nat}:∀ (l:List AV) (c:Nat),(fpC σ k p i c l).Perm (fpC σ k p i c (frC sel c l)++gpC σ k p i sel c l)
 | [],c=>by simp [fpC,frC,gpC]
 | a::as,c=>by
  have ih:=List.perm_iff_count.1 (zub (p:=p) (i:=i) as (c+1))
  refine List.perm_iff_count.2 fun x=>?_
  have:=ih x
  simp only [fpC,frC,gpC,List.count_append] at this ⊢
  cases sel c with
  | true=>simp only [cond_true,(y01 a).1,List.count_nil]; omega
  | false=>simp only [cond_false,List.count_nil]; omega
theorem zuc {p:Path}:∀ (l:Els) (i:Nat),(fpE σ k p i l).Perm (fpE σ k p i (l.map (frC sel 0))++gpE σ k p sel i l)
 | [],i=>by simp [fpE,gpE]
 | x::l,i=>by
  have ih:=List.perm_iff_count.1 (zuc (p:=p) l (i+1))
  have i2:=List.perm_iff_count.1 (zub (σ:=σ) (sel:=sel) (k:=k) (p:=p) (i:=i) x 0)
  refine List.perm_iff_count.2 fun z=>?_
  have:=ih z
  have:=i2 z
  simp only [fpE,gpE,List.map_cons,List.count_append] at *
  omega
theorem CeC.fz {p:Path} {i:Nat} (hIJ:∀ b,I b→J b):∀ (l:List AV) (c:Nat) (cs:List Value),(∀ b ∈ gpC σ k p i sel c l,J b)→CeC I σ B k p i c l cs→CeC J σ B k p i c (frC sel c l) cs
 | [],_,_,_,h=>h
 | a::as,c,_,hf,h=>by
  obtain ⟨v,cs',rfl,h1,h2⟩:=h
  simp only [gpC,List.mem_append] at hf
  refine ⟨v,cs',rfl,?_,CeC.fz hIJ as (c+1) cs' (fun b hb=>hf b (.inr hb)) h2⟩
  cases hs:sel c with
  | true=>exact Im.ceFz a v (Ce.toIm hIJ a v (fun b hb=>hf b (.inl (by rw [hs]; exact hb))) h1)
  | false=>exact Ce.wide hIJ a v h1
theorem CeE.fz {p:Path} {s:Nat} (hIJ:∀ b,I b→J b):∀ (l:Els) (i:Nat) (cs:List Value),(∀ b ∈ gpE σ k p sel i l,J b)→CeE I σ B k p i s l cs→CeE J σ B k p i s (l.map (frC sel 0)) cs
 | [],_,_,_,_=>trivial
 | x::l,i,cs,hf,h=>by
  simp only [gpE,List.mem_append] at hf
  exact ⟨by rw [zpp]; exact h.1,CeC.fz hIJ x 0 _ (fun b hb=>hf b (.inl hb)) h.2.1,CeE.fz hIJ l (i+1) _ (fun b hb=>hf b (.inr hb)) h.2.2⟩
theorem zr0 {p:Path} {i:Nat}:∀ (l:List AV) (c0 j:Nat) (a:AV),l[j]? = some a→sel (c0+j)=true→∀ b ∈ fpA σ k p i (c0+j) a,b ∈ gpC σ k p i sel c0 l
 | [],_,_,_,h,_,_,_=>by simp at h
 | x::l,c0,0,a,h,hs,b,hb=>by
  simp at h; subst h
  simp only [gpC,List.mem_append]
  rw [Nat.add_zero] at hs hb
  rw [hs]; exact .inl hb
 | x::l,c0,j+1,a,h,hs,b,hb=>by
  simp only [gpC,List.mem_append]
  exact .inr (zr0 l (c0+1) j a (by simpa using h) (by rwa [show c0+1+j=c0+(j+1) by omega]) b (by rwa [show c0+1+j=c0+(j+1) by omega]))
theorem zr1 {p:Path}:∀ (l:Els) (i0 n:Nat) (x:List AV),l[n]? = some x→∀ b ∈ gpC σ k p (i0+n) sel 0 x,b ∈ gpE σ k p sel i0 l
 | [],_,_,_,h,_,_=>by simp at h
 | y::l,i0,0,x,h,b,hb=>by
  simp at h; subst h
  simp only [gpE,List.mem_append]; exact .inl hb
 | y::l,i0,n+1,x,h,b,hb=>by
  simp only [gpE,List.mem_append]
  exact .inr (zr1 l (i0+1) n x (by simpa using h) b (by rwa [show i0+1+n=i0+(n+1) by omega]))
theorem Va.frozen (hh:HRel I σ h w) {p:Path} {s off len:Nat} {ys:Els} (hres:res h k p=some (s,ys)) (hle:off+len≤ys.length) (hIJ:∀ b,I b→J b) (hb:∀ b ∈ fpP σ k p ys,J b) {v:Value}
  (hv:Va I σ (bl w) (.sl k p off len) v):Va J σ (bl w) (.im s (z2z ((ys.drop off).take len))) v:=by
 obtain ⟨hp,_⟩:=hh.place hres
 unfold z2c at hp
 unfold fpP at hb
 simp only [Va] at hv
 cases hL:σ k p with
 | none =>
  simp only [hL] at hp hv
  subst hp
  obtain ⟨rfl,rfl,A,rfl⟩:=hv
  exact ⟨A,0,by simp [z2z],by simp [z2z],fun hn=>absurd (by simp [z2z]) hn⟩
 | some L =>
  simp only [hL] at hp hb hv
  obtain ⟨f1,f2,cur,E,f3,f4,f5⟩:=hp
  obtain ⟨A,c,rfl,g1,g2,g3⟩:=hv
  have hlen:((ys.drop off).take len).length=len:=by rw [List.length_take,List.length_drop]; omega
  refine ⟨some A,c,by rw [z6v,hlen],by rw [z6v,hlen]; exact g2,fun hn=>?_⟩
  have hpos:0<len:=by
   rcases Nat.eq_zero_or_pos len with h0 | h0
   ·exfalso; apply hn; subst h0; simp [z2z]
   ·exact h0
  have hA:=g3 (.inl (by omega))
  subst hA
  refine ⟨_,cur,E.t,E.fr,rfl,rfl,hb _ (by simp),f3,?_⟩
  have hE:CeE I σ (bl w) k p (0+off) s ((ys.drop off).take len) (cur.toList.drop (off * s)):=CeE.take _ _ _ len (CeE.drop ys 0 _ off f5)
  rw [f1]
  refine CeE.toIm hIJ _ _ _ (fun b hbb=>hb b (List.mem_cons_of_mem _ ?_)) hE
  have hs1:=z6k (σ:=σ) (k:=k) (p:=p) (ys.drop off) (0+off) len
  have hs2:∀ (l:Els) (i n:Nat),(fpE σ k p (i+n) (l.drop n)).Sublist (fpE σ k p i l):=by
   intro l
   induction l with
   | nil=>intro i n; simp [fpE]
   | cons x l ih =>
    intro i n
    cases n with
    | zero=>simp
    | succ n =>
     simp only [List.drop_succ_cons,fpE]
     have:=ih (i+1) n
     rw [show i+1+n=i+(n+1) by omega] at this
     exact this.trans (List.sublist_append_right _ _)
  exact (hs1.trans (hs2 ys 0 off)).subset hbb
end
mutual
def mapR (gs:Nat→Path→Nat→Nat→AV) (gp:Nat→Path→Nat→Nat→AV):AV→AV
 | .sl k p off len=>gs k p off len
 | .pt k p i c=>gp k p i c
 | .ag cs=>.ag (zct gs gp cs)
 | .tu cs=>.tu (zct gs gp cs)
 | .fn f cs=>.fn f (zct gs gp cs)
 | .un=>.un
 | .sc v=>.sc v
 | .zs=>.zs
 | .im s xs=>.im s xs
 | .ip s xs i c=>.ip s xs i c
 | .ow s xs=>.ow s xs
 | .pp q=>.pp q
def zct (gs:Nat→Path→Nat→Nat→AV) (gp:Nat→Path→Nat→Nat→AV):List AV→List AV
 | []=>[]
 | x::l=>mapR gs gp x::zct gs gp l
end
section
variable {I J:Nat→Prop} {σ:Pl} {B:zj} {gs gp:Nat→Path→Nat→Nat→AV}
mutual
theorem Va.mapR (hIJ:∀ b,I b→J b) (hs:∀ k p o l v,Va I σ B (.sl k p o l) v→Va J σ B (gs k p o l) v) (hp:∀ k p o l v,Va I σ B (.pt k p o l) v→Va J σ B (gp k p o l) v):∀ (a:AV) (v:Value),Va I σ B a v→Va J σ B (mapR gs gp a) v
 | .un,_,_=>trivial
 | .sc _,_,h=>h
 | .zs,_,h=>h
 | .im s xs,v,h=>Va.wide hIJ (.im s xs) v h
 | .ip s xs i c,v,h=>Va.wide hIJ (.ip s xs i c) v h
 | .sl k p o l,v,h=>hs k p o l v h
 | .pt k p o l,v,h=>hp k p o l v h
 | .ow _ _,_,h=>h.elim
 | .pp q,v,h=>VaP.wide hIJ q v h
 | .ag cs,_,h=>by obtain ⟨a,rfl,h⟩:=h; exact ⟨a,rfl,VaC.mapR hIJ hs hp cs _ h⟩
 | .tu cs,_,h=>by obtain ⟨a,rfl,h⟩:=h; exact ⟨a,rfl,VaL.mapR hIJ hs hp cs _ h⟩
 | .fn _ cs,_,h=>by obtain ⟨a,rfl,h⟩:=h; exact ⟨a,rfl,VaL.mapR hIJ hs hp cs _ h⟩
theorem VaC.mapR (hIJ:∀ b,I b→J b) (hs:∀ k p o l v,Va I σ B (.sl k p o l) v→Va J σ B (gs k p o l) v) (hp:∀ k p o l v,Va I σ B (.pt k p o l) v→Va J σ B (gp k p o l) v):∀ (l:List AV) (cs:List Value),VaC I σ B l cs→VaC J σ B (zct gs gp l) cs
 | [],_,h=>h
 | a::as,_,h=>by
  obtain ⟨v,cs',rfl,h0,h1,h2⟩:=h
  exact ⟨v,cs',rfl,h0,Va.mapR hIJ hs hp a v h1,VaC.mapR hIJ hs hp as cs' h2⟩
theorem VaL.mapR (hIJ:∀ b,I b→J b) (hs:∀ k p o l v,Va I σ B (.sl k p o l) v→Va J σ B (gs k p o l) v) (hp:∀ k p o l v,Va I σ B (.pt k p o l) v→Va J σ B (gp k p o l) v):∀ (l:List AV) (cs:List Value),VaL I σ B l cs→VaL J σ B (zct gs gp l) cs
 | [],_,h=>h
 | a::as,_,h=>by
  obtain ⟨v,cs',rfl,h1,h2⟩:=h
  exact ⟨v,cs',rfl,Va.mapR hIJ hs hp a v h1,VaL.mapR hIJ hs hp as cs' h2⟩
end
end
section
variable {P:Program} {pro:List Nat} {e:Env} {h:H}
def rowS (k:Nat) (r:Row) (k':Nat) (p:Path) (o l:Nat):AV :=
 if k'=k then (if p=[] then (if o+l≤r.xs.length then .im r.s (z2z ((r.xs.drop o).take l)) else .un) else .un) else .sl k' p o l
def rowP (k:Nat) (k':Nat) (p:Path) (i c:Nat):AV:=if k'=k then .un else .pt k' p i c
theorem zc.frow {k:Nat} {r:Row} (hg:za h k=some r):zc P pro e h (fun t=>mapR (rowS k r) (rowP k) (e t)) (zd h k):=fun I N _ σ a w R=>by
 obtain ⟨d1,d2,d3,d4,d5,d6⟩:=R.heap.del hg
 have hIJ:∀ b,I b→(I b∨b ∈ fpR σ k r):=fun b hb=>.inl hb
 refine ⟨σ,fun b=>I b∨b ∈ fpR σ k r,hIJ,fun b hb=>?_,⟨d1.wide hIJ (fun b hb hJ=>?_) (fun b hb=>?_),R.size,fun t=>?_,R.defers⟩,fun _ _=>rfl,Le.refl _,fun _ _ _=>rfl,fun b hb=>.inl (d6 b hb)⟩
 ·rcases hb with hb | hb
  ·exact .inl hb
  ·exact .inr (.inl (d5 b hb).2)
 ·rcases hJ with hJ | hJ
  ·exact (d1.apart b hb).1 hJ
  ·exact (d5 b hJ).1 hb
 ·rcases hb with hb | hb
  ·exact R.heap.low b hb
  ·exact (R.heap.apart b (d5 b hb).2).2
 ·refine Va.mapR hIJ (fun k' p o l v hv=>?_) (fun k' p o l v hv=>?_) _ _ (R.vals t)
  ·unfold rowS
   split
   ·rename_i e; subst e
    split
    ·rename_i e; subst e
     split
     ·rename_i hle
      exact Va.frozen R.heap (p:=[]) (s:=r.s) (ys:=r.xs) (by unfold res; rw [hg]; rfl) hle hIJ (fun b hb=>.inr hb) hv
     ·trivial
    ·trivial
   ·exact Va.wide hIJ (.sl k' p o l) v hv
  ·unfold rowP
   split
   ·trivial
   ·exact hv
def colS (h:H) (k:Nat) (sel:Nat→Bool) (k':Nat) (p:Path) (o l:Nat):AV :=
 if k'=k then
  match p with
  | []=>.sl k' p o l
  | (i,c)::q=>if sel c=true then (if q=[] then (match res h k [(i,c)] with | some (s,ys)=>if o+l≤ys.length then .im s (z2z ((ys.drop o).take l)) else .un | none=>.un) else .un) else .sl k' p o l
 else .sl k' p o l
def colP (k:Nat) (sel:Nat→Bool) (k':Nat) (p:Path) (i0 c0:Nat):AV :=
 if k'=k then
  match p with
  | []=>.pt k' p i0 c0
  | (i,c)::q=>if sel c=true then .un else .pt k' p i0 c0
 else .pt k' p i0 c0
theorem zc.fcol {k:Nat} {r:Row} (sel:Nat→Bool) (hg:za h k=some r):zc P pro e h (fun t=>mapR (colS h k sel) (colP k sel) (e t)) ((k,⟨r.s,r.xs.map (frC sel 0)⟩)::zd h k):=fun I N _ σ a w R=>by
 obtain ⟨d1,d2,d3,d4,d5,d6⟩:=R.heap.del hg
 let g:List Nat:=match σ k [] with | none=>[] | some _=>gpE σ k [] sel 0 r.xs
 have hperm:(fpR σ k r).Perm (fpR σ k ⟨r.s,r.xs.map (frC sel 0)⟩++g):=by
  simp only [fpR,g]
  cases σ k [] with
  | none=>exact List.Perm.refl _
  | some L=>exact List.Perm.cons _ (zuc r.xs 0)
 have hnd:=(hperm.nodup_iff).1 d4
 rw [List.nodup_append] at hnd
 obtain ⟨n1,n2,n3⟩:=hnd
 have hgr:∀ b ∈ g,b ∈ fpR σ k r:=fun b hb=>hperm.mem_iff.2 (List.mem_append.2 (.inr hb))
 have hkr:∀ b ∈ fpR σ k ⟨r.s,r.xs.map (frC sel 0)⟩,b ∈ fpR σ k r:=fun b hb=>hperm.mem_iff.2 (List.mem_append.2 (.inl hb))
 have hIJ:∀ b,I b→(I b∨b ∈ g):=fun b hb=>.inl hb
 have hlow:∀ b,(I b∨b ∈ g)→b<w.heap.size:=fun b hb=>by
  rcases hb with hb | hb
  ·exact R.heap.low b hb
  ·exact (R.heap.apart b (d5 b (hgr b hb)).2).2
 have d1':HRel (fun b=>I b∨b ∈ g) σ (zd h k) w:=d1.wide hIJ (fun b hb hJ=>by
  rcases hJ with hJ | hJ
  ·exact (d1.apart b hb).1 hJ
  ·exact (d5 b (hgr b hJ)).1 hb) hlow
 have hrow:zr (fun b=>I b∨b ∈ g) σ (bl w) k ⟨r.s,r.xs.map (frC sel 0)⟩:=by
  unfold zr at d2 ⊢
  cases hL:σ k [] with
  | none=>simp only [hL] at d2 ⊢; simp [d2]
  | some L =>
   simp only [hL] at d2 ⊢
   obtain ⟨f1,f2,cur,E,f3,f4,f5⟩:=d2
   exact ⟨f1,by simpa using f2,cur,E,f3,f4,CeE.fz hIJ r.xs 0 _ (fun b hb=>.inr (by simp only [g,hL]; exact hb)) f5⟩
 have hadd:=d1'.add (σ':=σ) (w':=w) d3 (fun _ _ _=>rfl) (fun _ _ _=>rfl) (Nat.le_refl _) hrow n1 (fun b hb=>⟨(d5 b (hkr b hb)).1,fun hJ=>by
  rcases hJ with hJ | hJ
  ·exact (R.heap.apart b (d5 b (hkr b hb)).2).1 hJ
  ·exact n3 b hb b hJ rfl,(R.heap.apart b (d5 b (hkr b hb)).2).2⟩)
 refine ⟨σ,fun b=>I b∨b ∈ g,hIJ,fun b hb=>?_,⟨hadd,R.size,fun t=>?_,R.defers⟩,fun _ _=>rfl,Le.refl _,fun _ _ _=>rfl,fun b hb=>.inl ?_⟩
 ·rcases hb with hb | hb
  ·exact .inl hb
  ·exact .inr (.inl (d5 b (hgr b hb)).2)
 ·refine Va.mapR hIJ (fun k' p o l v hv=>?_) (fun k' p o l v hv=>?_) _ _ (R.vals t)
  ·unfold colS
   split
   ·rename_i e; subst e
    split
    ·exact hv
    ·rename_i i c q
     split
     ·rename_i hsel
      split
      ·rename_i hq; subst hq
       split
       ·rename_i s ys hres
        split
        ·rename_i hle
         refine Va.frozen R.heap hres hle hIJ (fun b hb=>.inr ?_) hv
         unfold res at hres
         rw [hg] at hres
         simp only [resE] at hres
         cases hx:r.xs[i]? with
         | none=>rw [hx] at hres; cases hres
         | some x =>
          rw [hx] at hres
          simp only at hres
          cases hy:x[c]? with
          | none=>rw [hy] at hres; cases hres
          | some y =>
           rw [hy] at hres
           cases y with
           | ow s' ys' =>
            simp only [Option.some.injEq,Prod.mk.injEq] at hres
            obtain ⟨rfl,rfl⟩:=hres
            have hn:σ k' [] ≠ none:=fun hn=>by
             unfold zr at d2
             simp only [hn] at d2
             rw [d2] at hx; simp at hx
            have hgg:g=gpE σ k' [] sel 0 r.xs:=by
             simp only [g]
             cases hL:σ k' [] with
             | none=>exact absurd hL hn
             | some _=>rfl
            rw [hgg]
            have e1:fpP σ k' [(i,c)] ys'=fpA σ k' [] i c (.ow s' ys'):=rfl
            rw [e1] at hb
            refine zr1 r.xs 0 i x hx b ?_
            rw [Nat.zero_add]
            refine zr0 x 0 c _ hy (by rwa [Nat.zero_add]) b ?_
            rwa [Nat.zero_add]
           | _=>cases hres
        ·trivial
       ·trivial
      ·trivial
     ·exact hv
   ·exact hv
  ·unfold colP
   split
   ·split
    ·exact hv
    ·split
     ·trivial
     ·exact hv
   ·exact hv
 ·rw [z1h,List.mem_append] at hb
  rcases hb with hb | hb
  ·exact (d5 b (hkr b hb)).2
  ·exact d6 b hb
end
section
variable {P:Program} {T:TT} {pro:List Nat}
mutual
def fzT (fw:Nat→Path→VT T) (fs fp:Nat→Path→Nat→Nat→VT T):VT T→VT T
 | .sl k p off len=>fs k p off len
 | .sw k p=>fw k p
 | .pt k p i c=>fp k p i c
 | .ag cs=>.ag (fzTL fw fs fp cs)
 | .tu cs=>.tu (fzTL fw fs fp cs)
 | .fn f cs=>.fn f (fzTL fw fs fp cs)
 | .un=>.un
 | .sc v=>.sc v
 | .ik k n=>.ik k n
 | .bk b=>.bk b
 | .zs=>.zs
 | .im t xs=>.im t xs
 | .ip s cs c=>.ip s cs c
 | .ow m t xs=>.ow m t xs
 | .oo m t xs i cs=>.oo m t xs i cs
 | .pp (.px k c)=>fp k [] 0 c
 | .pp q=>.pp q
def fzTL (fw:Nat→Path→VT T) (fs fp:Nat→Path→Nat→Nat→VT T):List (VT T)→List (VT T)
 | []=>[]
 | x::l=>fzT fw fs fp x::fzTL fw fs fp l
end
def fzE (fw:Nat→Path→VT T) (fs fp:Nat→Path→Nat→Nat→VT T):TE T.toTT0→TE T.toTT0
 | []=>[]
 | (t,v)::l=>(t,fzT fw fs fp v)::fzE fw fs fp l
theorem zbf {fw:Nat→Path→VT T} {fs fp:Nat→Path→Nat→Nat→VT T} {t:Nat}:∀ (e:TE T.toTT0),getE (fzE fw fs fp e) t=fzT fw fs fp (getE e t)
 | []=>by simp [fzE,getE,fzT]
 | (t',v)::l=>by
  have ih:=zbf (fw:=fw) (fs:=fs) (fp:=fp) (t:=t) l
  simp only [fzE,getE]
  cases Nat.beq t t' <;> simp [ih]
mutual
theorem zez {fw:Nat→Path→VT T} {fs fp:Nat→Path→Nat→Nat→VT T} {gs gp:Nat→Path→Nat→Nat→AV} {H0 H1:H} (hw:∀ k p,AVle (gs k p 0 (ze H0 k p)) (den T.toTT0 H1 (fw k p))) (hs:∀ k p o l,AVle (gs k p o l) (den T.toTT0 H1 (fs k p o l)))
  (hp:∀ k p o l,AVle (gp k p o l) (den T.toTT0 H1 (fp k p o l))):∀ (v:VT T),AVle (mapR gs gp (den T.toTT0 H0 v)) (den T.toTT0 H1 (fzT fw fs fp v))
 | .un | .sc _ | .ik _ _ | .bk _ | .zs | .im _ _ | .ip _ _ _ | .ow _ _ _ | .oo _ _ _ _ _=>by simp only [fzT,den,mapR]; exact AVle.refl _
 | .pp (.xp _ _ _) | .pp (.fs _ _) | .pp (.fp _ _ _)=>AVle.refl _
 | .pp (.px k c)=>hp k [] 0 c
 | .ag cs=>by simp only [fzT,den,mapR]; exact AVle.ag (zcj hw hs hp cs).C
 | .tu cs=>by simp only [fzT,den,mapR]; exact AVle.tu (zcj hw hs hp cs).L
 | .fn f cs=>by simp only [fzT,den,mapR]; exact AVle.fn (zcj hw hs hp cs).L
 | .sl k p o l=>hs k p o l
 | .sw k p=>hw k p
 | .pt k p o l=>hp k p o l
theorem zcj {fw:Nat→Path→VT T} {fs fp:Nat→Path→Nat→Nat→VT T} {gs gp:Nat→Path→Nat→Nat→AV} {H0 H1:H} (hw:∀ k p,AVle (gs k p 0 (ze H0 k p)) (den T.toTT0 H1 (fw k p))) (hs:∀ k p o l,AVle (gs k p o l) (den T.toTT0 H1 (fs k p o l)))
  (hp:∀ k p o l,AVle (gp k p o l) (den T.toTT0 H1 (fp k p o l))):∀ (l:List (VT T)),z53 (zct gs gp (denL T.toTT0 H0 l)) (denL T.toTT0 H1 (fzTL fw fs fp l))
 | []=>.nil
 | x::l=>.cons (zez hw hs hp x) (zcj hw hs hp l)
end
inductive Fz where
 | row (k:Nat)
 | col (k:Nat) (cs:List Nat)
 | nest (k:Nat)
def inC (cs:List Nat) (c:Nat):Bool:=cs.any (Nat.beq c)
def colC (cs:List Nat):Nat→List (VT T)→Option (List (VT T))
 | _,[]=>some []
 | c,v::l=>match colC cs (c+1) l with
  | none=>none
  | some l'=>bif inC cs c then (match v with
   | .ow _ t xs=>some (.im t xs::l')
   | .oo _ _ _ _ _=>none
   | v=>some (v::l')) else some (v::l')
def colL (cs:List Nat):List (List (VT T))→Option (List (List (VT T)))
 | []=>some []
 | x::l=>match colC cs 0 x,colL cs l with | some x',some l'=>some (x'::l') | _,_=>none
theorem zma {cs:List Nat}:∀ (l l':List (VT T)) (c:Nat),colC cs c l=some l'→denL T.toTT0 [] l'=frC (inC cs) c (denL T.toTT0 [] l)
 | [],_,_,h=>by cases h; rfl
 | v::l,l',c,h=>by
  simp only [colC] at h
  split at h
  ·cases h
  ·rename_i l1 h1
   have ih:=zma l l1 (c+1) h1
   cases hs:inC cs c with
   | false =>
    rw [hs] at h
    cases h
    simp only [denL,frC,hs,cond_false,ih]
   | true =>
    rw [hs] at h
    simp only [cond_true] at h
    split at h
    ·cases h
     simp only [denL,frC,hs,cond_true,ih,den,toIm,z6w]
    ·cases h
    ·rename_i h2 h3
     cases h
     simp only [denL,frC,hs,cond_true,ih]
     congr 1
     cases v <;> first | rfl | (rename_i q; cases q <;> rfl) | (exact absurd rfl (h2 _ _ _)) | (exact absurd rfl (h3 _ _ _ _ _))
theorem zmb {cs:List Nat}:∀ (l l':List (List (VT T))),colL cs l=some l'→l'.map (denL T.toTT0 [])=(l.map (denL T.toTT0 [])).map (frC (inC cs) 0)
 | [],_,h=>by cases h; rfl
 | x::l,l',h=>by
  simp only [colL] at h
  split at h
  ·rename_i x' l1 h1 h2
   cases h
   simp only [List.map_cons,zma _ _ _ h1,zmb l l1 h2]
  ·cases h
def frz1 (e:TE T.toTT0) (h:TH T.toTT0):Fz→Option (TE T.toTT0×TH T.toTT0)
 | .row k=>match getT h k with
  | some (.typ _ t xs)=>some (fzE (fun k' p=>bif Nat.beq k' k then (match p with | []=>.im t xs | _=>.un) else .sw k' p) (fun k' p o l=>bif Nat.beq k' k then .un else .sl k' p o l) (fun k' p o l=>bif Nat.beq k' k then .un else .pt k' p o l) e,delT h k)
  | _=>none
 | .col k cs=>match getT h k with
  | some (.lit s xs)=>match colL cs xs with
   | some xs'=>some (fzE (fun k' p=>bif Nat.beq k' k then (match p with
     | []=>.sw k' p
     | (i,c)::q=>bif inC cs c then (match q with | []=>(match (xs[i]?).bind (fun x=>x[c]?) with | some (.ow _ t ys)=>.im t ys | _=>.un) | _=>.un) else .sw k' p) else .sw k' p)
    (fun k' p o l=>bif Nat.beq k' k then (match p with | []=>.sl k' p o l | (_,c)::_=>bif inC cs c then .un else .sl k' p o l) else .sl k' p o l)
    (fun k' p o l=>bif Nat.beq k' k then (match p with | []=>.pt k' p o l | (_,c)::_=>bif inC cs c then .un else .pt k' p o l) else .pt k' p o l) e,(k,.lit s xs')::delT h k)
   | none=>none
  | _=>none
 | .nest k=>match getT h k with
  | some (.typ _ t xs)=>some (fzE (fun k' p=>bif Nat.beq k' k then (match p with | []=>.sw k' p | _=>.un) else .sw k' p) (fun k' p o l=>bif Nat.beq k' k then (match p with | []=>.sl k' p o l | _=>.un) else .sl k' p o l)
    (fun k' p o l=>bif Nat.beq k' k then (match p with | []=>.pt k' p o l | _=>.un) else .pt k' p o l) e,(k,.typ false t xs)::delT h k)
  | _=>none
theorem zjc {fw:Nat→Path→VT T} {fs fp:Nat→Path→Nat→Nat→VT T} {t:Nat} {e:TE T.toTT0} {H0 H1:H} {b:Bool} (h:denE T.toTT0 H0 e t=Bl b):denE T.toTT0 H1 (fzE fw fs fp e) t=Bl b:=by
 simp only [denE,zbf] at h ⊢
 cases hv:getE e t <;> rw [hv] at h <;> first | (rename_i q; cases q <;> cases h; done) | (simp [den] at h <;> simp [fzT,den,h])
theorem zpn:∀ (l:List AV) (c:Nat),frC (fun _=>true) c l=z3w l
 | [],_=>rfl
 | a::l,c=>by simp only [frC,cond_true,z3w,zpn l]
theorem zok:∀ (l:Els),z2z l=l.map z3w
 | []=>rfl
 | x::l=>by simp only [z2z,List.map_cons,zok l]
theorem zrh {H0:H} {k:Nat} {r:Row} {sel:Nat→Bool} (hg:za H0 k=some r):∀ p,(∀ i c q,p=(i,c)::q→sel c=false)→ze ((k,⟨r.s,r.xs.map (frC sel 0)⟩)::zd H0 k) k p=ze H0 k p:=by
 intro p hp
 unfold ze res
 rw [hg]
 simp only [za,if_true]
 cases p with
 | nil=>simp only [resE,List.length_map]
 | cons x q =>
  obtain ⟨i,c⟩:=x
  have hs:=hp i c q rfl
  simp only [resE,List.getElem?_map]
  cases r.xs[i]? with
  | none=>rfl
  | some x =>
   simp only [Option.map_some]
   rw [zpo x 0 c,Nat.zero_add,hs]
   cases x[c]? with
   | none=>rfl
   | some y=>rfl
theorem y58 {e e1:TE T.toTT0} {h h1:TH T.toTT0}:∀ {z:Fz},frz1 e h z=some (e1,h1)→zc P pro (denE T.toTT0 (denH T.toTT0 h) e) (denH T.toTT0 h) (denE T.toTT0 (denH T.toTT0 h1) e1) (denH T.toTT0 h1)∧∀ t b,denE T.toTT0 (denH T.toTT0 h) e t=Bl b→denE T.toTT0 (denH T.toTT0 h1) e1 t=Bl b
 | .row k,hz=>by
  simp only [frz1] at hz
  split at hz
  ·rename_i m t xs hr
   simp only [Option.some.injEq,Prod.mk.injEq] at hz
   obtain ⟨rfl,rfl⟩:=hz
   have hgr:za (denH T.toTT0 h) k=some ⟨T.sz t,xs.map (T.ca m t)⟩:=by rw [z1p,hr]; rfl
   refine ⟨?_,fun _ _ hb=>zjc hb⟩
   have g:=zc.frow (P:=P) (pro:=pro) (e:=denE T.toTT0 (denH T.toTT0 h) e) hgr
   rw [zu] at g
   refine g.trans (zc.le fun u=>?_)
   simp only [denE,zbf]
   have hl:∀ k' p,k' ≠ k→ze (denH T.toTT0 (delT h k)) k' p=ze (denH T.toTT0 h) k' p:=fun k' p hk=>z1a (by rw [← zu,zz hk])
   refine zez (fun k' p=>?_) (fun k' p o l=>?_) (fun k' p o l=>?_) _
   ·unfold rowS
    simp only [z1b]
    by_cases hk:k'=k
    ·subst hk
     simp only [decide_true,cond_true,if_true]
     cases p with
     | nil =>
      simp only [if_true,den]
      have e0:ze (denH T.toTT0 h) k' []=xs.length:=by unfold ze res; rw [hgr]; simp [resE]
      rw [e0]
      simp only [Nat.zero_add,List.length_map,Nat.le_refl,if_true,List.drop_zero]
      rw [List.take_of_length_le (by simp),z6w]
      exact AVle.refl _
     | cons _ _=>simp only [den]; exact AVle.un _
    ·simp only [hk,decide_false,cond_false,if_false,den,hl k' p hk]
     exact AVle.refl _
   ·unfold rowS
    simp only [z1b]
    by_cases hk:k'=k
    ·subst hk; simp only [decide_true,cond_true,den]; exact AVle.un _
    ·simp only [hk,decide_false,cond_false,if_false,den]; exact AVle.refl _
   ·unfold rowP
    simp only [z1b]
    by_cases hk:k'=k
    ·subst hk; simp only [decide_true,cond_true,den]; exact AVle.un _
    ·simp only [hk,decide_false,cond_false,if_false,den]; exact AVle.refl _
  ·cases hz
 | .col k cs,hz=>by
  simp only [frz1] at hz
  split at hz
  ·rename_i s xs hr
   split at hz
   ·rename_i xs' hx
    simp only [Option.some.injEq,Prod.mk.injEq] at hz
    obtain ⟨rfl,rfl⟩:=hz
    have hgr:za (denH T.toTT0 h) k=some ⟨s,xs.map (denL T.toTT0 [])⟩:=by rw [z1p,hr]; rfl
    refine ⟨?_,fun _ _ hb=>zjc hb⟩
    have g:=zc.fcol (P:=P) (pro:=pro) (e:=denE T.toTT0 (denH T.toTT0 h) e) (inC cs) hgr
    have hh:denH T.toTT0 ((k,.lit s xs')::delT h k)=(k,⟨s,(xs.map (denL T.toTT0 [])).map (frC (inC cs) 0)⟩)::zd (denH T.toTT0 h) k:=by
     simp only [denH,denR,zu,zmb _ _ hx]
    rw [hh]
    refine g.trans (zc.le fun u=>?_)
    simp only [denE,zbf]
    have hl:∀ k' p,k' ≠ k→ze ((k,⟨s,(xs.map (denL T.toTT0 [])).map (frC (inC cs) 0)⟩)::zd (denH T.toTT0 h) k) k' p=ze (denH T.toTT0 h) k' p:=fun k' p hk=>z1a (by
     simp only [za]; rw [if_neg (fun e=>hk e.symm),zz hk])
    have hl2:=zrh (sel:=inC cs) hgr
    refine zez (fun k' p=>?_) (fun k' p o l=>?_) (fun k' p o l=>?_) _
    ·unfold colS
     simp only [z1b]
     by_cases hk:k'=k
     ·subst hk
      simp only [decide_true,cond_true,if_true]
      cases p with
      | nil =>
       simp only [den]
       rw [hl2 [] (fun _ _ _ h=>by cases h)]
       exact AVle.refl _
      | cons x q =>
       obtain ⟨i,c⟩:=x
       simp only
       cases hs:inC cs c with
       | false =>
        simp only [cond_false,if_false,Bool.false_eq_true,den]
        rw [hl2 _ (fun i' c' q' he=>by cases he; exact hs)]
        exact AVle.refl _
       | true =>
        simp only [cond_true,if_true]
        cases q with
        | cons _ _=>simp only [den]; exact AVle.un _
        | nil =>
         simp only [if_true]
         cases hc:(xs[i]?).bind (fun x=>x[c]?) with
         | none=>simp only [den]; exact AVle.un _
         | some v =>
          cases v with
          | ow m t ys =>
           obtain ⟨x,h1,h2⟩:=Option.bind_eq_some_iff.1 hc
           have hres:res (denH T.toTT0 h) k' [(i,c)]=some (T.sz t,ys.map (T.ca m t)):=by
            unfold res
            rw [hgr]
            simp only [resE,List.getElem?_map,h1,Option.map_some,z31,h2,den]
           rw [hres]
           have e0:ze (denH T.toTT0 h) k' [(i,c)]=ys.length:=by unfold ze; rw [hres]; simp
           rw [e0]
           simp only [Nat.zero_add,List.length_map,Nat.le_refl,if_true,List.drop_zero,den]
           rw [List.take_of_length_le (by simp),z6w]
           exact AVle.refl _
          | _=>simp only [den]; exact AVle.un _
     ·simp only [hk,decide_false,cond_false,if_false,den,hl k' p hk]
      exact AVle.refl _
    ·unfold colS
     simp only [z1b]
     by_cases hk:k'=k
     ·subst hk
      simp only [decide_true,cond_true,if_true]
      cases p with
      | nil=>exact AVle.refl _
      | cons x q =>
       obtain ⟨i,c⟩:=x
       simp only
       cases hs:inC cs c with
       | false=>exact AVle.refl _
       | true=>simp only [cond_true,den]; exact AVle.un _
     ·simp only [hk,decide_false,cond_false,if_false,den]; exact AVle.refl _
    ·unfold colP
     simp only [z1b]
     by_cases hk:k'=k
     ·subst hk
      simp only [decide_true,cond_true,if_true]
      cases p with
      | nil=>exact AVle.refl _
      | cons x q =>
       obtain ⟨i,c⟩:=x
       simp only
       cases hs:inC cs c with
       | false=>exact AVle.refl _
       | true=>simp only [cond_true,den]; exact AVle.un _
     ·simp only [hk,decide_false,cond_false,if_false,den]; exact AVle.refl _
   ·cases hz
  ·cases hz
 | .nest k,hz=>by
  simp only [frz1] at hz
  split at hz
  ·rename_i m t xs hr
   simp only [Option.some.injEq,Prod.mk.injEq] at hz
   obtain ⟨rfl,rfl⟩:=hz
   have hgr:za (denH T.toTT0 h) k=some ⟨T.sz t,xs.map (T.ca m t)⟩:=by rw [z1p,hr]; rfl
   refine ⟨?_,fun _ _ hb=>zjc hb⟩
   have g:=zc.fcol (P:=P) (pro:=pro) (e:=denE T.toTT0 (denH T.toTT0 h) e) (fun _=>true) hgr
   have hh:denH T.toTT0 ((k,.typ false t xs)::delT h k)=(k,⟨T.sz t,(xs.map (T.ca m t)).map (frC (fun _=>true) 0)⟩)::zd (denH T.toTT0 h) k:=by
    simp only [denH,denR,zu]
    have:(xs.map (T.ca m t)).map (frC (fun _=>true) 0)=xs.map (T.ca false t):=by
     rw [← z6w (m:=m),zok]
     simp only [List.map_map]
     congr 1
     funext x
     exact zpn _ _
    rw [this]
   rw [hh]
   refine g.trans (zc.le fun u=>?_)
   simp only [denE,zbf]
   have hl:∀ k' p,k' ≠ k→ze ((k,⟨T.sz t,(xs.map (T.ca m t)).map (frC (fun _=>true) 0)⟩)::zd (denH T.toTT0 h) k) k' p=ze (denH T.toTT0 h) k' p:=fun k' p hk=>z1a (by
    simp only [za]; rw [if_neg (fun e=>hk e.symm),zz hk])
   have hl2:=zrh (sel:=fun _=>true) hgr
   refine zez (fun k' p=>?_) (fun k' p o l=>?_) (fun k' p o l=>?_) _
   ·unfold colS
    simp only [z1b]
    by_cases hk:k'=k
    ·subst hk
     simp only [decide_true,cond_true,if_true]
     cases p with
     | nil =>
      simp only [den]
      rw [hl2 [] (fun _ _ _ h=>by cases h)]
      exact AVle.refl _
     | cons x q=>simp only [den]; exact AVle.un _
    ·simp only [hk,decide_false,cond_false,if_false,den,hl k' p hk]
     exact AVle.refl _
   ·unfold colS
    simp only [z1b]
    by_cases hk:k'=k
    ·subst hk
     simp only [decide_true,cond_true,if_true]
     cases p with
     | nil=>exact AVle.refl _
     | cons x q=>simp only [den]; exact AVle.un _
    ·simp only [hk,decide_false,cond_false,if_false,den]; exact AVle.refl _
   ·unfold colP
    simp only [z1b]
    by_cases hk:k'=k
    ·subst hk
     simp only [decide_true,cond_true,if_true]
     cases p with
     | nil=>exact AVle.refl _
     | cons x q=>simp only [den]; exact AVle.un _
    ·simp only [hk,decide_false,cond_false,if_false,den]; exact AVle.refl _
  ·cases hz
def frzL:List Fz→TE T.toTT0→TH T.toTT0→Option (TE T.toTT0×TH T.toTT0)
 | [],e,h=>some (e,h)
 | z::l,e,h=>match frz1 e h z with | some (e1,h1)=>frzL l e1 h1 | none=>frzL l e h
theorem z6q:∀ (l:List Fz) {e e1:TE T.toTT0} {h h1:TH T.toTT0},frzL l e h=some (e1,h1)→zc P pro (denE T.toTT0 (denH T.toTT0 h) e) (denH T.toTT0 h) (denE T.toTT0 (denH T.toTT0 h1) e1) (denH T.toTT0 h1)∧∀ t b,denE T.toTT0 (denH T.toTT0 h) e t=Bl b→denE T.toTT0 (denH T.toTT0 h1) e1 t=Bl b
 | [],_,_,_,_,hz=>by
  simp only [frzL,Option.some.injEq,Prod.mk.injEq] at hz
  obtain ⟨rfl,rfl⟩:=hz
  exact ⟨zc.rfl',fun _ _ h=>h⟩
 | z::l,_,_,_,_,hz=>by
  simp only [frzL] at hz
  split at hz
  ·rename_i e2 h2 h3
   obtain ⟨a1,a2⟩:=y58 (P:=P) (pro:=pro) h3
   obtain ⟨b1,b2⟩:=z6q l hz
   exact ⟨a1.trans b1,fun t b hb=>b2 t b (a2 t b hb)⟩
  ·exact z6q l hz
end
def y3t {α:Type}:List (Nat×α)→Nat→Option α
 | [],_=>none
 | (k,x)::l,d=>bif Nat.beq k d then some x else y3t l d
structure Cx (P:Program) (T:TT) where
 cs:List (Con P T)
 ty:List (Nat×Bool×Nat)
 tn:List Nat
 fz:List (Nat×List Fz)
def Cx.fzAt {P:Program} {T:TT} (cx:Cx P T) (d:Nat):List Fz:=match y3t cx.fz d with | some l=>l | none=>[]
def Cx.at {P:Program} {T:TT} (cx:Cx P T) (d:Nat):Option (Bool×Nat):=(cx.ty.find? fun x=>Nat.beq x.1 d).map Prod.snd
section
variable {P:Program} {T:TT} {pro:List Nat} {L:Type}
def zim:IK→VT T
 | .st _ _ _=>.un
 | _=>.sc undef
theorem z8f {h:H} (op:IK):den T.toTT0 h (zim op)=z4d op:=by cases op <;> rfl
def zbh (e:TE T.toTT0) (g:Option (Nat×Bool)) (go skip:TE T.toTT0→Raw P T pro L):Raw P T pro L :=
 match g with
 | none=>go e
 | some (s,want) =>
  match getE e s with
  | .bk true=>bif want then go e else skip e
  | .bk false=>bif want then skip e else go e
  | .sc (.tuple _)=>skip e
  | .sc (.bool b)=>.ite b (bif want then go (putE e s (.bk true)) else skip (putE e s (.bk true))) (bif want then skip (putE e s (.bk false)) else go (putE e s (.bk false)))
  | _=>.no
theorem z5l {e:TE T.toTT0} {h:H} {s:Nat} {b:Bool} (hs:getE e s = .sc (.bool b)):denE T.toTT0 h (putE e s (.bk b))=denE T.toTT0 h e:=by
 rw [zy]
 funext t
 unfold upd
 split
 ·rename_i ht; subst ht
  simp only [denE,hs,den]
 ·rfl
theorem zaj {e:TE T.toTT0} {g:Option (Nat×Bool)} {go skip:TE T.toTT0→Raw P T pro L} {Q:L→Prop} {H0:H} (hs:Sat (zbh e g go skip) Q) :
  ∃ e',denE T.toTT0 H0 e'=denE T.toTT0 H0 e∧((zo (denE T.toTT0 H0 e) g=some true∧Sat (go e') Q)∨(zo (denE T.toTT0 H0 e) g=some false∧Sat (skip e') Q)):=by
 unfold zbh at hs
 split at hs
 ·exact ⟨e,rfl,.inl ⟨rfl,hs⟩⟩
 ·rename_i s want
  have hw:∀ b,denE T.toTT0 H0 e s = .sc (.bool b)→zo (denE T.toTT0 H0 e) (some (s,want))=some (b==want):=fun b hb=>by simp [zo,hb]
  split at hs
  ·rename_i hv
   have hv':denE T.toTT0 H0 e s = .sc (.bool true):=by simp only [denE,hv,den]
   cases want
   ·exact ⟨e,rfl,.inr ⟨by rw [hw _ hv']; rfl,hs⟩⟩
   ·exact ⟨e,rfl,.inl ⟨by rw [hw _ hv']; rfl,hs⟩⟩
  ·rename_i hv
   have hv':denE T.toTT0 H0 e s = .sc (.bool false):=by simp only [denE,hv,den]
   cases want
   ·exact ⟨e,rfl,.inl ⟨by rw [hw _ hv']; rfl,hs⟩⟩
   ·exact ⟨e,rfl,.inr ⟨by rw [hw _ hv']; rfl,hs⟩⟩
  ·rename_i a hv
   have hv':denE T.toTT0 H0 e s = .sc (.tuple a):=by simp only [denE,hv,den]
   exact ⟨e,rfl,.inr ⟨by simp [zo,hv'],hs⟩⟩
  ·rename_i b hv
   have hv':denE T.toTT0 H0 e s = .sc (.bool b):=by simp only [denE,hv,den]
   cases b with
   | true =>
    have h1:=hs.1 rfl
    cases want
    ·exact ⟨_,z5l hv,.inr ⟨by rw [hw _ hv']; rfl,h1⟩⟩
    ·exact ⟨_,z5l hv,.inl ⟨by rw [hw _ hv']; rfl,h1⟩⟩
   | false =>
    have h1:=hs.2 rfl
    cases want
    ·exact ⟨_,z5l hv,.inl ⟨by rw [hw _ hv']; rfl,h1⟩⟩
    ·exact ⟨_,z5l hv,.inr ⟨by rw [hw _ hv']; rfl,h1⟩⟩
  ·exact hs.elim
def zii:TR T.El→Bool
 | .lit _ (_::_)=>true
 | .typ _ _ (_::_)=>true
 | _=>false
theorem zyo {r:TR T.El} (h:zii r=true):0<(denR T.toTT0 r).xs.length:=by
 unfold zii at h
 split at h
 ·simp [denR]
 ·simp [denR]
 ·cases h
def s2wT (d:Nat) (h:TH T.toTT0) (s:ByteArray):StT T:=⟨.sw d [],fun k _=>[d].contains k,fun _ _=>false,[d],(d,.typ false T.u8 (T.bs (bytesOf s)))::delT h d⟩
theorem y5t {e:TE T.toTT0} {h:TH T.toTT0} {d:Nat} {g:Option (Nat×Bool)} {y:Operand} {s:ByteArray} (hy:evT e y = .sc (.string s)) (hp:pro.contains d=false):StOk P pro T e h ⟨d,g,.s2b y⟩ (s2wT d h s):=by
 obtain ⟨q1,q2,q3⟩:=zcu (T:=T) (r:=.typ false T.u8 (T.bs (bytesOf s))) (h:=h) (h':=delT h d) (d:=d) (g:=[d]) ⟨fun _ h=>h,z74⟩
 have hlen:(T.bs (bytesOf s)).length=s.size:=by
  have:=congrArg List.length (T.bs_ok (bytesOf s))
  rw [List.length_map,List.length_map] at this
  rw [this]; simp [bytesOf]
 refine ⟨fun e' he=>?_,fun k p hk _=>q2 k p hk,q3⟩
 have hu:=z4z (x:=⟨d,g,.s2b y⟩) (e:=e') (EA:=denE T.toTT0 (denH T.toTT0 h) e) he (o:=y) (by simp [opsK])
 rw [zg,hy] at hu
 refine ⟨e',_,_,_,zc.rfl',fun _ _ h=>h,.s2w hu hp,?_⟩
 have hh:denH T.toTT0 (s2wT d h s).h=(d,⟨1,(bytesOf s).map fun n=>[.sc (.int .u8 n)]⟩)::zd (denH T.toTT0 h) d:=by
  simp only [s2wT,denH,zu,denR,T.bs_sz,T.bs_ok]
 rw [← hh]
 refine zc.le fun t=>?_
 simp only [z1i,upd]
 split
 ·have:den T.toTT0 (denH T.toTT0 (s2wT d h s).h) (s2wT d h s).v = .sl d [] 0 s.size:=by
   rw [hh]
   simp [s2wT,den,ze,res,za,resE,bytesOf]
  rw [this]; exact AVle.refl _
 ·exact z85 (fun k p hk=>by simpa [s2wT] using hk) _
def zlt (pro:List Nat) (cx:Cx P T) (x:Ins) (e:TE T.toTT0) (h:TH T.toTT0) (K:TE T.toTT0→TH T.toTT0→Raw P T pro L):Raw P T pro L :=
 match x.op with
 | .rd (.pick (.tmp s) a b) =>
  match getE e s with
  | .sc (.bool t)=>.ite t (Raw.ofRs (fun v=>K (putE (putE e s (.bk true)) x.dst v) h) (nnT (evT e a))) (Raw.ofRs (fun v=>K (putE (putE e s (.bk false)) x.dst v) h) (nnT (evT e b)))
  | _=>Raw.ofRs (fun v=>K (putE e x.dst v) h) (rdT e h (.pick (.tmp s) a b))
 | .rd b=>Raw.ofRs (fun v=>K (putE e x.dst v) h) (rdT e h b)
 | .mk b=>match zc5 pro (700000+x.dst * 100) e h (zfa e (z2y b)) with
  | some (e1,h1)=>Raw.ofRs (fun st=>K (st.env e1 x.dst) st.h) (mkT (cx.at x.dst) pro e1 h1 x.dst b)
  | none=>.no
 | .app s bytes a b=>match dapT pro (700000+x.dst * 100) e h a with
  | some (e1,h1)=>Raw.ofRs (fun st=>K (st.env e1 x.dst) st.h) (appT (cx.at x.dst) pro e1 h1 x.dst s bytes a b)
  | none=>.no
 | .st n a v=>Raw.ofRs (fun (e,h)=>match zc5 pro (700000+x.dst * 100) e h (zfa e [v]) with
  | some (e1,h1)=>Raw.ofRs (fun st=>K (st.env e1 x.dst) st.h) (stT e1 h1 n a v)
  | none=>.no) (cuT pro (700000+x.dst * 100) e h v)
 | .s2b y=>match evT e y with
  | .sc (.string s)=>match cx.at x.dst with
   | none=>K (putE e x.dst (.im T.u8 (T.bs (bytesOf s)))) h
   | some _=>bif pro.contains x.dst then .no else K ((s2wT x.dst h s).env e x.dst) (s2wT x.dst h s).h
  | _=>.no
 | .mrk y=>match evT e y with
  | .sw k []=>match getT h k with
   | some r=>bif zii r then K (putE e x.dst (.sw k [])) ((k,r)::delT h k) else .no
   | none=>.no
  | _=>.no
 | .ifn y=>match evT e y with | .sc (.iface _ _)=>K (putE e x.dst (.bk true)) h | _=>.no
 | .tas t y=>match evT e y with | .sc (.iface t' (.agg cs))=>bif Nat.beq t' t && cs.toList.all Value.oneCell' then K (putE e x.dst (.tu [.ag (cs.toList.map .sc),.bk true])) h else .no | _=>.no
 | op=>zh4 P pro cx.cs e h x.dst op K
def z3i (P:Program) (pro:List Nat) (x:Ins) (E:Env) (H0:H) (Kp:Env→H→Prop):Prop :=
 ∃ e0 h0 e1 h1 e2 h2,zc P pro E H0 e0 h0∧(∀ t b,E t=Bl b→e0 t=Bl b)∧z2h P pro e0 h0 x.dst x.op e1 h1∧zc P pro e1 h1 e2 h2∧Kp e2 h2
theorem z3i.pre {x:Ins} {E E1:Env} {H0 H1:H} {Kp:Env→H→Prop} (g:zc P pro E H0 E1 H1) (gb:∀ t b,E t=Bl b→E1 t=Bl b) (h:z3i P pro x E1 H1 Kp):z3i P pro x E H0 Kp:=by
 obtain ⟨e0,h0,e1,h1,e2,h2,g1,b1,g2,g3,k⟩:=h
 exact ⟨e0,h0,e1,h1,e2,h2,g.trans g1,fun t b hb=>b1 t b (gb t b hb),g2,g3,k⟩
def KP (K:TE T.toTT0→TH T.toTT0→Raw P T pro L) (Q:L→Prop) (E:Env) (H0:H):Prop:=∃ e h,E=denE T.toTT0 (denH T.toTT0 h) e∧H0=denH T.toTT0 h∧Sat (K e h) Q
theorem zfh {x:Ins} {e:TE T.toTT0} {h:TH T.toTT0} {K:TE T.toTT0→TH T.toTT0→Raw P T pro L} {Q:L→Prop} {st:StT T} (hst:StOk P pro T e h x st) (hK:Sat (K (st.env e x.dst) st.h) Q) :
  z3i P pro x (denE T.toTT0 (denH T.toTT0 h) e) (denH T.toTT0 h) (KP K Q):=by
 obtain ⟨e0,h0',e1,h1',g1,gb,g2,g3⟩:=hst.1 (denE T.toTT0 (denH T.toTT0 h) e) (fun _ _=>rfl)
 exact ⟨e0,h0',e1,h1',_,_,g1,gb,g2,g3.trans (StT.env_ghost hst.2.1),_,_,rfl,rfl,hK⟩
theorem zfc {x:Ins} {b:IB} (hx:x.op = .rd b) {e e':TE T.toTT0} {h:TH T.toTT0} {K:TE T.toTT0→TH T.toTT0→Raw P T pro L} {Q:L→Prop} {v:VT T} (he:denE T.toTT0 (denH T.toTT0 h) e'=denE T.toTT0 (denH T.toTT0 h) e) (hv:(rdT e h b).gives v) (hK:Sat (K (putE e' x.dst v) h) Q) :
  z3i P pro x (denE T.toTT0 (denH T.toTT0 h) e) (denH T.toTT0 h) (KP K Q):=by
 obtain ⟨av,q1,q2⟩:=zo7 hv
 refine ⟨_,_,upd (denE T.toTT0 (denH T.toTT0 h) e) x.dst av,denH T.toTT0 h,_,_,zc.rfl',fun _ _ h=>h,by rw [hx]; exact .plain (by simp only [z2x,q1]),zc.le (e1:=denE T.toTT0 (denH T.toTT0 h) (putE e' x.dst v)) fun t=>?_,putE e' x.dst v,h,rfl,rfl,hK⟩
 rw [zy,he]
 exact AVle.upd (fun t=>AVle.refl _) q2 t
theorem zof {cx:Cx P T} {x:Ins} {e:TE T.toTT0} {h:TH T.toTT0} {K:TE T.toTT0→TH T.toTT0→Raw P T pro L} {Q:L→Prop} (hs:Sat (zlt pro cx x e h K) Q) :
  z3i P pro x (denE T.toTT0 (denH T.toTT0 h) e) (denH T.toTT0 h) (KP K Q):=by
 obtain ⟨d,g,op⟩:=x
 have call:∀ {op:IK},Sat (zh4 P pro cx.cs e h d op K) Q→z3i P pro ⟨d,g,op⟩ (denE T.toTT0 (denH T.toTT0 h) e) (denH T.toTT0 h) (KP K Q):=fun hs=>by
  obtain ⟨e0,h0,e1,e2,h2,g1,g2,g3,g4,gb⟩:=zjp hs
  exact ⟨e0,h0,e1,_,_,_,g1,gb,g2,g3,e2,h2,rfl,rfl,g4⟩
 unfold zlt at hs
 dsimp only at hs
 split at hs
 ·rename_i s a b
  split at hs
  ·rename_i t ht
   cases t with
   | true =>
    obtain ⟨v,hv,hK⟩:=Sat.ofRs _ (hs.1 rfl)
    exact zfc (x:=⟨d,g,_⟩) rfl (z5l ht) (by simp only [rdT,evT,ht]; exact .inl ⟨rfl,hv⟩) hK
   | false =>
    obtain ⟨v,hv,hK⟩:=Sat.ofRs _ (hs.2 rfl)
    exact zfc (x:=⟨d,g,_⟩) rfl (z5l ht) (by simp only [rdT,evT,ht]; exact .inr ⟨rfl,hv⟩) hK
  ·obtain ⟨v,hv,hK⟩:=Sat.ofRs _ hs
   exact zfc (x:=⟨d,g,_⟩) rfl rfl hv hK
 ·rename_i b _
  obtain ⟨v,hv,hK⟩:=Sat.ofRs _ hs
  exact zfc (x:=⟨d,g,_⟩) rfl rfl hv hK
 ·rename_i b
  split at hs
  ·rename_i e1 h1 hd
   obtain ⟨st,hv,hK⟩:=Sat.ofRs _ hs
   exact (zc6 _ _ _ _ _ _ hd).elim fun q1 q2=>z3i.pre q1 q2 (zfh (x:=⟨d,g,_⟩) (zya hv) hK)
  ·exact hs.elim
 ·rename_i s bytes a b
  split at hs
  ·rename_i e1 h1 hd
   obtain ⟨st,hv,hK⟩:=Sat.ofRs _ hs
   exact (y4h hd).elim fun q1 q2=>z3i.pre q1 q2 (zfh (x:=⟨d,g,_⟩) (zp7 hv) hK)
  ·exact hs.elim
 ·rename_i n a v
  obtain ⟨⟨e0,h0⟩,hc,hs⟩:=Sat.ofRs _ hs
  dsimp only at hs
  refine (y6d (P:=P) (pro:=pro) hc).elim fun c1 c2=>z3i.pre c1 c2 ?_
  split at hs
  ·rename_i e1 h1 hd
   obtain ⟨st,hv,hK⟩:=Sat.ofRs _ hs
   exact (zc6 _ _ _ _ _ _ hd).elim fun q1 q2=>z3i.pre q1 q2 (zfh (x:=⟨d,g,_⟩) (zyw hv) hK)
  ·exact hs.elim
 ·rename_i y
  split at hs
  ·rename_i s hy
   split at hs
   rotate_left
   ·cases hp:pro.contains d with
    | true=>simp only [hp,cond_true] at hs; exact hs.elim
    | false =>
     simp only [hp,cond_false] at hs
     exact zfh (x:=⟨d,g,_⟩) (y5t hy hp) hs
   refine ⟨_,_,upd (denE T.toTT0 (denH T.toTT0 h) e) d (den T.toTT0 (denH T.toTT0 h) (.im T.u8 (T.bs (bytesOf s)))),denH T.toTT0 h,_,_,zc.rfl',fun _ _ h=>h,.plain ?_,zc.le (e1:=denE T.toTT0 (denH T.toTT0 h) (putE e d (.im T.u8 (T.bs (bytesOf s))))) fun t=>?_,_,h,rfl,rfl,hs⟩
   ·simp only [z2x,zg,hy,den,T.bs_ok,T.bs_sz]
   ·rw [zy]; exact AVle.refl _
  ·exact hs.elim
 ·rename_i y
  split at hs
  ·rename_i k hy
   split at hs
   ·rename_i r hr
    cases hp:zii r with
    | false=>rw [hp] at hs; exact hs.elim
    | true =>
     rw [hp,cond_true] at hs
     have hpos:=zyo hp
     have hgr:za (denH T.toTT0 h) k=some (denR T.toTT0 r):=by rw [z1p,hr]; rfl
     have hlen:ze (denH T.toTT0 h) k []=(denR T.toTT0 r).xs.length:=by simp [ze,res,hgr,resE]
     have hh:denH T.toTT0 ((k,r)::delT h k)=(k,denR T.toTT0 r)::zd (denH T.toTT0 h) k:=by simp only [denH,zu]
     have hrow:∀ k',za (denH T.toTT0 ((k,r)::delT h k)) k'=za (denH T.toTT0 h) k':=fun k'=>by
      rw [hh]
      by_cases hk:k'=k
      ·subst hk; rw [hgr]; simp [za]
      ·simp only [za]; rw [if_neg (fun e=>hk e.symm),zz hk]
     have hden:∀ v:VT T,den T.toTT0 (denH T.toTT0 ((k,r)::delT h k)) v=den T.toTT0 (denH T.toTT0 h) v:=fun v=>by
      have:=zbm (T:=T) (bad:=fun _ _=>false) (H0:=denH T.toTT0 h) (H1:=denH T.toTT0 ((k,r)::delT h k)) (fun k' q _=>z1a (hrow k')) v
      rw [zic,zge] at this
      exact this.symm
     refine ⟨_,_,upd (denE T.toTT0 (denH T.toTT0 h) e) d (.sl k [] 0 (denR T.toTT0 r).xs.length),(k,denR T.toTT0 r)::zd (denH T.toTT0 h) k,_,_,zc.rfl',fun _ _ h=>h,.plain ?_,zc.le (e1:=denE T.toTT0 (denH T.toTT0 ((k,r)::delT h k)) (putE e d (.sw k []))) fun t=>?_,_,_,rfl,hh.symm ▸ rfl,hs⟩
     ·simp only [z2x,zg,hy,den,hlen,hgr]
      rw [if_pos hpos]
     ·rw [zy]
      refine AVle.upd (fun t=>?_) ?_ t
      ·rw [show denE T.toTT0 (denH T.toTT0 ((k,r)::delT h k)) e t=denE T.toTT0 (denH T.toTT0 h) e t from hden _]; exact AVle.refl _
      ·rw [hden]; simp only [den,hlen]; exact AVle.refl _
   ·exact hs.elim
  ·exact hs.elim
 ·rename_i y
  split at hs
  ·rename_i a b hy
   refine ⟨_,_,upd (denE T.toTT0 (denH T.toTT0 h) e) d (.sc (.bool true)),denH T.toTT0 h,_,_,zc.rfl',fun _ _ h=>h,.plain ?_,zc.le (e1:=denE T.toTT0 (denH T.toTT0 h) (putE e d (.bk true))) fun t=>?_,_,h,rfl,rfl,hs⟩
   ·simp only [z2x,zg,hy,den]
   ·rw [zy]; exact AVle.refl _
  ·exact hs.elim
 ·rename_i ty y
  split at hs
  ·rename_i t' cs hy
   cases hb:(Nat.beq t' ty && cs.toList.all Value.oneCell') with
   | false=>rw [hb] at hs; exact hs.elim
   | true =>
    rw [hb,cond_true] at hs
    simp only [Bool.and_eq_true] at hb
    have ht:=Nat.eq_of_beq_eq_true hb.1
    refine ⟨_,_,upd (denE T.toTT0 (denH T.toTT0 h) e) d (.tu [.ag (cs.toList.map .sc),.sc (.bool true)]),denH T.toTT0 h,_,_,zc.rfl',fun _ _ h=>h,.plain ?_,zc.le (e1:=denE T.toTT0 (denH T.toTT0 h) (putE e d (.tu [.ag (cs.toList.map .sc),.bk true]))) fun t=>?_,_,h,rfl,rfl,hs⟩
    ·simp only [z2x,zg,hy,den]
     rw [if_pos ⟨ht,hb.2⟩]
    ·rw [zy]
     have:den T.toTT0 (denH T.toTT0 h) (.tu [.ag (cs.toList.map .sc),.bk true]) = .tu [.ag (cs.toList.map .sc),.sc (.bool true)]:=by
      simp only [den,denL,zx,List.map_map]
      rfl
     rw [this]; exact AVle.refl _
  ·exact hs.elim
 ·exact call hs
def evR (pro:List Nat) (cx:Cx P T):List Ins→TE T.toTT0→TH T.toTT0→(TE T.toTT0→TH T.toTT0→Raw P T pro L)→Raw P T pro L
 | [],e,h,K=>K e h
 | x::l,e,h,K=>zbh e x.guard (fun e=>match frzL (cx.fzAt x.dst) e h with | some (e,h)=>zlt pro cx x e h fun e h=>evR pro cx l e h K | none=>.no) (fun e=>evR pro cx l (putE e x.dst (zim x.op)) h K)
theorem zdn {cx:Cx P T} {K:TE T.toTT0→TH T.toTT0→Raw P T pro L} {Q:L→Prop}:∀ (l:List Ins) (e:TE T.toTT0) (h:TH T.toTT0),Sat (evR pro cx l e h K) Q →
  ∃ E H',RunG P pro l (denE T.toTT0 (denH T.toTT0 h) e) (denH T.toTT0 h) E H'∧KP K Q E H'
 | [],e,h,hs=>⟨_,_,.nil,e,h,rfl,rfl,hs⟩
 | x::l,e,h,hs=>by
  obtain ⟨e',he,h1 | h1⟩:=zaj (H0:=denH T.toTT0 h) hs
  ·have h12:z3i P pro x (denE T.toTT0 (denH T.toTT0 h) e') (denH T.toTT0 h) (KP (fun e h=>evR pro cx l e h K) Q):=by
    have:=h1.2
    split at this
    ·rename_i e5 h5 hf
     obtain ⟨q1,q2⟩:=z6q (P:=P) (pro:=pro) _ hf
     exact z3i.pre q1 q2 (zof this)
    ·exact this.elim
   obtain ⟨e0,h0,e1,h1',e2,h2,g1,gb,g2,g3,e4,h4,rfl,rfl,hK⟩:=h12
   obtain ⟨E,H',r,k⟩:=zdn l e4 h4 hK
   rw [he] at g1 gb
   refine ⟨E,H',.ghost g1 (.step ?_ g2 (.ghost g3 r)),k⟩
   have hw:=h1.1
   cases hg:x.guard with
   | none=>rfl
   | some sw =>
    obtain ⟨s,want⟩:=sw
    rw [hg] at hw
    simp only [zo] at hw ⊢
    split at hw
    ·rename_i b hb
     rw [gb s b hb]
     exact hw
    ·cases hw
    ·cases hw
  ·obtain ⟨E,H',r,k⟩:=zdn l _ h h1.2
   rw [zy,he,z8f] at r
   exact ⟨E,H',.skip h1.1 r,k⟩
def zog (pro:List Nat) (cx:Cx P T) (x:Ins) (e:TE T.toTT0) (h:TH T.toTT0) (K:TE T.toTT0→TH T.toTT0→Raw P T pro L) (KX:Value→TE T.toTT0→TH T.toTT0→Raw P T pro L):Raw P T pro L :=
 match x.op with
 | .call f l=>zm6 P pro cx.cs e h x.dst f l K KX
 | _=>zlt pro cx x e h K
theorem zl5 {cx:Cx P T} {x:Ins} {e:TE T.toTT0} {h:TH T.toTT0} {K:TE T.toTT0→TH T.toTT0→Raw P T pro L} {KX:Value→TE T.toTT0→TH T.toTT0→Raw P T pro L} {Q:L→Prop} (hs:Sat (zog pro cx x e h K KX) Q) :
  z3i P pro x (denE T.toTT0 (denH T.toTT0 h) e) (denH T.toTT0 h) (KP K Q) ∨
  (∃ e0 h0 u ex hx,zc P pro (denE T.toTT0 (denH T.toTT0 h) e) (denH T.toTT0 h) e0 h0∧(∀ t b,denE T.toTT0 (denH T.toTT0 h) e t=Bl b→e0 t=Bl b)∧z6y P e0 h0 x.op u (denH T.toTT0 hx)∧(∀ t,AVle (ptE e0 t) (denE T.toTT0 (denH T.toTT0 hx) ex t))∧Sat (KX u ex hx) Q):=by
 obtain ⟨d,g,op⟩:=x
 cases op with
 | call f l =>
  rcases ztn hs with ⟨e0,h0,e1,e2,h2,g1,g2,g3,g4,gb⟩ | hp
  ·exact .inl ⟨e0,h0,e1,_,_,_,g1,gb,g2,g3,e2,h2,rfl,rfl,g4⟩
  ·exact .inr hp
 | _=>exact .inl (zof (cx:=cx) hs)
def evRX (pro:List Nat) (cx:Cx P T):List Ins→TE T.toTT0→TH T.toTT0→(TE T.toTT0→TH T.toTT0→Raw P T pro L)→(Value→TE T.toTT0→TH T.toTT0→Raw P T pro L)→Raw P T pro L
 | [],e,h,K,_=>K e h
 | x::l,e,h,K,KX=>zbh e x.guard (fun e=>match frzL (cx.fzAt x.dst) e h with | some (e,h)=>zog pro cx x e h (fun e h=>evRX pro cx l e h K KX) KX | none=>.no) (fun e=>evRX pro cx l (putE e x.dst (zim x.op)) h K KX)
theorem z97 {E e0:Env} {g:Option (Nat×Bool)} (hw:zo E g=some true) (gb:∀ t b,E t=Bl b→e0 t=Bl b):zo e0 g=some true:=by
 cases g with
 | none=>rfl
 | some sw =>
  obtain ⟨s,want⟩:=sw
  simp only [zo] at hw ⊢
  split at hw
  ·rename_i b hb
   rw [gb s b hb]
   exact hw
  ·cases hw
  ·cases hw
theorem zj2 {cx:Cx P T} {K:TE T.toTT0→TH T.toTT0→Raw P T pro L} {KX:Value→TE T.toTT0→TH T.toTT0→Raw P T pro L} {Q:L→Prop}:∀ (l:List Ins) (e:TE T.toTT0) (h:TH T.toTT0),Sat (evRX pro cx l e h K KX) Q →
  (∃ E H',RunG P pro l (denE T.toTT0 (denH T.toTT0 h) e) (denH T.toTT0 h) E H'∧KP K Q E H')∨(∃ u E ex hx,RunX P pro u E (denH T.toTT0 hx) l (denE T.toTT0 (denH T.toTT0 h) e) (denH T.toTT0 h)∧(∀ t,AVle (E t) (denE T.toTT0 (denH T.toTT0 hx) ex t))∧Sat (KX u ex hx) Q)
 | [],e,h,hs=>.inl ⟨_,_,.nil,e,h,rfl,rfl,hs⟩
 | x::l,e,h,hs=>by
  obtain ⟨e',he,h1 | h1⟩:=zaj (H0:=denH T.toTT0 h) hs
  ·have this:=h1.2
   split at this
   ·rename_i e5 h5 hf
    obtain ⟨q1,q2⟩:=z6q (P:=P) (pro:=pro) _ hf
    rcases zl5 this with h12 | ⟨e0,h0,u,ex,hx,g1,gb,g2,hle,hK⟩
    ·have h12:=z3i.pre q1 q2 h12
     obtain ⟨e0,h0,e1,h1',e2,h2,g1,gb,g2,g3,e4,h4,rfl,rfl,hK⟩:=h12
     rw [he] at g1 gb
     have hw:=z97 h1.1 gb
     rcases zj2 l e4 h4 hK with ⟨E,H',r,k⟩ | ⟨u,E,ex,hx,r,hle,k⟩
     ·exact .inl ⟨E,H',.ghost g1 (.step hw g2 (.ghost g3 r)),k⟩
     ·exact .inr ⟨u,E,ex,hx,.ghost g1 (.step hw g2 (.ghost g3 r)),hle,k⟩
    ·rw [he] at q1 q2
     exact .inr ⟨u,_,ex,hx,.ghost (q1.trans g1) (.here (z97 h1.1 fun t b hb=>gb t b (q2 t b hb)) g2 rfl),hle,hK⟩
   ·exact this.elim
  ·rcases zj2 l _ h h1.2 with ⟨E,H',r,k⟩ | ⟨u,E,ex,hx,r,hle,k⟩
   ·rw [zy,he,z8f] at r
    exact .inl ⟨E,H',.skip h1.1 r,k⟩
   ·rw [zy,he,z8f] at r
    exact .inr ⟨u,E,ex,hx,.skip h1.1 r,hle,k⟩
end
theorem WD.mono {P:Program} {K K':Env→H→Prop} {h0:H} (hk:∀ e h,K e h→K' e h):∀ (pre:List (Ins×List Nat)) (i:Nat) (e:Env) (acc:List (Nat×H)),WD P pre i e acc h0 K→WD P pre i e acc h0 K'
 | [],_,_,_,h=>⟨h.1,hk _ _ h.2⟩
 | _::pre,_,_,_,⟨av,rows,h1,h2⟩=>⟨av,rows,h1,WD.mono hk pre _ _ _ h2⟩
section
variable {P:Program} {T:TT} {pro:List Nat} {L:Type}
mutual
def swIn (ok:Nat→Bool):VT T→Bool
 | .sw k _=>ok k
 | .ag cs=>z96 ok cs
 | .tu cs=>z96 ok cs
 | .fn _ cs=>z96 ok cs
 | .un | .sc _ | .ik _ _ | .bk _ | .zs | .im _ _ | .ip _ _ _ | .sl _ _ _ _ | .pt _ _ _ _ | .ow _ _ _ | .oo _ _ _ _ _ | .pp _=>true
def z96 (ok:Nat→Bool):List (VT T)→Bool
 | []=>true
 | x::l=>swIn ok x && z96 ok l
end
mutual
theorem z9j {H0 H1:H} {ok:Nat→Bool} (hk:∀ k,ok k=true→za H1 k=za H0 k):∀ (v:VT T),swIn ok v=true→den T.toTT0 H1 v=den T.toTT0 H0 v
 | .sw k p,h=>by simp only [swIn] at h; simp only [den,z1a (hk k h)]
 | .ag cs,h=>by simp only [swIn] at h; simp only [den,z83 hk cs h]
 | .tu cs,h=>by simp only [swIn] at h; simp only [den,z83 hk cs h]
 | .fn _ cs,h=>by simp only [swIn] at h; simp only [den,z83 hk cs h]
 | .un,_ | .sc _,_ | .ik _ _,_ | .bk _,_ | .zs,_ | .im _ _,_ | .ip _ _ _,_ | .sl _ _ _ _,_ | .pt _ _ _ _,_ | .ow _ _ _,_ | .oo _ _ _ _ _,_ | .pp _,_=>rfl
theorem z83 {H0 H1:H} {ok:Nat→Bool} (hk:∀ k,ok k=true→za H1 k=za H0 k):∀ (v:List (VT T)),z96 ok v=true→denL T.toTT0 H1 v=denL T.toTT0 H0 v
 | [],_=>rfl
 | x::l,h=>by
  simp only [z96,Bool.and_eq_true] at h
  simp only [denL,z9j hk x h.1,z83 hk l h.2]
end
def allE (ok:Nat→Bool):TE T.toTT0→Bool
 | []=>true
 | (_,v)::l=>swIn ok v && allE ok l
theorem zzl {H0 H1:H} {ok:Nat→Bool} (hk:∀ k,ok k=true→za H1 k=za H0 k):∀ (e:TE T.toTT0),allE ok e=true→denE T.toTT0 H1 e=denE T.toTT0 H0 e:=by
 intro e he
 funext t
 unfold denE
 refine z9j hk _ ?_
 induction e with
 | nil=>rfl
 | cons x l ih =>
  obtain ⟨k,v⟩:=x
  simp only [allE,Bool.and_eq_true] at he
  simp only [getE]
  cases Nat.beq t k
  ·exact ih he.2
  ·exact he.1
def hxT (D:List Nat):List (Nat×TH T.toTT0)→TH T.toTT0
 | []=>[]
 | (i,r)::l=>bif D.contains i then r++hxT D l else hxT D l
def z1d:List (Nat×TH T.toTT0)→TH T.toTT0
 | []=>[]
 | (_,r)::l=>r++z1d l
def accA (T:TT) (acc:List (Nat×TH T.toTT0)):List (Nat×H):=acc.map fun x=>(x.1,denH T.toTT0 x.2)
theorem zr2 (D:List Nat):∀ (acc:List (Nat×TH T.toTT0)),hx D (accA T acc)=denH T.toTT0 (hxT D acc)
 | []=>rfl
 | (i,r)::l=>by
  have ih:=zr2 D l
  simp only [accA,List.map_cons,hx,hxT]
  cases hc:D.contains i with
  | true=>simp only [if_true,cond_true,z2g]; rw [← ih]; rfl
  | false=>simp only [Bool.false_eq_true,if_false,cond_false]; rw [← ih]; rfl
theorem zi0:∀ (acc:List (Nat×TH T.toTT0)),z3e (accA T acc)=denH T.toTT0 (z1d acc)
 | []=>rfl
 | (i,r)::l=>by
  have ih:=zi0 l
  simp only [accA,List.map_cons,z3e,z1d,z2g]
  rw [← ih]; rfl
theorem z7v:∀ (acc:List (Nat×TH T.toTT0)) (i:Nat) (r:TH T.toTT0),z1d (acc++[(i,r)])=z1d acc++r
 | [],_,_=>by simp [z1d]
 | (_,r')::l,i,r=>by simp [z1d,z7v l]
theorem zf2 (D:List Nat):∀ (acc:List (Nat×TH T.toTT0)) (z:Nat×TR T.El),z ∈ hxT D acc→z ∈ z1d acc
 | (i,r)::l,z,hz=>by
  simp only [hxT] at hz
  simp only [z1d,List.mem_append]
  cases hc:D.contains i with
  | true =>
   rw [hc,cond_true,List.mem_append] at hz
   exact hz.imp id (zf2 D l z)
  | false =>
   rw [hc,cond_false] at hz
   exact .inr (zf2 D l z hz)
theorem zg5:∀ (h:TH T.toTT0) (z:Nat×Row),z ∈ denH T.toTT0 h↔∃ k r,(k,r) ∈ h∧z=(k,denR T.toTT0 r)
 | [],z=>by simp [denH]
 | (k,r)::h,z=>by
  simp only [denH,List.mem_cons,zg5 h z]
  constructor
  ·rintro (rfl | ⟨k',r',h1,rfl⟩)
   ·exact ⟨k,r,.inl rfl,rfl⟩
   ·exact ⟨k',r',.inr h1,rfl⟩
  ·rintro ⟨k',r',h1 | h1,rfl⟩
   ·cases h1; exact .inl rfl
   ·exact .inr ⟨k',r',h1,rfl⟩
theorem zo1 {hd ha:TH T.toTT0} (hn:zn (ha.map Prod.fst)=true) (hs:∀ z ∈ hd,z ∈ ha) (k:Nat) (hk:(hd.map Prod.fst).contains k=true):za (denH T.toTT0 ha) k=za (denH T.toTT0 hd) k:=by
 have hk':k ∈ (denH T.toTT0 hd).map Prod.fst:=by rw [z1e]; simpa using hk
 obtain ⟨r,hr⟩:=z7u _ _ hk'
 rw [hr]
 have hm:=z8l hr
 obtain ⟨k2,r2,h1,h2⟩:=(zg5 hd _).1 hm
 cases h2
 exact z8k (by rw [z1e]; exact zw _ hn) ((zg5 ha _).2 ⟨k,r2,hs _ h1,rfl⟩)
def zag:List Kd→List (VT T)→List (VT T)
 | .im t::ks,.zs::l=>.im t []::zag ks l
 | _::ks,v::l=>v::zag ks l
 | _,l=>l
def zfK (T:TT) (ks:List Kd) (c:Nat):Option Nat:=match ks[c]? with | some (.im t)=>some (T.sz t) | _=>none
theorem zrr {f:Nat→Option Nat}:∀ (l:List AV) (c:Nat),(∀ j,f (c+j)=none)→zfA f c l=l
 | [],_,_=>rfl
 | a::l,c,h=>by
  have ih:=zrr (f:=f) l (c+1) fun j=>by rw [show c+1+j=c+(j+1) by omega]; exact h _
  have h0:=h 0
  rw [Nat.add_zero] at h0
  cases a <;> simp only [zfA,ih,h0]
theorem zki {f:Nat→Option Nat}:∀ (ks:List Kd) (l:List (VT T)) (c:Nat),(∀ j,f (c+j)=zfK T ks j)→denL T.toTT0 [] (zag ks l)=zfA f c (denL T.toTT0 [] l)
 | [],l,c,h=>by
  rw [zrr _ _ fun j=>by rw [h j]; simp [zfK]]
  cases l <;> rfl
 | k::ks,[],c,h=>by cases k <;> rfl
 | k::ks,v::l,c,h=>by
  have ih:=zki (f:=f) ks l (c+1) fun j=>by
   rw [show c+1+j=c+(j+1) by omega,h (j+1)]
   simp [zfK]
  have h0:=h 0
  rw [Nat.add_zero] at h0
  cases k with
  | im t =>
   have h0:f c=some (T.sz t):=by rw [h0]; simp [zfK]
   cases v <;> first | (rename_i q; cases q <;> simp only [zag,denL,den,denP,zfA,ih,h0,List.map_nil]; done) | simp only [zag,denL,den,zfA,ih,h0,List.map_nil]
  | _ =>
   have h0:f c=none:=by rw [h0]; simp [zfK]
   cases v <;> first | (rename_i q; cases q <;> simp only [zag,denL,den,denP,zfA,ih,h0]; done) | simp only [zag,denL,den,zfA,ih,h0]
def mkD (ty:Option (Bool×Nat)) (e:TE T.toTT0) (d:Nat) (b:IB):Rs (VT T×TR T.El) :=
 bif (z2y b).all (fun o=>swIn (fun _=>false) (evT e o)) then
 match b with
 | .box s x =>
  match z6i (evT e x) with
  | none=>.no
  | some cs=>bif Nat.beq cs.length s then
   match zby (T:=T) [] [d] [cs] with
   | some (xs,_,[])=>.ok (.pt d [] 0 0,.lit s xs)
   | _=>.no
   else .no
 | .bsl s len zero parts =>
  match zca (List.replicate len (z66 zero)).flatten (parts.map fun (i,x)=>(i * s,s,evT e x)) with
  | none=>.no
  | some cs =>
   match zby (T:=T) [] [d] (z7h s len cs) with
   | some (xs,_,[])=>.ok (.sw d [],match ty with
    | some (m,t)=>bif Nat.beq (T.sz t) s then (match unL m t xs with | some ys=>.typ m t ys | none=>.lit s xs) else .lit s xs
    | none=>.lit s xs)
   | _=>.no
 | .mks s bytes zero l =>
  match z7w (evT e l),ty with
  | some n,some (m,t)=>bif Nat.beq (T.sz t) s then
   match T.un m t (zag (T.ks m t) (z66 zero)) with
   | some z=>.need (0≤n∧n * (bytes:Int)≤140737488355328) (.ok (.sw d [],.typ m t (List.replicate n.toNat z)))
   | none=>.no
   else .no
  | _,_=>.no
 | _=>.no
 else .no
theorem y9c {ty:Option (Bool×Nat)} {e:TE T.toTT0} {d:Nat} {b:IB} {v:VT T} {r:TR T.El} (H0:H) (hg:(mkD ty e d b).gives (v,r)) :
  (∃ zf rows0,mkop (ev (denE T.toTT0 H0 e)) [] d b=some (den T.toTT0 [(d,denR T.toTT0 r)] v,rows0)∧[(d,denR T.toTT0 r)]=zfH zf rows0)∧(v = .pt d [] 0 0∨v = .sw d []):=by
 have plain:∀ {b:IB} {v:VT T} {r:TR T.El},mkop (ev (denE T.toTT0 H0 e)) [] d b=some (den T.toTT0 [(d,denR T.toTT0 r)] v,[(d,denR T.toTT0 r)])→∃ zf rows0,mkop (ev (denE T.toTT0 H0 e)) [] d b=some (den T.toTT0 [(d,denR T.toTT0 r)] v,rows0)∧[(d,denR T.toTT0 r)]=zfH zf rows0:=fun h=>⟨fun _=>none,_,h,(zou _).symm⟩
 unfold mkD at hg
 obtain ⟨hall,hg⟩:=zp hg
 have hden:∀ o ∈ z2y b,den T.toTT0 H0 (evT e o)=den T.toTT0 [] (evT e o):=fun o ho=>z9j (ok:=fun _=>false) (fun k h=>(by cases h)) _ (List.all_eq_true.1 hall o ho)
 have start:∀ k,[d].contains k=false→za (denH T.toTT0 ([]:TH T.toTT0)) k=za ([]:H) k:=fun _ _=>rfl
 cases b with
 | box s x =>
  dsimp only at hg
  split at hg
  ·exact hg.elim
  ·rename_i cs hcs
   obtain ⟨hl,hg⟩:=zp hg
   split at hg
   ·rename_i xs g ha
    cases hg
    obtain ⟨q1,q2,q3⟩:=z9i (H0:=[]) _ _ _ _ _ _ start ha
    have hc:=z7r (h:=[]) hcs
    refine ⟨plain ?_,.inl rfl⟩
    simp only [mkop,zg,hden x (by simp [z2y]),hc,z2p]
    rw [if_pos (Nat.eq_of_beq_eq_true hl)]
    simp only [List.map_cons,List.map_nil,denH] at q1
    simp only [zd,q1]
    simp [den,denR]
   ·exact hg.elim
 | bsl s len zero parts =>
  dsimp only at hg
  split at hg
  ·exact hg.elim
  ·rename_i cs hcs
   split at hg
   ·rename_i xs g ha
    obtain ⟨q1,q2,q3⟩:=z9i (H0:=[]) _ _ _ _ _ _ start ha
    have hf:=zcb (h:=[]) _ _ _ hcs
    rw [List.map_map] at hf
    have hxl:xs.length=len:=by rw [q3,zay]
    have key:∀ r:TR T.El,denR T.toTT0 r=⟨s,xs.map (denL T.toTT0 [])⟩→mkop (ev (denE T.toTT0 H0 e)) [] d (.bsl s len zero parts)=some (den T.toTT0 [(d,denR T.toTT0 r)] (.sw d []),[(d,denR T.toTT0 r)]):=by
     intro r hr
     have e0:denL T.toTT0 [] (List.replicate len (z66 zero)).flatten=(List.replicate len (zero.map cval)).flatten:=by
      rw [zx,List.map_flatten,List.map_replicate,← zx,z82]
     have e1:(parts.map fun (i,x)=>(i * s,s,ev (denE T.toTT0 H0 e) x))=parts.map ((fun (o,n,x)=>(o,n,den T.toTT0 [] x)) ∘ fun (i,x)=>(i * s,s,evT e x)) :=
      List.map_congr_left fun ⟨i,x⟩ hix=>by simp only [Function.comp,zg,hden x (by simp only [z2y]; exact List.mem_map.2 ⟨(i,x),hix,rfl⟩)]
     simp only [mkop]
     rw [e1,← e0,hf]
     simp only
     rw [zc3] at q1
     simp only [denH] at q1
     simp only [zd,q1,hr]
     simp [den,ze,res,za,resE,hxl]
    cases hg
    refine ⟨plain (key _ ?_),.inr rfl⟩
    split
    ·rename_i m t
     cases hb:Nat.beq (T.sz t) s with
     | false=>rfl
     | true =>
      simp only [cond_true]
      split
      ·rename_i ys hy
       simp only [denR,ziu _ _ hy,Nat.eq_of_beq_eq_true hb]
      ·rfl
    ·rfl
   ·exact hg.elim
 | mks s bytes zero l =>
  dsimp only at hg
  split at hg
  ·rename_i n m t hn _
   obtain ⟨hs,hg⟩:=zp hg
   split at hg
   ·rename_i z hz
    obtain ⟨hc,hg⟩:=hg
    cases hg
    obtain ⟨kk,hi⟩:=z6l (h:=H0) hn
    refine ⟨⟨zfK T (T.ks m t),[(d,⟨s,List.replicate n.toNat (zero.map cval)⟩)],?_,?_⟩,.inr rfl⟩
    ·simp only [mkop,zg,hi]
     rw [if_pos hc]
     simp [den,ze,res,za,resE,denR,Nat.eq_of_beq_eq_true hs,zd]
    ·have hz2:T.ca m t z=zfA (zfK T (T.ks m t)) 0 (zero.map cval):=by
      rw [← T.un_ok _ _ _ _ hz,zki (f:=zfK T (T.ks m t)) _ _ 0 (fun j=>by rw [Nat.zero_add]),z82]
     simp only [zfH,denR,List.map_replicate,hz2,Nat.eq_of_beq_eq_true hs]
   ·exact hg.elim
  ·exact hg.elim
 | _=>exact hg.elim
def zlj (P:Program) (cs:List (Con P T)) (e:TE T.toTT0) (hd:TH T.toTT0) (d:Nat) (op:IK) (K:VT T→TH T.toTT0→Raw P T pro L):Raw P T pro L :=
 match z6h P e op with
 | none=>.no
 | some (f,args) =>
 match zcd f args cs with
 | some (C,[])=>bif (C.strong || !z30 args) && z96 (fun k=>(hd.map Prod.fst).contains k) args then
  Raw.ofRs (fun args'=>.call C args' [] fun y =>
   let bm:=bmOf [] d C.N
   bif zn (bm.map Prod.fst) && zn (bm.map Prod.snd) && (!z30 args || (z93 (C.encR y) && z87 (C.encO y))) then
    match z7c (C.encO y) bm,z3d bm (C.encR y) with
    | some (hb,_),some v=>K v hb
    | _,_=>.no
   else .no) (zb4 hd [] C.A args)
  else .no
 | _=>.no
def zme (cx:Cx P T) (x:Ins) (e:TE T.toTT0) (hd:TH T.toTT0) (K:VT T→TH T.toTT0→Raw P T pro L):Raw P T pro L :=
 match x.op with
 | .rd b=>bif (z2y b).all (fun o=>swIn (fun k=>(hd.map Prod.fst).contains k) (evT e o)) then Raw.ofRs (fun v=>bif swIn (fun k=>(hd.map Prod.fst).contains k) v then K v [] else .no) (rdT e hd b) else .no
 | .mk b=>Raw.ofRs (fun (v,r)=>K v [(x.dst,r)]) (mkD (cx.at x.dst) e x.dst b)
 | .call f l=>zlj P cx.cs e hd x.dst (.call f l) K
 | .callv f l=>zlj P cx.cs e hd x.dst (.callv f l) K
 | _=>.no
def zss (ha:TH T.toTT0) (rows:TH T.toTT0) (e:TE T.toTT0):Bool:=(rows.map Prod.fst).all (fun k=>!(ha.map Prod.fst).contains k) && allE (fun k=>!(rows.map Prod.fst).contains k) e
def evD (cx:Cx P T):List (Ins×List Nat)→Nat→TE T.toTT0→List (Nat×TH T.toTT0)→TH T.toTT0→(TE T.toTT0→TH T.toTT0→Raw P T pro L)→Raw P T pro L
 | [],_,e,acc,h0,K=>bif zn ((z1d acc++h0).map Prod.fst) then K e (z1d acc++h0) else .no
 | x::l,i,e,acc,h0,K=>bif zn ((z1d acc++h0).map Prod.fst) then
  zbh e x.1.guard (fun e=>zme cx x.1 e (hxT x.2 acc++h0) fun v rows=>bif zss (z1d acc++h0) rows e then evD cx l (i+1) (putE e x.1.dst v) (acc++[(i,rows)]) h0 K else .no)
   (fun e=>evD cx l (i+1) (putE e x.1.dst (zim x.1.op)) (acc++[(i,[])]) h0 K)
  else .no
theorem ztt {cx:Cx P T} {x:Ins} {D:List Nat} {e:TE T.toTT0} {hd ha:TH T.toTT0} {K:VT T→TH T.toTT0→Raw P T pro L} {Q:L→Prop} (hw:zo (denE T.toTT0 (denH T.toTT0 ha) e) x.guard=some true)
  (hn:zn (ha.map Prod.fst)=true) (hsub:∀ z ∈ hd,z ∈ ha) (hs:Sat (zme cx x e hd K) Q) :
  ∃ v rows,Sat (K v rows) Q∧∀ h1:TH T.toTT0,(∀ k,(hd.map Prod.fst).contains k=true→za (denH T.toTT0 h1) k=za (denH T.toTT0 hd) k)→(∀ k,(rows.map Prod.fst).contains k=true→za (denH T.toTT0 h1) k=za (denH T.toTT0 rows) k) →
   DOk P (denE T.toTT0 (denH T.toTT0 ha) e) (denH T.toTT0 hd) ⟨x,D,den T.toTT0 (denH T.toTT0 h1) v,denH T.toTT0 rows⟩:=by
 obtain ⟨d,g,op⟩:=x
 have hpart:=zo1 hn hsub
 have opd:∀ o,swIn (fun k=>(hd.map Prod.fst).contains k) (evT e o)=true→ev (denE T.toTT0 (denH T.toTT0 ha) e) o=ev (denE T.toTT0 (denH T.toTT0 hd) e) o:=fun o ho=>by
  rw [zg,zg,z9j hpart _ ho]
 have call:∀ {op:IK},(∀ f args,z6h P e op=some (f,args)→z96 (fun k=>(hd.map Prod.fst).contains k) args=true→z3y P (denE T.toTT0 (denH T.toTT0 ha) e) op f (denL T.toTT0 (denH T.toTT0 ha) args))→Sat (zlj P cx.cs e hd d op K) Q →
   ∃ v rows,Sat (K v rows) Q∧∀ h1:TH T.toTT0,(∀ k,(hd.map Prod.fst).contains k=true→za (denH T.toTT0 h1) k=za (denH T.toTT0 hd) k)→(∀ k,(rows.map Prod.fst).contains k=true→za (denH T.toTT0 h1) k=za (denH T.toTT0 rows) k) →
    DOk P (denE T.toTT0 (denH T.toTT0 ha) e) (denH T.toTT0 hd) ⟨⟨d,g,op⟩,D,den T.toTT0 (denH T.toTT0 h1) v,denH T.toTT0 rows⟩:=by
  intro op hca hs
  unfold zlj at hs
  split at hs
  ·exact hs.elim
  ·rename_i f args hargs
   split at hs
   ·rename_i C hC
    cases hb:((C.strong || !z30 args) && z96 (fun k=>(hd.map Prod.fst).contains k) args) with
    | false=>rw [hb] at hs; exact hs.elim
    | true =>
     rw [hb,cond_true] at hs
     simp only [Bool.and_eq_true] at hb
     obtain ⟨args',hcv,x,y,q1,q2,q3,q4⟩:=Sat.ofRs _ hs
     dsimp only at q4
     generalize hbm:bmOf [] d C.N=bm at q4
     cases hb2:(zn (bm.map Prod.fst) && zn (bm.map Prod.snd) && (!z30 args || (z93 (C.encR y) && z87 (C.encO y)))) with
     | false=>rw [hb2] at q4; exact q4.elim
     | true =>
      rw [hb2,cond_true] at q4
      simp only [Bool.and_eq_true] at hb2
      obtain ⟨⟨b1,b2⟩,b5⟩:=hb2
      split at q4
      ·rename_i hb' left v hsb hbk
       refine ⟨v,hb',q4,fun h1 hp1 hp2=>?_⟩
       obtain ⟨l,r1,r2⟩:=z6n (H0:=denH T.toTT0 hd) (Hn:=denH T.toTT0 []) (rest:=hd) (m:=[]) (bor:=z30 args) (fun _ _=>rfl) C.A args args' hcv (fun h=>h)
       have hCf:=z9l cx.cs hC
       have hG:=C.ok x y q3
       rw [q1,q2,hCf] at hG
       have hok:z28 P f l [] (den T.toTT0 (denH T.toTT0 (C.encO y)) (C.encR y)) (denH T.toTT0 (C.encO y))∨z30 args=false∧CallG P f l [] (den T.toTT0 (denH T.toTT0 (C.encO y)) (C.encR y)) (denH T.toTT0 (C.encO y)):=by
        cases hst:C.strong with
        | true=>exact .inl (z28.le r2 (hG.1 hst))
        | false =>
         rw [hst] at hb
         exact .inr ⟨by simpa using hb.1,CallG.le r2 hG.2⟩
       obtain ⟨t1,t2,t3⟩:=z4j bm (C.encO y) hb' left hsb
       have hkeys:=z7y _ _ _ _ t1
       have hde:denL T.toTT0 (denH T.toTT0 ha) args=denL T.toTT0 (denH T.toTT0 hd) args:=z83 hpart _ hb.2
       refine .call hw (hca f args hargs hb.2) (by rw [hde]; exact r1) hok t1 (zw _ b1) (z7f (fun k n q hkn=>?_) _ _ hbk) (fun hbor=>?_)
       ·have hm:=z5h bm hkn
        have hg:=t3 n k b1 b2 hm
        have hn':n ∈ hb'.map Prod.fst:=by rw [← z1e,hkeys]; exact List.mem_map.2 ⟨_,hm,rfl⟩
        have:=hp2 n (by simpa using hn')
        unfold ze res
        rw [this,hg]
       ·rw [hbor] at b5
        simp only [Bool.not_true,Bool.false_or,Bool.and_eq_true] at b5
        exact ⟨z9s _ b5.1,z88 _ b5.2⟩
      ·exact q4.elim
   ·exact hs.elim
 unfold zme at hs
 dsimp only at hs
 split at hs
 ·rename_i b
  cases hb:(z2y b).all (fun o=>swIn (fun k=>(hd.map Prod.fst).contains k) (evT e o)) with
  | false=>rw [hb] at hs; exact hs.elim
  | true =>
   rw [hb,cond_true] at hs
   obtain ⟨v,hv,hs⟩:=Sat.ofRs _ hs
   cases hsv:swIn (fun k=>(hd.map Prod.fst).contains k) v with
   | false=>rw [hsv] at hs; exact hs.elim
   | true =>
    rw [hsv,cond_true] at hs
    refine ⟨v,[],hs,fun h1 hp1 hp2=>?_⟩
    obtain ⟨av,r1,r2⟩:=zo7 hv
    refine .rd (av:=av) hw rfl ?_ (by rw [z9j hp1 v hsv]; exact r2) rfl
    rw [← r1]
    exact z4r b fun o ho=>opd o (List.all_eq_true.1 hb o ho)
 ·rename_i b
  obtain ⟨⟨v,r⟩,hv,hs⟩:=Sat.ofRs _ hs
  obtain ⟨m1,m2⟩:=y9c (denH T.toTT0 ha) hv
  obtain ⟨zf,rows0,m1,m3⟩:=m1
  refine ⟨v,[(d,r)],hs,fun h1 hp1 hp2=>.mk zf hw rfl (rows0:=rows0) ?_ m3⟩
  simp only [m1]
  have hr:=hp2 d (by simp)
  rcases m2 with rfl | rfl
  ·rfl
  ·simp only [den]
   congr 2
   rw [z1a hr]
   rfl
 ·rename_i f l
  refine call (fun f' args ha' hsw=>?_) hs
  cases ha'
  have:denL T.toTT0 (denH T.toTT0 ha) (l.map (evT e))=l.map (ev (denE T.toTT0 (denH T.toTT0 ha) e)):=by
   rw [zx,List.map_map]
   exact List.map_congr_left fun x _=>(zg x).symm
  rw [this]
  exact .call
 ·rename_i f l
  refine call (fun f' args ha' hsw=>?_) hs
  simp only [z6h] at ha'
  split at ha'
  ·rename_i f2 caps hx
   cases hf:fnOk P f2 with
   | false=>rw [hf] at ha'; cases ha'
   | true =>
    rw [hf] at ha'
    cases ha'
    have:denL T.toTT0 (denH T.toTT0 ha) (l.map (evT e)++caps)=l.map (ev (denE T.toTT0 (denH T.toTT0 ha) e))++denL T.toTT0 (denH T.toTT0 ha) caps:=by
     rw [zx,zx,List.map_append,List.map_map]
     congr 1
     exact List.map_congr_left fun x _=>(zg x).symm
    rw [this]
    exact .callv (by rw [zg,hx]; rfl) hf
  ·cases ha'
 ·exact hs.elim
theorem zsj {a b c:H} {k:Nat} (hk:(b.map Prod.fst).contains k=false):za (a++b++c) k=za (a++c) k:=by
 have hb:za b k=none:=z7t b k (by intro hm; have:(b.map Prod.fst).contains k=true:=(by simpa using hm); rw [this] at hk; cases hk)
 rw [z2w,z2w,z2w,hb]
 cases za a k <;> rfl
theorem zhd {cx:Cx P T} {K:TE T.toTT0→TH T.toTT0→Raw P T pro L} {Q:L→Prop} {h0:TH T.toTT0}:∀ (l:List (Ins×List Nat)) (i:Nat) (e:TE T.toTT0) (acc:List (Nat×TH T.toTT0)),Sat (evD cx l i e acc h0 K) Q →
  WD P l i (denE T.toTT0 (denH T.toTT0 (z1d acc++h0)) e) (accA T acc) (denH T.toTT0 h0) (KP K Q)
 | [],i,e,acc,hs=>by
  unfold evD at hs
  cases hn:zn ((z1d acc++h0).map Prod.fst) with
  | false=>rw [hn] at hs; exact hs.elim
  | true =>
   rw [hn,cond_true] at hs
   have e1:z3e (accA T acc)++denH T.toTT0 h0=denH T.toTT0 (z1d acc++h0):=by rw [zi0,z2g]
   refine ⟨by rw [e1,z1e]; exact hn,?_⟩
   rw [e1]
   exact ⟨_,_,rfl,rfl,hs⟩
 | x::l,i,e,acc,hs=>by
  unfold evD at hs
  cases hn:zn ((z1d acc++h0).map Prod.fst) with
  | false=>rw [hn] at hs; exact hs.elim
  | true =>
   rw [hn,cond_true] at hs
   obtain ⟨e',he,h1 | h1⟩:=zaj (H0:=denH T.toTT0 (z1d acc++h0)) hs
   ·obtain ⟨v,rows,hK,hd⟩:=ztt (D:=x.2) (ha:=z1d acc++h0) (by rw [he]; exact h1.1) hn (fun z hz=>by
     rw [List.mem_append] at hz ⊢
     exact hz.imp (zf2 x.2 acc z) id) h1.2
    cases hno:zss (z1d acc++h0) rows e' with
    | false=>rw [hno] at hK; exact hK.elim
    | true =>
     rw [hno,cond_true] at hK
     simp only [zss,Bool.and_eq_true] at hno
     have ih:=zhd l (i+1) _ _ hK
     have hrow:∀ k,(rows.map Prod.fst).contains k=false→za (denH T.toTT0 (z1d (acc++[(i,rows)])++h0)) k=za (denH T.toTT0 (z1d acc++h0)) k:=fun k hk=>by
      rw [z7v,z2g,z2g,z2g]
      exact zsj (by rw [z1e]; exact hk)
     have hnew:∀ k,(rows.map Prod.fst).contains k=true→((z1d acc++h0).map Prod.fst).contains k=false:=fun k hk=>by
      have:=List.all_eq_true.1 hno.1 k (by simpa using hk)
      simpa using this
     have hd':=hd (z1d (acc++[(i,rows)])++h0) (fun k hk=>by
      have hsub:∀ z ∈ hxT x.2 acc++h0,z ∈ z1d acc++h0:=fun z hz=>by
       rw [List.mem_append] at hz ⊢
       exact hz.imp (zf2 x.2 acc z) id
      have hk2:((z1d acc++h0).map Prod.fst).contains k=true:=by
       simp only [List.contains_eq_mem,decide_eq_true_eq] at hk ⊢
       obtain ⟨z,hz,rfl⟩:=List.mem_map.1 hk
       exact List.mem_map.2 ⟨z,hsub z hz,rfl⟩
      rw [hrow k (by
       cases hc:(rows.map Prod.fst).contains k with
       | false=>rfl
       | true=>rw [hnew k hc] at hk2; cases hk2)]
      exact zo1 hn hsub k hk) (fun k hk=>by
      rw [z7v,z2g,z2g]
      have ha:za (denH T.toTT0 (z1d acc)) k=none:=z7t _ _ (by
       rw [z1e]
       intro hm
       have h3:=hnew k hk
       have h4:((z1d acc++h0).map Prod.fst).contains k=true:=by
        simp only [List.map_append,List.contains_eq_mem,List.mem_append,decide_eq_true_eq]
        exact .inl hm
       rw [h3] at h4; cases h4)
      have hk':k ∈ (denH T.toTT0 rows).map Prod.fst:=by rw [z1e]; simpa using hk
      obtain ⟨r,hr⟩:=z7u _ _ hk'
      rw [List.append_assoc,z2w,ha]
      simp only
      rw [z2w,hr])
     rw [← he]
     refine ⟨den T.toTT0 (denH T.toTT0 (z1d (acc++[(i,rows)])++h0)) v,denH T.toTT0 rows,by rw [zr2,← z2g]; exact hd',?_⟩
     ·rw [zy,zzl (H0:=denH T.toTT0 (z1d acc++h0)) (fun k hk=>hrow k (by simpa using hk)) e' hno.2] at ih
      have:accA T (acc++[(i,rows)])=accA T acc++[(i,denH T.toTT0 rows)]:=by simp [accA]
      rw [this] at ih
      exact ih
   ·have ih:=zhd l (i+1) _ _ h1.2
    have hh:z1d (acc++[(i,([]:TH T.toTT0))])=z1d acc:=by rw [z7v,List.append_nil]
    rw [zy,hh,he,z8f] at ih
    refine ⟨z4d x.1.op,[],.skip h1.1 rfl rfl,?_⟩
    have:accA T (acc++[(i,([]:TH T.toTT0))])=accA T acc++[(i,[])]:=by simp [accA,denH]
    rw [this] at ih
    exact ih
end
end Loom
