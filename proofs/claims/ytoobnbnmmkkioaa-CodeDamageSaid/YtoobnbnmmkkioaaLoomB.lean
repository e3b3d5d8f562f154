/- Loom,an abstract machine over the kit's calculus: rows,z1n,stores,calls,regions,what they owe; and its evaluator (part 2 of 4). -/
import Derived.Test.YtoobnbnmmkkioaaLoomA
import Derived.Laws.IdiomStrings
import Derived.WideLaws
import Derived.Laws.Build
import Derived.Attr
import Derived.KernelRfl
import Derived.SizedLaws
import Derived.ChangeOld
import Derived.Carry
import Derived.WalkKit
import Derived.OpenShut
import Derived.Deep.CondSized
import Derived.Maps.Own
set_option linter.unusedVariables false
set_option linter.unusedSimpArgs false
set_option linter.unusedSectionVars false
namespace Loom
open Go
section
variable {P:Program} {I J:Nat→Prop} {N:Nat} [Dfs N] {σ σ':Pl} {B:zj} {w w':World} {h h' rest hin hout hb left:H} {e e':Env} {a:Act} {m bm:List (Nat×Nat)}
mutual
theorem Ce.wide (hIJ:∀ b,I b→J b) {k:Nat} {p:Path} {i c:Nat}:∀ (x:AV) (v:Value),Ce I σ B k p i c x v→Ce J σ B k p i c x v
 | .ow s xs,v,h=>by
  simp only [Ce] at h ⊢
  cases hs:σ k (p++[(i,c)]) with
  | none=>simpa only [hs] using h
  | some L =>
   simp only [hs] at h ⊢
   obtain ⟨h1,h2,h3,cur,E,h4,h5,h6⟩:=h
   exact ⟨h1,h2,h3,cur,E,h4,h5,CeE.wide hIJ xs 0 _ h6⟩
 | .sc _,_,h=>h
 | .zs,_,h=>h
 | .un,_,h=>h
 | .im s xs,v,h=>Im.wide hIJ (.im s xs) v h
 | .ag _,_,h=>h.elim
 | .tu _,_,h=>h.elim
 | .ip _ _ _ _,_,h=>h.elim
 | .sl _ _ _ _,_,h=>h.elim
 | .pt _ _ _ _,_,h=>h.elim
 | .fn _ _,_,h=>h.elim
 | .pp _,_,h=>h.elim
theorem CeC.wide (hIJ:∀ b,I b→J b) {k:Nat} {p:Path} {i:Nat}:∀ (l:List AV) (c:Nat) (cs:List Value),CeC I σ B k p i c l cs→CeC J σ B k p i c l cs
 | [],_,_,h=>h
 | x::l,c,_,h=>by
  obtain ⟨v,cs',rfl,h1,h2⟩:=h
  exact ⟨v,cs',rfl,Ce.wide hIJ x v h1,CeC.wide hIJ l (c+1) cs' h2⟩
theorem CeE.wide (hIJ:∀ b,I b→J b) {k:Nat} {p:Path} {s:Nat}:∀ (l:Els) (i:Nat) (cs:List Value),CeE I σ B k p i s l cs→CeE J σ B k p i s l cs
 | [],_,_,_=>trivial
 | x::l,i,_,h=>⟨h.1,CeC.wide hIJ x 0 _ h.2.1,CeE.wide hIJ l (i+1) _ h.2.2⟩
end
theorem zm.wide (hIJ:∀ b,I b→J b):∀ (h:H),zm I σ B h→zm J σ B h
 | [],_=>trivial
 | (k,r)::h,hh=>by
  refine ⟨?_,zm.wide hIJ h hh.2⟩
  have h1:=hh.1
  unfold zr at h1 ⊢
  cases hs:σ k [] with
  | none=>simpa only [hs] using h1
  | some L =>
   simp only [hs] at h1 ⊢
   obtain ⟨q1,q2,cur,E,q3,q4,q5⟩:=h1
   exact ⟨q1,q2,cur,E,q3,q4,CeE.wide hIJ r.xs 0 _ q5⟩
mutual
theorem Va.wide {B:zj} (hIJ:∀ b,I b→J b):∀ (x:AV) (v:Value),Va I σ B x v→Va J σ B x v
 | .un,_,_=>trivial
 | .sc _,_,h=>h
 | .zs,_,h=>h
 | .ag cs,_,h=>by obtain ⟨a,rfl,h⟩:=h; exact ⟨a,rfl,VaC.wide hIJ cs _ h⟩
 | .tu cs,_,h=>by obtain ⟨a,rfl,h⟩:=h; exact ⟨a,rfl,VaL.wide hIJ cs _ h⟩
 | .im s xs,v,h=>Im.wide hIJ (.im s xs) v h
 | .ip s xs i c,v,h=>by
  obtain ⟨A,cur,E,fr,h1,h2,h3,h4,h5⟩:=h
  exact ⟨A,cur,E,fr,h1,h2,hIJ _ h3,h4,ImE.wide hIJ s xs _ h5⟩
 | .sl _ _ _ _,_,h=>h
 | .pt _ _ _ _,_,h=>h
 | .fn _ caps,_,h=>by obtain ⟨a,rfl,h⟩:=h; exact ⟨a,rfl,VaL.wide hIJ caps _ h⟩
 | .ow _ _,_,h=>h.elim
 | .pp q,v,h=>VaP.wide hIJ q v h
theorem VaC.wide {B:zj} (hIJ:∀ b,I b→J b):∀ (l:List AV) (cs:List Value),VaC I σ B l cs→VaC J σ B l cs
 | [],_,h=>h
 | x::l,_,h=>by
  obtain ⟨v,cs',rfl,h0,h1,h2⟩:=h
  exact ⟨v,cs',rfl,h0,Va.wide hIJ x v h1,VaC.wide hIJ l cs' h2⟩
theorem VaL.wide {B:zj} (hIJ:∀ b,I b→J b):∀ (l:List AV) (cs:List Value),VaL I σ B l cs→VaL J σ B l cs
 | [],_,h=>h
 | x::l,_,h=>by
  obtain ⟨v,cs',rfl,h1,h2⟩:=h
  exact ⟨v,cs',rfl,Va.wide hIJ x v h1,VaL.wide hIJ l cs' h2⟩
end
def z6m (m bm:List (Nat×Nat)) (k:Nat) (q:Path):Bool:=(bm.map Prod.fst).contains k && !((m.map Prod.snd).contains k && q.isEmpty)
def zbp (m bm:List (Nat×Nat)):Bool:=bm.all fun x=>!(m.map Prod.snd).contains x.1 || m.contains (x.2,x.1)
def zfb (pro:List Nat) (m bm:List (Nat×Nat)):Bool:=pro.all fun k=>!(bm.map Prod.fst).contains k || (m.map Prod.snd).contains k
theorem z9p:∀ (m:List (Nat×Nat)) {k n:Nat},(m.map Prod.fst).Nodup→(k,n) ∈ m→look m k=some n
 | [],_,_,_,h=>by cases h
 | (a,b)::m,k,n,hnd,h=>by
  simp only [List.map_cons,List.nodup_cons] at hnd
  rcases List.mem_cons.1 h with h | h
  ·cases h; simp [look]
  ·have:a ≠ k:=by rintro rfl; exact hnd.1 (List.mem_map.2 ⟨(a,n),h,rfl⟩)
   simp only [look,if_neg this]
   exact z9p m hnd.2 h
theorem zaz:∀ (m:List (Nat×Nat)) {k n:Nat},z1k m k=some n→n ∈ m.map Prod.fst
 | [],_,_,h=>by cases h
 | (a,b)::m,k,n,h=>by
  simp only [z1k] at h
  by_cases hb:b=k
  ·simp only [if_pos hb,Option.some.injEq] at h
   simp [h]
  ·simp only [if_neg hb] at h
   rw [List.map_cons]
   exact List.mem_cons_of_mem _ (zaz m h)
theorem zox (R:Rel I N σ e h a w) {args args':List AV} {vs:List Value} {f:Nat} {bor:Bool} {u:Value} (hargs:VaL I σ (bl w) args vs) (hsplit:z2a h m=some (hin,rest)) (hnd:(m.map Prod.fst).Nodup)
  (hconv:z2d rest m bor args=some args') (hok:z5p P f args' hin u) :
  Calls P f vs.toArray w fun en w'=>en = .panicked [{ v:=u,recovered:=false }]∧Le w w'∧(∀ b,b<w.heap.size→b ∉ fpH σ h→bl w' b=bl w b)∧HRel I σ rest w'∧∀ b ∈ fpH σ rest,b ∈ fpH σ h:=by
 let J:Nat→Prop:=fun b=>I b∨(bor=true∧b ∈ fpH σ rest)
 have hIJ:∀ b,I b→J b:=fun b hb=>.inl hb
 obtain ⟨s1,s2,s3,s4,s5,s6⟩:=z40 m h hin rest R.heap hsplit hnd
 have hin1:HRel J (z1o m σ) hin w:=⟨zm.wide hIJ hin s1.ok,s1.keys,s1.nodup,fun b hb=>⟨fun hJ=>by
  rcases hJ with hJ | hJ
  ·exact (s1.apart b hb).1 hJ
  ·exact (s3 b hb).2 hJ.2,(s1.apart b hb).2⟩,fun b hb=>by
  rcases hb with hb | hb
  ·exact s1.low b hb
  ·exact (s2.apart b hb.2).2⟩
 have hva:=z4y (J:=J) hnd s2 hIJ (fun hbr b hb=>.inr ⟨hbr,hb⟩) args args' vs hconv hargs
 refine (hok J (z1o m σ) w vs hin1 hva).mono fun en w' ⟨h1,h2,h3⟩=>⟨h1,h2,fun b hb hf=>h3 b hb fun hm=>hf (s3 b hm).1,?_,s4⟩
 have ls:=h2.size
 have hrestB:∀ b ∈ fpH σ rest,bl w' b=bl w b:=fun b hb=>h3 b (s2.apart b hb).2 (fun hm=>(s3 b hm).2 hb)
 have hIb:∀ b,I b→bl w' b=bl w b:=fun b hb=>h3 b (R.heap.low b hb) (fun hm=>(s1.apart b hm).1 hb)
 exact ⟨zm.mono hIb rest hrestB s2.ok,s2.keys,s2.nodup,fun b hb=>⟨(s2.apart b hb).1,by have:=(s2.apart b hb).2; omega⟩,fun b hb=>by have:=R.heap.low b hb; omega⟩
theorem zs4 (R:Rel I N σ e h a w) {args args':List AV} {vs:List Value} {f d:Nat} {bor:Bool} {r r':AV} {pro:List Nat} (hargs:VaL I σ (bl w) args vs) (hsplit:z2a h m=some (hin,rest)) (hnd:(m.map Prod.fst).Nodup)
  (hconv:z2d rest m bor args=some args') (hok:CallG P f args' hin r hout) (hsb:z2a hout bm=some (hb,left)) (hndb:(bm.map Prod.fst).Nodup) (hbk:zbp m bm=true) (hpro:zfb pro m bm=true) (hback:back bm r=some r')
  (hbor:bor=true→noIm r=true∧z6f hout=true) (hd:d<N) :
  Calls P f vs.toArray w fun en w'=>∃ v,en = .returned v∧Step P I N pro σ h w (upd (z1i (z6m m bm) e) d r') (hb++z1f rest (bm.map Prod.fst)) (a.put (some d) v) w':=by
 let J:Nat→Prop:=fun b=>I b∨(bor=true∧b ∈ fpH σ rest)
 have hIJ:∀ b,I b→J b:=fun b hb=>.inl hb
 obtain ⟨s1,s2,s3,s4,s5,s6⟩:=z40 m h hin rest R.heap hsplit hnd
 have hin1:HRel J (z1o m σ) hin w:=⟨zm.wide hIJ hin s1.ok,s1.keys,s1.nodup,fun b hb=>⟨fun hJ=>by
  rcases hJ with hJ | hJ
  ·exact (s1.apart b hb).1 hJ
  ·exact (s3 b hb).2 hJ.2,(s1.apart b hb).2⟩,fun b hb=>by
  rcases hb with hb | hb
  ·exact s1.low b hb
  ·exact (s2.apart b hb.2).2⟩
 have hva:=z4y (J:=J) hnd s2 hIJ (fun hbr b hb=>.inr ⟨hbr,hb⟩) args args' vs hconv hargs
 refine (hok J (z1o m σ) w vs hin1 hva).mono ?_
 rintro en w' ⟨v,σ1,J',rfl,cJ1,cJ2,c1,c2,c3,c4,c5,c6⟩
 refine ⟨v,rfl,?_⟩
 let I':Nat→Prop:=fun b=>I b∨(bor=false∧J' b)
 have hII:∀ b,I b→I' b:=fun b hb=>.inl hb
 have hI'c:∀ b,I' b→I b∨b ∈ fpH σ h∨w.heap.size≤b:=fun b hb=>by
  rcases hb with hb | ⟨hbr,hb⟩
  ·exact .inl hb
  ·rcases cJ2 b hb with h1 | h1 | h1
   ·rcases h1 with h1 | ⟨h1,_⟩
    ·exact .inl h1
    ·rw [hbr] at h1; cases h1
   ·exact .inr (.inl (s3 b h1).1)
   ·exact .inr (.inr h1)
 have hI1:HRel I' σ1 hout w'∧Va I' σ1 (bl w') r v:=by
  by_cases hbr:bor=true
  ·obtain ⟨n1,n2⟩:=hbor hbr
   have:I'=I:=funext fun b=>propext ⟨fun hb=>hb.elim id (fun h=>by rw [hbr] at h; cases h.1),hII b⟩
   rw [this]
   exact ⟨HRel.narrow (fun b hb=>cJ1 b (hIJ b hb)) n2 c1,Va.narrow r v n1 c2⟩
  ·have:I'=J':=funext fun b=>propext ⟨fun hb=>hb.elim (fun h=>cJ1 b (hIJ b h)) (fun h=>h.2),fun hb=>.inr ⟨by simpa using hbr,hb⟩⟩
   rw [this]
   exact ⟨c1,c2⟩
 obtain ⟨hI1,hI2⟩:=hI1
 obtain ⟨b1,b2,b3,b4,b5,b6⟩:=z40 bm hout hb left hI1 hsb hndb
 have c4s:=c4.size
 have hrestB:∀ b ∈ fpH σ rest,bl w' b=bl w b:=fun b hb=>c5 b (s2.apart b hb).2 (fun hm=>(s3 b hm).2 hb)
 have hIb:∀ b,I b→bl w' b=bl w b:=fun b hb=>c5 b (R.heap.low b hb) (fun hm=>(s1.apart b hm).1 hb)
 have hrest:HRel I' σ rest w':=⟨zm.wide hII rest (zm.mono hIb rest hrestB s2.ok),s2.keys,s2.nodup,fun b hb=>⟨fun hm=>by
  rcases hm with hm | ⟨hbr,hm⟩
  ·exact (s2.apart b hb).1 hm
  ·rcases cJ2 b hm with h1 | h1 | h1
   ·rcases h1 with h1 | ⟨h1,_⟩
    ·exact (s2.apart b hb).1 h1
    ·rw [hbr] at h1; cases h1
   ·exact (s3 b h1).2 hb
   ·have:=(s2.apart b hb).2; omega,by have:=(s2.apart b hb).2; omega⟩,hI1.low⟩
 obtain ⟨k1,k2,k3⟩:=z7s (bm.map Prod.fst) hrest
 obtain ⟨j1,j2⟩:=HRel.join b1 k1 (fun k hk hk2=>(k3 k hk2).2 (by rw [← b6]; exact hk)) (fun b hb hb2=>by
  rcases c6 b (b3 b hb).1 with h | h
  ·exact (s3 b h).2 (k2 b hb2)
  ·have:=(s2.apart b (k2 b hb2)).2; omega)
 refine ⟨_,I',hII,hI'c,Rel.put j1 R.size (fun t=>?_) R.defers hd ?_,?_,c4,?_,?_⟩
 ·refine Va.wide hII _ _ (Va.mono hIb _ _ (Va.kill (bad:=z6m m bm) (fun k q hbad=>?_) (e t) _ (R.vals t)))
  by_cases hk:k ∈ hb.map Prod.fst
  ·simp only [if_pos hk]
   rw [b6] at hk
   unfold z6m at hbad
   have hc:(bm.map Prod.fst).contains k=true:=by simpa using hk
   rw [hc] at hbad
   simp only [Bool.true_and,Bool.not_eq_false',Bool.and_eq_true] at hbad
   obtain ⟨g1,g2⟩:=hbad
   have hq:q=[]:=List.isEmpty_iff.1 g2
   subst hq
   obtain ⟨⟨kk,cid⟩,hmem,rfl⟩:=List.mem_map.1 hk
   have hchk:=List.all_eq_true.1 hbk (kk,cid) hmem
   simp only [g1,Bool.not_true,Bool.false_or] at hchk
   have hmc:(cid,kk) ∈ m:=by simpa using hchk
   have h1:look bm kk=some cid:=z9p bm hndb hmem
   have h2:look m cid=some kk:=z9p m hnd hmc
   show (match look bm kk with | some o=>σ1 o [] | none=>none)=σ kk []
   rw [h1]
   simp only
   rw [c3 cid (by rw [s6]; exact List.mem_map.2 ⟨(cid,kk),hmc,rfl⟩)]
   show (match look m cid with | some o=>σ o [] | none=>none)=σ kk []
   rw [h2]
  ·simp only [if_neg hk]
 ·refine z5q (σ:=σ1) (fun k n hn q=>?_) r r' v hback hI2
  have hm:n ∈ hb.map Prod.fst:=by rw [b6]; exact zaz bm hn
  simp only [if_pos hm]
  exact z8d hndb hn q
 ·intro k hk
  have hp:=List.all_eq_true.1 hpro k hk
  by_cases hkb:k ∈ hb.map Prod.fst
  ·simp only [if_pos hkb]
   rw [b6] at hkb
   have hc:(bm.map Prod.fst).contains k=true:=by simpa using hkb
   rw [hc] at hp
   simp only [Bool.not_true,Bool.false_or] at hp
   obtain ⟨⟨kk,cid⟩,hmem,rfl⟩:=List.mem_map.1 hkb
   have hchk:=List.all_eq_true.1 hbk (kk,cid) hmem
   simp only [hp,Bool.not_true,Bool.false_or] at hchk
   have hmc:(cid,kk) ∈ m:=by simpa using hchk
   have h1:look bm kk=some cid:=z9p bm hndb hmem
   have h2:look m cid=some kk:=z9p m hnd hmc
   show (match look bm kk with | some o=>σ1 o [] | none=>none)=σ kk []
   rw [h1]
   simp only
   rw [c3 cid (by rw [s6]; exact List.mem_map.2 ⟨(cid,kk),hmc,rfl⟩)]
   show (match look m cid with | some o=>σ o [] | none=>none)=σ kk []
   rw [h2]
  ·simp only [if_neg hkb]
 ·intro b hb1 hb2
  exact c5 b hb1 (fun hm=>hb2 (s3 b hm).1)
 ·intro b hb1
  rw [j2,List.mem_append] at hb1
  rcases hb1 with hb1 | hb1
  ·rcases c6 b (b3 b hb1).1 with h | h
   ·exact .inl (s3 b h).1
   ·exact .inr h
  ·exact .inl (s4 b (k2 b hb1))
end
inductive IK where
 | rd (b:IB)
 | mk (b:IB)
 | app (s bytes:Nat) (x y:Operand)
 | st (n:Nat) (a x:Operand)
 | call (f:Nat) (args:List Operand)
 | callv (x:Operand) (args:List Operand)
 | s2b (x:Operand)
 | mrk (x:Operand)
 | ifn (x:Operand)
 | tas (t:TypeId) (x:Operand)
structure Ins where
 dst:Nat
 guard:Option (Nat×Bool)
 op:IK
def fnOk (P:Program) (f:Nat):Bool:=match P.funcs[f]? with | some fn=>!(fn.name == "runtime.NumGoroutine") && !fn.body.isNone | none=>false
def zsy (P:Program) (src dst:TypeId):Bool :=
 match P.underlying src,P.underlying dst with
 | some .string,some (.slice el)=>match P.underlying el with | some (.int .u8)=>true | _=>false
 | _,_=>false
theorem zsz {P:Program} {src dst:TypeId} (h:zsy P src dst=true):P.underlying src=some .string∧∃ el,P.underlying dst=some (.slice el)∧P.underlying el=some (.int .u8):=by
 unfold zsy at h
 split at h
 ·rename_i el h1 h2
  split at h
  ·exact ⟨h1,el,h2,by assumption⟩
  ·cases h
 ·cases h
def zsq (P:Program) (src dst:TypeId):Bool :=
 src==dst && match P.underlying src with
  | some (.slice el)=>match P.underlying el with | some (.int .u8)=>true | _=>false
  | _=>false
theorem zsr {P:Program} {src dst:TypeId} (h:zsq P src dst=true):src=dst∧∃ el,P.underlying src=some (.slice el)∧P.underlying el=some (.int .u8):=by
 unfold zsq at h
 simp only [Bool.and_eq_true,beq_iff_eq] at h
 obtain ⟨h0,h⟩:=h
 split at h
 ·rename_i el h1
  split at h
  ·exact ⟨h0,el,h1,by assumption⟩
  ·cases h
 ·cases h
def zsk (P:Program) (t:TypeId):Bool:=match P.underlying t with | some (.interface ms)=>if ms=P.methodsAt t then true else false | _=>false
theorem zsl {P:Program} {t:TypeId} (h:zsk P t=true):P.underlying t=some (.interface (P.methodsAt t)):=by
 unfold zsk at h
 split at h
 ·rename_i ms hm
  split at h
  ·rename_i e; rw [hm,e]
  ·cases h
 ·cases h
theorem y5s {P:Program} (w:World) (t xt:TypeId) (v:Value) (h:P.concrete t=true):(Instr.typeAssert (.iface t v) xt t true).run P w = .ok (.tuple #[v,.bool true]) w:=by
 unfold Program.concrete at h
 cases hd:P.underlying t with
 | none=>simp [hd] at h
 | some d=>cases d <;> first | (simp [hd] at h; done) | simp [Instr.typeAssert,run_underlying hd]
def z54 (P:Program) (o:Oper):Option IK :=
 match zll P o with
 | some b=>some (.rd b)
 | none =>
 match zh7 P o with
 | some b=>some (.mk b)
 | none =>
 match ziz P o with
 | some (.app s bytes x y)=>some (.app s bytes x y)
 | _ =>
 match o.op with
 | .store t a x=>match szT P t,o.dst with | some n,none=>some (.st n a x) | _,_=>none
 | .call { callee:=.value (.func f),args,.. }=>if fnOk P f then some (.call f args.toList) else none
 | .call { callee:=.value (.tmp t),args,.. }=>some (.callv (.tmp t) args.toList)
 | .convert src dst x=>if zsy P src dst then some (.s2b x) else if zsq P src dst then some (.mrk x) else none
 | .binOp .neq t x (.const .nilIface) _=>if zsk P t then some (.ifn x) else none
 | .typeAssert x _ t true=>if P.concrete t then some (.tas t x) else none
 | _=>none
def z5n (N:Nat) (o:Oper) (k:IK):Option Nat :=
 match k with
 | .st _ _ _=>some N
 | _=>match o.dst with | some d=>if d<N then some d else none | none=>none
def comp (P:Program) (N:Nat) (ops:Array Oper) (o:Oper):Option Ins :=
 match z54 P o with
 | none=>none
 | some k =>
  match z5n N o k with
  | none=>none
  | some d =>
   match o.guard with
   | none=>some ⟨d,none,k⟩
   | some (g,want)=>match (ops[g]?).bind (·.dst) with | some s=>some ⟨d,some (s,want),k⟩ | none=>none
def z2x (pro:List Nat) (e:Env) (h:H) (d:Nat) (op:IK):Option (Env×H) :=
 match op with
 | .rd b=>match rdop (ev e) (res h) b with | some av=>some (upd e d av,h) | none=>none
 | .mk b=>if pro.contains d then none else match mkop (ev e) h d b with | some (av,h')=>some (upd (z1i (fun k _=>k==d) e) d av,h') | none=>none
 | .app s bytes x y=>match apop (ev e) h d s bytes x y with | some (av,h',key)=>if pro.contains key then none else some (upd (z1i (fun k _=>k==key) e) d av,h') | none=>none
 | .st n a x=>match stop (ev e) h n a x with | some (h',bad)=>some (z1i bad e,h') | none=>none
 | .s2b x=>match ev e x with | .sc (.string s)=>some (upd e d (.im 1 ((bytesOf s).map fun n=>[.sc (.int .u8 n)])),h) | _=>none
 | .mrk x=>match ev e x with
  | .sl k [] 0 len=>match za h k with
   | some r=>if 0<len then some (upd e d (.sl k [] 0 len),(k,r)::zd h k) else none
   | none=>none
  | _=>none
 | .ifn x=>match ev e x with | .sc (.iface _ _)=>some (upd e d (.sc (.bool true)),h) | _=>none
 | .tas t x=>match ev e x with
  | .sc (.iface t' (.agg cs))=>if t'=t∧cs.toList.all Value.oneCell'=true then some (upd e d (.tu [.ag (cs.toList.map .sc),.sc (.bool true)]),h) else none
  | _=>none
 | .call _ _ | .callv _ _=>none
structure z9f (P:Program) (pro:List Nat) (e:Env) (h:H) (d f:Nat) (args:List AV) (e':Env) (h':H):Prop where
 by_:∃ (m bm:List (Nat×Nat)) (bor:Bool) (hin rest hout hb left:H) (args':List AV) (r r':AV),
  z2a h m=some (hin,rest)∧(m.map Prod.fst).Nodup∧z2d rest m bor args=some args'∧CallG P f args' hin r hout∧z2a hout bm=some (hb,left)∧(bm.map Prod.fst).Nodup∧zbp m bm=true∧zfb pro m bm=true ∧
  back bm r=some r'∧(bor=true→noIm r=true∧z6f hout=true)∧e'=upd (z1i (z6m m bm) e) d r'∧h'=hb++z1f rest (bm.map Prod.fst)
inductive z2h (P:Program) (pro:List Nat) (e:Env) (h:H) (d:Nat):IK→Env→H→Prop
 | plain {op e' h'}:z2x pro e h d op=some (e',h')→z2h P pro e h d op e' h'
 | call {f args e' h'}:z9f P pro e h d f (args.map (ev e)) e' h'→z2h P pro e h d (.call f args) e' h'
 | s2w {x s}:ev e x = .sc (.string s)→pro.contains d=false→z2h P pro e h d (.s2b x) (upd (z1i (fun k _=>k==d) e) d (.sl d [] 0 s.size)) ((d,⟨1,(bytesOf s).map fun n=>[.sc (.int .u8 n)]⟩)::zd h d)
 | callv {x f caps args e' h'}:ev e x = .fn f caps→fnOk P f=true→z9f P pro e h d f (args.map (ev e)++caps) e' h'→z2h P pro e h d (.callv x args) e' h'
def zo (e:Env):Option (Nat×Bool)→Option Bool
 | none=>some true
 | some (s,want)=>match e s with | .sc (.bool b)=>some (b==want) | .sc (.tuple _)=>some false | _=>none
def isSt:IK→Bool
 | .st _ _ _=>true
 | _=>false
def z4d:IK→AV
 | .st _ _ _=>.un
 | _=>.sc undef
section
variable {P:Program} {I:Nat→Prop} {N:Nat} [Dfs N] {σ σ':Pl} {w w':World} {h h':H} {e e':Env} {a:Act} {ops:Array Oper} {Q:Exit→Act→World→Prop} {pro:List Nat}
theorem VaL.append:∀ (l1 l2:List AV) (v1 v2:List Value),VaL I σ (bl w) l1 v1→VaL I σ (bl w) l2 v2→VaL I σ (bl w) (l1++l2) (v1++v2)
 | [],l2,v1,v2,h1,h2=>by simp only [VaL] at h1; subst h1; exact h2
 | x::l1,l2,_,v2,h1,h2=>by
  obtain ⟨v,cs',rfl,h3,h4⟩:=h1
  exact ⟨v,cs'++v2,rfl,h3,VaL.append l1 l2 cs' v2 h4 h2⟩
theorem zb8 (R:Rel I N σ e h a w):∀ (l:List Operand),VaL I σ (bl w) (l.map (ev e)) (l.map a.eval)
 | []=>rfl
 | x::l=>⟨_,_,rfl,zt R x,zb8 R l⟩
theorem z45 {f:Nat} (hf:fnOk P f=true) (vs:Array Value) (w:World):(callFunc f vs).run P w = .ok (.enter f vs) w:=by
 unfold fnOk at hf
 split at hf
 ·rename_i fn hfn
  simp only [Bool.and_eq_true,Bool.not_eq_true',beq_eq_false_iff_ne] at hf
  have h2:¬ fn.body=none:=fun e=>by simp [e] at hf
  simp [callFunc,hfn,hf.1,h2]
 ·cases hf
theorem z9f.sound (R:Rel I N σ e h a w) {d f:Nat} {args:List AV} {vs:List Value} (hc:z9f P pro e h d f args e' h') (hd:d<N) (hargs:VaL I σ (bl w) args vs) :
  Calls P f vs.toArray w fun en w'=>∃ v,en = .returned v∧Step P I N pro σ h w e' h' (a.put (some d) v) w':=by
 obtain ⟨m,bm,bor,hin,rest,hout,hb,left,args',r,r',h1,h2,h3,h4,h5,h6,h7,h8,h9,h10,rfl,rfl⟩:=hc.by_
 exact zs4 R hargs h1 h2 h3 h4 h5 h6 h7 h8 h9 h10 hd
theorem zl9 {o:Oper} {K:Act→World→Prop} {f:Nat} {vs:List Value} {d:Nat} (hdst:o.dst=some d) (hrun:(execOp a.eval o).run P w = .ok (.enter f vs.toArray) w)
  (hc:Calls P f vs.toArray w fun en w'=>∃ v,en = .returned v∧Step P I N pro σ h w e' h' (a.put (some d) v) w') (hK:∀ a' w',Step P I N pro σ h w e' h' a' w'→K a' w'):o.wp P a w K Q:=by
 unfold Oper.wp
 rw [hrun,Oper.upon_enter]
 refine Calls.mono hc ?_
 rintro en w' ⟨v,rfl,hs⟩
 rw [hdst]
 exact hK _ _ hs
theorem z2h.sound (R:Rel I N σ e h a w) {o:Oper} {k:IK} {d:Nat} (hc:z54 P o=some k) (hd:z5n N o k=some d) (hs:z2h P pro e h d k e' h') {K:Act→World→Prop} (hK:∀ a' w',Step P I N pro σ h w e' h' a' w'→K a' w'):o.wp P a w K Q:=by
 have hslot:∀ {d:Nat},(∀ n a x,k ≠ .st n a x)→z5n N o k=some d→o.dst=some d∧d<N:=by
  intro d hne h
  unfold z5n at h
  split at h
  ·exact absurd rfl (hne _ _ _)
  ·split at h
   ·rename_i d' hd'
    split at h
    ·cases h; exact ⟨hd',by assumption⟩
    ·cases h
   ·cases h
 unfold z54 at hc
 split at hc
 ·
  rename_i b hb
  cases hc
  obtain ⟨hdst,hdN⟩:=hslot (fun _ _ _=>by simp) hd
  cases hs with
  | plain hs =>
   simp only [z2x] at hs
   split at hs
   ·rename_i av hav
    simp only [Option.some.injEq,Prod.mk.injEq] at hs
    obtain ⟨rfl,rfl⟩:=hs
    obtain ⟨v,h1,h2⟩:=zgk R hb hav
    unfold Oper.wp
    rw [h1,Oper.upon_value,hdst]
    refine hK _ _ ⟨σ,I,fun _ h=>h,fun _ h=>.inl h,Rel.put R.heap R.size R.vals R.defers hdN h2,fun _ _=>rfl,Le.refl _,fun _ _ _=>rfl,fun b hb=>.inl hb⟩
   ·cases hs
 ·split at hc
  ·
   rename_i b hb
   cases hc
   obtain ⟨hdst,hdN⟩:=hslot (fun _ _ _=>by simp) hd
   cases hs with
   | plain hs =>
    simp only [z2x] at hs
    split at hs
    ·cases hs
    ·rename_i hpro
     split at hs
     ·rename_i av h1 hav
      simp only [Option.some.injEq,Prod.mk.injEq] at hs
      obtain ⟨rfl,rfl⟩:=hs
      obtain ⟨v,w',σ',q1,q2,q3,q4,q5,q6⟩:=(zns R hdN hb hav).run
      unfold Oper.wp
      rw [q1,Oper.upon_value,hdst]
      refine hK _ _ ⟨σ',I,fun _ h=>h,fun _ h=>.inl h,q2,fun k hk=>q6 k [] (fun e=>hpro (by subst e; simpa using hk)),q3,fun b hb _=>q4 b hb,q5⟩
     ·cases hs
  ·split at hc
   ·
    rename_i s bytes x y hb
    cases hc
    obtain ⟨hdst,hdN⟩:=hslot (fun _ _ _=>by simp) hd
    cases hs with
    | plain hs =>
     simp only [z2x] at hs
     split at hs
     ·rename_i av h1 key hav
      split at hs
      ·cases hs
      ·rename_i hpro
       simp only [Option.some.injEq,Prod.mk.injEq] at hs
       obtain ⟨rfl,rfl⟩:=hs
       obtain ⟨n,w',σ',a',q1,q2,q3,q4,q5,q6,q7⟩:=(ztg R hdst hdN hb hav).run
       have key:Step P I N pro σ h w (upd (z1i (fun k _=>k==key) e) d av) h1 a' w':=⟨σ',I,fun _ h=>h,fun _ h=>.inl h,q3,fun k hk=>q7 k (fun e=>hpro (by cases e; simpa using hk)),q4,q5,q6⟩
       unfold Oper.wp
       rw [q1]
       cases n <;> simp only at q2 <;> first | (rw [Oper.upon_value,← q2]; exact hK _ _ key) | (rw [Oper.upon_skip,← q2]; exact hK _ _ key) | exact q2.elim
     ·cases hs
   ·split at hc
    ·
     rename_i t ad x ho
     split at hc
     ·rename_i n hn hdst
      cases hc
      cases hs with
      | plain hs =>
       simp only [z2x] at hs
       split at hs
       ·rename_i h1 bad hst
        simp only [Option.some.injEq,Prod.mk.injEq] at hs
        obtain ⟨rfl,rfl⟩:=hs
        obtain ⟨n,w',σ',a',q1,q2,q3,q4,q5,q6,q7⟩:=(zp1 R ho hn hdst hst).run
        have key:Step P I N pro σ h w (z1i bad e) h1 a' w':=⟨σ',I,fun _ h=>h,fun _ h=>.inl h,q3,fun k _=>q7 k (by simp),q4,q5,q6⟩
        unfold Oper.wp
        rw [q1]
        cases n <;> simp only at q2 <;> first | (rw [Oper.upon_value,← q2]; exact hK _ _ key) | (rw [Oper.upon_skip,← q2]; exact hK _ _ key) | exact q2.elim
       ·cases hs
     ·cases hc
    ·
     rename_i f args _ ho
     split at hc
     ·rename_i hf
      cases hc
      obtain ⟨hdst,hdN⟩:=hslot (fun _ _ _=>by simp) hd
      cases hs with
      | plain hs=>cases hs
      | call hs =>
       refine zl9 (vs:=args.toList.map a.eval) hdst ?_ (hs.sound R hdN (zb8 R _)) hK
       have:(args.map a.eval)=(args.toList.map a.eval).toArray:=by apply Array.ext'; rw [Array.toList_map]
       simp only [execOp,ho,resolve,Deferred.ofValue,Act.eval,Sem.run_bind,Sem.run_pure,Result.andThen_ok,invoke,Array.append_empty,Array.empty_append]
       rw [this,z45 hf]
     ·cases hc
    ·
     rename_i t args _ ho
     cases hc
     obtain ⟨hdst,hdN⟩:=hslot (fun _ _ _=>by simp) hd
     cases hs with
     | plain hs=>cases hs
     | callv hx hf hs =>
      rename_i f caps
      have hv:=zt R (.tmp t)
      rw [hx] at hv
      obtain ⟨c,hc1,hc2⟩:=hv
      refine zl9 (vs:=args.toList.map a.eval++c.toList) hdst ?_ (hs.sound R hdN (VaL.append _ _ _ _ (zb8 R _) hc2)) hK
      simp only [execOp,ho,resolve,hc1,Deferred.ofValue,Sem.run_bind,Sem.run_pure,Result.andThen_ok,invoke,Array.empty_append]
      rw [z45 hf]
      congr 2
      apply Array.ext'
      simp
    ·
     rename_i src dst x ho
     split at hc
     ·rename_i hok
      obtain ⟨hs1,el,hd1,he⟩:=zsz hok
      ·cases hc
       obtain ⟨hdst,hdN⟩:=hslot (fun _ _ _=>by simp) hd
       cases hs with
       | s2w hx hpro =>
        rename_i s
        have hv:=zt R x
        rw [hx] at hv
        have hv':a.eval x = .string s:=hv
        have hrun:=run_bytes_of_string (P:=P) w src dst el s hs1 hd1 he
        unfold Oper.wp
        have hex:(execOp a.eval o).run P w = .ok (.value (.slice (some ⟨w.heap.size,0,none⟩) s.size (grownCap w s.size 0 el))) (w.drew.alloc (.cells (bytesRow s (grownCap w s.size 0 el)) el ((bytesRow s (grownCap w s.size 0 el)).size,(bytesRow s (grownCap w s.size 0 el)).size+1))):=by
         simp only [execOp,ho,hv',Sem.run_bind,hrun,Result.andThen_ok,Sem.run_pure]
        rw [hex,Oper.upon_value,hdst]
        have hsz:((bytesOf s).map fun n=>[AV.sc (.int .u8 n)]).length=s.size:=by
         simp [bytesOf]
        have hcap:s.size≤grownCap w s.size 0 el:=grownCap_ge w s.size 0 el
        have hcells:(bytesRow s (grownCap w s.size 0 el)).toList=(bytesOf s).map (fun n=>Value.int .u8 n)++List.replicate (grownCap w s.size 0 el - s.size) (.int .u8 0):=by
         simp [bytesRow,bytesOf]
        have hlen:(bytesRow s (grownCap w s.size 0 el)).size=grownCap w s.size 0 el * 1:=by
         rw [← Array.length_toList,hcells,List.length_append,List.length_map,List.length_replicate,show (bytesOf s).length=s.size by simp [bytesOf]]; omega
        have habs:∀ (l:List Int) (h:H),absE h (l.map fun n=>[AV.sc (.int .u8 n)])=some (l.map fun n=>[AV.sc (.int .u8 n)],h):=by
         intro l h
         induction l with
         | nil=>rfl
         | cons n l ih =>
          have h1:(Value.int .u8 n).oneCell'=true:=rfl
          simp only [List.map_cons,absE,absL,absC,h1,if_true,ih]
        obtain ⟨σ',q1,q2,q3,q4,q5,q6⟩:=zib (s:=1) (cap:=grownCap w s.size 0 el) (xs:=(bytesOf s).map fun n=>[AV.sc (.int .u8 n)]) (cur:=bytesRow s (grownCap w s.size 0 el)) (E:=el) R hdN w.drew rfl (by
         rw [hsz,Nat.mul_one,hcells,List.take_left' (by simp [bytesOf])]
         generalize bytesOf s=bs
         induction bs with
         | nil=>rfl
         | cons n bs ih=>exact ⟨_,_,rfl,rfl,rfl,ih⟩) (by simp) hlen (by rw [hsz]; exact hcap) (habs _ _) ((bytesRow s (grownCap w s.size 0 el)).size,(bytesRow s (grownCap w s.size 0 el)).size+1) (.inr (Nat.le_refl _))
        refine hK _ _ ⟨σ',I,fun _ h=>h,fun _ h=>.inl h,Rel.put q1 R.size q2 R.defers hdN ?_,fun k hk=>q5 k [] ?_,Le.drewAlloc _ _,fun b hb _=>(z5a w.drew _ _ hb).trans rfl,fun b hb=>?_⟩
        ·simp only [Va,q3]
         exact ⟨_,_,rfl,by omega,hcap,fun _=>by simp⟩
        ·intro hkd
         subst hkd
         have:pro.contains k=true:=by simpa using hk
         rw [this] at hpro; cases hpro
        ·rcases q6 b hb with hb | hb
         ·exact .inl hb
         ·exact .inr (by omega)
       | plain hs2 =>
        simp only [z2x] at hs2
        split at hs2
        ·rename_i s hx
         simp only [Option.some.injEq,Prod.mk.injEq] at hs2
         obtain ⟨rfl,rfl⟩:=hs2
         have hv:=zt R x
         rw [hx] at hv
         have hv':a.eval x = .string s:=hv
         have hrun:=run_bytes_of_string (P:=P) w src dst el s hs1 hd1 he
         unfold Oper.wp
         have hex:(execOp a.eval o).run P w = .ok (.value (.slice (some ⟨w.heap.size,0,none⟩) s.size (grownCap w s.size 0 el))) (w.drew.alloc (.cells (bytesRow s (grownCap w s.size 0 el)) el ((bytesRow s (grownCap w s.size 0 el)).size,(bytesRow s (grownCap w s.size 0 el)).size+1))):=by
          simp only [execOp,ho,hv',Sem.run_bind,hrun,Result.andThen_ok,Sem.run_pure]
         rw [hex,Oper.upon_value,hdst]
         have hold:∀ b,b<w.heap.size→bl (w.drew.alloc (.cells (bytesRow s (grownCap w s.size 0 el)) el ((bytesRow s (grownCap w s.size 0 el)).size,(bytesRow s (grownCap w s.size 0 el)).size+1))) b=bl w b:=fun b hb=>by
          exact (z5a w.drew _ _ hb).trans rfl
         have hnew:bl (w.drew.alloc (.cells (bytesRow s (grownCap w s.size 0 el)) el ((bytesRow s (grownCap w s.size 0 el)).size,(bytesRow s (grownCap w s.size 0 el)).size+1))) w.heap.size=some (.cells (bytesRow s (grownCap w s.size 0 el)) el ((bytesRow s (grownCap w s.size 0 el)).size,(bytesRow s (grownCap w s.size 0 el)).size+1)):=heap_alloc_new w.drew _
         refine hK _ _ ⟨σ,fun b=>I b∨b=w.heap.size,fun _ h=>.inl h,fun b hb=>hb.elim .inl (fun h=>.inr (.inr (by omega))),?_,fun _ _=>rfl,Le.drewAlloc _ _,fun b hb _=>hold b hb,fun b hb=>.inl hb⟩
         have hh:HRel (fun b=>I b∨b=w.heap.size) σ h (w.drew.alloc (.cells (bytesRow s (grownCap w s.size 0 el)) el ((bytesRow s (grownCap w s.size 0 el)).size,(bytesRow s (grownCap w s.size 0 el)).size+1))) :=
          ⟨zm.wide (fun _ h=>.inl h) h (zm.mono (fun b hb=>hold b (R.heap.low b hb)) h (fun b hb=>hold b (R.heap.apart b hb).2) R.heap.ok),R.heap.keys,R.heap.nodup,
           fun b hb=>⟨fun hI=>hI.elim (R.heap.apart b hb).1 (fun e=>by have:=(R.heap.apart b hb).2; omega),by rw [World.size_alloc]; exact Nat.lt_succ_of_lt (R.heap.apart b hb).2⟩,
           fun b hb=>by
            rw [World.size_alloc]
            rcases hb with hb | hb
            ·exact Nat.lt_succ_of_lt (R.heap.low b hb)
            ·rw [hb]; exact Nat.lt_succ_self _⟩
         refine Rel.put hh R.size (fun t=>Va.wide (fun _ h=>.inl h) _ _ (Va.mono (fun b hb=>hold b (R.heap.low b hb)) _ _ (R.vals t))) R.defers hdN ?_
         have hsz:((bytesOf s).map fun n=>[AV.sc (.int .u8 n)]).length=s.size:=by
          simp [bytesOf]
         have hcap:s.size≤grownCap w s.size 0 el:=grownCap_ge w s.size 0 el
         refine ⟨_,_,by rw [hsz],by rw [hsz]; exact hcap,fun _=>⟨_,_,_,_,rfl,rfl,.inr rfl,hnew,?_⟩⟩
         have hcells:(bytesRow s (grownCap w s.size 0 el)).toList=(bytesOf s).map (fun n=>Value.int .u8 n)++List.replicate (grownCap w s.size 0 el - s.size) (.int .u8 0):=by
          simp [bytesRow,bytesOf]
         rw [List.drop_zero,hcells]
         generalize List.replicate (grownCap w s.size 0 el - s.size) (Value.int .u8 0)=rest
         generalize bytesOf s=bs
         induction bs with
         | nil=>trivial
         | cons n bs ih=>exact ⟨rfl,⟨_,[],rfl,⟨rfl,rfl⟩,rfl⟩,ih⟩
        ·cases hs2
     ·split at hc
      ·rename_i hok
       obtain ⟨rfl,el,hu,he⟩:=zsr hok
       cases hc
       obtain ⟨hdst,hdN⟩:=hslot (fun _ _ _=>by simp) hd
       cases hs with
       | plain hs2 =>
        simp only [z2x] at hs2
        split at hs2
        ·rename_i k len hx
         split at hs2
         ·rename_i r hg
          split at hs2
          ·rename_i hlen
           simp only [Option.some.injEq,Prod.mk.injEq] at hs2
           obtain ⟨rfl,rfl⟩:=hs2
           have hv:=zt R x
           rw [hx] at hv
           obtain ⟨d1,d2,d3,d4,d5,d6⟩:=R.heap.del hg
           simp only [Va] at hv
           unfold zr at d2
           cases hL:σ k [] with
           | none=>simp only [hL] at hv; omega
           | some L =>
            simp only [hL] at hv d2
            obtain ⟨A,c,hav,f1,f2,f3⟩:=hv
            have hA:=f3 (.inr trivial)
            subst hA
            obtain ⟨q1,q2,cur,E,q3,q4,q5⟩:=d2
            have hLf:L.b ∈ fpR σ k r:=by unfold fpR; simp only [hL]; exact List.mem_cons_self
            have hLh:=(d5 _ hLf).2
            let w':World:=w.freeze ⟨L.b,cur.size,none⟩ 1
            have hlt:L.b<w.heap.size:=(R.heap.apart _ hLh).2
            have hBo:∀ b,b ≠ L.b→bl w' b=bl w b:=fun b hb=>by
             show (World.freeze w _ 1).heap[b]? = _
             unfold World.freeze
             rw [if_neg (by decide)]
             exact (Array.getElem?_modify).trans (if_neg (fun e=>hb e.symm))
            have hBn:bl w' L.b=some (.cells cur E.t (if E.fr.1==E.fr.2 then (cur.size,cur.size+1) else (min E.fr.1 cur.size,max E.fr.2 (cur.size+1)))):=by
             have q3':w.heap[L.b]? = some (.cells cur E.t E.fr):=q3
             show (World.freeze w _ 1).heap[L.b]? = _
             unfold World.freeze
             rw [if_neg (by decide)]
             refine (Array.getElem?_modify).trans ((if_pos rfl).trans ?_)
             rw [q3']
             rfl
            have hsz:w'.heap.size=w.heap.size:=by
             show (World.freeze w _ 1).heap.size=_
             unfold World.freeze
             rw [if_neg (by decide)]
             exact Array.size_modify
            have hle:Le w w':=by
             refine ⟨by rw [hsz]; exact Nat.le_refl _,?_,?_,?_⟩
             ·show (World.freeze w _ 1).os=_
              unfold World.freeze; rw [if_neg (by decide)]
             ·show (World.freeze w _ 1).tape=_
              unfold World.freeze; rw [if_neg (by decide)]
             ·show (World.freeze w _ 1).output=_
              unfold World.freeze; rw [if_neg (by decide)]
            have hex:(execOp a.eval o).run P w = .ok (.value (.slice (some ⟨L.b,0 * L.s,none⟩) len c)) w':=by
             have hs2:w.shape? L.b=some (E.t,cur.size):=by unfold World.shape?; rw [show w.heap[L.b]? = _ from q3]
             simp only [execOp,ho,hav,Sem.run_bind]
             simp [convert,run_underlying hu,run_underlying he,markStringish,hs2]
             rfl
            unfold Oper.wp
            rw [hex,Oper.upon_value,hdst]
            have hI:∀ b,I b→bl w' b=bl w b:=fun b hb=>hBo b (fun e=>(R.heap.apart _ hLh).1 (e ▸ hb))
            have hnd:L.b ∉ fpE σ k [] 0 r.xs∧(fpE σ k [] 0 r.xs).Nodup:=by
             have:=d4; unfold fpR at this; simp only [hL] at this; exact List.nodup_cons.1 this
            have hh:HRel I σ ((k,r)::zd h k) w':=by
             refine HRel.add (σ:=σ) (w:=w) d1 d3 (fun _ _ _=>rfl) (fun b hb hm=>hBo b ?_) (by rw [hsz]; exact Nat.le_refl _) ?_ d4 (fun b hb=>⟨(d5 b hb).1,(R.heap.apart b (d5 b hb).2).1,by rw [hsz]; exact (R.heap.apart b (d5 b hb).2).2⟩)
             ·rintro rfl
              rcases hm with hm | hm
              ·exact (R.heap.apart _ hLh).1 hm
              ·exact (d5 _ hLf).1 hm
             ·unfold zr
              simp only [hL]
              refine ⟨q1,q2,cur,⟨E.t,if E.fr.1==E.fr.2 then (cur.size,cur.size+1) else (min E.fr.1 cur.size,max E.fr.2 (cur.size+1)),?_⟩,hBn,q4,CeE.mono hI k [] 0 r.s r.xs _ (fun b hb=>hBo b (fun e=>hnd.1 (e ▸ hb))) q5⟩
              have:=E.ok
              split
              ·exact .inr (Nat.le_refl _)
              ·rename_i hne
               refine .inr ?_
               have hne:E.fr.1 ≠ E.fr.2:=by simpa using hne
               show cur.size≤min E.fr.1 cur.size
               omega
            refine hK _ _ ⟨σ,I,fun _ h=>h,fun _ h=>.inl h,Rel.put hh R.size (fun t=>Va.mono hI _ _ (R.vals t)) R.defers hdN ?_,fun _ _=>rfl,hle,fun b hb hnb=>hBo b (fun e=>hnb (e ▸ hLh)),fun b hb=>.inl ?_⟩
            ·simp only [Va,hL]
             exact ⟨_,c,rfl,f1,f2,fun _=>rfl⟩
            ·rw [z1h,List.mem_append] at hb
             rcases hb with hb | hb
             ·exact (d5 b hb).2
             ·exact d6 b hb
          ·cases hs2
         ·cases hs2
        ·cases hs2
      ·cases hc
    ·rename_i t x u ho
     split at hc
     ·rename_i hok
      cases hc
      obtain ⟨hdst,hdN⟩:=hslot (fun _ _ _=>by simp) hd
      cases hs with
      | plain hs =>
       simp only [z2x] at hs
       split at hs
       ·rename_i a1 b1 hx
        simp only [Option.some.injEq,Prod.mk.injEq] at hs
        obtain ⟨rfl,rfl⟩:=hs
        have hv:=zt R x
        rw [hx] at hv
        have hv':a.eval x = .iface a1 b1:=hv
        unfold Oper.wp
        have hex:(execOp a.eval o).run P w = .ok (.value (.bool true)) w:=by
         have hc0:a.eval (.const .nilIface) = .nilIface:=rfl
         have hgd:(eqGuard .neq t x (.const .nilIface) (.iface a1 b1) .nilIface).run P w = .ok () w:=by simp [eqGuard]
         simp only [execOp,ho,hv',hc0,Sem.run_bind,hgd,run_neq_held_nil w t a1 b1 (zsl hok),Result.andThen_ok,Sem.run_pure]
        rw [hex,Oper.upon_value,hdst]
        exact hK _ _ ⟨σ,I,fun _ h=>h,fun _ h=>.inl h,Rel.put R.heap R.size R.vals R.defers hdN rfl,fun _ _=>rfl,Le.refl _,fun _ _ _=>rfl,fun b hb=>.inl hb⟩
       ·cases hs
     ·cases hc
    ·rename_i x xt t ho
     split at hc
     ·rename_i hok
      cases hc
      obtain ⟨hdst,hdN⟩:=hslot (fun _ _ _=>by simp) hd
      cases hs with
      | plain hs =>
       simp only [z2x] at hs
       split at hs
       ·rename_i t' cs hx
        split at hs
        ·rename_i hcs
         obtain ⟨rfl,hcs⟩:=hcs
         simp only [Option.some.injEq,Prod.mk.injEq] at hs
         obtain ⟨rfl,rfl⟩:=hs
         have hv:=zt R x
         rw [hx] at hv
         have hv':a.eval x = .iface t' (.agg cs):=hv
         unfold Oper.wp
         have hex:(execOp a.eval o).run P w = .ok (.value (.tuple #[.agg cs,.bool true])) w:=by
          simp only [execOp,ho,hv',Sem.run_bind,y5s w t' xt _ hok,Result.andThen_ok,Sem.run_pure]
         rw [hex,Oper.upon_value,hdst]
         have hva:∀ l:List Value,l.all Value.oneCell'=true→VaC I σ (bl w) (l.map .sc) l:=by
          intro l
          induction l with
          | nil=>intro _; rfl
          | cons u l ih =>
           intro hl
           simp only [List.all_cons,Bool.and_eq_true] at hl
           exact ⟨u,l,rfl,hl.1,rfl,ih hl.2⟩
         exact hK _ _ ⟨σ,I,fun _ h=>h,fun _ h=>.inl h,Rel.put R.heap R.size R.vals R.defers hdN ⟨_,rfl,_,_,rfl,⟨cs,rfl,hva _ hcs⟩,_,_,rfl,rfl,rfl⟩,fun _ _=>rfl,Le.refl _,fun _ _ _=>rfl,fun b hb=>.inl hb⟩
        ·cases hs
       ·cases hs
     ·cases hc
    ·cases hc
end
section
variable {P:Program} {I:Nat→Prop} {N:Nat} [Dfs N] {σ σ1 σ':Pl} {w w1 w':World} {h h1 h':H} {e e1 e':Env} {a a1 a':Act} {ops:Array Oper} {Q:Exit→Act→World→Prop} {pro:List Nat}
theorem Step.trans {I1:Nat→Prop} (i1:∀ b,I b→I1 b) (i2:∀ b,I1 b→I b∨b ∈ fpH σ h∨w.heap.size≤b) (p1:∀ k ∈ pro,σ1 k []=σ k []) (p2:Le w w1) (p3:∀ b,b<w.heap.size→b ∉ fpH σ h→bl w1 b=bl w b) (p4:∀ b ∈ fpH σ1 h1,b ∈ fpH σ h∨w.heap.size≤b)
  (s:Step P I1 N pro σ1 h1 w1 e' h' a' w'):Step P I N pro σ h w e' h' a' w':=by
 obtain ⟨σ',I',j1,j2,R,q1,q2,q3,q4⟩:=s.out
 have p2s:=p2.size
 refine ⟨σ',I',fun b hb=>j1 b (i1 b hb),fun b hb=>?_,R,fun k hk=>(q1 k hk).trans (p1 k hk),p2.trans q2,fun b hb hf=>?_,fun b hb=>?_⟩
 ·rcases j2 b hb with h | h | h
  ·exact i2 b h
  ·exact .inr (p4 b h)
  ·exact .inr (.inr (by omega))
 ·rw [q3 b (by omega) (fun hm=>(p4 b hm).elim hf (fun h=>by omega)),p3 b hb hf]
 ·rcases q4 b hb with h | h
  ·exact p4 b h
  ·exact .inr (by omega)
theorem z1z (R:Rel I N σ e h a w) {o:Oper} {g:Option (Nat×Bool)} (hg:match o.guard with | none=>g=none | some (j,want)=>∃ s,(ops[j]?).bind (·.dst)=some s∧g=some (s,want)) {t:Bool} (hw:zo e g=some t) :
  Region.wanted o (yielded ops a.tmps)=t:=by
 unfold Region.wanted
 cases ho:o.guard with
 | none =>
  simp only [ho] at hg
  subst hg
  simpa [zo] using hw
 | some jw =>
  obtain ⟨j,want⟩:=jw
  simp only [ho] at hg
  obtain ⟨s,hs,rfl⟩:=hg
  simp only [zo] at hw
  split at hw
  ·rename_i b hb
   simp only [Option.some.injEq] at hw
   have:=R.vals s
   rw [hb] at this
   simp only [Va] at this
   have hlt:s<a.tmps.size:=by
    rcases Nat.lt_or_ge s a.tmps.size with h | h
    ·exact h
    ·rw [Array.getD_eq_getD_getElem?,Array.getElem?_eq_none h] at this
     cases this
   simp only [yielded,hs,Option.bind_some]
   rw [Array.getD_eq_getD_getElem?] at this
   cases hx:a.tmps[s]? with
   | none=>simp [hx] at this; cases this
   | some v =>
    simp only [hx,Option.getD_some] at this
    subst this
    rw [← hw]
    simp
  ·rename_i x hb
   simp only [Option.some.injEq] at hw
   have:=R.vals s
   rw [hb] at this
   simp only [Va] at this
   rw [← hw]
   simp only [yielded,hs,Option.bind_some]
   cases hx:a.tmps[s]? with
   | none=>rfl
   | some v =>
    rw [Array.getD_eq_getD_getElem?,hx,Option.getD_some] at this
    subst this
    rfl
  ·cases hw
theorem z34 {o:Oper} {x:Ins} (hc:comp P N ops o=some x):(match o.guard with | none=>x.guard=none | some (j,want)=>∃ s,(ops[j]?).bind (·.dst)=some s∧x.guard=some (s,want))∧z54 P o=some x.op∧z5n N o x.op=some x.dst:=by
 unfold comp at hc
 split at hc
 ·cases hc
 ·rename_i k hk
  split at hc
  ·cases hc
  ·rename_i d hd
   split at hc
   ·rename_i hg
    cases hc
    exact ⟨by simp only [hg],hk,hd⟩
   ·rename_i g want hg
    split at hc
    ·rename_i s hs
     cases hc
     exact ⟨by simp only [hg]; exact ⟨s,hs,rfl⟩,hk,hd⟩
    ·cases hc
theorem zl2 {B:zj} (op:IK):Va I σ B (z4d op) undef:=by
 cases op <;> first | exact trivial | exact (rfl:undef=undef)
theorem Rel.skip (R:Rel I N σ e h a w) {op:IK} {d:Option Nat} {d':Nat} (hd:d=some d'∨(d=none∧∃ n x y,op = .st n x y)):Rel I N σ (upd e d' (z4d op)) h (a.put d undef) w:=by
 refine ⟨R.heap,by rw [Act.size_put]; exact R.size,fun t=>?_,by rw [Act.defers_put]; exact R.defers⟩
 unfold upd
 split
 ·rename_i ht
  subst ht
  rcases hd with rfl | ⟨_,n,x,y,rfl⟩
  ·have:(a.put (some t) undef).tmps.getD t undef=undef:=by
    by_cases hlt:t<a.tmps.size
    ·rw [Act.getD_put hlt,if_pos rfl]
    ·rw [Array.getD_eq_getD_getElem?,Array.getElem?_eq_none (by rw [Act.size_put]; omega)]
     rfl
   rw [this]
   exact zl2 op
  ·exact trivial
 ·rename_i hne
  rcases hd with rfl | ⟨rfl,_⟩
  ·by_cases hlt:d'<a.tmps.size
   ·rw [Act.getD_put hlt,if_neg hne]
    exact R.vals t
   ·have:(a.put (some d') undef).tmps=a.tmps:=by
     simp only [Act.put]
     rw [Array.setIfInBounds_eq_of_size_le (by omega)]
    rw [this]
    exact R.vals t
  ·exact R.vals t
theorem z5o {o:Oper} {k:IK} {d:Nat} (hc:z54 P o=some k) (hd:z5n N o k=some d):o.dst=some d∨(o.dst=none∧∃ n x y,k = .st n x y):=by
 by_cases hk:∃ n x y,k = .st n x y
 ·refine .inr ⟨?_,hk⟩
  obtain ⟨n,x,y,rfl⟩:=hk
  unfold z54 at hc
  split at hc
  ·cases hc
  ·split at hc
   ·cases hc
   ·split at hc
    ·cases hc
    ·split at hc
     ·split at hc
      ·assumption
      ·cases hc
     ·split at hc
      ·cases hc
      ·cases hc
     ·cases hc
     ·split at hc <;> first | (cases hc; done) | (split at hc <;> cases hc)
     ·split at hc <;> cases hc
     ·split at hc <;> cases hc
     ·cases hc
 ·left
  unfold z5n at hd
  split at hd
  ·exact absurd ⟨_,_,_,rfl⟩ hk
  ·split at hd
   ·rename_i d' hd'
    split at hd
    ·cases hd; exact hd'
    ·cases hd
   ·cases hd
def z1g (P:Program) (N:Nat) (ops:Array Oper):List Nat→List Ins→Prop
 | [],[]=>True
 | i::is,x::xs=>(∃ o,ops[i]? = some o∧comp P N ops o=some x)∧z1g P N ops is xs
 | _,_=>False
theorem Step.of_rel (R:Rel I N σ e' h' a w) (hh:h'=h):Step P I N pro σ h w e' h' a w:=by
 subst hh
 exact ⟨σ,I,fun _ h=>h,fun _ h=>.inl h,R,fun _ _=>rfl,Le.refl _,fun _ _ _=>rfl,fun b hb=>.inl hb⟩
end
def zc (P:Program) (pro:List Nat) (e:Env) (h:H) (e1:Env) (h1:H):Prop :=
 ∀ (I:Nat→Prop) (N:Nat) [Dfs N] (σ:Pl) (a:Act) (w:World),Rel I N σ e h a w→Step P I N pro σ h w e1 h1 a w
inductive RunG (P:Program) (pro:List Nat):List Ins→Env→H→Env→H→Prop
 | nil {e h}:RunG P pro [] e h e h
 | skip {x l e h e' h'}:zo e x.guard=some false→RunG P pro l (upd e x.dst (z4d x.op)) h e' h'→RunG P pro (x::l) e h e' h'
 | step {x l e h e1 h1 e' h'}:zo e x.guard=some true→z2h P pro e h x.dst x.op e1 h1→RunG P pro l e1 h1 e' h'→RunG P pro (x::l) e h e' h'
 | ghost {l e h e1 h1 e' h'}:zc P pro e h e1 h1→RunG P pro l e1 h1 e' h'→RunG P pro l e h e' h'
theorem zc.rfl' {P:Program} {pro:List Nat} {e:Env} {h:H}:zc P pro e h e h:=fun I N _ σ a w R=>Step.of_rel R rfl
theorem zc.trans {P:Program} {pro:List Nat} {e e1 e2:Env} {h h1 h2:H} (g1:zc P pro e h e1 h1) (g2:zc P pro e1 h1 e2 h2):zc P pro e h e2 h2:=fun I N _ σ a w R=>by
 obtain ⟨σ1,I1,i1,i2,R1,p1,p2,p3,p4⟩:=(g1 I N σ a w R).out
 exact Step.trans i1 i2 p1 p2 p3 p4 (g2 I1 N σ1 a w R1)
def y64 (P:Program) (pro:List Nat) (e':Env) (h':H):List Ins→Env→H→Prop
 | [],e1,h1=>e1=e'∧h1=h'
 | x::l,e1,h1=>(zo e1 x.guard=some false∧RunG P pro l (upd e1 x.dst (z4d x.op)) h1 e' h')∨(zo e1 x.guard=some true∧∃ e2 h2,z2h P pro e1 h1 x.dst x.op e2 h2∧RunG P pro l e2 h2 e' h')
theorem RunG.inv {P:Program} {pro:List Nat} {l:List Ins} {e e':Env} {h h':H} (hr:RunG P pro l e h e' h'):∃ e1 h1,zc P pro e h e1 h1∧y64 P pro e' h' l e1 h1:=by
 induction hr with
 | nil=>exact ⟨_,_,zc.rfl',rfl,rfl⟩
 | skip hw hr _=>exact ⟨_,_,zc.rfl',.inl ⟨hw,hr⟩⟩
 | step hw hs hr _=>exact ⟨_,_,zc.rfl',.inr ⟨hw,_,_,hs,hr⟩⟩
 | ghost hg _ ih =>
  obtain ⟨e1,h1,g,hm⟩:=ih
  exact ⟨e1,h1,hg.trans g,hm⟩
section
variable {P:Program} {N:Nat} [Dfs N] {h h':H} {e e':Env} {ops:Array Oper} {Q:Exit→Act→World→Prop} {pro:List Nat}
theorem RunG.sound' {js:List Nat} {l:List Ins} (hr:RunG P pro l e h e' h'):∀ (I:Nat→Prop) (is:List Nat) (σ:Pl) (a:Act) (w:World),z1g P N ops is l→Rel I N σ e h a w→(∀ a' w',Step P I N pro σ h w e' h' a' w'→wpOps P ops Q js a' w')→wpOps P ops Q (is++js) a w:=by
 induction hr with
 | nil =>
  intro I is σ a w hc R hQ
  cases is with
  | nil=>exact hQ _ _ (Step.of_rel R rfl)
  | cons i is=>exact hc.elim
 | skip hw hr ih =>
  rename_i x l e h e' h'
  intro I is σ a w hc R hQ
  cases is with
  | nil=>exact hc.elim
  | cons i is =>
   obtain ⟨⟨o,ho,hco⟩,hc⟩:=hc
   obtain ⟨g1,g2,g3⟩:=z34 hco
   rw [List.cons_append,wpOps_cons]
   unfold wpOp
   simp only [ho,z1z R g1 hw,Bool.false_eq_true,if_false]
   exact ih I is σ _ w hc (R.skip (z5o g2 g3)) hQ
 | step hw hs hr ih =>
  rename_i x l e h e1 h1 e' h'
  intro I is σ a w hc R hQ
  cases is with
  | nil=>exact hc.elim
  | cons i is =>
   obtain ⟨⟨o,ho,hco⟩,hc⟩:=hc
   obtain ⟨g1,g2,g3⟩:=z34 hco
   rw [List.cons_append,wpOps_cons]
   unfold wpOp
   simp only [ho,z1z R g1 hw,if_true]
   refine .inl (z2h.sound R g2 g3 hs fun a1 w1 S=>?_)
   obtain ⟨σ1,I1,i1,i2,R1,p1,p2,p3,p4⟩:=S.out
   exact ih I1 is σ1 a1 w1 hc R1 fun a' w' S'=>hQ a' w' (Step.trans i1 i2 p1 p2 p3 p4 S')
 | ghost hg _ ih =>
  intro I is σ a w hc R hQ
  obtain ⟨σ1,I1,i1,i2,R1,p1,p2,p3,p4⟩:=(hg I N σ a w R).out
  exact ih I1 is σ1 a w hc R1 fun a' w' S'=>hQ a' w' (Step.trans i1 i2 p1 p2 p3 p4 S')
theorem RunG.sound {l:List Ins} (hr:RunG P pro l e h e' h') (I:Nat→Prop) (is:List Nat) (σ:Pl) (a:Act) (w:World) (hc:z1g P N ops is l) (R:Rel I N σ e h a w) (hQ:∀ a' w',Step P I N pro σ h w e' h' a' w'→Q .normal a' w'):wpOps P ops Q is a w:=by
 have:=RunG.sound' (js:=[]) (Q:=Q) hr I is σ a w hc R hQ
 rwa [List.append_nil] at this
inductive z6y (P:Program) (e:Env) (h:H):IK→Value→H→Prop
 | call {f args m bor hin rest args' u}:z2a h m=some (hin,rest)→(m.map Prod.fst).Nodup→z2d rest m bor (args.map (ev e))=some args'→z5p P f args' hin u→z6y P e h (.call f args) u rest
def nE:Env:=fun _=>.un
def ptE (e:Env):Env:=fun t=>match e t with
 | .pt k p i c=>.pt k p i c
 | _=>.un
theorem zyj {I:Nat→Prop} {σ:Pl} {B B':zj} {v:Value} {t:Nat} (hv:Va I σ B (e t) v):Va I σ B' (ptE e t) v:=by
 unfold ptE
 split
 ·rename_i k p i c he
  rw [he] at hv
  exact hv
 ·trivial
theorem Step.fallen {I:Nat→Prop} {σ:Pl} {a:Act} {w w':World} {hx:H} (R:Rel I N σ e h a w) (hle:Le w w') (hfr:∀ b,b<w.heap.size→b ∉ fpH σ h→bl w' b=bl w b) (hh:HRel I σ hx w') (hs:∀ b ∈ fpH σ hx,b ∈ fpH σ h):Step P I N pro σ h w (ptE e) hx a w' :=
 ⟨σ,I,fun _ h=>h,fun _ h=>.inl h,⟨hh,R.size,fun t=>zyj (R.vals t),R.defers⟩,fun _ _=>rfl,hle,hfr,fun b hb=>.inl (hs b hb)⟩
theorem zc.unE {E:Env} {H0:H}:zc P pro E H0 (ptE E) H0:=fun I N _ σ a w R=>Step.of_rel ⟨R.heap,R.size,fun t=>zyj (R.vals t),R.defers⟩ rfl
theorem zc.fell {E:Env} {H0:H}:zc P pro E H0 Loom.nE []:=fun I N _ σ a w R =>
 ⟨σ,I,fun _ h=>h,fun _ h=>.inl h,⟨⟨trivial,List.nodup_nil,List.nodup_nil,fun b hb=>(nomatch hb),R.heap.low⟩,R.size,fun _=>trivial,R.defers⟩,fun _ _=>rfl,Le.refl _,fun _ _ _=>rfl,fun b hb=>(nomatch hb)⟩
theorem z6y.sound {I:Nat→Prop} {σ:Pl} {a:Act} {w:World} (R:Rel I N σ e h a w) {o:Oper} {k:IK} {u:Value} {hx:H} (hc:z54 P o=some k) (hp:z6y P e h k u hx) {K:Act→World→Prop} (hQ:∀ a' w',Step P I N pro σ h w (ptE e) hx a' w'→Q (.panic [{ v:=u,recovered:=false }]) a' w'):o.wp P a w K Q:=by
 cases hp with
 | call h1 h2 h3 h4 =>
  rename_i f args m bor hin args'
  have hko:∃ as ty,o.op = .call { callee:=.value (.func f),args:=as,argTypes:=ty }∧args=as.toList∧fnOk P f=true:=by
   unfold z54 at hc
   split at hc
   ·cases hc
   ·split at hc
    ·cases hc
    ·split at hc
     ·cases hc
     ·split at hc
      ·split at hc <;> cases hc
      ·rename_i f' as' ty' ho
       split at hc
       ·rename_i hf
        cases hc
        exact ⟨_,_,ho,rfl,hf⟩
       ·cases hc
      ·cases hc
      ·split at hc <;> first | (cases hc; done) | (split at hc <;> cases hc)
      ·split at hc <;> cases hc
      ·split at hc <;> cases hc
      ·cases hc
  obtain ⟨as,ty,ho,rfl,hf⟩:=hko
  have hcl:=zox R (zb8 R as.toList) h1 h2 h3 h4
  have hex:(execOp a.eval o).run P w = .ok (.enter f (as.toList.map a.eval).toArray) w:=by
   have:(as.map a.eval)=(as.toList.map a.eval).toArray:=by apply Array.ext'; rw [Array.toList_map]
   simp only [execOp,ho,resolve,Deferred.ofValue,Act.eval,Sem.run_bind,Sem.run_pure,Result.andThen_ok,invoke,Array.append_empty,Array.empty_append]
   rw [this,z45 hf]
  unfold Oper.wp
  rw [hex,Oper.upon_enter]
  refine Calls.mono hcl ?_
  rintro en w' ⟨rfl,q1,q2,q3,q4⟩
  exact hQ _ _ (Step.fallen R q1 q2 q3 q4)
inductive RunX (P:Program) (pro:List Nat) (u:Value) (ex:Env) (hx:H):List Ins→Env→H→Prop
 | skip {x l e h}:zo e x.guard=some false→RunX P pro u ex hx l (upd e x.dst (z4d x.op)) h→RunX P pro u ex hx (x::l) e h
 | step {x l e h e1 h1}:zo e x.guard=some true→z2h P pro e h x.dst x.op e1 h1→RunX P pro u ex hx l e1 h1→RunX P pro u ex hx (x::l) e h
 | ghost {l e h e1 h1}:zc P pro e h e1 h1→RunX P pro u ex hx l e1 h1→RunX P pro u ex hx l e h
 | here {x l e h}:zo e x.guard=some true→z6y P e h x.op u hx→ptE e=ex→RunX P pro u ex hx (x::l) e h
theorem RunX.sound {l:List Ins} {u:Value} {ex:Env} {hx:H} (hr:RunX P pro u ex hx l e h):∀ (I:Nat→Prop) (is:List Nat) (σ:Pl) (a:Act) (w:World),z1g P N ops is l→Rel I N σ e h a w→(∀ a' w',Step P I N pro σ h w ex hx a' w'→Q (.panic [{ v:=u,recovered:=false }]) a' w')→wpOps P ops Q is a w:=by
 induction hr with
 | skip hw hr ih =>
  intro I is σ a w hc R hQ
  cases is with
  | nil=>exact hc.elim
  | cons i is =>
   obtain ⟨⟨o,ho,hco⟩,hc⟩:=hc
   obtain ⟨g1,g2,g3⟩:=z34 hco
   rw [wpOps_cons]
   unfold wpOp
   simp only [ho,z1z R g1 hw,Bool.false_eq_true,if_false]
   exact ih I is σ _ w hc (R.skip (z5o g2 g3)) hQ
 | step hw hs hr ih =>
  intro I is σ a w hc R hQ
  cases is with
  | nil=>exact hc.elim
  | cons i is =>
   obtain ⟨⟨o,ho,hco⟩,hc⟩:=hc
   obtain ⟨g1,g2,g3⟩:=z34 hco
   rw [wpOps_cons]
   unfold wpOp
   simp only [ho,z1z R g1 hw,if_true]
   refine .inl (z2h.sound R g2 g3 hs fun a1 w1 S=>?_)
   obtain ⟨σ1,I1,i1,i2,R1,p1,p2,p3,p4⟩:=S.out
   exact ih I1 is σ1 a1 w1 hc R1 fun a' w' S'=>hQ a' w' (Step.trans i1 i2 p1 p2 p3 p4 S')
 | ghost hg _ ih =>
  intro I is σ a w hc R hQ
  obtain ⟨σ1,I1,i1,i2,R1,p1,p2,p3,p4⟩:=(hg I N σ a w R).out
  exact ih I1 is σ1 a w hc R1 fun a' w' S'=>hQ a' w' (Step.trans i1 i2 p1 p2 p3 p4 S')
 | here hw hp he =>
  subst he
  intro I is σ a w hc R hQ
  cases is with
  | nil=>exact hc.elim
  | cons i is =>
   obtain ⟨⟨o,ho,hco⟩,hc⟩:=hc
   obtain ⟨g1,g2,g3⟩:=z34 hco
   rw [wpOps_cons]
   unfold wpOp
   simp only [ho,z1z R g1 hw,if_true]
   exact .inl (z6y.sound R g2 hp hQ)
end
def optL:Option Operand→List Operand
 | some x=>[x]
 | none=>[]
def z2y:IB→List Operand
 | .mov x=>[x]
 | .pick c a b=>[c,a,b]
 | .bin _ x y=>[x,y]
 | .beq _ x y=>[x,y]
 | .eqs _ _ _ x y=>[x,y]
 | .un1 _ x=>[x]
 | .cvt _ x=>[x]
 | .fad _ x=>[x]
 | .iad _ x i=>[x,i]
 | .aad _ _ x i=>[x,i]
 | .load _ _ x=>[x]
 | .fld _ _ _ x=>[x]
 | .ida _ _ _ x i=>[x,i]
 | .ids x i=>[x,i]
 | .len x=>[x]
 | .lens x=>[x]
 | .b2s x=>[x]
 | .ext _ x=>[x]
 | .nchk x=>[x]
 | .slc _ x lo hi=>x::(optL lo++optL hi)
 | .slc0 x=>[x]
 | .sls x lo hi=>x::(optL lo++optL hi)
 | .build _ parts=>parts.map (·.2.2)
 | .mkf _ caps=>caps
 | .mm _ x y=>[x,y]
 | .box _ x=>[x]
 | .bsl _ _ _ parts=>parts.map (·.2)
 | .mks _ _ _ l=>[l]
 | .app _ _ x y=>[x,y]
 | .store _ a x=>[a,x]
 | .call _ args=>args
 | .callv x args=>x::args
def opsK:IK→List Operand
 | .rd b=>z2y b
 | .mk b=>z2y b
 | .app _ _ x y=>[x,y]
 | .st _ a x=>[a,x]
 | .call _ args=>args
 | .callv x args=>x::args
 | .s2b x=>[x]
 | .ifn x=>[x]
 | .tas _ x=>[x]
 | .mrk x=>[x]
theorem z79 {f g:Operand→AV} (o:Option Operand) (h:∀ x ∈ optL o,f x=g x):o.map f=o.map g:=by
 cases o with
 | none=>rfl
 | some x=>simp [h x (by simp [optL])]
theorem z4r {f g:Operand→AV} {r:Nat→Path→Option (Nat×Els)} (b:IB) (h:∀ x ∈ z2y b,f x=g x):rdop f r b=rdop g r b:=by
 cases b <;> simp only [z2y,List.mem_cons,List.not_mem_nil,or_false,forall_eq_or_imp,forall_eq,List.mem_append] at h <;> simp only [rdop]
 case slc s x lo hi=>rw [h.1,z79 lo (fun x hx=>h.2 x (.inl hx)),z79 hi (fun x hx=>h.2 x (.inr hx))]
 case sls x lo hi=>rw [h.1,z79 lo (fun x hx=>h.2 x (.inl hx)),z79 hi (fun x hx=>h.2 x (.inr hx))]
 case build zero parts =>
  have:(parts.map fun (o,n,x)=>(o,n,f x))=parts.map fun (o,n,x)=>(o,n,g x):=List.map_congr_left fun p hp=>by
   obtain ⟨o,n,x⟩:=p
   simp only
   rw [h x (List.mem_map.2 ⟨_,hp,rfl⟩)]
  rw [this]
 case mkf f' caps =>
  have:caps.map f=caps.map g:=List.map_congr_left h
  rw [this]
  have:(caps.all fun x=>(nn (f x)).isSome)=caps.all fun x=>(nn (g x)).isSome:=by
   rw [Bool.eq_iff_iff,List.all_eq_true,List.all_eq_true]
   exact ⟨fun hh x hx=>by rw [← h x hx]; exact hh x hx,fun hh x hx=>by rw [h x hx]; exact hh x hx⟩
  rw [this]
 all_goals (try simp only [h])
theorem zia {f g:Operand→AV} {hp:H} {d:Nat} (b:IB) (h:∀ x ∈ z2y b,f x=g x):mkop f hp d b=mkop g hp d b:=by
 cases b <;> simp only [z2y,List.mem_cons,List.not_mem_nil,or_false,forall_eq_or_imp,forall_eq,List.mem_append] at h <;> simp only [mkop]
 case bsl s len zero parts =>
  have:(parts.map fun (i,x)=>(i * s,s,f x))=parts.map fun (i,x)=>(i * s,s,g x):=List.map_congr_left fun p hp=>by
   obtain ⟨i,x⟩:=p
   simp only
   rw [h x (List.mem_map.2 ⟨_,hp,rfl⟩)]
  rw [this]
 all_goals (try simp only [h])
theorem zkz {f:Operand→AV} {r r':Nat→Path→Option (Nat×Els)} {b:IB} {av:AV} (hr:∀ k p v,r k p=some v→r' k p=some v) (h:rdop f r b=some av):rdop f r' b=some av:=by
 cases b <;> simp only [rdop] at h ⊢ <;> try exact h
 case iad s x i =>
  split at h
  ·rename_i k p off len ki n hx hi
   split at h
   ·rename_i hc
    rw [if_pos hc]
    cases hk:r k p with
    | none=>simp [hk] at h
    | some v=>simp only [hk] at h; simp only [hr _ _ _ hk]; exact h
   ·cases h
  ·exact h
  ·exact h
  ·cases h
 case load agg n x =>
  split at h
  ·rename_i k p i c hx
   cases hk:r k p with
   | none=>simp [hk] at h
   | some v=>simp only [hk] at h; simp only [hr _ _ _ hk]; exact h
  ·exact h
  ·exact h
  ·exact h
  ·cases h
 case slc s x lo hi =>
  split at h
  ·rename_i k p off len hx
   cases hk:r k p with
   | none=>simp [hk] at h
   | some v=>simp only [hk] at h; simp only [hr _ _ _ hk]; exact h
  ·exact h
  ·exact h
  ·cases h
 case b2s x =>
  split at h
  ·rename_i k p off len hx
   cases hk:r k p with
   | none=>simp [hk] at h
   | some v=>simp only [hk] at h; simp only [hr _ _ _ hk]; exact h
  ·exact h
  ·exact h
  ·cases h
theorem zz3 {a a':AV} {h':H} (h:absC [] a=some (a',h')) (hp:H):h'=[]∧absC hp a=some (a',hp):=by
 cases a <;> simp only [absC] at h ⊢
 case sc u=>split at h <;> simp_all
 case zs=>simp_all
 case im s xs=>simp_all
 case sl k p off len=>split at h <;> simp [za] at h
 case pp q=>cases q <;> simp_all
 all_goals cases h
theorem zm1:∀ (l l':List AV) (h':H),absL [] l=some (l',h')→∀ hp:H,h'=[]∧absL hp l=some (l',hp)
 | [],l',h',h,hp=>by simp only [absL,Option.some.injEq,Prod.mk.injEq] at h ⊢; exact ⟨h.2.symm,h.1,trivial⟩
 | a::l,l',h',h,hp=>by
  unfold absL at h ⊢
  cases ha:absC [] a with
  | none=>simp [ha] at h
  | some x =>
   obtain ⟨a',h1⟩:=x
   obtain ⟨rfl,e2⟩:=zz3 ha hp
   simp only [ha] at h
   simp only [e2]
   cases hl:absL [] l with
   | none=>simp [hl] at h
   | some y =>
    obtain ⟨l2,h2⟩:=y
    obtain ⟨rfl,e3⟩:=zm1 l l2 h2 hl hp
    simp only [hl,Option.some.injEq,Prod.mk.injEq] at h
    simp only [e3]
    exact ⟨h.2.symm,by rw [h.1]⟩
theorem zg1:∀ (l l':Els) (h':H),absE [] l=some (l',h')→∀ hp:H,h'=[]∧absE hp l=some (l',hp)
 | [],l',h',h,hp=>by simp only [absE,Option.some.injEq,Prod.mk.injEq] at h ⊢; exact ⟨h.2.symm,h.1,trivial⟩
 | a::l,l',h',h,hp=>by
  unfold absE at h ⊢
  cases ha:absL [] a with
  | none=>simp [ha] at h
  | some x =>
   obtain ⟨a',h1⟩:=x
   obtain ⟨rfl,e2⟩:=zm1 a a' h1 ha hp
   simp only [ha] at h
   simp only [e2]
   cases hl:absE [] l with
   | none=>simp [hl] at h
   | some y =>
    obtain ⟨l2,h2⟩:=y
    obtain ⟨rfl,e3⟩:=zg1 l l2 h2 hl hp
    simp only [hl,Option.some.injEq,Prod.mk.injEq] at h
    simp only [e3]
    exact ⟨h.2.symm,by rw [h.1]⟩
theorem y0a {f:Operand→AV} {d:Nat} {b:IB} {av:AV} {h':H} (h:mkop f [] d b=some (av,h')) (hp:H) :
  ∃ row,h'=[(d,row)]∧mkop f hp d b=some (av,(d,row)::zd hp d)∧(av = .pt d [] 0 0∨∃ n,av = .sl d [] 0 n):=by
 cases b <;> simp only [mkop] at h ⊢ <;> try (cases h; done)
 case box s x =>
  cases hx:cellsOf (f x) with
  | none=>simp [hx] at h
  | some cs =>
   simp only [hx] at h ⊢
   split at h
   ·rename_i hl
    rw [if_pos hl]
    simp only [zd] at h
    cases ha:absE [] [cs] with
    | none=>simp [ha] at h
    | some y =>
     obtain ⟨xs',h1⟩:=y
     obtain ⟨rfl,e2⟩:=zg1 _ xs' h1 ha (zd hp d)
     simp only [ha,Option.some.injEq,Prod.mk.injEq] at h
     simp only [e2]
     obtain ⟨rfl,rfl⟩:=h
     exact ⟨_,rfl,rfl,.inl rfl⟩
   ·cases h
 case bsl s len zero parts =>
  cases hx:z4u (List.replicate len (zero.map cval)).flatten (parts.map fun (i,x)=>(i * s,s,f x)) with
  | none=>simp [hx] at h
  | some cs =>
   simp only [hx,zd] at h ⊢
   cases ha:absE [] (z3q s len cs) with
   | none=>simp [ha] at h
   | some y =>
    obtain ⟨xs',h1⟩:=y
    obtain ⟨rfl,e2⟩:=zg1 _ xs' h1 ha (zd hp d)
    simp only [ha,Option.some.injEq,Prod.mk.injEq] at h
    simp only [e2]
    obtain ⟨rfl,rfl⟩:=h
    exact ⟨_,rfl,rfl,.inr ⟨_,rfl⟩⟩
 case mks s bytes zero l =>
  split at h
  ·rename_i k n hx
   split at h
   ·rename_i hc
    rw [if_pos hc]
    simp only [zd,Option.some.injEq,Prod.mk.injEq] at h
    obtain ⟨rfl,rfl⟩:=h
    exact ⟨_,rfl,rfl,.inr ⟨_,rfl⟩⟩
   ·cases h
  ·cases h
mutual
theorem ztr {h0 h':H} {m:List (Nat×Nat)} {bor:Bool} (hr:∀ k p v,res h0 k p=some v→res h' k p=some v):∀ (x y:AV),conv h0 m bor x=some y→conv h' m bor x=some y
 | .sc _,y,h=>h
 | .zs,y,h=>h
 | .un,y,h=>h
 | .im _ _,y,h=>h
 | .ip _ _ _ _,y,h=>h
 | .sl k p off len,y,h=>by
  simp only [conv] at h ⊢
  split at h
  ·rename_i hb
   rw [if_pos hb]
   split at h
   ·rename_i s ys hk
    simp only [hr _ _ _ hk]
    exact h
   ·cases h
  ·cases h
 | .pt k p i c,y,h=>h
 | .ag cs,y,h=>by
  simp only [conv] at h ⊢
  cases hc:z2d h0 m bor cs with
  | none=>simp [hc] at h
  | some cs'=>simp only [hc] at h; simp only [z72 hr cs cs' hc]; exact h
 | .tu cs,y,h=>by
  simp only [conv] at h ⊢
  cases hc:z2d h0 m bor cs with
  | none=>simp [hc] at h
  | some cs'=>simp only [hc] at h; simp only [z72 hr cs cs' hc]; exact h
 | .fn f cs,y,h=>by
  simp only [conv] at h ⊢
  cases hc:z2d h0 m bor cs with
  | none=>simp [hc] at h
  | some cs'=>simp only [hc] at h; simp only [z72 hr cs cs' hc]; exact h
 | .ow _ _,y,h=>h
theorem z72 {h0 h':H} {m:List (Nat×Nat)} {bor:Bool} (hr:∀ k p v,res h0 k p=some v→res h' k p=some v):∀ (x y:List AV),z2d h0 m bor x=some y→z2d h' m bor x=some y
 | [],y,h=>h
 | x::l,y,h=>by
  unfold z2d at h ⊢
  split at h
  ·rename_i x' l' hx hl
   simp only [ztr hr x x' hx,z72 hr l l' hl]
   exact h
  ·cases h
end
theorem z8k:∀ {h:H} {k:Nat} {r:Row},(h.map Prod.fst).Nodup→(k,r) ∈ h→za h k=some r
 | [],_,_,_,hm=>by cases hm
 | (k',r')::h,k,r,hn,hm=>by
  simp only [List.map_cons,List.nodup_cons] at hn
  simp only [za]
  rcases List.mem_cons.1 hm with he | hm
  ·cases he; simp
  ·have:k' ≠ k:=by rintro rfl; exact hn.1 (List.mem_map.2 ⟨_,hm,rfl⟩)
   rw [if_neg this]
   exact z8k hn.2 hm
theorem z8l:∀ {h:H} {k:Nat} {r:Row},za h k=some r→(k,r) ∈ h
 | [],_,_,hm=>by cases hm
 | (k',r')::h,k,r,hm=>by
  simp only [za] at hm
  split at hm
  ·rename_i he; subst he; cases hm; exact List.mem_cons_self
  ·exact List.mem_cons_of_mem _ (z8l hm)
theorem zob {h h':H} (hn:(h'.map Prod.fst).Nodup) (hs:∀ x ∈ h,x ∈ h') (k:Nat) (p:Path) (v:Nat×Els) (hv:res h k p=some v):res h' k p=some v:=by
 unfold res at hv ⊢
 cases hg:za h k with
 | none=>simp [hg] at hv
 | some r =>
  simp only [hg] at hv
  rw [z8k hn (hs _ (z8l hg))]
  exact hv
structure DOp where
 ins:Ins
 dep:List Nat
 av:AV
 rows:H
def EX:Nat→List DOp→(Nat→Bool)→Env→Env
 | _,[],_,E=>E
 | i,x::l,X,E=>if X i then upd (EX (i+1) l X E) x.ins.dst x.av else EX (i+1) l X E
def HX:Nat→List DOp→(Nat→Bool)→H
 | _,[],_=>[]
 | i,x::l,X=>if X i then x.rows++HX (i+1) l X else HX (i+1) l X
def PX:Nat→List DOp→(Nat→Bool)→List Nat
 | _,[],_=>[]
 | i,x::l,X=>if X i then PX (i+1) l X else x.rows.map Prod.fst++PX (i+1) l X
def dsts (l:List DOp):List Nat:=l.map (·.ins.dst)
def z37 (l:List DOp):List Nat:=l.flatMap (·.rows.map Prod.fst)
def zfi:List Operand→List Nat
 | []=>[]
 | .tmp t::l=>t::zfi l
 | _::l=>zfi l
def z3a (x:Ins):List Nat:=(match x.guard with | some (s,_)=>[s] | none=>[])++zfi (opsK x.op)
section
variable {P:Program} {I:Nat→Prop} {N:Nat} [Dfs N] {σ σ0 σ':Pl} {w w0 w':World} {h h0 h':H} {e e' E0:Env} {a a':Act} {l:List DOp} {X:Nat→Bool}
theorem zgs:∀ (l:List DOp) (i:Nat) (X:Nat→Bool) (t:Nat),t ∉ dsts l→EX i l X E0 t=E0 t
 | [],_,_,_,_=>rfl
 | x::l,i,X,t,h=>by
  simp only [dsts,List.map_cons,List.mem_cons,not_or] at h
  simp only [EX]
  split
  ·simp only [upd,if_neg h.1]; exact zgs l (i+1) X t h.2
  ·exact zgs l (i+1) X t h.2
theorem zrs:∀ (l:List DOp) (i j:Nat) (X:Nat→Bool) (x:DOp),(dsts l).Nodup→l[j]? = some x→X (i+j)=true→EX i l X E0 x.ins.dst=x.av
 | [],_,_,_,_,_,h,_=>by simp at h
 | y::l,i,0,X,x,_,h,hX=>by
  simp only [List.getElem?_cons_zero,Option.some.injEq] at h
  subst h
  simp only [Nat.add_zero] at hX
  simp [EX,hX,upd]
 | y::l,i,j+1,X,x,hn,h,hX=>by
  simp only [List.getElem?_cons_succ] at h
  simp only [dsts,List.map_cons,List.nodup_cons] at hn
  have hne:x.ins.dst ≠ y.ins.dst:=fun e=>hn.1 (by rw [← e]; exact List.mem_map.2 ⟨x,List.mem_of_getElem? h,rfl⟩)
  have ih:=zrs l (i+1) j X x hn.2 h (by rw [← hX]; congr 1; omega)
  simp only [EX]
  split
  ·simp only [upd,if_neg hne]; exact ih
  ·exact ih
theorem zgq:∀ (l:List DOp) (i j:Nat) (X X':Nat→Bool) (x:DOp),(dsts l).Nodup→l[j]? = some x→X' (i+j)=true→(∀ n,n ≠ i+j→X' n=X n)→X (i+j)=false→EX i l X' E0=upd (EX i l X E0) x.ins.dst x.av
 | [],_,_,_,_,_,_,h,_,_,_=>by simp at h
 | y::l,i,0,X,X',x,hn,h,h1,h2,h3=>by
  simp only [List.getElem?_cons_zero,Option.some.injEq] at h
  subst h
  simp only [Nat.add_zero] at h1 h2 h3
  simp only [EX,h1,h3,if_true,Bool.false_eq_true,if_false]
  have:∀ (l:List DOp) (n:Nat),i<n→EX n l X' E0=EX n l X E0:=by
   intro l
   induction l with
   | nil=>intro n _; rfl
   | cons z l ih=>intro n hn; simp only [EX,h2 n (by omega),ih (n+1) (by omega)]
  rw [this l (i+1) (by omega)]
 | y::l,i,j+1,X,X',x,hn,h,h1,h2,h3=>by
  simp only [List.getElem?_cons_succ] at h
  simp only [dsts,List.map_cons,List.nodup_cons] at hn
  have hne:x.ins.dst ≠ y.ins.dst:=fun e=>hn.1 (by rw [← e]; exact List.mem_map.2 ⟨x,List.mem_of_getElem? h,rfl⟩)
  have hi:i+1+j=i+(j+1):=by omega
  have ih:=zgq l (i+1) j X X' x hn.2 h (by rw [hi]; exact h1) (fun n hn=>h2 n (by rw [← hi]; exact hn)) (by rw [hi]; exact h3)
  simp only [EX,h2 i (by omega),ih]
  split
  ·funext t
   simp only [upd]
   by_cases e1:t=y.ins.dst
   ·by_cases e2:t=x.ins.dst
    ·exact absurd (e2.symm.trans e1) hne
    ·simp [e1,e2]; exact fun e=>absurd e.symm hne
   ·by_cases e2:t=x.ins.dst <;> simp [e1,e2,hne]
  ·rfl
theorem zb1:∀ (l:List DOp) (i j:Nat) (X X':Nat→Bool) (x:DOp),l[j]? = some x→X' (i+j)=true→(∀ n,n ≠ i+j→X' n=X n)→X (i+j)=false→(x.rows++HX i l X).Perm (HX i l X')
 | [],_,_,_,_,_,h,_,_,_=>by simp at h
 | y::l,i,0,X,X',x,h,h1,h2,h3=>by
  simp only [List.getElem?_cons_zero,Option.some.injEq] at h
  subst h
  simp only [Nat.add_zero] at h1 h2 h3
  simp only [HX,h1,h3,if_true,Bool.false_eq_true,if_false]
  have:∀ (l:List DOp) (n:Nat),i<n→HX n l X'=HX n l X:=by
   intro l
   induction l with
   | nil=>intro n _; rfl
   | cons z l ih=>intro n hn; simp only [HX,h2 n (by omega),ih (n+1) (by omega)]
  rw [this l (i+1) (by omega)]
 | y::l,i,j+1,X,X',x,h,h1,h2,h3=>by
  simp only [List.getElem?_cons_succ] at h
  have hi:i+1+j=i+(j+1):=by omega
  have ih:=zb1 l (i+1) j X X' x h (by rw [hi]; exact h1) (fun n hn=>h2 n (by rw [← hi]; exact hn)) (by rw [hi]; exact h3)
  simp only [HX,h2 i (by omega)]
  split
  ·refine List.Perm.trans ?_ (ih.append_left y.rows)
   rw [← List.append_assoc,← List.append_assoc]
   exact List.perm_append_comm.append_right _
  ·exact ih
theorem z57 {k:Nat}:∀ (l:List DOp) (i:Nat) (X:Nat→Bool),k ∈ PX i l X↔∃ j x,l[j]? = some x∧X (i+j)=false∧k ∈ x.rows.map Prod.fst
 | [],_,_=>by simp [PX]
 | y::l,i,X=>by
  have ih:=z57 (k:=k) l (i+1) X
  constructor
  ·intro h
   simp only [PX] at h
   have tail:k ∈ PX (i+1) l X→∃ j x,(y::l)[j]? = some x∧X (i+j)=false∧k ∈ x.rows.map Prod.fst:=fun h=>by
    obtain ⟨j,x,h1,h2,h3⟩:=ih.1 h
    exact ⟨j+1,x,by simpa using h1,by rw [← h2]; congr 1; omega,h3⟩
   split at h
   ·exact tail h
   ·rename_i hX
    rw [List.mem_append] at h
    rcases h with h | h
    ·exact ⟨0,y,rfl,by simpa using hX,h⟩
    ·exact tail h
  ·rintro ⟨j,x,h1,h2,h3⟩
   simp only [PX]
   cases j with
   | zero =>
    simp only [List.getElem?_cons_zero,Option.some.injEq] at h1
    subst h1
    simp only [Nat.add_zero] at h2
    simp only [h2,Bool.false_eq_true,if_false,List.mem_append]
    exact .inl h3
   | succ j =>
    have:=ih.2 ⟨j,x,by simpa using h1,by rw [← h2]; congr 1; omega,h3⟩
    split
    ·exact this
    ·exact List.mem_append_right _ this
theorem z9h {z:Nat×Row}:∀ (l:List DOp) (i:Nat) (X:Nat→Bool),z ∈ HX i l X↔∃ j x,l[j]? = some x∧X (i+j)=true∧z ∈ x.rows
 | [],_,_=>by simp [HX]
 | y::l,i,X=>by
  have ih:=z9h (z:=z) l (i+1) X
  constructor
  ·intro h
   simp only [HX] at h
   have tail:z ∈ HX (i+1) l X→∃ j x,(y::l)[j]? = some x∧X (i+j)=true∧z ∈ x.rows:=fun h=>by
    obtain ⟨j,x,h1,h2,h3⟩:=ih.1 h
    exact ⟨j+1,x,by simpa using h1,by rw [← h2]; congr 1; omega,h3⟩
   split at h
   ·rename_i hX
    rw [List.mem_append] at h
    rcases h with h | h
    ·exact ⟨0,y,rfl,by simpa using hX,h⟩
    ·exact tail h
   ·exact tail h
  ·rintro ⟨j,x,h1,h2,h3⟩
   simp only [HX]
   cases j with
   | zero =>
    simp only [List.getElem?_cons_zero,Option.some.injEq] at h1
    subst h1
    simp only [Nat.add_zero] at h2
    simp only [h2,if_true,List.mem_append]
    exact .inl h3
   | succ j =>
    have:=ih.2 ⟨j,x,by simpa using h1,by rw [← h2]; congr 1; omega,h3⟩
    split
    ·exact List.mem_append_right _ this
    ·exact this
structure DS (I:Nat→Prop) (N:Nat) [Dfs N] (l:List DOp) (E0:Env) (h0:H) (σ0:Pl) (w0:World) (X:Nat→Bool) (a:Act) (w:World):Prop where
 le:Le w0 w
 same:∀ b,b<w0.heap.size→bl w b=bl w0 b
 plc:∃ (J:Nat→Prop) (σ:Pl),(∀ b,I b→J b)∧(∀ b,J b→I b∨w0.heap.size≤b)∧(∀ k,k ∉ z37 l→σ k=σ0 k)∧(∀ b ∈ fpH σ (HX 0 l X),w0.heap.size≤b)∧∀ σ':Pl,(∀ k,k ∉ PX 0 l X→σ' k=σ k)→Rel J N σ' (EX 0 l X E0) (HX 0 l X++h0) a w
inductive z3y (P:Program) (E:Env):IK→Nat→List AV→Prop
 | call {f args}:z3y P E (.call f args) f (args.map (ev E))
 | callv {o as f caps}:ev E o = .fn f caps→fnOk P f=true→z3y P E (.callv o as) f (as.map (ev E)++caps)
def AVle (a b:AV):Prop:=∀ (I:Nat→Prop) (σ:Pl) (B:zj) (v:Value),Va I σ B a v→Va I σ B b v
theorem AVle.refl (a:AV):AVle a a:=fun _ _ _ _ h=>h
def zfA (zf:Nat→Option Nat):Nat→List AV→List AV
 | _,[]=>[]
 | c,.zs::as=>(match zf c with | some s=>.im s [] | none=>.zs)::zfA zf (c+1) as
 | c,a::as=>a::zfA zf (c+1) as
def zfH (zf:Nat→Option Nat):H→H
 | []=>[]
 | (k,r)::h=>(k,⟨r.s,r.xs.map (zfA zf 0)⟩)::zfH zf h
inductive DOk (P:Program) (E:Env) (hp:H):DOp→Prop
 | skip {x}:zo E x.ins.guard=some false→x.av=z4d x.ins.op→x.rows=[]→DOk P E hp x
 | rd {x b av}:zo E x.ins.guard=some true→x.ins.op = .rd b→rdop (ev E) (res hp) b=some av→AVle av x.av→x.rows=[]→DOk P E hp x
 | mk {x b rows0} (zf:Nat→Option Nat):zo E x.ins.guard=some true→x.ins.op = .mk b→mkop (ev E) [] x.ins.dst b=some (x.av,rows0)→x.rows=zfH zf rows0→DOk P E hp x
 | call {x f avs args' bor r hout bm left}:zo E x.ins.guard=some true→z3y P E x.ins.op f avs →
   z2d hp [] bor avs=some args'→(z28 P f args' [] r hout∨bor=false∧CallG P f args' [] r hout)→z2a hout bm=some (x.rows,left)→(bm.map Prod.fst).Nodup→back bm r=some x.av→(bor=true→noIm r=true∧z6f hout=true)→DOk P E hp x
theorem zot:∀ (l:List AV) (c:Nat),zfA (fun _=>none) c l=l
 | [],_=>rfl
 | a::l,c=>by cases a <;> simp only [zfA,zot l]
theorem zou:∀ (h:H),zfH (fun _=>none) h=h
 | []=>rfl
 | (k,r)::h=>by
  have:r.xs.map (zfA (fun _=>none) 0)=r.xs:=by
   rw [List.map_congr_left (g:=id) (fun x _=>zot x 0),List.map_id]
  simp only [zfH,this,zou h]
structure zed (N:Nat) (l:List DOp) (h0:H):Prop where
 nodup:(dsts l).Nodup
 keys:((HX 0 l (fun _=>true)++h0).map Prod.fst).Nodup
 le:∀ x ∈ l,isSt x.ins.op=true∨x.ins.dst<N
 use:∀ (j:Nat) (x:DOp),l[j]? = some x→(∀ i ∈ x.dep,i<j)∧∀ s ∈ z3a x.ins,s ∈ dsts l→(∃ i ∈ x.dep,∃ y,l[i]? = some y∧y.ins.dst=s)∨∀ (i:Nat) (y:DOp),l[i]? = some y→y.ins.dst=s→j ∈ y.dep
end
section
variable {P:Program} {I J:Nat→Prop} {N:Nat} [Dfs N] {σ σ0 σ1 σ':Pl} {w w0 w':World} {h h0 h':H} {e e' E0:Env} {a a':Act} {l:List DOp} {X X':Nat→Bool} {ops:Array Oper} {Q:Exit→Act→World→Prop} {j:Nat} {x:DOp}
theorem HRel.ren (hσ:∀ k ∈ h.map Prod.fst,∀ q,σ' k q=σ k q) (hh:HRel I σ h w):HRel I σ' h w :=
 ⟨zm.ren h hσ hh.ok,hh.keys,by rw [fpH.ren h hσ]; exact hh.nodup,fun b hb=>hh.apart b (by rw [← fpH.ren h hσ]; exact hb),hh.low⟩
theorem zft:∀ {h:H} {k:Nat},k ∉ h.map Prod.fst→zd h k=h
 | [],_,_=>rfl
 | (k',r)::h,k,hk=>by
  simp only [List.map_cons,List.mem_cons,not_or] at hk
  simp only [zd,if_neg (Ne.symm hk.1),zft hk.2]
theorem HRel.grow (hh:HRel I σ h w) (hs:w.heap.size≤w'.heap.size) (hb:∀ b,b<w.heap.size→bl w' b=bl w b):HRel I σ h w' :=
 ⟨zm.mono (fun b hb'=>hb b (hh.low b hb')) h (fun b hb'=>hb b (hh.apart b hb').2) hh.ok,hh.keys,hh.nodup,fun b hb'=>⟨(hh.apart b hb').1,by have:=(hh.apart b hb').2; omega⟩,fun b hb'=>by have:=hh.low b hb'; omega⟩
theorem HRel.wide (hh:HRel I σ h w) (hIJ:∀ b,I b→J b) (hJ:∀ b ∈ fpH σ h,¬ J b) (hl:∀ b,J b→b<w.heap.size):HRel J σ h w :=
 ⟨zm.wide hIJ h hh.ok,hh.keys,hh.nodup,fun b hb=>⟨hJ b hb,(hh.apart b hb).2⟩,hl⟩
theorem CeC.zf {B:zj} {k:Nat} {p:Path} {i:Nat} (zf:Nat→Option Nat):∀ (l:List AV) (c:Nat) (cs:List Value),CeC I σ B k p i c l cs→CeC I σ B k p i c (zfA zf c l) cs∧fpC σ k p i c (zfA zf c l)=fpC σ k p i c l∧(zfA zf c l).length=l.length
 | [],_,_,h=>⟨h,rfl,rfl⟩
 | a::as,c,_,h=>by
  obtain ⟨v,cs',rfl,h1,h2⟩:=h
  obtain ⟨i1,i2,i3⟩:=CeC.zf zf as (c+1) cs' h2
  cases a with
  | zs =>
   simp only [zfA]
   cases zf c with
   | none=>exact ⟨⟨v,cs',rfl,h1,i1⟩,by simp only [fpC,i2],by simp [i3]⟩
   | some s =>
    refine ⟨⟨v,cs',rfl,?_,i1⟩,by simp only [fpC,fpA,i2],by simp [i3]⟩
    obtain ⟨x,rfl⟩:=h1
    exact ⟨x,0,rfl,Nat.le_refl _,fun hn=>absurd rfl hn⟩
  | _=>exact ⟨⟨v,cs',rfl,h1,i1⟩,by simp only [zfA,fpC,i2],by simp [zfA,i3]⟩
theorem CeE.zf {B:zj} {k:Nat} {p:Path} {s:Nat} (zf:Nat→Option Nat):∀ (l:Els) (i:Nat) (cs:List Value),CeE I σ B k p i s l cs→CeE I σ B k p i s (l.map (zfA zf 0)) cs∧fpE σ k p i (l.map (zfA zf 0))=fpE σ k p i l
 | [],_,_,_=>⟨trivial,rfl⟩
 | x::l,i,cs,h=>by
  obtain ⟨j1,j2⟩:=CeE.zf zf l (i+1) _ h.2.2
  obtain ⟨i1,i2,i3⟩:=CeC.zf zf x 0 _ h.2.1
  exact ⟨⟨by rw [i3]; exact h.1,i1,j1⟩,by simp only [List.map_cons,fpE,i2,j2]⟩
theorem HRel.zf {k:Nat} {r:Row} (zf:Nat→Option Nat) (hh:HRel I σ ((k,r)::h) w):HRel I σ ((k,⟨r.s,r.xs.map (zfA zf 0)⟩)::h) w∧fpR σ k ⟨r.s,r.xs.map (zfA zf 0)⟩=fpR σ k r:=by
 have key:zr I σ (bl w) k ⟨r.s,r.xs.map (zfA zf 0)⟩∧fpR σ k ⟨r.s,r.xs.map (zfA zf 0)⟩=fpR σ k r:=by
  have h1:=hh.ok.1
  unfold zr at h1 ⊢
  unfold fpR
  cases hL:σ k [] with
  | none=>simp only [hL] at h1 ⊢; exact ⟨by simp [h1],trivial⟩
  | some L =>
   simp only [hL] at h1 ⊢
   obtain ⟨f1,f2,cur,E,f3,f4,f5⟩:=h1
   obtain ⟨j1,j2⟩:=CeE.zf zf r.xs 0 _ f5
   exact ⟨⟨f1,by simpa using f2,cur,E,f3,f4,j1⟩,by rw [j2]⟩
 refine ⟨⟨⟨key.1,hh.ok.2⟩,hh.keys,?_,fun b hb=>hh.apart b ?_,hh.low⟩,key.2⟩
 ·have:=hh.nodup
  rw [z1h] at this ⊢
  rw [key.2]; exact this
 ·rw [z1h] at hb ⊢
  rw [← key.2]; exact hb
theorem z91 (hn:((HX 0 l (fun _=>true)++h0).map Prod.fst).Nodup) (hx:l[j]? = some x):(x.rows.map Prod.fst).Nodup∧(∀ X:Nat→Bool,X j=false→∀ k ∈ x.rows.map Prod.fst,k ∉ (HX 0 l X++h0).map Prod.fst):=by
 have hp:=zb1 l 0 j (fun n=>!decide (n=j)) (fun _=>true) x hx (by simp) (fun n hn=>by rw [Nat.zero_add] at hn; simp [hn]) (by simp)
 have hn2:((x.rows++(HX 0 l (fun n=>!decide (n=j))++h0)).map Prod.fst).Nodup:=by
  rw [← List.append_assoc]
  exact (((hp.append_right h0).map Prod.fst).nodup_iff).2 hn
 rw [List.map_append,List.nodup_append] at hn2
 refine ⟨hn2.1,fun X hX k hk hm=>hn2.2.2 k hk k ?_ rfl⟩
 obtain ⟨z,hz,rfl⟩:=List.mem_map.1 hm
 refine List.mem_map.2 ⟨z,?_,rfl⟩
 rw [List.mem_append] at hz ⊢
 rcases hz with hz | hz
 ·obtain ⟨i,y,h1,h2,h3⟩:=(z9h l 0 X).1 hz
  simp only [Nat.zero_add] at h2
  have:i ≠ j:=by rintro rfl; rw [hX] at h2; cases h2
  exact .inl ((z9h l 0 _).2 ⟨i,y,h1,by simp [this],h3⟩)
 ·exact .inr hz
theorem zi4 (hn:((HX 0 l (fun _=>true)++h0).map Prod.fst).Nodup) {k:Nat} (hk:k ∈ (HX 0 l X++h0).map Prod.fst):k ∉ PX 0 l X:=by
 intro hp
 obtain ⟨j,x,h1,h2,h3⟩:=(z57 l 0 X).1 hp
 exact (z91 hn h1).2 X (by simpa using h2) k h3 hk
theorem DS.next (hL:zed N l h0) (hdN:∀ x:DOp,l[j]? = some x→x.ins.dst<N) (D:DS I N l E0 h0 σ0 w0 X a w) (hx:l[j]? = some x) (hX:X j=false) (hX':X' j=true) (hXX:∀ n,n ≠ j→X' n=X n)
  (hσ0:∀ k,k ∉ z37 l→σ k=σ0 k) (hfp:∀ b ∈ fpH σ (HX 0 l X),w0.heap.size≤b) {I1 I2:Nat→Prop} (hI1:∀ b,I b→I1 b) (hI1':∀ b,I1 b→I b∨w0.heap.size≤b) (hI2:∀ b,I1 b→I2 b) (hI2':∀ b,I2 b→I1 b∨w.heap.size≤b) (hR:∀ σ':Pl,(∀ k,k ∉ PX 0 l X→σ' k=σ k)→Rel I1 N σ' (EX 0 l X E0) (HX 0 l X++h0) a w)
  {v:Value} (s1:Le w w') (s2:∀ b,b<w.heap.size→bl w' b=bl w b) (s3:∀ k,k ∉ x.rows.map Prod.fst→σ1 k=σ k) (s4:∀ b ∈ fpH σ1 x.rows,w.heap.size≤b)
  (s5:∀ σ':Pl,(∀ k,k ∉ PX 0 l X'→σ' k=σ1 k)→HRel I2 σ' (x.rows++(HX 0 l X++h0)) w'∧Va I2 σ' (bl w') x.av v) :
  DS I N l E0 h0 σ0 w0 X' (a.put (some x.ins.dst) v) w':=by
 have hz:∀ n,n ≠ 0+j→X' n=X n:=fun n hn=>hXX n (by omega)
 have hp:=zb1 l 0 j X X' x hx (by simpa using hX') hz (by simpa using hX)
 have hE:=zgq (E0:=E0) l 0 j X X' x hL.nodup hx (by simpa using hX') hz (by simpa using hX)
 have hsub:∀ k,k ∉ PX 0 l X→k ∉ PX 0 l X'∧k ∉ x.rows.map Prod.fst:=by
  intro k hk
  refine ⟨fun hm=>hk ?_,fun hm=>hk ((z57 l 0 X).2 ⟨j,x,hx,by simpa using hX,hm⟩)⟩
  obtain ⟨i,y,h1,h2,h3⟩:=(z57 l 0 X').1 hm
  simp only [Nat.zero_add] at h2
  have:i ≠ j:=by rintro rfl; rw [hX'] at h2; cases h2
  exact (z57 l 0 X).2 ⟨i,y,h1,by simpa [hXX i this] using h2,h3⟩
 refine ⟨D.le.trans s1,fun b hb=>?_,I2,σ1,fun b hb=>hI2 b (hI1 b hb),fun b hb=>?_,fun k hk=>?_,fun b hb=>?_,fun σ' hσ'=>?_⟩
 ·rw [s2 b (by have:=D.le.size; omega),D.same b hb]
 ·rcases hI2' b hb with h | h
  ·exact hI1' b h
  ·have:=D.le.size; exact .inr (by omega)
 ·rw [s3 k (fun hm=>hk (List.mem_flatMap.2 ⟨x,List.mem_of_getElem? hx,hm⟩)),hσ0 k hk]
 ·have hb':=(fpH.perm (σ:=σ1) hp).mem_iff.2 hb
  rw [z2q,List.mem_append] at hb'
  rcases hb' with hb' | hb'
  ·have:=s4 b hb'; have:=D.le.size; omega
  ·rw [fpH.ren (σ:=σ) (σ':=σ1) _ (fun k hk q=>by rw [s3 k (fun hm=>(z91 hL.keys hx).2 X hX k hm (by rw [List.map_append]; exact List.mem_append_left _ hk))])] at hb'
   exact hfp b hb'
 ·have R:=hR σ' (fun k hk=>by rw [hσ' k (hsub k hk).1,s3 k (hsub k hk).2])
  obtain ⟨h1,h2⟩:=s5 σ' hσ'
  rw [hE]
  refine Rel.put (h1.perm ?_) R.size (fun t=>Va.wide hI2 _ _ (Va.mono (fun b hb=>s2 b (R.heap.low b hb)) _ _ (R.vals t))) R.defers (hdN x hx) h2
  rw [← List.append_assoc]
  exact hp.append_right h0
theorem zau {t:Nat}:∀ {l:List Operand},Operand.tmp t ∈ l→t ∈ zfi l
 | [],h=>by cases h
 | x::l,h=>by
  rcases List.mem_cons.1 h with h | hm
  ·subst h; exact List.mem_cons_self
  ·have ih:=zau hm
   cases x <;> simp only [zfi] <;> first | exact ih | exact List.mem_cons_of_mem _ ih
theorem zrt {s:Nat} {X:Nat→Bool}:∀ (l:List DOp) (i:Nat),(∀ n y,l[n]? = some y→y.ins.dst=s→X (i+n)=false)→EX i l X E0 s=E0 s
 | [],_,_=>rfl
 | y::l,i,h=>by
  have ih:=zrt (X:=X) (s:=s) l (i+1) (fun n z hz hs=>by
   have:=h (n+1) z (by simpa using hz) hs
   rwa [show i+1+n=i+(n+1) by omega])
  simp only [EX]
  split
  ·rename_i hX
   simp only [upd]
   split
   ·rename_i hs
    have:=h 0 y rfl hs.symm
    rw [Nat.add_zero,hX] at this; cases this
   ·exact ih
  ·exact ih
theorem zs0 (hL:zed N l h0) (hx:l[j]? = some x) (hdep:∀ i ∈ x.dep,X i=true) (hcl:∀ (i:Nat) (y:DOp),l[i]? = some y→X i=true→j ∉ y.dep) {s:Nat} (hs:s ∈ z3a x.ins):EX 0 l X E0 s=EX 0 l (fun i=>decide (i<j)) E0 s:=by
 by_cases hd:s ∈ dsts l
 ·obtain ⟨h1,h2⟩:=hL.use j x hx
  rcases h2 s hs hd with ⟨i,hi,y,hy,rfl⟩ | h3
  ·rw [zrs l 0 i X y hL.nodup hy (by simpa using hdep i hi),zrs l 0 i _ y hL.nodup hy (by simpa using h1 i hi)]
  ·rw [zrt l 0 (fun n y hy hs=>?_),zrt l 0 (fun n y hy hs=>?_)]
   ·have:=(hL.use n y hy).1 j (h3 n y hy hs)
    simp; omega
   ·rw [Nat.zero_add]
    cases hX:X n with
    | false=>rfl
    | true=>exact absurd (h3 n y hy hs) (hcl n y hy hX)
 ·rw [zgs l 0 X s hd,zgs l 0 _ s hd]
theorem zz5 (hL:zed N l h0) (hx:l[j]? = some x) (hdep:∀ i ∈ x.dep,X i=true) (hcl:∀ (i:Nat) (y:DOp),l[i]? = some y→X i=true→j ∉ y.dep) {o:Operand} (ho:o ∈ opsK x.ins.op):ev (EX 0 l X E0) o=ev (EX 0 l (fun i=>decide (i<j)) E0) o:=by
 cases o with
 | tmp t=>exact zs0 hL hx hdep hcl (List.mem_append_right _ (zau ho))
 | _=>rfl
theorem zov (hL:zed N l h0) (hx:l[j]? = some x) (hdep:∀ i ∈ x.dep,X i=true) (hcl:∀ (i:Nat) (y:DOp),l[i]? = some y→X i=true→j ∉ y.dep):zo (EX 0 l X E0) x.ins.guard=zo (EX 0 l (fun i=>decide (i<j)) E0) x.ins.guard:=by
 cases hg:x.ins.guard with
 | none=>rfl
 | some sw =>
  obtain ⟨s,want⟩:=sw
  simp only [zo]
  rw [zs0 hL hx hdep hcl (by simp [z3a,hg])]
end
section
variable {P:Program} {I J:Nat→Prop} {N:Nat} [Dfs N] {σ σ0 σ1 σ':Pl} {w w0 w':World} {h h0 h':H} {e e' E0:Env} {a a':Act} {l:List DOp} {X X':Nat→Bool} {ops:Array Oper} {Q:Exit→Act→World→Prop} {j:Nat} {x:DOp}
theorem zz4 (R:Rel I N σ e h a w) {avs args':List AV} {vs:List Value} {f:Nat} {bor:Bool} {r av:AV} {hout rows left:H} {bm:List (Nat×Nat)} (hargs:VaL I σ (bl w) avs vs)
  (hconv:z2d h [] bor avs=some args') (hok:z28 P f args' [] r hout∨bor=false∧CallG P f args' [] r hout) (hsb:z2a hout bm=some (rows,left)) (hndb:(bm.map Prod.fst).Nodup) (hback:back bm r=some av) (hbor:bor=true→noIm r=true∧z6f hout=true)
  (hkeys:∀ k ∈ rows.map Prod.fst,k ∉ h.map Prod.fst) :
  Calls P f vs.toArray w fun en w'=>∃ v σ1 I2,en = .returned v∧(∀ b,I b→I2 b)∧(∀ b,I2 b→I b∨w.heap.size≤b)∧Le w w'∧(∀ b,b<w.heap.size→bl w' b=bl w b)∧(∀ k,k ∉ rows.map Prod.fst→σ1 k=σ k)∧(∀ b ∈ fpH σ1 rows,w.heap.size≤b) ∧
   ∀ σ':Pl,(∀ k ∈ (rows++h).map Prod.fst,σ' k=σ1 k)→HRel I2 σ' (rows++h) w'∧Va I2 σ' (bl w') av v:=by
 let J:Nat→Prop:=fun b=>I b∨(bor=true∧b ∈ fpH σ h)
 have hIJ:∀ b,I b→J b:=fun b hb=>.inl hb
 have hin1:HRel J σ [] w:=⟨trivial,List.nodup_nil,List.nodup_nil,fun b hb=>(by cases hb),fun b hb=>by
  rcases hb with hb | hb
  ·exact R.heap.low b hb
  ·exact (R.heap.apart b hb.2).2⟩
 have hva:=z4y (J:=J) (m:=[]) List.nodup_nil R.heap hIJ (fun hbr b hb=>.inr ⟨hbr,hb⟩) avs args' vs hconv hargs
 have hren:z1o [] σ=fun _ _=>none:=by funext k q; rfl
 have fin:Calls P f vs.toArray w fun en w'=>∃ v σ1 I2,en = .returned v∧(∀ b,I b→I2 b)∧(∀ b,I2 b→I b∨w.heap.size≤b)∧HRel I2 σ1 hout w'∧Va I2 σ1 (bl w') r v∧Le w w'∧(∀ b,b<w.heap.size→b ∉ fpH (z1o [] σ) []→bl w' b=bl w b)∧(∀ b ∈ fpH σ1 hout,b ∈ fpH (z1o [] σ) []∨w.heap.size≤b):=by
  rcases hok with hok | ⟨hbf,hok⟩
  ·refine (hok J (z1o [] σ) w vs ⟨trivial,List.nodup_nil,List.nodup_nil,fun b hb=>(by cases hb),hin1.low⟩ hva).mono ?_
   rintro en w' ⟨v,σ1,rfl,c1,c2,c3,c4,c5,c6⟩
   have hI1:HRel I σ1 hout w'∧Va I σ1 (bl w') r v:=by
    by_cases hbr:bor=true
    ·obtain ⟨n1,n2⟩:=hbor hbr
     exact ⟨HRel.narrow hIJ n2 c1,Va.narrow r v n1 c2⟩
    ·have hJI:∀ b,J b→I b:=fun b hb=>hb.elim id (fun h=>absurd h.1 hbr)
     have hJ:J=I:=funext fun b=>propext ⟨hJI b,hIJ b⟩
     rw [hJ] at c1 c2
     exact ⟨c1,c2⟩
   exact ⟨v,σ1,I,rfl,fun _ h=>h,fun _ h=>.inl h,hI1.1,hI1.2,c4,c5,c6⟩
  ·have hJI:∀ b,J b→I b:=fun b hb=>hb.elim id (fun h=>absurd h.1 (by rw [hbf]; simp))
   have hJ:J=I:=funext fun b=>propext ⟨hJI b,hIJ b⟩
   rw [hJ] at hva
   refine (hok I (z1o [] σ) w vs ⟨trivial,List.nodup_nil,List.nodup_nil,fun b hb=>(by cases hb),R.heap.low⟩ hva).mono ?_
   rintro en w' ⟨v,σ1,I2,rfl,d1,d2,c1,c2,c3,c4,c5,c6⟩
   exact ⟨v,σ1,I2,rfl,d1,fun b hb=>(d2 b hb).imp id fun h=>h.resolve_left (by simp [fpH]),c1,c2,c4,c5,c6⟩
 refine fin.mono ?_
 rintro en w' ⟨v,σ1,I2,rfl,d1,d2,hI1,hI2,c4,c5,c6⟩
 obtain ⟨b1,b2,b3,b4,b5,b6⟩:=z40 bm hout rows left hI1 hsb hndb
 have c5':∀ b,b<w.heap.size→bl w' b=bl w b:=fun b hb=>c5 b hb (by simp [fpH])
 have c6':∀ b ∈ fpH σ1 hout,w.heap.size≤b:=fun b hb=>(c6 b hb).resolve_left (by simp [fpH])
 let σn:Pl:=fun k q=>if k ∈ rows.map Prod.fst then z1o bm σ1 k q else σ k q
 have hn1:∀ k ∈ rows.map Prod.fst,∀ q,σn k q=z1o bm σ1 k q:=fun k hk q=>if_pos hk
 have hn2:∀ k ∈ h.map Prod.fst,∀ q,σn k q=σ k q:=fun k hk q=>if_neg (fun hm=>hkeys k hm hk)
 have hfp:fpH σn rows=fpH (z1o bm σ1) rows:=fpH.ren rows hn1
 refine ⟨v,σn,I2,rfl,d1,d2,c4,c5',fun k hk=>funext fun q=>if_neg hk,fun b hb=>?_,fun σ' hσ'=>⟨?_,?_⟩⟩
 ·rw [hfp] at hb
  exact c6' b (b3 b hb).1
 ·have j1:=(HRel.join b1 ((R.heap.grow c4.size c5').wide d1 (fun b hb hI=>(d2 b hI).elim (R.heap.apart b hb).1 fun h=>by have:=(R.heap.apart b hb).2; omega) hI1.low) (fun k hk hk2=>hkeys k hk hk2) (fun b hb hb2=>by
   have h1:=c6' b (b3 b hb).1
   have h2:=(R.heap.apart b hb2).2
   omega)).1
  exact j1.ren (fun k hk q=>by rw [hσ' k hk])
 ·refine z5q (σ:=σ1) (fun k n hn q=>?_) r av v hback hI2
  have hm:n ∈ rows.map Prod.fst:=by rw [b6]; exact zaz bm hn
  rw [hσ' n (by rw [List.map_append]; exact List.mem_append_left _ hm),hn1 n hm q]
  exact z8d hndb hn q
theorem z3y.run (R:Rel I N σ e h a w) {o:Oper} {k:IK} {f:Nat} {avs:List AV} (hc:z54 P o=some k) (hk:z3y P e k f avs):∃ vs:List Value,(execOp a.eval o).run P w = .ok (.enter f vs.toArray) w∧VaL I σ (bl w) avs vs:=by
 have hcall:(∃ args,k = .call f args∧avs=args.map (ev e))∨(∃ x args caps,k = .callv x args∧ev e x = .fn f caps∧fnOk P f=true∧avs=args.map (ev e)++caps):=by
  cases hk with
  | call=>exact .inl ⟨_,rfl,rfl⟩
  | callv h1 h2=>exact .inr ⟨_,_,_,rfl,h1,h2,rfl⟩
 unfold z54 at hc
 split at hc
 ·cases hc; rcases hcall with ⟨_,h,_⟩ | ⟨_,_,_,h,_⟩ <;> cases h
 ·split at hc
  ·cases hc; rcases hcall with ⟨_,h,_⟩ | ⟨_,_,_,h,_⟩ <;> cases h
  ·split at hc
   ·cases hc; rcases hcall with ⟨_,h,_⟩ | ⟨_,_,_,h,_⟩ <;> cases h
   ·split at hc
    ·split at hc
     ·cases hc; rcases hcall with ⟨_,h,_⟩ | ⟨_,_,_,h,_⟩ <;> cases h
     ·cases hc
    ·rename_i g args _ ho
     split at hc
     ·rename_i hf
      cases hc
      rcases hcall with ⟨as,h,rfl⟩ | ⟨_,_,_,h,_⟩
      ·cases h
       refine ⟨args.toList.map a.eval,?_,zb8 R _⟩
       have:(args.map a.eval)=(args.toList.map a.eval).toArray:=by apply Array.ext'; rw [Array.toList_map]
       simp only [execOp,ho,resolve,Deferred.ofValue,Act.eval,Sem.run_bind,Sem.run_pure,Result.andThen_ok,invoke,Array.append_empty,Array.empty_append]
       rw [this,z45 hf]
      ·cases h
     ·cases hc
    ·rename_i t args _ ho
     cases hc
     rcases hcall with ⟨as,h,_⟩ | ⟨y,as,caps,h,hx,hf,rfl⟩
     ·cases h
     ·cases h
      have hv:=zt R (.tmp t)
      rw [hx] at hv
      obtain ⟨c,hc1,hc2⟩:=hv
      refine ⟨args.toList.map a.eval++c.toList,?_,VaL.append _ _ _ _ (zb8 R _) hc2⟩
      simp only [execOp,ho,resolve,hc1,Deferred.ofValue,Sem.run_bind,Sem.run_pure,Result.andThen_ok,invoke,Array.empty_append]
      rw [z45 hf]
      congr 2
      apply Array.ext'
      simp
    ·split at hc
     ·cases hc; rcases hcall with ⟨_,h,_⟩ | ⟨_,_,_,h,_⟩ <;> cases h
     ·split at hc
      ·cases hc; rcases hcall with ⟨_,h,_⟩ | ⟨_,_,_,h,_⟩ <;> cases h
      ·cases hc
    ·split at hc
     ·cases hc; rcases hcall with ⟨_,h,_⟩ | ⟨_,_,_,h,_⟩ <;> cases h
     ·cases hc
    ·split at hc
     ·cases hc; rcases hcall with ⟨_,h,_⟩ | ⟨_,_,_,h,_⟩ <;> cases h
     ·cases hc
    ·cases hc
theorem z3y.congr {k:IK} {f:Nat} {avs:List AV} (h:∀ o ∈ opsK k,ev e o=ev e' o) (hk:z3y P e k f avs):z3y P e' k f avs:=by
 cases hk with
 | call =>
  rename_i args
  have:args.map (ev e)=args.map (ev e'):=List.map_congr_left h
  rw [this]
  exact .call
 | callv h1 h2 =>
  rename_i o as caps
  have:as.map (ev e)=as.map (ev e'):=List.map_congr_left (fun x hx=>h x (List.mem_cons_of_mem _ hx))
  rw [this]
  exact .callv (by rw [← h o List.mem_cons_self]; exact h1) h2
theorem zzj {o:Oper} {b:IB} (hc:z54 P o=some (.rd b)):zll P o=some b:=by
 unfold z54 at hc
 split at hc
 ·cases hc; assumption
 ·split at hc
  ·cases hc
  ·split at hc
   ·cases hc
   ·split at hc
    ·split at hc <;> cases hc
    ·split at hc <;> first | (cases hc; done) | (split at hc <;> cases hc)
    ·cases hc
    ·split at hc <;> first | (cases hc; done) | (split at hc <;> cases hc)
    ·split at hc <;> cases hc
    ·split at hc <;> cases hc
    ·cases hc
theorem zzi {o:Oper} {b:IB} (hc:z54 P o=some (.mk b)):zh7 P o=some b:=by
 unfold z54 at hc
 split at hc
 ·cases hc
 ·split at hc
  ·cases hc; assumption
  ·split at hc
   ·cases hc
   ·split at hc
    ·split at hc <;> cases hc
    ·split at hc <;> first | (cases hc; done) | (split at hc <;> cases hc)
    ·cases hc
    ·split at hc <;> first | (cases hc; done) | (split at hc <;> cases hc)
    ·split at hc <;> cases hc
    ·split at hc <;> cases hc
    ·cases hc
theorem DS.step (hL:zed N l h0) (hst:isSt x.ins.op=false) (D:DS I N l E0 h0 σ0 w0 X a w) (hx:l[j]? = some x) (hX:X j=false) (hdep:∀ i ∈ x.dep,X i=true) (hcl:∀ (i:Nat) (y:DOp),l[i]? = some y→X i=true→j ∉ y.dep)
  (hok:DOk P (EX 0 l (fun i=>decide (i<j)) E0) (HX 0 l (fun i=>x.dep.contains i)++h0) x) {o:Oper} (ho:ops[j]? = some o) (hc:comp P N ops o=some x.ins) {K:Act→World→Prop}
  (hX':X' j=true) (hXX:∀ n,n ≠ j→X' n=X n) (hK:∀ a' w',DS I N l E0 h0 σ0 w0 X' a' w'→K a' w'):wpOp P ops Q j K a w:=by
 obtain ⟨I1,σ,r1,r2,p1,p2,p3⟩:=D.plc
 have R:=p3 σ (fun _ _=>rfl)
 obtain ⟨g1,g2,g3⟩:=z34 hc
 have hd:x.ins.dst<N:=(hL.le x (List.mem_of_getElem? hx)).resolve_left (by rw [hst]; simp)
 have hdN:∀ x:DOp,l[j]? = some x→x.ins.dst<N:=fun y hy=>by rw [hx] at hy; cases hy; exact hd
 have hw:∀ t,zo (EX 0 l (fun i=>decide (i<j)) E0) x.ins.guard=some t→Region.wanted o (yielded ops a.tmps)=t:=fun t ht=>z1z R g1 (by rw [zov hL hx hdep hcl]; exact ht)
 have hev:∀ y ∈ opsK x.ins.op,ev (EX 0 l (fun i=>decide (i<j)) E0) y=ev (EX 0 l X E0) y:=fun y hy=>(zz5 hL hx hdep hcl hy).symm
 have hres:=zob (h:=HX 0 l (fun i=>x.dep.contains i)++h0) R.heap.keys (fun z hz=>by
  rw [List.mem_append] at hz ⊢
  rcases hz with hz | hz
  ·obtain ⟨i,y,q1,q2,q3⟩:=(z9h l 0 _).1 hz
   exact .inl ((z9h l 0 X).2 ⟨i,y,q1,by simpa using hdep i (by simpa using q2),q3⟩)
  ·exact .inr hz)
 have hPX:x.rows=[]→∀ σ':Pl,(∀ k,k ∉ PX 0 l X'→σ' k=σ k)→∀ k,k ∉ PX 0 l X→σ' k=σ k:=by
  intro hr σ' hσ' k hk
  refine hσ' k (fun hm=>hk ?_)
  obtain ⟨i,y,q1,q2,q3⟩:=(z57 l 0 X').1 hm
  simp only [Nat.zero_add] at q2
  have:i ≠ j:=by rintro rfl; rw [hX'] at q2; cases q2
  exact (z57 l 0 X).2 ⟨i,y,q1,by simpa [hXX i this] using q2,q3⟩
 unfold wpOp
 simp only [ho]
 cases hok with
 | skip hg hav hr =>
  rw [hw _ hg]
  simp only [Bool.false_eq_true,if_false]
  refine hK _ _ ?_
  rcases z5o g2 g3 with hdst | hdst
  ·rw [hdst]
   refine DS.next (σ1:=σ) hL hdN D hx hX hX' hXX p1 p2 r1 r2 (fun _ h=>h) (fun _ h=>.inl h) p3 (Le.refl _) (fun _ _=>rfl) (fun _ _=>rfl) (by simp [hr,fpH]) (fun σ' hσ'=>?_)
   rw [hr,hav]
   exact ⟨(p3 σ' (hPX hr σ' hσ')).heap,zl2 _⟩
  ·
   exfalso
   unfold z5n at g3
   split at g3
   ·cases g3; omega
   ·rw [hdst.1] at g3; cases g3
 | rd hg hop hav hle hr =>
  rename_i b av
  rw [hw _ hg]
  simp only [if_true]
  have hb:=zzj (hop ▸ g2)
  have hdst:o.dst=some x.ins.dst:=by
   rcases z5o g2 g3 with h | h
   ·exact h
   ·exfalso; unfold z5n at g3; split at g3
    ·cases g3; omega
    ·rw [h.1] at g3; cases g3
  rw [hop] at hev
  have hav':rdop (ev (EX 0 l X E0)) (res (HX 0 l X++h0)) b=some av:=by
   rw [← z4r b hev]
   exact zkz (fun k p v hv=>hres k p v hv) hav
  obtain ⟨v,q1,q2⟩:=zgk R hb hav'
  refine .inl ?_
  unfold Oper.wp
  rw [q1,Oper.upon_value,hdst]
  refine hK _ _ (DS.next (σ1:=σ) hL hdN D hx hX hX' hXX p1 p2 r1 r2 (fun _ h=>h) (fun _ h=>.inl h) p3 (Le.refl _) (fun _ _=>rfl) (fun _ _=>rfl) (by simp [hr,fpH]) (fun σ' hσ'=>?_))
  have R':=p3 σ' (hPX hr σ' hσ')
  obtain ⟨v',q3,q4⟩:=zgk R' hb hav'
  rw [q1] at q3
  cases q3
  rw [hr]
  exact ⟨R'.heap,hle _ _ _ _ q4⟩
 | mk zf hg hop hav hzf =>
  rename_i b rows0
  rw [hw _ hg]
  simp only [if_true]
  have hb:=zzi (hop ▸ g2)
  have hdst:o.dst=some x.ins.dst:=by
   rcases z5o g2 g3 with h | h
   ·exact h
   ·exfalso; unfold z5n at g3; split at g3
    ·cases g3; omega
    ·rw [h.1] at g3; cases g3
  rw [hop] at hev
  rw [zia b hev] at hav
  obtain ⟨row,hrow0,hmk,hform⟩:=y0a hav (HX 0 l X++h0)
  have hrow:x.rows=[(x.ins.dst,⟨row.s,row.xs.map (zfA zf 0)⟩)]:=by rw [hzf,hrow0]; rfl
  have hkey:=(z91 hL.keys hx).2 X hX
  have hdk:x.ins.dst ∉ (HX 0 l X++h0).map Prod.fst:=hkey _ (by simp [hrow])
  rw [zft hdk] at hmk
  obtain ⟨v,w',σ1,q1,q2,q3,q4,q5,q6⟩:=(zns R hd hb hmk).run
  have hren:∀ k ∈ (HX 0 l X++h0).map Prod.fst,∀ q,σ1 k q=σ k q:=fun k hk q=>q6 k q (fun e=>hdk (e ▸ hk))
  refine .inl ?_
  unfold Oper.wp
  rw [q1,Oper.upon_value,hdst]
  obtain ⟨z1,z2⟩:=HRel.zf zf q2.heap
  refine hK _ _ (DS.next (σ1:=σ1) hL hdN D hx hX hX' hXX p1 p2 r1 r2 (fun _ h=>h) (fun _ h=>.inl h) p3 q3 q4 (fun k hk=>funext fun q=>q6 k q (fun e=>hk (by simp [hrow,e]))) (fun b hb=>?_) (fun σ' hσ'=>?_))
  ·rw [hrow] at hb
   have hnd:=q2.heap.nodup
   rw [z1h,List.nodup_append] at hnd
   have hb1:b ∈ fpR σ1 x.ins.dst row:=by rw [← z2]; simpa [fpH] using hb
   rcases q5 b (by rw [z1h]; exact List.mem_append_left _ hb1) with h | h
   ·exact absurd rfl (hnd.2.2 b hb1 b (by rw [fpH.ren _ hren]; exact h))
   ·exact h
  ·have hks:∀ k ∈ (x.rows++(HX 0 l X++h0)).map Prod.fst,k ∉ PX 0 l X':=by
    intro k hk
    refine zi4 hL.keys ?_
    have hp:=(zb1 l 0 j X X' x hx (by simpa using hX') (fun n hn=>hXX n (by omega)) (by simpa using hX)).append_right h0
    rw [List.append_assoc] at hp
    exact ((hp.map Prod.fst).mem_iff).1 hk
   rw [hrow] at hks ⊢
   refine ⟨z1.ren (fun k hk q=>by rw [hσ' k (hks k (by simpa using hk))]),?_⟩
   have hv:=q2.vals x.ins.dst
   rw [Act.getD_put (by have:=R.size; omega),if_pos rfl] at hv
   simp only [upd,if_true] at hv
   have hσd:σ' x.ins.dst=σ1 x.ins.dst:=hσ' _ (hks _ (by simp))
   rcases hform with hf | ⟨n,hf⟩
   ·rw [hf] at hv ⊢
    simpa only [Va,hσd] using hv
   ·rw [hf] at hv ⊢
    simpa only [Va,hσd] using hv
 | call hg hca hcv hok hsp hnd hbk hbor =>
  rename_i f avs args' bor r hout bm left
  rw [hw _ hg]
  simp only [if_true]
  have hdst:o.dst=some x.ins.dst:=by
   rcases z5o g2 g3 with h | h
   ·exact h
   ·exfalso; unfold z5n at g3; split at g3
    ·cases g3; omega
    ·rw [h.1] at g3; cases g3
  obtain ⟨vs,q1,q2⟩:=z3y.run R g2 (hca.congr hev)
  have hcv':=z72 (fun k p v hv=>hres k p v hv) avs args' hcv
  have hkey:=(z91 hL.keys hx).2 X hX
  refine .inl ?_
  unfold Oper.wp
  rw [q1,Oper.upon_enter]
  refine (zz4 R q2 hcv' hok hsp hnd hbk hbor hkey).mono ?_
  rintro en w' ⟨v,σ1,I2,rfl,d1,d2,c1,c2,c3,c4,c5⟩
  simp only [hdst]
  refine hK _ _ (DS.next (σ1:=σ1) hL hdN D hx hX hX' hXX p1 p2 r1 r2 d1 d2 p3 c1 c2 c3 c4 (fun σ' hσ'=>c5 σ' (fun k hk=>hσ' k ?_)))
  refine zi4 hL.keys ?_
  have hp:=(zb1 l 0 j X X' x hx (by simpa using hX') (fun n hn=>hXX n (by omega)) (by simpa using hX)).append_right h0
  rw [List.append_assoc] at hp
  exact ((hp.map Prod.fst).mem_iff).1 hk
end
def zdm (o:Oper):List Nat:=(o.after.toList.filter (Region.binds .any)).map (·.on)
def y9w (l1 l2:List Nat):List Nat:=l1++l2.filter fun x=>!l1.contains x
def ancs:List Oper→List (List Nat)→List (List Nat)
 | [],acc=>acc
 | o::os,acc=>ancs os (acc++[(zdm o).foldl (fun r d=>y9w r (d::acc.getD d [])) []])
def z9n (Ds:List (List Nat)):Nat→Nat
 | 0=>0
 | n+1=>if (List.range n).all fun d=>(Ds.getD n []).contains d then z9n Ds n else n+1
def okAt (Ds:List (List Nat)) (i:Nat) (o:Oper):Bool :=
 (zdm o).all (fun e=>decide (e<i)) && (Ds.getD i []).all fun d=>(zdm o).any fun e=>d==e || (Ds.getD e []).contains d
def zid (Ds:List (List Nat)):Nat→List Oper→Bool
 | _,[]=>true
 | i,o::os=>okAt Ds i o && zid Ds (i+1) os
def zlo (ds:List Nat) (j:Nat) (x:Ins×List Nat):Bool :=
 x.2.all (fun i=>decide (i<j)) && (z3a x.1).all fun s=>!ds.contains s || x.2.any fun i=>ds[i]? == some s
def z9v (ds:List Nat):Nat→List (Ins×List Nat)→Bool
 | _,[]=>true
 | j,x::l=>zlo ds j x && z9v ds (j+1) l
def zif (ds:List Nat) (pre:List (Ins×List Nat)) (j:Nat) (x:Ins×List Nat):Bool :=
 x.2.all (fun i=>decide (i<j)) && (z3a x.1).all fun s=>!ds.contains s || ((x.2.any fun i=>ds[i]? == some s) || pre.all fun y=>!(y.1.dst==s) || y.2.contains j)
def z5y (ds:List Nat) (pre:List (Ins×List Nat)):Nat→List (Ins×List Nat)→Bool
 | _,[]=>true
 | j,x::l=>zif ds pre j x && z5y ds pre (j+1) l
def zn:List Nat→Bool
 | []=>true
 | x::l=>!l.contains x && zn l
def z62 (Ds:List (List Nat)):Nat→List Ins→List (Ins×List Nat)
 | _,[]=>[]
 | i,x::l=>(x,Ds.getD i [])::z62 Ds (i+1) l
def z5t (P:Program) (N:Nat) (ops:Array Oper):List Oper→Option (List Ins)
 | []=>some []
 | o::os=>match comp P N ops o,z5t P N ops os with | some x,some l=>some (x::l) | _,_=>none
def z6j (P:Program) (N:Nat) (ops:Array Oper):Option (List (Ins×List Nat)×List Ins) :=
 match z5t P N ops ops.toList with
 | some l =>
  let Ds:=ancs ops.toList []
  let T:=z9n Ds ops.size
  let pre:=z62 Ds 0 (l.take T)
  let ds:=pre.map (·.1.dst)
  if P.follows .mixedOrders && zid Ds 0 ops.toList && z5y ds pre 0 pre && zn ds && pre.all (fun x=>isSt x.1.op || decide (x.1.dst<N)) && (List.range ops.size).all (fun i=>decide (i<T) || (List.range i).all fun d=>(Ds.getD i []).contains d) then some (pre,l.drop T) else none
 | none=>none
structure za5 (P:Program) (N:Nat) (ops:Array Oper) (Ds:List (List Nat)) (pre:List (Ins×List Nat)) (tail:List Ins):Prop where
 mixed:P.follows .mixedOrders=true
 comp:z1g P N ops (List.range' 0 ops.size) (pre.map Prod.fst++tail)
 lt:∀ i o,ops[i]? = some o→∀ e ∈ o.after,Region.binds .any e=true→e.on<i
 anc:∀ i o,ops[i]? = some o→∀ d ∈ Ds.getD i [],∃ e ∈ o.after,Region.binds .any e=true∧(d=e.on∨d ∈ Ds.getD e.on [])
 dep:∀ i x,pre[i]? = some x→x.2=Ds.getD i []
 late:∀ i,pre.length≤i→i<ops.size→∀ d,d<i→d ∈ Ds.getD i []
 nodup:(pre.map (·.1.dst)).Nodup
 le:∀ x ∈ pre,isSt x.1.op=true∨x.1.dst<N
 use:∀ (j:Nat) (x:Ins×List Nat),pre[j]? = some x→(∀ i ∈ x.2,i<j)∧∀ s ∈ z3a x.1,s ∈ pre.map (·.1.dst)→(∃ i ∈ x.2,∃ y,pre[i]? = some y∧y.1.dst=s)∨∀ (i:Nat) (y:Ins×List Nat),pre[i]? = some y→y.1.dst=s→j ∈ y.2
section
variable {P:Program} {I:Nat→Prop} {N:Nat} [Dfs N] {σ σ0 σ1 σ':Pl} {w w0 w':World} {h h0 h':H} {e e' E0:Env} {a a':Act} {l:List DOp} {X X':Nat→Bool} {ops:Array Oper} {Q:Exit→Act→World→Prop} {pre:List (Ins×List Nat)} {tail:List Ins} {Ds:List (List Nat)}
theorem z5c:∀ (os:List Oper) (n:Nat) (l:List Ins),(∀ j,j<os.length→ops[n+j]? = os[j]?)→z5t P N ops os=some l→z1g P N ops (List.range' n os.length) l
 | [],n,l,_,hc=>by simp only [z5t,Option.some.injEq] at hc; subst hc; trivial
 | o::os,n,l,ho,hc=>by
  unfold z5t at hc
  split at hc
  ·rename_i x l' hx hl
   cases hc
   refine ⟨⟨o,by simpa using ho 0 (by simp),hx⟩,?_⟩
   exact z5c os (n+1) l' (fun j hj=>by
    have:=ho (j+1) (by simp; omega)
    simp only [List.getElem?_cons_succ] at this
    rw [← this]; congr 1; omega) hl
  ·cases hc
theorem zw:∀ (l:List Nat),zn l=true→l.Nodup
 | [],_=>List.nodup_nil
 | x::l,h=>by
  simp only [zn,Bool.and_eq_true,Bool.not_eq_true',List.contains_eq_mem,decide_eq_false_iff_not] at h
  exact List.nodup_cons.2 ⟨h.1,zw l h.2⟩
theorem zhb {o:Oper} {d:Nat}:d ∈ zdm o↔∃ e ∈ o.after,Region.binds .any e=true∧d=e.on:=by
 unfold zdm
 rw [List.mem_map]
 constructor
 ·rintro ⟨e,he,rfl⟩
  rw [List.mem_filter] at he
  exact ⟨e,by simpa using he.1,he.2,rfl⟩
 ·rintro ⟨e,he,hb,rfl⟩
  exact ⟨e,List.mem_filter.2 ⟨by simpa using he,hb⟩,rfl⟩
theorem zie:∀ (os:List Oper) (i:Nat),zid Ds i os=true→∀ (j:Nat) (o:Oper),os[j]? = some o→okAt Ds (i+j) o=true
 | [],_,_,_,_,h=>by simp at h
 | x::os,i,h,0,o,ho=>by
  simp only [List.getElem?_cons_zero,Option.some.injEq] at ho
  subst ho
  simp only [zid,Bool.and_eq_true] at h
  exact h.1
 | x::os,i,h,j+1,o,ho=>by
  simp only [zid,Bool.and_eq_true] at h
  have:=zie os (i+1) h.2 j o (by simpa using ho)
  rwa [show i+1+j=i+(j+1) by omega] at this
theorem zfy {ds:List Nat}:∀ (l:List (Ins×List Nat)) (i:Nat),z9v ds i l=true→∀ (j:Nat) (x:Ins×List Nat),l[j]? = some x→zlo ds (i+j) x=true
 | [],_,_,_,_,h=>by simp at h
 | x::os,i,h,0,o,ho=>by
  simp only [List.getElem?_cons_zero,Option.some.injEq] at ho
  subst ho
  simp only [z9v,Bool.and_eq_true] at h
  exact h.1
 | x::os,i,h,j+1,o,ho=>by
  simp only [z9v,Bool.and_eq_true] at h
  have:=zfy os (i+1) h.2 j o (by simpa using ho)
  rwa [show i+1+j=i+(j+1) by omega] at this
theorem z9w {ds:List Nat} {pre:List (Ins×List Nat)}:∀ (l:List (Ins×List Nat)) (i:Nat),z5y ds pre i l=true→∀ (j:Nat) (x:Ins×List Nat),l[j]? = some x→zif ds pre (i+j) x=true
 | [],_,_,_,_,h=>by simp at h
 | x::os,i,h,0,o,ho=>by
  simp only [List.getElem?_cons_zero,Option.some.injEq] at ho
  subst ho
  simp only [z5y,Bool.and_eq_true] at h
  exact h.1
 | x::os,i,h,j+1,o,ho=>by
  simp only [z5y,Bool.and_eq_true] at h
  have:=z9w os (i+1) h.2 j o (by simpa using ho)
  rwa [show i+1+j=i+(j+1) by omega] at this
theorem zec:∀ (l:List Ins) (i:Nat),(z62 Ds i l).map Prod.fst=l∧∀ (j:Nat) (x:Ins×List Nat),(z62 Ds i l)[j]? = some x→x.2=Ds.getD (i+j) []
 | [],_=>⟨rfl,fun j x h=>by simp [z62] at h⟩
 | y::l,i=>by
  obtain ⟨h1,h2⟩:=zec l (i+1)
  refine ⟨by simp [z62,h1],fun j x h=>?_⟩
  cases j with
  | zero=>simp only [z62,List.getElem?_cons_zero,Option.some.injEq] at h; subst h; rfl
  | succ j =>
   have:=h2 j x (by simpa [z62] using h)
   rwa [show i+1+j=i+(j+1) by omega] at this
theorem z8j (hc:z6j P N ops=some (pre,tail)):∃ Ds,za5 P N ops Ds pre tail:=by
 unfold z6j at hc
 cases hl:z5t P N ops ops.toList with
 | none=>simp [hl] at hc
 | some l =>
  simp only [hl] at hc
  split at hc
  ·rename_i hck
   simp only [Option.some.injEq,Prod.mk.injEq] at hc
   obtain ⟨rfl,rfl⟩:=hc
   simp only [Bool.and_eq_true] at hck
   obtain ⟨⟨⟨⟨⟨k1,k2⟩,k3⟩,k4⟩,k5⟩,k6⟩:=hck
   obtain ⟨z1,z2⟩:=zec (Ds:=ancs ops.toList []) (l.take (z9n (ancs ops.toList []) ops.size)) 0
   have hcm:=z5c (P:=P) (N:=N) (ops:=ops) ops.toList 0 l (fun j _=>by simp) hl
   have hlen:∀ (is:List Nat) (l:List Ins),z1g P N ops is l→is.length=l.length:=by
    intro is
    induction is with
    | nil=>intro l h; cases l with | nil=>rfl | cons _ _=>exact h.elim
    | cons i is ih=>intro l h; cases l with | nil=>exact h.elim | cons x l=>simp [ih l h.2]
   have hll:l.length=ops.size:=by
    have:=hlen _ _ hcm
    simpa using this.symm
   have hat:∀ i o,ops[i]? = some o→okAt (ancs ops.toList []) i o=true:=fun i o ho=>by
    have:=zie ops.toList 0 k2 i o (by simpa using ho)
    simpa using this
   refine ⟨ancs ops.toList [],k1,?_,?_,?_,fun i x hx=>by simpa using z2 i x hx,?_,zw _ k4,?_,?_⟩
   ·rw [z1,List.take_append_drop]
    simpa using hcm
   ·intro i o ho e he hb
    have:=hat i o ho
    simp only [okAt,Bool.and_eq_true,List.all_eq_true,decide_eq_true_eq] at this
    exact this.1 e.on (zhb.2 ⟨e,he,hb,rfl⟩)
   ·intro i o ho d hd
    have:=hat i o ho
    simp only [okAt,Bool.and_eq_true,List.all_eq_true,List.any_eq_true,Bool.or_eq_true,beq_iff_eq,List.contains_eq_mem,decide_eq_true_eq] at this
    obtain ⟨x,hx,hdx⟩:=this.2 d hd
    obtain ⟨e,he,hb,rfl⟩:=zhb.1 hx
    exact ⟨e,he,hb,hdx⟩
   ·intro i hi hi2 d hd
    have:=List.all_eq_true.1 k6 i (List.mem_range.2 hi2)
    simp only [Bool.or_eq_true,decide_eq_true_eq,List.all_eq_true,List.mem_range,List.contains_eq_mem] at this
    have hpl:(z62 (ancs ops.toList []) 0 (l.take (z9n (ancs ops.toList []) ops.size))).length=min (z9n (ancs ops.toList []) ops.size) ops.size:=by
     have:=congrArg List.length z1
     rw [List.length_map,List.length_take,hll] at this
     exact this
    rcases this with h | h
    ·exfalso; rw [hpl] at hi; omega
    ·exact h d hd
   ·intro x hx
    have:=List.all_eq_true.1 k5 x hx
    simpa using this
   ·intro j x hx
    have:=z9w _ 0 k3 j x hx
    simp only [Nat.zero_add,zif,Bool.and_eq_true,List.all_eq_true,decide_eq_true_eq,Bool.or_eq_true,Bool.not_eq_true',List.contains_eq_mem,decide_eq_false_iff_not,List.any_eq_true,beq_iff_eq] at this
    refine ⟨this.1,fun s hs hds=>?_⟩
    rcases this.2 s hs with h | ⟨i,hi,h⟩ | h
    ·exact absurd hds h
    ·rw [List.getElem?_map] at h
     obtain ⟨y,hy,h⟩:=Option.map_eq_some_iff.1 h
     exact .inl ⟨i,hi,y,hy,h⟩
    ·refine .inr fun i y hy hys=>?_
     rcases h y (List.mem_of_getElem? hy) with h | h
     ·rw [hys] at h; simp at h
     ·exact h
  ·cases hc
end
section
variable {P:Program} {I:Nat→Prop} {N:Nat} [Dfs N] {σ σ0 σ1 σ':Pl} {w w0 w':World} {h h0 h':H} {e e' E0:Env} {a a':Act} {l:List DOp} {X X':Nat→Bool} {ops:Array Oper} {Q:Exit→Act→World→Prop} {pre:List (Ins×List Nat)} {tail:List Ins} {Ds:List (List Nat)} {pro:List Nat} {listed:Array Bool}
def z6x (Ds:List (List Nat)) (listed:Array Bool):Prop:=∀ i,listed.getD i false=true→∀ d ∈ Ds.getD i [],listed.getD d false=true
theorem z51 {i:Nat} (hi:i<listed.size):listed.getD i true=listed.getD i false:=by
 simp [Array.getD_eq_getD_getElem?,hi]
theorem z8b (hS:za5 P N ops Ds pre tail) (hc:z6x Ds listed) {i:Nat} (hi:i ∈ Region.ready .any ops listed):∀ d ∈ Ds.getD i [],listed.getD d false=true:=by
 obtain ⟨_,o,ho,hall⟩:=mem_ready.1 hi
 intro d hd
 obtain ⟨e,he,hb,h⟩:=hS.anc i o ho d hd
 rcases h with rfl | h
 ·exact hall e he hb
 ·exact hc e.on (hall e he hb) d h
theorem z9y {i:Nat} (hi:i ∈ Region.ready .any ops listed):i<ops.size∧listed.getD i true=false:=by
 obtain ⟨h0,o,ho,_⟩:=mem_ready.1 hi
 exact ⟨(Array.getElem?_eq_some_iff.1 ho).1,h0⟩
theorem z71 (hc:z6x Ds listed) {i:Nat} (hd:∀ d ∈ Ds.getD i [],listed.getD d false=true):z6x Ds (listed.setIfInBounds i true):=by
 intro k hk d hdk
 by_cases hki:i=k
 ·subst hki; exact getD_set_true (hd d hdk)
 ·rw [getD_set_ne false hki] at hk
  exact getD_set_true (hc k hk d hdk)
theorem z95 (hS:za5 P N ops Ds pre tail) {j:Nat} (hj:j<ops.size) (hl:listed.getD j true=false) (hb:∀ i,i<j→listed.getD i false=true):j ∈ Region.ready .any ops listed:=by
 obtain ⟨o,ho⟩:∃ o,ops[j]? = some o:=⟨ops[j],by simp [hj]⟩
 exact mem_ready.2 ⟨hl,o,ho,fun e he hbd=>hb _ (hS.lt j o ho e he hbd)⟩
theorem z1g.drop:∀ (is:List Nat) (l:List Ins) (n:Nat),z1g P N ops is l→z1g P N ops (is.drop n) (l.drop n)
 | is,l,0,h=>h
 | [],[],n+1,_=>trivial
 | [],_::_,n+1,h=>h.elim
 | _::_,[],n+1,h=>h.elim
 | i::is,x::l,n+1,h=>z1g.drop is l n h.2
theorem z1g.get:∀ (n m:Nat) (l:List Ins),z1g P N ops (List.range' n m) l→∀ (j:Nat) (x:Ins),l[j]? = some x→∃ o,ops[n+j]? = some o∧comp P N ops o=some x
 | n,0,[],_,j,x,h=>by simp at h
 | n,0,_::_,h,_,_,_=>h.elim
 | n,m+1,[],h,_,_,_=>h.elim
 | n,m+1,y::l,hc,0,x,h=>by
  simp only [List.getElem?_cons_zero,Option.some.injEq] at h
  subst h
  exact hc.1
 | n,m+1,y::l,hc,j+1,x,h=>by
  have:=z1g.get (n+1) m l hc.2 j x (by simpa using h)
  rwa [show n+1+j=n+(j+1) by omega] at this
theorem zoj (hS:za5 P N ops Ds pre tail):∀ (l2:List Ins) (I:Nat→Prop) (fuel j:Nat) (listed:Array Bool) (σ:Pl) (e e':Env) (h h':H) (a:Act) (w:World),pre.length≤j→j+l2.length=ops.size→z1g P N ops (List.range' j l2.length) l2→listed.size=ops.size→z6x Ds listed →
  (∀ i,i<ops.size→(listed.getD i false=true↔i<j))→l2.length≤fuel→RunG P pro l2 e h e' h'→Rel I N σ e h a w→(∀ a' w',Step P I N pro σ h w e' h' a' w'→Q .normal a' w')→wpAny P .any ops Q fuel listed a w:=by
 intro l2
 induction l2 with
 | nil =>
  intro I fuel j listed σ e e' h h' a w hpj hjn hcm hsz hcl hli hf hr R hQ
  have hnil:Region.ready .any ops listed=[]:=by
   cases hrd:Region.ready .any ops listed with
   | nil=>rfl
   | cons i is =>
    obtain ⟨h1,h2⟩:=z9y (ops:=ops) (listed:=listed) (i:=i) (by rw [hrd]; exact List.mem_cons_self)
    rw [z51 (by omega)] at h2
    have:=(hli i h1).2 (by simp at hjn; omega)
    rw [this] at h2; cases h2
  have hq:Q .normal a w:=by
   obtain ⟨e1,h1,hg,rfl,rfl⟩:=hr.inv
   exact hQ _ _ (hg I N σ a w R)
  cases fuel with
  | zero=>exact ⟨hnil,hq⟩
  | succ fuel=>exact ⟨fun _=>hq,fun i hi=>by rw [hnil] at hi; cases hi⟩
 | cons x l2 ih =>
  intro I fuel j listed σ e e' h h' a w hpj hjn hcm hsz hcl hli hf hr R hQ
  simp only [List.length_cons] at hjn hf
  have hj:j<ops.size:=by omega
  have hjl:listed.getD j true=false:=by
   rw [z51 (by omega)]
   cases hx:listed.getD j false with
   | false=>rfl
   | true=>have:=(hli j hj).1 hx; omega
  have hrdj:=z95 hS hj hjl (fun i hi=>(hli i (by omega)).2 hi)
  cases fuel with
  | zero=>omega
  | succ fuel =>
   refine ⟨fun hn=>(by rw [hn] at hrdj; cases hrdj),fun i hi=>?_⟩
   obtain ⟨hi1,hi2⟩:=z9y hi
   have hij:i=j:=by
    rw [z51 (by omega)] at hi2
    have hge:¬ i<j:=fun hlt=>by rw [(hli i hi1).2 hlt] at hi2; cases hi2
    rcases Nat.lt_or_ge j i with hlt | hle
    ·have:=z8b hS hcl hi j (hS.late i (by omega) hi1 j hlt)
     rw [z51 (by omega)] at hjl
     rw [this] at hjl; cases hjl
    ·omega
   subst hij
   have hli':∀ k,k<ops.size→((listed.setIfInBounds i true).getD k false=true↔k<i+1):=by
    intro k hk
    by_cases hki:i=k
    ·subst hki
     simp [Array.getD_eq_getD_getElem?,hsz,hk]
    ·rw [getD_set_ne false hki,hli k hk]; omega
   have hcl':=z71 hcl (z8b hS hcl hi)
   obtain ⟨⟨o,ho,hco⟩,hcm'⟩:=hcm
   obtain ⟨g1,g2,g3⟩:=z34 hco
   unfold wpOp
   simp only [ho]
   obtain ⟨e0,h0,hgh,hr⟩:=hr.inv
   obtain ⟨σ0,I0,i01,i02,R,p01,p02,p03,p04⟩:=(hgh I N σ a w R).out
   have hQ:∀ a' w',Step P I0 N pro σ0 h0 w e' h' a' w'→Q .normal a' w':=fun a' w' S=>hQ a' w' (Step.trans i01 i02 p01 p02 p03 p04 S)
   rcases hr with ⟨hw,hr⟩ | ⟨hw,e1,h1,hs,hr⟩
   ·rw [z1z R g1 hw]
    simp only [Bool.false_eq_true,if_false]
    exact ih I0 fuel (i+1) _ σ0 _ e' h0 h' _ w (by omega) (by omega) hcm' (by simpa using hsz) hcl' hli' (by omega) hr (R.skip (z5o g2 g3)) hQ
   ·rw [z1z R g1 hw]
    simp only [if_true]
    refine .inl (z2h.sound R g2 g3 hs fun a1 w1 S=>?_)
    obtain ⟨σ1,I1,i1,i2,R1,p1,p2,p3,p4⟩:=S.out
    exact ih I1 fuel (i+1) _ σ1 e1 e' h1 h' a1 w1 (by omega) (by omega) hcm' (by simpa using hsz) hcl' hli' (by omega) hr R1 fun a' w' S'=>hQ a' w' (Step.trans i1 i2 p1 p2 p3 p4 S')
structure DPre (P:Program) (pre:List (Ins×List Nat)) (l:List DOp) (E0:Env) (h0:H):Prop where
 is:l.map (fun x=>(x.ins,x.dep))=pre
 keys:((HX 0 l (fun _=>true)++h0).map Prod.fst).Nodup
 ok:∀ (j:Nat) (x:DOp),l[j]? = some x→DOk P (EX 0 l (fun i=>decide (i<j)) E0) (HX 0 l (fun i=>x.dep.contains i)++h0) x
 nost:∀ x ∈ l,isSt x.ins.op=false
theorem zs6 (hS:za5 P N ops Ds pre tail) (his:l.map (fun x=>(x.ins,x.dep))=pre) (hk:((HX 0 l (fun _=>true)++h0).map Prod.fst).Nodup):zed N l h0:=by
 subst his
 have hd:dsts l=(l.map (fun x=>(x.ins,x.dep))).map (·.1.dst):=by simp [dsts]
 refine ⟨by rw [hd]; exact hS.nodup,hk,fun x hx=>?_,fun j x hx=>?_⟩
 ·exact hS.le (x.ins,x.dep) (List.mem_map.2 ⟨x,hx,rfl⟩)
 ·obtain ⟨h1,h2⟩:=hS.use j (x.ins,x.dep) (by simp [hx])
  refine ⟨h1,fun s hs hds=>?_⟩
  rcases h2 s hs (by rw [hd] at hds; exact hds) with ⟨i,hi,y,hy,hys⟩ | h3
  ·rw [List.getElem?_map] at hy
   obtain ⟨z,hz,rfl⟩:=Option.map_eq_some_iff.1 hy
   exact .inl ⟨i,hi,z,hz,hys⟩
  ·exact .inr fun i y hy hys=>h3 i (y.ins,y.dep) (by simp [hy]) hys
theorem z9a:∀ (l:List DOp) (i:Nat) (X X':Nat→Bool),(∀ n,i≤n→n<i+l.length→X n=X' n)→EX i l X E0=EX i l X' E0∧HX i l X=HX i l X'
 | [],_,_,_,_=>⟨rfl,rfl⟩
 | x::l,i,X,X',h=>by
  obtain ⟨h1,h2⟩:=z9a l (i+1) X X' (fun n hn hn2=>h n (by omega) (by simp; omega))
  simp only [EX,HX,h i (Nat.le_refl _) (by simp),h1,h2,and_self]
theorem zrf {U:Nat→Prop} (hS:za5 P N ops Ds pre tail) (his:l.map (fun x=>(x.ins,x.dep))=pre) (hkeys:((HX 0 l (fun _=>true)++h0).map Prod.fst).Nodup)
  (hok:∀ (j:Nat) (x:DOp),U j→l[j]? = some x→DOk P (EX 0 l (fun i=>decide (i<j)) E0) (HX 0 l (fun i=>x.dep.contains i)++h0) x∧isSt x.ins.op=false) (hr:RunG P pro tail (EX 0 l (fun _=>true) E0) (HX 0 l (fun _=>true)++h0) e' h') (hpro:∀ k ∈ pro,k ∉ z37 l)
  (hQ:∀ a' w',Step P I N pro σ0 h0 w0 e' h' a' w'→Q .normal a' w') (hfp0:∀ σ:Pl,(∀ k,k ∉ z37 l→σ k=σ0 k)→fpH σ h0=fpH σ0 h0):∀ (fuel:Nat) (L:List Nat) (listed:Array Bool) (a:Act) (w:World),L.length≤fuel→(∀ i,i<ops.size→listed.getD i false=false→i ∈ L)→listed.size=ops.size→z6x Ds listed →
  (∀ i,pre.length≤i→listed.getD i false=false)→(∀ i,listed.getD i false=false→U i)→DS I N l E0 h0 σ0 w0 (fun i=>listed.getD i false) a w→wpAny P .any ops Q fuel listed a w:=by
 have hL:=zs6 hS his hkeys
 have hlen:l.length=pre.length:=by rw [← his]; simp
 have hcm:=hS.comp
 have hcl0:∀ (is:List Nat) (l:List Ins),z1g P N ops is l→is.length=l.length:=by
  intro is
  induction is with
  | nil=>intro l h; cases l with | nil=>rfl | cons _ _=>exact h.elim
  | cons i is ih=>intro l h; cases l with | nil=>exact h.elim | cons x l=>simp [ih l h.2]
 have hn:ops.size=pre.length+tail.length:=by
  have:=hcl0 _ _ hcm
  simpa using this
 have done:∀ (fuel:Nat) (listed:Array Bool) (a:Act) (w:World),tail.length≤fuel→listed.size=ops.size→z6x Ds listed→(∀ i,i<ops.size→(listed.getD i false=true↔i<pre.length)) →
   DS I N l E0 h0 σ0 w0 (fun i=>listed.getD i false) a w→wpAny P .any ops Q fuel listed a w:=by
  intro fuel listed a w hf hsz hcl hli D
  obtain ⟨I1,σ,r1,r2,p1,p2,p3⟩:=D.plc
  have R:=p3 σ (fun _ _=>rfl)
  have hsame:=z9a (E0:=E0) l 0 (fun i=>listed.getD i false) (fun _=>true) (fun n _ hn2=>(hli n (by omega)).2 (by omega))
  rw [hsame.1,hsame.2] at R
  rw [hsame.2] at p2
  have hcm2:z1g P N ops (List.range' pre.length tail.length) tail:=by
   have:=z1g.drop _ _ pre.length hcm
   rw [List.drop_left' (by simp)] at this
   rw [List.drop_range'] at this
   have e1:ops.size - pre.length=tail.length:=by omega
   simpa [e1] using this
  refine zoj hS tail I1 fuel pre.length listed σ _ e' _ h' a w (Nat.le_refl _) (by omega) hcm2 hsz hcl hli hf hr R fun a' w' S=>hQ a' w' ?_
  refine Step.trans r1 (fun b hb=>(r2 b hb).imp id .inr) (fun k hk=>by rw [p1 k (hpro k hk)]) D.le (fun b hb _=>D.same b hb) (fun b hb=>?_) S
  rw [z2q,List.mem_append] at hb
  rcases hb with hb | hb
  ·exact .inr (p2 b hb)
  ·rw [hfp0 σ p1] at hb; exact .inl hb
 intro fuel
 induction fuel with
 | zero =>
  intro L listed a w hf hLl hsz hcl hlate hU D
  have hall:∀ i,i<ops.size→listed.getD i false=true:=by
   intro i hi
   cases hx:listed.getD i false with
   | true=>rfl
   | false=>have:=hLl i hi hx; cases L with | nil=>cases this | cons _ _=>simp at hf
  have ht:tail.length=0:=by
   rcases Nat.eq_zero_or_pos tail.length with h | h
   ·exact h
   ·have h1:=hall pre.length (by omega)
    rw [hlate pre.length (Nat.le_refl _)] at h1; cases h1
  exact done 0 listed a w (by omega) hsz hcl (fun i hi=>⟨fun _=>by omega,fun _=>hall i hi⟩) D
 | succ fuel ih =>
  intro L listed a w hf hLl hsz hcl hlate hU D
  by_cases hpall:∀ i,i<pre.length→listed.getD i false=true
  ·refine done (fuel+1) listed a w ?_ hsz hcl (fun i hi=>⟨fun hl=>?_,fun hl=>hpall i hl⟩) D
   ·
    have hsub:∀ i ∈ List.range' pre.length tail.length,i ∈ L:=fun i hi=>by
     rw [List.mem_range'_1] at hi
     exact hLl i (by omega) (hlate i hi.1)
    have:=(List.nodup_range' (s:=pre.length) (n:=tail.length)).length_le_of_subset hsub
    simp only [List.length_range'] at this
    omega
   ·rcases Nat.lt_or_ge i pre.length with h | h
    ·exact h
    ·rw [hlate i h] at hl; cases hl
  ·
   have hex:∃ j,j<pre.length∧listed.getD j false=false∧∀ i,i<j→listed.getD i false=true:=by
    have key:∀ n,(∀ i,i<n→listed.getD i false=true)∨∃ j,j<n∧listed.getD j false=false∧∀ i,i<j→listed.getD i false=true:=by
     intro n
     induction n with
     | zero=>exact .inl fun i hi=>by omega
     | succ n ihn =>
      rcases ihn with h | ⟨j,h1,h2,h3⟩
      ·cases hx:listed.getD n false with
       | true=>exact .inl fun i hi=>by rcases Nat.lt_or_ge i n with h' | h'
                                       ·exact h i h'
                                       ·rw [show i=n by omega]; exact hx
       | false=>exact .inr ⟨n,by omega,hx,h⟩
      ·exact .inr ⟨j,by omega,h2,h3⟩
    rcases key pre.length with h | h
    ·exact absurd h hpall
    ·exact h
   obtain ⟨j0,hj1,hj2,hj3⟩:=hex
   have hrd0:=z95 hS (show j0<ops.size by omega) (by rw [z51 (by omega)]; exact hj2) hj3
   refine ⟨fun hnil=>(by rw [hnil] at hrd0; cases hrd0),fun i hi=>?_⟩
   obtain ⟨hi1,hi2⟩:=z9y hi
   rw [z51 (by omega)] at hi2
   have hanc:=z8b hS hcl hi
   have hip:i<pre.length:=by
    rcases Nat.lt_or_ge i pre.length with h | h
    ·exact h
    ·have:=hanc j0 (hS.late i h hi1 j0 (by omega))
     rw [hj2] at this; cases this
   obtain ⟨x,hx⟩:∃ x,l[i]? = some x:=⟨l[i],by simp [hlen,hip]⟩
   have hxp:pre[i]? = some (x.ins,x.dep):=by rw [← his]; simp [hx]
   have hdep:=hS.dep i _ hxp
   simp only at hdep
   obtain ⟨o,ho,hco⟩:=z1g.get 0 ops.size _ hcm i x.ins (by rw [List.getElem?_append_left (by simpa using hip)]; simp [hxp])
   simp only [Nat.zero_add] at ho
   obtain ⟨hok1,hok2⟩:=hok i x (hU i hi2) hx
   refine DS.step (X':=fun k=>(listed.setIfInBounds i true).getD k false) hL hok2 D hx hi2 (fun d hd=>hanc d (by rw [← hdep]; exact hd)) (fun n y hy hl hm=>?_) hok1 ho hco ?_ (fun n hn=>getD_set_ne false (Ne.symm hn)) fun a' w' D'=>?_
   ·have hyp:pre[n]? = some (y.ins,y.dep):=by rw [← his]; simp [hy]
    have:=hS.dep n _ hyp
    simp only at this
    rw [this] at hm
    rw [hcl n hl i hm] at hi2
    cases hi2
   ·simp [Array.getD_eq_getD_getElem?,hsz,hi1]
   ·refine ih (L.erase i) _ a' w' ?_ (fun k hk hkl=>?_) (by simpa using hsz) (z71 hcl hanc) (fun k hk=>?_) (fun k hk=>hU k ?_) D'
    ·have:=List.length_erase_of_mem (hLl i hi1 hi2)
     omega
    ·have hki:i ≠ k:=by
      rintro rfl
      simp [Array.getD_eq_getD_getElem?,hsz,hi1] at hkl
     rw [getD_set_ne false hki] at hkl
     exact (List.mem_erase_of_ne (Ne.symm hki)).2 (hLl k hk hkl)
    ·rw [getD_set_ne false (by omega)]
     exact hlate k hk
    ·by_cases hki:i=k
     ·subst hki; exact hi2
     ·rwa [getD_set_ne false hki] at hk
theorem zs7 (hc:z6j P N ops=some (pre,tail)) (R:Rel I N σ e h a w) (hp:DPre P pre l (fun t=>kill (fun k _=>(pre.map (·.1.dst)).contains k) (e t)) (z1f h (pre.map (·.1.dst))))
  (hks:∀ k ∈ z37 l,k ∈ pre.map (·.1.dst)) (hpro:∀ k ∈ pro,k ∉ pre.map (·.1.dst))
  (hr:RunG P pro tail (EX 0 l (fun _=>true) (fun t=>kill (fun k _=>(pre.map (·.1.dst)).contains k) (e t))) (HX 0 l (fun _=>true)++z1f h (pre.map (·.1.dst))) e' h')
  (hQ:∀ a' w',Step P I N pro σ h w e' h' a' w'→Q .normal a' w') (id:Nat):(Code.region id ops true).wp P Q a w:=by
 obtain ⟨Ds,hS⟩:=z8j hc
 refine wp_region_any hS.mixed ?_
 obtain ⟨d1,d2,d3⟩:=z7s (pre.map (·.1.dst)) R.heap
 have hren:∀ σ':Pl,(∀ k,k ∉ z37 l→σ' k=σ k)→∀ k ∈ (z1f h (pre.map (·.1.dst))).map Prod.fst,∀ q,σ' k q=σ k q:=fun σ' hσ' k hk q=>by
  rw [hσ' k (fun hm=>(d3 k hk).2 (hks k hm))]
 let w1:World:={ w with drawn:=w.drawn+1 }
 have hheap:HRel I σ (z1f h (pre.map (·.1.dst))) w1:=⟨d1.ok,d1.keys,d1.nodup,d1.apart,d1.low⟩
 refine zrf (I:=I) (σ0:=σ) (w0:=w1) (U:=fun _=>True) hS hp.is hp.keys (fun j x _ hx=>⟨hp.ok j x hx,hp.nost x (List.mem_of_getElem? hx)⟩) hr (fun k hk hm=>hpro k hk (hks k hm)) (fun a' w' S=>hQ a' w' ?_) (fun σ' hσ'=>fpH.ren _ (hren σ' hσ')) ops.size (List.range ops.size) _ a w1 (by simp) (fun i hi _=>List.mem_range.2 hi) (by simp) (fun i hi=>?_) (fun i _=>?_) (fun _ _=>trivial) ?_
 ·exact Step.trans (P:=P) (w1:=w1) (h1:=z1f h (pre.map (·.1.dst))) (σ1:=σ) (I1:=I) (fun _ h=>h) (fun _ h=>.inl h) (fun _ _=>rfl) ⟨Nat.le_refl _,rfl,rfl,rfl⟩ (fun _ _ _=>rfl) (fun b hb=>.inl (d2 b hb)) S
 ·rw [Array.getD_eq_getD_getElem?,Array.getElem?_replicate] at hi
  split at hi <;> simp at hi
 ·rw [Array.getD_eq_getD_getElem?,Array.getElem?_replicate]
  split <;> rfl
 ·have hX:(fun i=>(Array.replicate ops.size false).getD i false)=fun _=>false:=by
   funext i
   rw [Array.getD_eq_getD_getElem?,Array.getElem?_replicate]
   split <;> rfl
  rw [hX]
  have hHX:∀ (l:List DOp) (i:Nat),HX i l (fun _=>false)=[]:=by
   intro l
   induction l with
   | nil=>intro i; rfl
   | cons x l ih=>intro i; simp [HX,ih]
  have hEX:∀ (l:List DOp) (i:Nat) (E:Env),EX i l (fun _=>false) E=E:=by
   intro l
   induction l with
   | nil=>intro i E; rfl
   | cons x l ih=>intro i E; simp [EX,ih]
  have hPX:∀ k,k ∉ PX 0 l (fun _=>false)→k ∉ z37 l:=by
   intro k hk hm
   obtain ⟨x,hx,hkx⟩:=List.mem_flatMap.1 hm
   obtain ⟨j,hj⟩:=List.getElem?_of_mem hx
   exact hk ((z57 l 0 _).2 ⟨j,x,hj,rfl,hkx⟩)
  refine ⟨Le.refl _,fun _ _=>rfl,I,σ,fun _ h=>h,fun _ h=>.inl h,fun _ _=>rfl,by rw [hHX]; simp [fpH],fun σ' hσ'=>?_⟩
  rw [hHX,hEX,List.nil_append]
  have hnk:∀ k,k ∉ pre.map (·.1.dst)→σ' k=σ k:=fun k hk=>hσ' k (fun hm=>by
   obtain ⟨j,x,h1,_,h3⟩:=(z57 l 0 _).1 hm
   exact hk (hks k (List.mem_flatMap.2 ⟨x,List.mem_of_getElem? h1,h3⟩)))
  refine ⟨hheap.ren (fun k hk q=>by rw [hnk k (d3 k hk).2]),R.size,fun t=>?_,R.defers⟩
  refine Va.kill (fun k q hkq=>?_) _ _ (R.vals t)
  rw [hnk k (by simpa using hkq)]
end
section
variable {P:Program} {I:Nat→Prop} {N:Nat} [Dfs N] {σ σ0 σ1 σ':Pl} {w w0 w':World} {h h0 h1 h':H} {e e' E0 E0':Env} {a a':Act} {l l':List DOp} {X X':Nat→Bool} {ops:Array Oper} {Q:Exit→Act→World→Prop} {pre:List (Ins×List Nat)} {tail:List Ins} {Ds:List (List Nat)} {pro:List Nat} {listed:Array Bool}
theorem zgr {φ:AV→AV} (hE:∀ t,E0' t=φ (E0 t)):∀ (l l':List DOp) (i:Nat),l.length=l'.length→(∀ n x x',l[n]? = some x→l'[n]? = some x'→X (i+n)=true→x'.ins.dst=x.ins.dst∧x'.av=φ x.av)→∀ t,EX i l' X E0' t=φ (EX i l X E0 t)
 | [],[],_,_,_,t=>hE t
 | [],_::_,_,h,_,_=>by cases h
 | _::_,[],_,h,_,_=>by cases h
 | x::l,x'::l',i,hl,h,t=>by
  have ih:=zgr hE l l' (i+1) (by simpa using hl) (fun n y y' hy hy' hX=>h (n+1) y y' (by simpa using hy) (by simpa using hy') (by rw [show i+(n+1)=i+1+n by omega]; exact hX)) t
  simp only [EX]
  cases hX:X i with
  | false=>simpa using ih
  | true =>
   obtain ⟨h1,h2⟩:=h 0 x x' rfl rfl (by simpa using hX)
   simp only [if_true,upd,h1,h2]
   split
   ·rfl
   ·exact ih
theorem ziy:∀ (l:List DOp) (i:Nat) (X X':Nat→Bool),(∀ n x,l[n]? = some x→x.rows ≠ []→X (i+n)=X' (i+n))→HX i l X=HX i l X'
 | [],_,_,_,_=>rfl
 | x::l,i,X,X',h=>by
  have ih:=ziy l (i+1) X X' (fun n y hy hr=>by
   have:=h (n+1) y (by simpa using hy) hr
   rwa [show i+(n+1)=i+1+n by omega] at this)
  simp only [HX,ih]
  by_cases hr:x.rows=[]
  ·simp [hr]
  ·have:=h 0 x rfl hr
   rw [Nat.add_zero] at this
   rw [this]
theorem z4w:∀ (l:List DOp) (i:Nat) (X:Nat→Bool),(∀ x ∈ l,x.rows=[])→HX i l X=[]
 | [],_,_,_=>rfl
 | x::l,i,X,h=>by
  simp only [HX,h x (by simp),List.nil_append,z4w l (i+1) X (fun y hy=>h y (by simp [hy])),ite_self]
def zgu (P:Program) (pro:List Nat) (x:Ins) (EA:Env) (HA:H) (φ:AV→AV) (av:AV) (h1:H):Prop :=
 ∀ (e:Env),(∀ s ∈ z3a x,e s=EA s)→zo e x.guard=some true∧∃ e0 h0' e1 h1',zc P pro e HA e0 h0'∧z2h P pro e0 h0' x.dst x.op e1 h1'∧zc P pro e1 h1' (upd (fun t=>φ (e t)) x.dst av) h1
theorem y0p (hS:za5 P N ops Ds pre tail) {j:Nat} {xj xj':DOp} {φ:AV→AV} (his:l.map (fun x=>(x.ins,x.dep))=pre) (hkeys:((HX 0 l (fun _=>true)++h0).map Prod.fst).Nodup)
  (his':l'.map (fun x=>(x.ins,x.dep))=pre) (hkeys':(h1.map Prod.fst).Nodup) (hj:l[j]? = some xj) (hj':l'[j]? = some xj')
  (hok:∀ (i:Nat) (x:DOp),i ≠ j→j ∉ x.dep→l[i]? = some x→DOk P (EX 0 l (fun k=>decide (k<i)) E0) (HX 0 l (fun k=>x.dep.contains k)++h0) x∧isSt x.ins.op=false)
  (hok':∀ (i:Nat) (x:DOp),i ≠ j→i ∉ xj.dep→l'[i]? = some x→DOk P (EX 0 l' (fun k=>decide (k<i)) E0') (HX 0 l' (fun k=>x.dep.contains k)++h1) x∧isSt x.ins.op=false)
  (hav:∀ (i:Nat) (x x':DOp),i ≠ j→j ∉ x.dep→l[i]? = some x→l'[i]? = some x'→x'.av=φ x.av)
  (hrow:∀ (i:Nat) (x:DOp),l[i]? = some x→x.rows ≠ []→i ∈ xj.dep∨j ∈ x.dep) (hrow':∀ x ∈ l',x.rows=[]) (hE:∀ t,E0' t=φ (E0 t))
  (hT:zgu P pro xj.ins (EX 0 l (fun k=>decide (k<j)) E0) (HX 0 l (fun k=>xj.dep.contains k)++h0) φ xj'.av h1)
  (hr:RunG P pro tail (EX 0 l' (fun _=>true) E0') (HX 0 l' (fun _=>true)++h1) e' h') (hpro:∀ k ∈ pro,k ∉ z37 l)
  (hQ:∀ a' w',Step P I N pro σ0 h0 w0 e' h' a' w'→Q .normal a' w') (hfp0:∀ σ:Pl,(∀ k,k ∉ z37 l→σ k=σ0 k)→fpH σ h0=fpH σ0 h0):∀ (fuel:Nat) (L:List Nat) (listed:Array Bool) (a:Act) (w:World),L.length≤fuel→(∀ i,i<ops.size→listed.getD i false=false→i ∈ L)→listed.size=ops.size→z6x Ds listed →
  (∀ i,pre.length≤i→listed.getD i false=false)→listed.getD j false=false→DS I N l E0 h0 σ0 w0 (fun i=>listed.getD i false) a w→wpAny P .any ops Q fuel listed a w:=by
 have hL:=zs6 hS his hkeys
 have hlen:l.length=pre.length:=by rw [← his]; simp
 have hlen':l'.length=pre.length:=by rw [← his']; simp
 have hjp:j<pre.length:=by rw [← hlen]; exact (List.getElem?_eq_some_iff.1 hj).1
 have hcm:=hS.comp
 have hcl0:∀ (is:List Nat) (l:List Ins),z1g P N ops is l→is.length=l.length:=by
  intro is
  induction is with
  | nil=>intro l h; cases l with | nil=>rfl | cons _ _=>exact h.elim
  | cons i is ih=>intro l h; cases l with | nil=>exact h.elim | cons x l=>simp [ih l h.2]
 have hn:ops.size=pre.length+tail.length:=by
  have:=hcl0 _ _ hcm
  simpa using this
 have hkeys2:((HX 0 l' (fun _=>true)++h1).map Prod.fst).Nodup:=by rw [z4w l' 0 _ hrow']; exact hkeys'
 have hL':=zs6 hS his' hkeys2
 have same:∀ (i:Nat) (x x':DOp),l[i]? = some x→l'[i]? = some x'→x'.ins=x.ins∧x'.dep=x.dep:=fun i x x' hx hx'=>by
  have e1:pre[i]? = some (x.ins,x.dep):=by rw [← his]; simp [hx]
  have e2:pre[i]? = some (x'.ins,x'.dep):=by rw [← his']; simp [hx']
  rw [e1] at e2
  simp only [Option.some.injEq,Prod.mk.injEq] at e2
  exact ⟨e2.1.symm,e2.2.symm⟩
 obtain ⟨sj1,sj2⟩:=same j xj xj' hj hj'
 have hak:z37 l'=[]:=by
  unfold z37
  rw [List.flatMap_eq_nil_iff]
  intro x hx
  rw [hrow' x hx]
  rfl
 intro fuel
 induction fuel with
 | zero =>
  intro L listed a w hf hLl hsz hcl hlate hjl D
  have:=hLl j (by omega) hjl
  cases L with | nil=>cases this | cons _ _=>simp at hf
 | succ fuel ih =>
  intro L listed a w hf hLl hsz hcl hlate hjl D
  have hex:∃ j0,j0<pre.length∧listed.getD j0 false=false∧∀ i,i<j0→listed.getD i false=true:=by
   have key:∀ n,(∀ i,i<n→listed.getD i false=true)∨∃ j,j<n∧listed.getD j false=false∧∀ i,i<j→listed.getD i false=true:=by
    intro n
    induction n with
    | zero=>exact .inl fun i hi=>by omega
    | succ n ihn =>
     rcases ihn with h | ⟨j,h1,h2,h3⟩
     ·cases hx:listed.getD n false with
      | true=>exact .inl fun i hi=>by rcases Nat.lt_or_ge i n with h' | h'
                                      ·exact h i h'
                                      ·rw [show i=n by omega]; exact hx
      | false=>exact .inr ⟨n,by omega,hx,h⟩
     ·exact .inr ⟨j,by omega,h2,h3⟩
   rcases key pre.length with h | h
   ·rw [h j hjp] at hjl; cases hjl
   ·exact h
  obtain ⟨j0,hj1,hj2,hj3⟩:=hex
  have hrd0:=z95 hS (show j0<ops.size by omega) (by rw [z51 (by omega)]; exact hj2) hj3
  refine ⟨fun hnil=>(by rw [hnil] at hrd0; cases hrd0),fun i hi=>?_⟩
  obtain ⟨hi1,hi2⟩:=z9y hi
  rw [z51 (by omega)] at hi2
  have hanc:=z8b hS hcl hi
  have hip:i<pre.length:=by
   rcases Nat.lt_or_ge i pre.length with h | h
   ·exact h
   ·have:=hanc j0 (hS.late i h hi1 j0 (by omega))
    rw [hj2] at this; cases this
  obtain ⟨x,hx⟩:∃ x,l[i]? = some x:=⟨l[i],by simp [hlen,hip]⟩
  have hxp:pre[i]? = some (x.ins,x.dep):=by rw [← his]; simp [hx]
  have hdep:=hS.dep i _ hxp
  simp only at hdep
  obtain ⟨o,ho,hco⟩:=z1g.get 0 ops.size _ hcm i x.ins (by rw [List.getElem?_append_left (by simpa using hip)]; simp [hxp])
  simp only [Nat.zero_add] at ho
  by_cases hij:i=j
  ·subst hij
   rw [hj] at hx
   cases hx
   obtain ⟨I1,σ,r1,r2,p1,p2,p3⟩:=D.plc
   have R:=p3 σ (fun _ _=>rfl)
   have hXd:∀ d ∈ xj.dep,listed.getD d false=true:=fun d hd=>hanc d (by rw [← hdep]; exact hd)
   have hnd:∀ (n:Nat) (y:DOp),l[n]? = some y→listed.getD n false=true→i ∉ y.dep:=fun n y hy hl hm=>by
    have hyp:pre[n]? = some (y.ins,y.dep):=by rw [← his]; simp [hy]
    have:=hS.dep n _ hyp
    simp only at this
    rw [this] at hm
    rw [hcl n hl i hm] at hi2
    cases hi2
   have hH:HX 0 l (fun k=>listed.getD k false)=HX 0 l (fun k=>xj.dep.contains k):=ziy l 0 _ _ (fun n y hy hr=>by
    simp only [Nat.zero_add]
    rcases hrow n y hy hr with h | h
    ·rw [hXd n h]
     simpa using h
    ·cases hl:listed.getD n false with
     | true=>exact absurd h (hnd n y hy hl)
     | false =>
      have:n ∉ xj.dep:=fun hm=>by rw [hXd n hm] at hl; cases hl
      simpa using this)
   rw [hH] at R
   obtain ⟨hw,e0,h0',e1,h1',g1,hs,g2⟩:=hT (EX 0 l (fun k=>listed.getD k false) E0) (fun s hs=>zs0 hL hj hXd (fun n y hy hl=>hnd n y hy hl) hs)
   obtain ⟨c1,c2,c3⟩:=z34 hco
   unfold wpOp
   simp only [ho,z1z R c1 hw,if_true]
   obtain ⟨σa,Ia,ia1,ia2,Ra,pa1,pa2,pa3,pa4⟩:=(g1 I1 N σ a w R).out
   refine .inl (z2h.sound Ra c2 c3 hs fun a1 w1 S=>?_)
   obtain ⟨σb,Ib,ib1,ib2,Rb,pb1,pb2,pb3,pb4⟩:=S.out
   have S2:Step P I1 N pro σ (HX 0 l (fun k=>xj.dep.contains k)++h0) w (upd (fun t=>φ (EX 0 l (fun k=>listed.getD k false) E0 t)) xj.ins.dst xj'.av) h1 a1 w1 :=
    Step.trans ia1 ia2 pa1 pa2 pa3 pa4 (Step.trans ib1 ib2 pb1 pb2 pb3 pb4 (g2 Ib N σb a1 w1 Rb))
   obtain ⟨σ',I',i1,i2,R',q1,q2,q3,q4⟩:=S2.out
   have hset:∀ n,n ≠ i→(listed.setIfInBounds i true).getD n false=listed.getD n false:=fun n hn=>getD_set_ne false (Ne.symm hn)
   have hseti:(listed.setIfInBounds i true).getD i false=true:=by simp [Array.getD_eq_getD_getElem?,hsz,hi1]
   have hEnv:EX 0 l' (fun k=>(listed.setIfInBounds i true).getD k false) E0'=upd (fun t=>φ (EX 0 l (fun k=>listed.getD k false) E0 t)) xj.ins.dst xj'.av:=by
    rw [zgq (E0:=E0') l' 0 i (fun k=>listed.getD k false) _ xj' hL'.nodup hj' (by simpa using hseti) (fun n hn=>hset n (by omega)) (by simpa using hi2),sj1]
    have:(fun t=>φ (EX 0 l (fun k=>listed.getD k false) E0 t))=EX 0 l' (fun k=>listed.getD k false) E0':=by
     funext t
     exact (zgr hE l l' 0 (by rw [hlen,hlen']) (fun n y y' hy hy' hl=>by
      rw [Nat.zero_add] at hl
      refine ⟨by rw [(same n y y' hy hy').1],hav n y y' (fun e=>by subst e; rw [hi2] at hl; cases hl) (hnd n y hy hl) hy hy'⟩) t).symm
    rw [this]
   have hpk:∀ k,k ∉ PX 0 l' (fun k=>(listed.setIfInBounds i true).getD k false):=fun k hk=>by
    obtain ⟨n,y,h1,_,h3⟩:=(z57 l' 0 _).1 hk
    rw [hrow' y (List.mem_of_getElem? h1)] at h3
    cases h3
   have hfpw:∀ b ∈ fpH σ (HX 0 l (fun k=>xj.dep.contains k)++h0),b ∈ fpH σ0 h0∨w0.heap.size≤b:=fun b hb=>by
    rw [z2q,List.mem_append] at hb
    rcases hb with hb | hb
    ·rw [← hH] at hb; exact .inr (p2 b hb)
    ·rw [hfp0 σ p1] at hb; exact .inl hb
   have hle:=D.le.size
   refine zrf (I:=I') (σ0:=σ') (w0:=w1) (U:=fun n=>n ≠ i∧n ∉ xj.dep) hS his' hkeys2 (fun n y hU hy=>hok' n y hU.1 hU.2 hy) hr (by rw [hak]; exact fun _ _=>List.not_mem_nil) (fun a' w' S=>hQ a' w' ?_) (fun σ2 hσ2=>by
    have:σ2=σ':=funext fun k=>hσ2 k (by rw [hak]; exact List.not_mem_nil)
    rw [this]) fuel (L.erase i) _ a1 w1 ?_ (fun k hk hkl=>?_) (by simpa using hsz) (z71 hcl hanc) (fun k hk=>?_) (fun k hk=>?_) ?_
   ·refine Step.trans (σ1:=σ') (w1:=w1) (h1:=h1) (fun b hb=>i1 b (r1 b hb)) (fun b hb=>?_) (fun k hk=>?_) (D.le.trans q2) (fun b hb hnb=>?_) (fun b hb=>?_) S
    ·rcases i2 b hb with h | h | h
     ·exact (r2 b h).imp id .inr
     ·exact .inr (hfpw b h)
     ·exact .inr (.inr (by omega))
    ·rw [q1 k hk,p1 k (hpro k hk)]
    ·rw [q3 b (by omega) (fun hm=>(hfpw b hm).elim hnb (fun h=>by omega)),D.same b hb]
    ·rcases q4 b hb with h | h
     ·exact hfpw b h
     ·exact .inr (by omega)
   ·have:=List.length_erase_of_mem (hLl i hi1 hi2)
    omega
   ·have hki:i ≠ k:=by
     rintro rfl
     rw [hseti] at hkl; cases hkl
    rw [hset k (Ne.symm hki)] at hkl
    exact (List.mem_erase_of_ne (Ne.symm hki)).2 (hLl k hk hkl)
   ·rw [hset k (by omega)]
    exact hlate k hk
   ·refine ⟨(fun e=>by subst e; rw [hseti] at hk; cases hk),fun hm=>?_⟩
    by_cases hki:k=i
    ·subst hki; rw [hseti] at hk; cases hk
    ·rw [hset k hki,hXd k hm] at hk; cases hk
   ·refine ⟨Le.refl _,fun _ _=>rfl,I',σ',fun _ h=>h,fun _ h=>.inl h,fun _ _=>rfl,by rw [z4w l' 0 _ hrow']; simp [fpH],fun σ2 hσ2=>?_⟩
    have:σ2=σ':=funext fun k=>hσ2 k (hpk k)
    subst this
    rw [hEnv,z4w l' 0 _ hrow',List.nil_append]
    exact R'
  ·have hjd:j ∉ x.dep:=fun hm=>by
    have:=hanc j (by rw [← hdep]; exact hm)
    rw [hjl] at this; cases this
   obtain ⟨hok1,hok2⟩:=hok i x hij hjd hx
   refine DS.step (X':=fun k=>(listed.setIfInBounds i true).getD k false) hL hok2 D hx hi2 (fun d hd=>hanc d (by rw [← hdep]; exact hd)) (fun n y hy hl hm=>?_) hok1 ho hco ?_ (fun n hn=>getD_set_ne false (Ne.symm hn)) fun a' w' D'=>?_
   ·have hyp:pre[n]? = some (y.ins,y.dep):=by rw [← his]; simp [hy]
    have:=hS.dep n _ hyp
    simp only at this
    rw [this] at hm
    rw [hcl n hl i hm] at hi2
    cases hi2
   ·simp [Array.getD_eq_getD_getElem?,hsz,hi1]
   ·refine ih (L.erase i) _ a' w' ?_ (fun k hk hkl=>?_) (by simpa using hsz) (z71 hcl hanc) (fun k hk=>?_) ?_ D'
    ·have:=List.length_erase_of_mem (hLl i hi1 hi2)
     omega
    ·have hki:i ≠ k:=by
      rintro rfl
      simp [Array.getD_eq_getD_getElem?,hsz,hi1] at hkl
     rw [getD_set_ne false hki] at hkl
     exact (List.mem_erase_of_ne (Ne.symm hki)).2 (hLl k hk hkl)
    ·rw [getD_set_ne false (by omega)]
     exact hlate k hk
    ·rw [getD_set_ne false hij]
     exact hjl
structure zp6 (P:Program) (pro:List Nat) (pre:List (Ins×List Nat)) (tail:List Ins) (ds:List Nat) (E0:Env) (h0:H) (e':Env) (h':H):Prop where
 ex:∃ (l l':List DOp) (j:Nat) (xj xj':DOp) (φ:AV→AV) (E0':Env) (h1:H),l.map (fun x=>(x.ins,x.dep))=pre∧((HX 0 l (fun _=>true)++h0).map Prod.fst).Nodup∧l'.map (fun x=>(x.ins,x.dep))=pre∧(h1.map Prod.fst).Nodup∧l[j]? = some xj∧l'[j]? = some xj' ∧
  (∀ (i:Nat) (x:DOp),i ≠ j→j ∉ x.dep→l[i]? = some x→DOk P (EX 0 l (fun k=>decide (k<i)) E0) (HX 0 l (fun k=>x.dep.contains k)++h0) x∧isSt x.ins.op=false) ∧
  (∀ (i:Nat) (x:DOp),i ≠ j→i ∉ xj.dep→l'[i]? = some x→DOk P (EX 0 l' (fun k=>decide (k<i)) E0') (HX 0 l' (fun k=>x.dep.contains k)++h1) x∧isSt x.ins.op=false) ∧
  (∀ (i:Nat) (x x':DOp),i ≠ j→j ∉ x.dep→l[i]? = some x→l'[i]? = some x'→x'.av=φ x.av)∧(∀ (i:Nat) (x:DOp),l[i]? = some x→x.rows ≠ []→i ∈ xj.dep∨j ∈ x.dep)∧(∀ x ∈ l',x.rows=[])∧(∀ t,E0' t=φ (E0 t)) ∧
  zgu P pro xj.ins (EX 0 l (fun k=>decide (k<j)) E0) (HX 0 l (fun k=>xj.dep.contains k)++h0) φ xj'.av h1∧(∀ k ∈ z37 l,k ∈ ds) ∧
  RunG P pro tail (EX 0 l' (fun _=>true) E0') (HX 0 l' (fun _=>true)++h1) e' h'
theorem zt3 (hc:z6j P N ops=some (pre,tail)) (R:Rel I N σ e h a w) (hp:zp6 P pro pre tail (pre.map (·.1.dst)) (fun t=>kill (fun k _=>(pre.map (·.1.dst)).contains k) (e t)) (z1f h (pre.map (·.1.dst))) e' h') (hpro:∀ k ∈ pro,k ∉ pre.map (·.1.dst))
  (hQ:∀ a' w',Step P I N pro σ h w e' h' a' w'→Q .normal a' w') (id:Nat):(Code.region id ops true).wp P Q a w:=by
 obtain ⟨l,l',j,xj,xj',φ,E0',h1,t1,t2,t3,t4,t5,t6,t7,t8,t9,t10,t11,t12,t13,hks,hr⟩:=hp.ex
 obtain ⟨Ds,hS⟩:=z8j hc
 refine wp_region_any hS.mixed ?_
 obtain ⟨d1,d2,d3⟩:=z7s (pre.map (·.1.dst)) R.heap
 have hren:∀ σ':Pl,(∀ k,k ∉ z37 l→σ' k=σ k)→∀ k ∈ (z1f h (pre.map (·.1.dst))).map Prod.fst,∀ q,σ' k q=σ k q:=fun σ' hσ' k hk q=>by
  rw [hσ' k (fun hm=>(d3 k hk).2 (hks k hm))]
 let w1:World:={ w with drawn:=w.drawn+1 }
 have hheap:HRel I σ (z1f h (pre.map (·.1.dst))) w1:=⟨d1.ok,d1.keys,d1.nodup,d1.apart,d1.low⟩
 refine y0p (I:=I) (σ0:=σ) (w0:=w1) hS t1 t2 t3 t4 t5 t6 t7 t8 t9 t10 t11 t12 t13 hr (fun k hk hm=>hpro k hk (hks k hm)) (fun a' w' S=>hQ a' w' ?_) (fun σ' hσ'=>fpH.ren _ (hren σ' hσ')) ops.size (List.range ops.size) _ a w1 (by simp) (fun i hi _=>List.mem_range.2 hi) (by simp) (fun i hi=>?_) (fun i _=>?_) ?_ ?_
 ·exact Step.trans (P:=P) (w1:=w1) (h1:=z1f h (pre.map (·.1.dst))) (σ1:=σ) (I1:=I) (fun _ h=>h) (fun _ h=>.inl h) (fun _ _=>rfl) ⟨Nat.le_refl _,rfl,rfl,rfl⟩ (fun _ _ _=>rfl) (fun b hb=>.inl (d2 b hb)) S
 ·rw [Array.getD_eq_getD_getElem?,Array.getElem?_replicate] at hi
  split at hi <;> simp at hi
 ·rw [Array.getD_eq_getD_getElem?,Array.getElem?_replicate]
  split <;> rfl
 ·rw [Array.getD_eq_getD_getElem?,Array.getElem?_replicate]
  split <;> rfl
 ·have hX:(fun i=>(Array.replicate ops.size false).getD i false)=fun _=>false:=by
   funext i
   rw [Array.getD_eq_getD_getElem?,Array.getElem?_replicate]
   split <;> rfl
  rw [hX]
  have hHX:∀ (l:List DOp) (i:Nat),HX i l (fun _=>false)=[]:=by
   intro l
   induction l with
   | nil=>intro i; rfl
   | cons x l ih=>intro i; simp [HX,ih]
  have hEX:∀ (l:List DOp) (i:Nat) (E:Env),EX i l (fun _=>false) E=E:=by
   intro l
   induction l with
   | nil=>intro i E; rfl
   | cons x l ih=>intro i E; simp [EX,ih]
  refine ⟨Le.refl _,fun _ _=>rfl,I,σ,fun _ h=>h,fun _ h=>.inl h,fun _ _=>rfl,by rw [hHX]; simp [fpH],fun σ' hσ'=>?_⟩
  rw [hHX,hEX,List.nil_append]
  have hnk:∀ k,k ∉ pre.map (·.1.dst)→σ' k=σ k:=fun k hk=>hσ' k (fun hm=>by
   obtain ⟨j,x,h1,_,h3⟩:=(z57 l 0 _).1 hm
   exact hk (hks k (List.mem_flatMap.2 ⟨x,List.mem_of_getElem? h1,h3⟩)))
  refine ⟨hheap.ren (fun k hk q=>by rw [hnk k (d3 k hk).2]),R.size,fun t=>?_,R.defers⟩
  refine Va.kill (fun k q hkq=>?_) _ _ (R.vals t)
  rw [hnk k (by simpa using hkq)]
end
def RunA (P:Program) (pro:List Nat) (pre:List (Ins×List Nat)) (F:Env→H→Prop) (FX:Value→Prop):Nat→List Nat→Env→H→Prop
 | 0,D,e,h=>(∀ i,i<pre.length→i ∈ D)∧F e h
 | n+1,D,e,h=>((∀ i,i<pre.length→i ∈ D)∧F e h)∨((∃ i,i<pre.length∧i ∉ D)∧∀ i x,pre[i]? = some x→i ∉ D→(∀ d ∈ x.2,d ∈ D) →
   ∃ e0 h0,zc P pro e h e0 h0∧((zo e0 x.1.guard=some false∧RunA P pro pre F FX n (i::D) (upd e0 x.1.dst (z4d x.1.op)) h0) ∨
    (zo e0 x.1.guard=some true∧∃ e1 h1,z2h P pro e0 h0 x.1.dst x.1.op e1 h1∧RunA P pro pre F FX n (i::D) e1 h1) ∨
    (zo e0 x.1.guard=some true∧∃ u hx,z6y P e0 h0 x.1.op u hx∧FX u)))
section
variable {P:Program} {N:Nat} [Dfs N] {h':H} {e':Env} {ops:Array Oper} {Q:Exit→Act→World→Prop} {pre:List (Ins×List Nat)} {tail:List Ins} {Ds:List (List Nat)} {pro:List Nat} {F:Env→H→Prop} {FX:Value→Prop}
theorem zku (D:List Nat):∀ n,(∀ i,i<n→i ∈ D)∨∃ j,j<n∧j ∉ D∧∀ i,i<j→i ∈ D
 | 0=>.inl fun i hi=>by omega
 | n+1=>by
  rcases zku D n with h | ⟨j,h1,h2,h3⟩
  ·by_cases hn:n ∈ D
   ·exact .inl fun i hi=>by
     rcases Nat.lt_or_ge i n with h' | h'
     ·exact h i h'
     ·rw [show i=n by omega]; exact hn
   ·exact .inr ⟨n,by omega,hn,h⟩
  ·exact .inr ⟨j,by omega,h2,h3⟩
theorem znw {D:List Nat} {m:Nat} (hn:D.Nodup) (hb:∀ i ∈ D,i<m):D.length≤m:=by
 have:=hn.length_le_of_subset (l₂:=List.range m) fun i hi=>List.mem_range.2 (hb i hi)
 simpa using this
theorem y4b (hS:za5 P N ops Ds pre tail) (hF:∀ e1 h1,F e1 h1→RunG P pro tail e1 h1 e' h'):∀ (n fuel:Nat) (D:List Nat) (listed:Array Bool) (I:Nat→Prop) (σ:Pl) (e:Env) (h:H) (a:Act) (w:World),
  RunA P pro pre F FX n D e h→listed.size=ops.size→z6x Ds listed→(∀ i,listed.getD i false=true↔i ∈ D)→(∀ i ∈ D,i<pre.length)→D.Nodup→ops.size≤fuel+D.length→Rel I N σ e h a w →
  ((∃ e1 h1,F e1 h1)→∀ a' w',Step P I N pro σ h w e' h' a' w'→Q .normal a' w')→(∀ u,FX u→∀ a' w',Step P I N pro σ h w nE [] a' w'→Q (.panic [{ v:=u,recovered:=false }]) a' w')→wpAny P .any ops Q fuel listed a w:=by
 have hcm:=hS.comp
 have hlen:ops.size=pre.length+tail.length:=by
  have key:∀ (is:List Nat) (l:List Ins),z1g P N ops is l→is.length=l.length:=by
   intro is
   induction is with
   | nil=>intro l h; cases l with
    | nil=>rfl
    | cons x l=>exact h.elim
   | cons i is ih=>intro l h; cases l with
    | nil=>exact h.elim
    | cons x l=>simp [ih l h.2]
  have:=key _ _ hcm
  simpa using this
 have fin:∀ (fuel:Nat) (D:List Nat) (listed:Array Bool) (I:Nat→Prop) (σ:Pl) (e:Env) (h:H) (a:Act) (w:World),(∀ i,i<pre.length→i ∈ D)→F e h→listed.size=ops.size→z6x Ds listed→(∀ i,listed.getD i false=true↔i ∈ D)→(∀ i ∈ D,i<pre.length)→D.Nodup→ops.size≤fuel+D.length→Rel I N σ e h a w →
   (∀ a' w',Step P I N pro σ h w e' h' a' w'→Q .normal a' w')→wpAny P .any ops Q fuel listed a w:=by
  intro fuel D listed I σ e h a w hall hf hsz hcl hli hb hn hfu R hQ
  have hd:=znw hn hb
  refine zoj hS tail I fuel pre.length listed σ e e' h h' a w (Nat.le_refl _) (by omega) ?_ hsz hcl (fun i _=>(hli i).trans ⟨fun hi=>hb i hi,fun hi=>hall i hi⟩) (by omega) (hF e h hf) R hQ
  have:=z1g.drop _ _ pre.length hcm
  rw [List.drop_left' (by simp)] at this
  rw [List.drop_range'] at this
  have e1:0+pre.length * 1=pre.length:=by omega
  have e2:ops.size - pre.length=tail.length:=by omega
  rw [e1,e2] at this
  exact this
 intro n
 induction n with
 | zero =>
  intro fuel D listed I σ e h a w hr hsz hcl hli hb hn hfu R hQ hX
  exact fin fuel D listed I σ e h a w hr.1 hr.2 hsz hcl hli hb hn hfu R (hQ ⟨_,_,hr.2⟩)
 | succ n ih =>
  intro fuel D listed I σ e h a w hr hsz hcl hli hb hn hfu R hQ hX
  rcases hr with ⟨h1,h2⟩ | ⟨⟨i0,hi0,hi0D⟩,hall⟩
  ·exact fin fuel D listed I σ e h a w h1 h2 hsz hcl hli hb hn hfu R (hQ ⟨_,_,h2⟩)
  ·obtain ⟨j,hj1,hj2,hj3⟩:∃ j,j<pre.length∧j ∉ D∧∀ i,i<j→i ∈ D:=by
    rcases zku D pre.length with h | h
    ·exact absurd (h i0 hi0) hi0D
    ·exact h
   have hjl:listed.getD j false=false:=by
    cases hx:listed.getD j false with
    | false=>rfl
    | true=>exact absurd ((hli j).1 hx) hj2
   have hrd:=z95 hS (show j<ops.size by omega) (by rw [z51 (by omega)]; exact hjl) (fun i hi=>(hli i).2 (hj3 i hi))
   have hDl:D.length<pre.length:=by
    have:=znw (D:=j::D) (m:=pre.length) (List.nodup_cons.2 ⟨hj2,hn⟩) (fun i hi=>by
     rcases List.mem_cons.1 hi with rfl | hi
     ·exact hj1
     ·exact hb i hi)
    simp only [List.length_cons] at this
    omega
   cases fuel with
   | zero=>omega
   | succ fuel =>
    refine ⟨fun hnil=>(by rw [hnil] at hrd; cases hrd),fun i hi=>?_⟩
    obtain ⟨hi1,hi2⟩:=z9y hi
    rw [z51 (by omega)] at hi2
    have hanc:=z8b hS hcl hi
    have hiD:i ∉ D:=fun hm=>by rw [(hli i).2 hm] at hi2; cases hi2
    have hip:i<pre.length:=by
     rcases Nat.lt_or_ge i pre.length with h | h
     ·exact h
     ·have:=hanc j (hS.late i h hi1 j (by omega))
      rw [hjl] at this; cases this
    obtain ⟨x,hx⟩:∃ x,pre[i]? = some x:=⟨pre[i],by simp [hip]⟩
    have hdep:=hS.dep i x hx
    obtain ⟨o,ho,hco⟩:=z1g.get 0 ops.size _ hcm i x.1 (by rw [List.getElem?_append_left (by simpa using hip)]; simp [hx])
    simp only [Nat.zero_add] at ho
    obtain ⟨g1,g2,g3⟩:=z34 hco
    obtain ⟨e0,h0,hgh,hr⟩:=hall i x hx hiD (fun d hd=>(hli d).1 (hanc d (by rw [← hdep]; exact hd)))
    obtain ⟨σ0,I0,i01,i02,R0,p01,p02,p03,p04⟩:=(hgh I N σ a w R).out
    have hQ0:(∃ e1 h1,F e1 h1)→∀ a' w',Step P I0 N pro σ0 h0 w e' h' a' w'→Q .normal a' w':=fun hf a' w' S=>hQ hf a' w' (Step.trans i01 i02 p01 p02 p03 p04 S)
    have hX0:∀ u,FX u→∀ a' w',Step P I0 N pro σ0 h0 w nE [] a' w'→Q (.panic [{ v:=u,recovered:=false }]) a' w':=fun u hu a' w' S=>hX u hu a' w' (Step.trans i01 i02 p01 p02 p03 p04 S)
    have hcl':=z71 hcl hanc
    have hli':∀ k,(listed.setIfInBounds i true).getD k false=true↔k ∈ i::D:=fun k=>by
     by_cases hki:i=k
     ·subst hki
      simp [Array.getD_eq_getD_getElem?,hsz,hi1]
     ·rw [getD_set_ne false hki,hli k,List.mem_cons]
      exact ⟨.inr,fun h=>h.resolve_left (fun e=>hki e.symm)⟩
    have hb':∀ k ∈ i::D,k<pre.length:=fun k hk=>by
     rcases List.mem_cons.1 hk with rfl | hk
     ·exact hip
     ·exact hb k hk
    have hn':(i::D).Nodup:=List.nodup_cons.2 ⟨hiD,hn⟩
    have hfu':ops.size≤fuel+(i::D).length:=by simp only [List.length_cons]; omega
    unfold wpOp
    simp only [ho]
    rcases hr with ⟨hw,hr⟩ | ⟨hw,e1,h1,hs,hr⟩ | ⟨hw,u,hx1,hp,hu⟩
    ·rw [z1z R0 g1 hw]
     simp only [Bool.false_eq_true,if_false]
     exact ih fuel (i::D) _ I0 σ0 _ h0 _ w hr (by simpa using hsz) hcl' hli' hb' hn' hfu' (R0.skip (z5o g2 g3)) hQ0 hX0
    ·rw [z1z R0 g1 hw]
     simp only [if_true]
     refine .inl (z2h.sound R0 g2 g3 hs fun a1 w1 S=>?_)
     obtain ⟨σ1,I1,i1,i2,R1,p1,p2,p3,p4⟩:=S.out
     exact ih fuel (i::D) _ I1 σ1 e1 h1 a1 w1 hr (by simpa using hsz) hcl' hli' hb' hn' hfu' R1 (fun hf a' w' S'=>hQ0 hf a' w' (Step.trans i1 i2 p1 p2 p3 p4 S')) (fun u hu a' w' S'=>hX0 u hu a' w' (Step.trans i1 i2 p1 p2 p3 p4 S'))
    ·rw [z1z R0 g1 hw]
     simp only [if_true]
     refine .inl (z6y.sound (pro:=pro) R0 g2 hp fun a1 w1 S=>?_)
     obtain ⟨σ1,I1,i1,i2,R1,p1,p2,p3,p4⟩:=S.out
     exact hX0 u hu a1 w1 (Step.trans i1 i2 p1 p2 p3 p4 (zc.fell I1 N σ1 a1 w1 R1))
theorem zjl {e:Env} {h:H} {I:Nat→Prop} {σ:Pl} {a:Act} {w:World} (hc:z6j P N ops=some (pre,tail)) (R:Rel I N σ e h a w) (hF:∀ e1 h1,F e1 h1→RunG P pro tail e1 h1 e' h') {n:Nat} (hr:RunA P pro pre F FX n [] e h)
  (hQ:(∃ e1 h1,F e1 h1)→∀ a' w',Step P I N pro σ h w e' h' a' w'→Q .normal a' w') (hX:∀ u,FX u→∀ a' w',Step P I N pro σ h w nE [] a' w'→Q (.panic [{ v:=u,recovered:=false }]) a' w') (id:Nat):(Code.region id ops true).wp P Q a w:=by
 obtain ⟨Ds,hS⟩:=z8j hc
 refine wp_region_any hS.mixed ?_
 have hdr:Step P I N pro σ h w e h a { w with drawn:=w.drawn+1 }:=⟨σ,I,fun _ h=>h,fun _ h=>.inl h,⟨⟨R.heap.ok,R.heap.keys,R.heap.nodup,R.heap.apart,R.heap.low⟩,R.size,R.vals,R.defers⟩,fun _ _=>rfl,⟨Nat.le_refl _,rfl,rfl,rfl⟩,fun _ _ _=>rfl,fun b hb=>.inl hb⟩
 have hno:∀ i,(Array.replicate ops.size false).getD i false=false:=fun i=>by
  rw [Array.getD_eq_getD_getElem?,Array.getElem?_replicate]
  split <;> rfl
 refine y4b hS hF n ops.size [] _ I σ e h a { w with drawn:=w.drawn+1 } hr (by simp) (fun i hi=>by rw [hno] at hi; cases hi) (fun i=>⟨fun hi=>(by rw [hno] at hi; cases hi),fun hi=>(nomatch hi)⟩) (fun i hi=>(nomatch hi)) List.nodup_nil (by simp) ⟨⟨R.heap.ok,R.heap.keys,R.heap.nodup,R.heap.apart,R.heap.low⟩,R.size,R.vals,R.defers⟩ (fun hf a' w' S=>?_) (fun u hu a' w' S=>?_)
 ·exact hQ hf a' w' (Step.trans (P:=P) (w1:={ w with drawn:=w.drawn+1 }) (h1:=h) (σ1:=σ) (I1:=I) (fun _ h=>h) (fun _ h=>.inl h) (fun _ _=>rfl) ⟨Nat.le_refl _,rfl,rfl,rfl⟩ (fun _ _ _=>rfl) (fun b hb=>.inl hb) S)
 ·exact hX u hu a' w' (Step.trans (P:=P) (w1:={ w with drawn:=w.drawn+1 }) (h1:=h) (σ1:=σ) (I1:=I) (fun _ h=>h) (fun _ h=>.inl h) (fun _ _=>rfl) ⟨Nat.le_refl _,rfl,rfl,rfl⟩ (fun _ _ _=>rfl) (fun b hb=>.inl hb) S)
end
inductive IC where
 | reg (keep:List Nat) (l:List Ins)
 | draw (keep:List Nat) (pre:List (Ins×List Nat)) (tail:List Ins)
 | pan (l:List Ins) (d:Nat) (t:TypeId) (x:Operand)
 | bad
 | skip
 | seq (x y:IC)
 | cond (c:Operand) (x y:IC)
 | loop (x:IC)
 | block (id:Nat) (x:IC)
 | exit (id:Nat)
 | ret
inductive Out where
 | normal
 | exit (id:Nat)
 | ret
 | panic (u:Value)
def Out.ex:Out→Exit
 | .normal=>.normal
 | .exit id=>.exit id
 | .ret=>.ret
 | .panic u=>.panic [{ v:=u,recovered:=false }]
def zeh (P:Program) (N:Nat) (ops:Array Oper):Option (List Ins×Nat×TypeId×Operand) :=
 match ops.toList.reverse with
 | o2::o1::os =>
  match o2.op,o2.guard,o1.op,o1.guard,o1.dst with
  | .panic (.tmp s),none,.makeInterface t x,none,some d =>
   if s=d∧d<N∧P.concrete t=true then match z5t P N ops os.reverse with | some l=>some (l,d,t,x) | none=>none else none
  | _,_,_,_,_=>none
 | _=>none
def scL:List AV→Option (List Value)
 | []=>some []
 | .sc v::l=>match scL l with | some vs=>some (v::vs) | none=>none
 | _=>none
def scAV:AV→Option Value
 | .sc v=>some v
 | .ag cs=>match scL cs with | some vs=>some (.agg vs.toArray) | none=>none
 | _=>none
def z42 (P:Program) (N:Nat):Code→List (List Nat)→Option (IC×List (List Nat))
 | .region _ ops false,keep::ks=>match z5t P N ops ops.toList with | some l=>some (.reg keep l,ks) | none=>match zeh P N ops with | some (l,d,t,x)=>some (.pan l d t x,ks) | none=>some (.bad,ks)
 | .region _ ops true,keep::ks=>match z6j P N ops with | some (pre,tail)=>some (.draw keep pre tail,ks) | none=>none
 | .skip,ks=>some (.skip,ks)
 | .label _,ks=>some (.skip,ks)
 | .seq a b,ks=>match z42 P N a ks with | some (x,ks)=>(match z42 P N b ks with | some (y,ks)=>some (.seq x y,ks) | none=>none) | none=>none
 | .cond c a b,ks=>match z42 P N a ks with | some (x,ks)=>(match z42 P N b ks with | some (y,ks)=>some (.cond c x y,ks) | none=>none) | none=>none
 | .loop a,ks=>match z42 P N a ks with | some (x,ks)=>some (.loop x,ks) | none=>none
 | .block id a,ks=>match z42 P N a ks with | some (x,ks)=>some (.block id x,ks) | none=>none
 | .exit id,ks=>some (.exit id,ks)
 | .ret,ks=>some (.ret,ks)
 | _,_=>none
def preE (ds:List Nat) (e:Env):Env:=fun t=>kill (fun k _=>ds.contains k) (e t)
def z1l:List (Nat×AV)→Env
 | []=>fun _=>.un
 | (k,v)::l=>upd (z1l l) k v
def z6e (S:List Nat) (e:Env):Env:=z1l (S.map fun t=>(t,e t))
inductive Ex (P:Program) (pro:List Nat):IC→Env→H→Out→Env→H→Prop
 | reg {keep l e h e' h'}:RunG P pro l e h e' h'→Ex P pro (.reg keep l) e h .normal (z6e keep e') h'
 | regX {keep l e h u ex hx}:RunX P pro u ex hx l e h→Ex P pro (.reg keep l) e h (.panic u) ex hx
 | pan {l d t x e h e' h' u}:RunG P pro l e h e' h'→scAV (ev e' x)=some u→Ex P pro (.pan l d t x) e h (.panic (.iface t u)) (ptE (upd e' d .un)) h'
 | draw {keep pre tail e h l e' h'}:DPre P pre l (preE (pre.map (·.1.dst)) e) (z1f h (pre.map (·.1.dst)))→(∀ k ∈ z37 l,k ∈ pre.map (·.1.dst))→(∀ k ∈ pro,k ∉ pre.map (·.1.dst)) →
   RunG P pro tail (EX 0 l (fun _=>true) (preE (pre.map (·.1.dst)) e)) (HX 0 l (fun _=>true)++z1f h (pre.map (·.1.dst))) e' h'→Ex P pro (.draw keep pre tail) e h .normal (z6e keep e') h'
 | turn {keep pre tail e h e' h'}:zp6 P pro pre tail (pre.map (·.1.dst)) (preE (pre.map (·.1.dst)) e) (z1f h (pre.map (·.1.dst))) e' h'→(∀ k ∈ pro,k ∉ pre.map (·.1.dst))→Ex P pro (.draw keep pre tail) e h .normal (z6e keep e') h'
 | allN {keep pre tail e h n F e' h'}:(∀ e1 h1,F e1 h1→RunG P pro tail e1 h1 e' h')→RunA P pro pre F (fun _=>False) n [] e h→Ex P pro (.draw keep pre tail) e h .normal (z6e keep e') h'
 | allX {keep pre tail e h n u}:RunA P pro pre (fun _ _=>False) (fun v=>v=u) n [] e h→Ex P pro (.draw keep pre tail) e h (.panic u) nE []
 | skip {e h}:Ex P pro .skip e h .normal e h
 | seq {x y e h e1 h1 o e' h'}:Ex P pro x e h .normal e1 h1→Ex P pro y e1 h1 o e' h'→Ex P pro (.seq x y) e h o e' h'
 | seqX {x y e h o e' h'}:o ≠ .normal→Ex P pro x e h o e' h'→Ex P pro (.seq x y) e h o e' h'
 | cond {c x y e h b o e' h'}:ev e c = .sc (.bool b)→Ex P pro (if b then x else y) e h o e' h'→Ex P pro (.cond c x y) e h o e' h'
 | loop {x e h e1 h1 o e' h'}:Ex P pro x e h .normal e1 h1→Ex P pro (.loop x) e1 h1 o e' h'→Ex P pro (.loop x) e h o e' h'
 | loopX {x e h o e' h'}:o ≠ .normal→Ex P pro x e h o e' h'→Ex P pro (.loop x) e h o e' h'
 | block {id x e h e' h'}:Ex P pro x e h .normal e' h'→Ex P pro (.block id x) e h .normal e' h'
 | blockX {id x e h e' h'}:Ex P pro x e h (.exit id) e' h'→Ex P pro (.block id x) e h .normal e' h'
 | blockE {id id' x e h e' h'}:id' ≠ id→Ex P pro x e h (.exit id') e' h'→Ex P pro (.block id x) e h (.exit id') e' h'
 | blockR {id x e h e' h'}:Ex P pro x e h .ret e' h'→Ex P pro (.block id x) e h .ret e' h'
 | blockP {id x e h u e' h'}:Ex P pro x e h (.panic u) e' h'→Ex P pro (.block id x) e h (.panic u) e' h'
 | exit {id e h}:Ex P pro (.exit id) e h (.exit id) e h
 | ret {e h}:Ex P pro .ret e h .ret e h
 | ghost {c e h e1 h1 o e' h'}:zc P pro e h e1 h1→Ex P pro c e1 h1 o e' h'→Ex P pro c e h o e' h'
 | after {c e h e1 h1 o e' h'}:Ex P pro c e h o e1 h1→zc P pro e1 h1 e' h'→Ex P pro c e h o e' h'
section
variable {P:Program} {I:Nat→Prop} {N:Nat} [Dfs N] {σ σ1 σ':Pl} {w w1 w':World} {h h1 h':H} {e e1 e':Env} {a a1 a':Act} {ops:Array Oper} {Q:Exit→Act→World→Prop} {pro:List Nat}
theorem zc7 {B:zj} (hv:∀ t,Va I σ B (e t) (a.tmps.getD t undef)):∀ (S:List Nat) (t:Nat),Va I σ B (z1l (S.map fun t=>(t,e t)) t) (a.tmps.getD t undef)
 | [],_=>trivial
 | s::S,t=>by
  simp only [List.map_cons,z1l,upd]
  split
  ·rename_i h; subst h; exact hv _
  ·exact zc7 hv S t
theorem z90 {keep:List Nat}:zc P pro e h (z6e keep e) h:=fun I N _ σ a w R =>
 Step.of_rel ⟨R.heap,R.size,fun t=>zc7 R.vals keep t,R.defers⟩ rfl
def z3c (P:Program) (c:Code) (Q:Exit→Act→World→Prop) (a:Act) (w:World):Prop :=
 ∀ (b:Frame) (k:List Item) (cs:List Frame),∃ e a' w',Q e a' w'∧Arrives P (lone (b.at a (.code c :: .inLoop c::k)) cs w) b k cs e a' w'
theorem z3c.wp {c:Code} (hl:z3c P c Q a w):(Code.loop c).wp P Q a w:=fun b k cs =>
 let ⟨e,a',w',q,r⟩:=hl b k cs; ⟨e,a',w',q,.of_steps (.one step_loop) r⟩
theorem z3c.step {c:Code} (hw:c.wp P (Exit.then (z3c P c Q) Q) a w):z3c P c Q a w:=by
 intro b k cs
 obtain ⟨e,a₁,w₁,hq,harr⟩:=hw b (.inLoop c::k) cs
 cases e with
 | normal =>
  obtain ⟨e₂,a₂,w₂,hq₂,harr₂⟩:=hq b k cs
  exact ⟨e₂,a₂,w₂,hq₂,.of_steps (Steps.trans harr (.one step_inLoop)) harr₂⟩
 | exit id=>exact ⟨_,a₁,w₁,hq,.pass (x:=.inLoop c) rfl (fun _ _=>.inl (by simp)) harr⟩
 | goto l=>exact ⟨_,a₁,w₁,hq,.pass (x:=.inLoop c) rfl (fun _ _=>.inl (by simp)) harr⟩
 | ret=>exact ⟨_,a₁,w₁,hq,.pass (x:=.inLoop c) rfl (fun _ _=>.inl (by simp)) harr⟩
 | panic ch=>exact ⟨_,a₁,w₁,hq,.pass (x:=.inLoop c) rfl (fun _ _=>.inl (by simp)) harr⟩
 | outgrown=>exact ⟨_,a₁,w₁,hq,.pass (x:=.inLoop c) rfl (fun _ _=>.inl (by simp)) harr⟩
def IsC (P:Program) (N:Nat) (code:Code) (c:IC):Prop:=∃ ks ks',z42 P N code ks=some (c,ks')
theorem IsC.inv {code:Code} {c:IC} (hc:IsC P N code c):match c with
  | .reg _ l=>∃ id ops,code = .region id ops false∧z5t P N ops ops.toList=some l
  | .draw _ pre tail=>∃ id ops,code = .region id ops true∧z6j P N ops=some (pre,tail)
  | .pan l d t x=>∃ id ops,code = .region id ops false∧zeh P N ops=some (l,d,t,x)
  | .bad=>∃ id ops,code = .region id ops false
  | .skip=>code = .skip∨∃ l,code = .label l
  | .seq x y=>∃ a b,code = .seq a b∧IsC P N a x∧IsC P N b y
  | .cond o x y=>∃ a b,code = .cond o a b∧IsC P N a x∧IsC P N b y
  | .loop x=>∃ a,code = .loop a∧IsC P N a x
  | .block id x=>∃ a,code = .block id a∧IsC P N a x
  | .exit id=>code = .exit id
  | .ret=>code = .ret:=by
 obtain ⟨ks,ks',hc⟩:=hc
 unfold z42 at hc
 split at hc
 ·split at hc
  ·cases hc; exact ⟨_,_,rfl,by assumption⟩
  ·split at hc
   ·cases hc; exact ⟨_,_,rfl,by assumption⟩
   ·cases hc; exact ⟨_,_,rfl⟩
 ·split at hc
  ·cases hc; exact ⟨_,_,rfl,by assumption⟩
  ·cases hc
 ·cases hc; exact .inl rfl
 ·cases hc; exact .inr ⟨_,rfl⟩
 ·split at hc
  ·rename_i h1
   split at hc
   ·rename_i h2
    cases hc; exact ⟨_,_,rfl,⟨_,_,h1⟩,⟨_,_,h2⟩⟩
   ·cases hc
  ·cases hc
 ·split at hc
  ·rename_i h1
   split at hc
   ·rename_i h2
    cases hc; exact ⟨_,_,rfl,⟨_,_,h1⟩,⟨_,_,h2⟩⟩
   ·cases hc
  ·cases hc
 ·split at hc
  ·rename_i h1; cases hc; exact ⟨_,rfl,⟨_,_,h1⟩⟩
  ·cases hc
 ·split at hc
  ·rename_i h1; cases hc; exact ⟨_,rfl,⟨_,_,h1⟩⟩
  ·cases hc
 ·cases hc; rfl
 ·cases hc; rfl
 ·cases hc
theorem zyp {B:zj}:∀ (l:List AV) (us vs:List Value),scL l=some us→VaC I σ B l vs→vs=us
 | [],us,vs,h,hv=>by cases h; exact hv
 | x::l,us,vs,h,hv=>by
  obtain ⟨v,cs,rfl,_,h1,h2⟩:=hv
  cases x <;> simp only [scL] at h <;> first | (cases h; done) | skip
  split at h
  ·rename_i us' hu
   cases h
   obtain rfl:v=_:=h1
   rw [zyp l _ _ hu h2]
  ·cases h
theorem y5u {B:zj} {x:AV} {u v:Value} (h:scAV x=some u) (hv:Va I σ B x v):v=u:=by
 cases x <;> simp only [scAV] at h <;> first | (cases h; done) | skip
 ·cases h; exact hv
 ·split at h
  ·rename_i us hu
   cases h
   obtain ⟨a,rfl,h2⟩:=hv
   rw [← zyp _ _ _ hu h2]
  ·cases h
theorem zyf {l:List Ins} {d:Nat} {t:TypeId} {x:Operand} {u:Value} (hl:zeh P N ops=some (l,d,t,x)) (R:Rel I N σ e h a w) (hr:RunG P pro l e h e' h') (hu:scAV (ev e' x)=some u)
  (hQ:∀ a' w',Step P I N pro σ h w (ptE (upd e' d .un)) h' a' w'→Q (.panic [{ v:=.iface t u,recovered:=false }]) a' w'):wpOps P ops Q (List.range ops.size) a w:=by
 unfold zeh at hl
 split at hl
 ·rename_i o2 o1 os hrev
  split at hl
  ·rename_i s t' x' d' h1 h2 h3 h4 h5
   split at hl
   ·rename_i hc
    obtain ⟨rfl,hd,hcon⟩:=hc
    split at hl
    ·rename_i l' hl'
     cases hl
     have hlist:ops.toList=os.reverse++[o1,o2]:=by
      have:=congrArg List.reverse hrev
      simpa using this
     have hsz:ops.size=os.reverse.length+2:=by
      rw [← Array.length_toList,hlist]; simp
     have hg:∀ j,ops[j]? = (os.reverse++[o1,o2])[j]?:=fun j=>by rw [← hlist,Array.getElem?_toList]
     have hcm:=z5c (P:=P) (N:=N) (ops:=ops) os.reverse 0 _ (fun j hj=>by rw [Nat.zero_add,hg,List.getElem?_append_left hj]) hl'
     have hrange:List.range ops.size=List.range' 0 os.reverse.length++[os.reverse.length,os.reverse.length+1]:=by
      rw [hsz,List.range_eq_range',show os.reverse.length+2=os.reverse.length+2 from rfl,← List.range'_append_1]
      simp [List.range']
     rw [hrange]
     refine RunG.sound' hr I _ σ a w hcm R fun a1 w1 S=>?_
     obtain ⟨σ1,I1,i1,i2,R1,p1,p2,p3,p4⟩:=S.out
     have e1:ops[os.reverse.length]? = some o1:=by rw [hg]; simp
     have e2:ops[os.reverse.length+1]? = some o2:=by rw [hg,List.getElem?_append_right (by omega)]; simp
     have hv:=y5u hu (zt R1 x)
     rw [wpOps_cons]
     unfold wpOp
     have hw1:Region.wanted o1 (yielded ops a1.tmps)=true:=by simp [Region.wanted,h4]
     simp only [e1,hw1,if_true]
     refine .inl ?_
     unfold Oper.wp
     have hx1:(execOp a1.eval o1).run P w1 = .ok (.value (.iface t u)) w1:=by
      simp only [execOp,h3,Sem.run_bind,run_makeInterface w1 t _ hcon,Result.andThen_ok,Sem.run_pure,hv]
     rw [hx1,Oper.upon_value,h5,wpOps_cons]
     unfold wpOp
     have hw2:∀ a,Region.wanted o2 (yielded ops a)=true:=fun a=>by simp [Region.wanted,h2]
     simp only [e2,hw2,if_true]
     refine .inl ?_
     unfold Oper.wp
     have hev:(a1.put (some d) (.iface t u)).eval (.tmp d) = .iface t u:=by
      show (a1.put (some d) (.iface t u)).tmps.getD d undef=_
      rw [Act.getD_put (Nat.lt_of_lt_of_le hd R1.size),if_pos rfl]
     have hx2:(execOp (a1.put (some d) (.iface t u)).eval o2).run P w1 = .halt (.panic (.iface t u)) w1:=by
      simp only [execOp,h1,hev,Sem.run_bind]
      rfl
     rw [hx2,Oper.upon_panic]
     exact hQ _ _ (Step.trans i1 i2 p1 p2 p3 p4 (zc.unE I1 N σ1 _ _ (Rel.put (v:=.iface t u) R1.heap R1.size R1.vals R1.defers hd (show Va I1 σ1 (bl w1) .un _ from trivial))))
    ·cases hl
   ·cases hl
  ·cases hl
 ·cases hl
def Owes (P:Program) (N:Nat) [Dfs N] (pro:List Nat) (c:IC) (e:Env) (h:H) (o:Out) (e':Env) (h':H):Prop :=
 ∀ (code:Code),IsC P N code c→∀ (I:Nat→Prop) (σ:Pl) (a:Act) (w:World),Rel I N σ e h a w→∀ (Q:Exit→Act→World→Prop),
  (∀ a' w',Step P I N pro σ h w e' h' a' w'→Q o.ex a' w')→code.wp P Q a w∧∀ body,code = .loop body→z3c P body Q a w
theorem Owes.of_wp {c:IC} {o:Out} (hno:∀ x,c ≠ .loop x) (H:∀ (code:Code),IsC P N code c→∀ (I:Nat→Prop) (σ:Pl) (a:Act) (w:World),Rel I N σ e h a w→∀ (Q:Exit→Act→World→Prop),
  (∀ a' w',Step P I N pro σ h w e' h' a' w'→Q o.ex a' w')→code.wp P Q a w):Owes P N pro c e h o e' h':=fun code hc I σ a w R Q hQ =>
 ⟨H code hc I σ a w R Q hQ,fun body hb=>by
  subst hb
  obtain ⟨ks,ks',hc⟩:=hc
  simp only [z42] at hc
  split at hc
  ·cases hc; exact absurd rfl (hno _)
  ·cases hc⟩
theorem Ex.owes {c:IC} {o:Out} (hx:Ex P pro c e h o e' h'):Owes P N pro c e h o e' h':=by
 induction hx with
 | reg hr =>
  refine Owes.of_wp (fun _=>by simp) fun code hc I σ a w R Q hQ=>?_
  obtain ⟨id,ops,rfl,hl⟩:=hc.inv
  apply wp_region
  have hcm:=z5c (P:=P) (N:=N) (ops:=ops) ops.toList 0 _ (fun j _=>by simp) hl
  rw [List.range_eq_range']
  refine RunG.sound hr I _ σ a w (by simpa using hcm) R fun a' w' S=>?_
  obtain ⟨σ1,I1,i1,i2,R1,p1,p2,p3,p4⟩:=S.out
  exact hQ a' w' (Step.trans i1 i2 p1 p2 p3 p4 (z90 I1 N σ1 a' w' R1))
 | regX hr =>
  refine Owes.of_wp (fun _=>by simp) fun code hc I σ a w R Q hQ=>?_
  obtain ⟨id,ops,rfl,hl⟩:=hc.inv
  apply wp_region
  have hcm:=z5c (P:=P) (N:=N) (ops:=ops) ops.toList 0 _ (fun j _=>by simp) hl
  rw [List.range_eq_range']
  exact RunX.sound hr I _ σ a w (by simpa using hcm) R hQ
 | pan hr hu =>
  refine Owes.of_wp (fun _=>by simp) fun code hc I σ a w R Q hQ=>?_
  obtain ⟨id,ops,rfl,hl⟩:=hc.inv
  apply wp_region
  exact zyf hl R hr hu hQ
 | draw hp hks hpro hr =>
  refine Owes.of_wp (fun _=>by simp) fun code hc I σ a w R Q hQ=>?_
  obtain ⟨id,ops,rfl,hl⟩:=hc.inv
  refine zs7 hl R hp hks hpro hr (fun a' w' S=>?_) id
  obtain ⟨σ1,I1,i1,i2,R1,p1,p2,p3,p4⟩:=S.out
  exact hQ a' w' (Step.trans i1 i2 p1 p2 p3 p4 (z90 I1 N σ1 a' w' R1))
 | turn hp hpro =>
  refine Owes.of_wp (fun _=>by simp) fun code hc I σ a w R Q hQ=>?_
  obtain ⟨id,ops,rfl,hl⟩:=hc.inv
  refine zt3 hl R hp hpro (fun a' w' S=>?_) id
  obtain ⟨σ1,I1,i1,i2,R1,p1,p2,p3,p4⟩:=S.out
  exact hQ a' w' (Step.trans i1 i2 p1 p2 p3 p4 (z90 I1 N σ1 a' w' R1))
 | allN hF hr =>
  refine Owes.of_wp (fun _=>by simp) fun code hc I σ a w R Q hQ=>?_
  obtain ⟨id,ops,rfl,hl⟩:=hc.inv
  refine zjl hl R hF hr (fun _ a' w' S=>?_) (fun u hu=>hu.elim) id
  obtain ⟨σ1,I1,i1,i2,R1,p1,p2,p3,p4⟩:=S.out
  exact hQ a' w' (Step.trans i1 i2 p1 p2 p3 p4 (z90 I1 N σ1 a' w' R1))
 | allX hr =>
  refine Owes.of_wp (fun _=>by simp) fun code hc I σ a w R Q hQ=>?_
  obtain ⟨id,ops,rfl,hl⟩:=hc.inv
  exact zjl (e':=nE) (h':=[]) hl R (fun _ _ hf=>hf.elim) hr (fun ⟨_,_,hf⟩=>hf.elim) (fun v hv a' w' S=>by rw [hv]; exact hQ a' w' S) id
 | skip =>
  refine Owes.of_wp (fun _=>by simp) fun code hc I σ a w R Q hQ=>?_
  rcases hc.inv with rfl | ⟨l,rfl⟩
  ·exact wp_skip (hQ _ _ (Step.of_rel R rfl))
  ·exact wp_label (hQ _ _ (Step.of_rel R rfl))
 | seq _ _ ih1 ih2 =>
  refine Owes.of_wp (fun _=>by simp) fun code hc I σ a w R Q hQ=>?_
  obtain ⟨x,y,rfl,h1,h2⟩:=hc.inv
  refine wp_seq (ih1 x h1 I σ a w R _ fun a1 w1 S=>?_).1
  obtain ⟨σ1,I1,i1,i2,R1,p1,p2,p3,p4⟩:=S.out
  exact (ih2 y h2 I1 σ1 a1 w1 R1 Q fun a' w' S'=>hQ a' w' (Step.trans i1 i2 p1 p2 p3 p4 S')).1
 | seqX hne _ ih1 =>
  refine Owes.of_wp (fun _=>by simp) fun code hc I σ a w R Q hQ=>?_
  obtain ⟨x,y,rfl,h1,h2⟩:=hc.inv
  refine wp_seq (ih1 x h1 I σ a w R _ fun a1 w1 S=>?_).1
  rename_i o _ _ _
  cases o with
  | normal=>exact absurd rfl hne
  | exit id=>exact hQ _ _ S
  | ret=>exact hQ _ _ S
  | panic u=>exact hQ _ _ S
 | cond hb _ ih =>
  refine Owes.of_wp (fun _=>by simp) fun code hc I σ a w R Q hQ=>?_
  obtain ⟨x,y,rfl,h1,h2⟩:=hc.inv
  rename_i c x' y' e h b o e' h' _
  have hv:=zt R c
  rw [hb] at hv
  refine wp_cond hv ?_
  cases b
  ·exact (ih y h2 I σ a w R Q hQ).1
  ·exact (ih x h1 I σ a w R Q hQ).1
 | loop _ _ ih1 ih2 =>
  intro code hc I σ a w R Q hQ
  have hcc:=hc
  obtain ⟨x,rfl,h1⟩:=hc.inv
  have key:z3c P x Q a w:=by
   refine z3c.step (ih1 x h1 I σ a w R _ fun a1 w1 S=>?_).1
   obtain ⟨σ1,I1,i1,i2,R1,p1,p2,p3,p4⟩:=S.out
   exact (ih2 _ hcc I1 σ1 a1 w1 R1 Q fun a' w' S'=>hQ a' w' (Step.trans i1 i2 p1 p2 p3 p4 S')).2 x rfl
  exact ⟨key.wp,fun body hb=>by cases hb; exact key⟩
 | loopX hne _ ih1 =>
  intro code hc I σ a w R Q hQ
  obtain ⟨x,rfl,h1⟩:=hc.inv
  have key:z3c P x Q a w:=by
   refine z3c.step (ih1 x h1 I σ a w R _ fun a1 w1 S=>?_).1
   rename_i o _ _ _
   cases o with
   | normal=>exact absurd rfl hne
   | exit id=>exact hQ _ _ S
   | ret=>exact hQ _ _ S
   | panic u=>exact hQ _ _ S
  exact ⟨key.wp,fun body hb=>by cases hb; exact key⟩
 | block _ ih =>
  refine Owes.of_wp (fun _=>by simp) fun code hc I σ a w R Q hQ=>?_
  obtain ⟨x,rfl,h1⟩:=hc.inv
  exact wp_block (ih x h1 I σ a w R (Exit.inBlock _ Q) fun a1 w1 S=>hQ a1 w1 S).1
 | blockX _ ih =>
  refine Owes.of_wp (fun _=>by simp) fun code hc I σ a w R Q hQ=>?_
  obtain ⟨x,rfl,h1⟩:=hc.inv
  exact wp_block (ih x h1 I σ a w R _ fun a1 w1 S=>by simp only [Out.ex,Exit.inBlock,if_true]; exact hQ _ _ S).1
 | blockE hne _ ih =>
  refine Owes.of_wp (fun _=>by simp) fun code hc I σ a w R Q hQ=>?_
  obtain ⟨x,rfl,h1⟩:=hc.inv
  exact wp_block (ih x h1 I σ a w R _ fun a1 w1 S=>by simp only [Out.ex,Exit.inBlock,if_neg hne]; exact hQ _ _ S).1
 | blockR _ ih =>
  refine Owes.of_wp (fun _=>by simp) fun code hc I σ a w R Q hQ=>?_
  obtain ⟨x,rfl,h1⟩:=hc.inv
  exact wp_block (ih x h1 I σ a w R (Exit.inBlock _ Q) fun a1 w1 S=>hQ a1 w1 S).1
 | blockP _ ih =>
  refine Owes.of_wp (fun _=>by simp) fun code hc I σ a w R Q hQ=>?_
  obtain ⟨x,rfl,h1⟩:=hc.inv
  exact wp_block (ih x h1 I σ a w R (Exit.inBlock _ Q) fun a1 w1 S=>hQ a1 w1 S).1
 | exit =>
  refine Owes.of_wp (fun _=>by simp) fun code hc I σ a w R Q hQ=>?_
  have:=hc.inv
  simp only at this
  subst this
  exact wp_exit (hQ _ _ (Step.of_rel R rfl))
 | ret =>
  refine Owes.of_wp (fun _=>by simp) fun code hc I σ a w R Q hQ=>?_
  have:=hc.inv
  simp only at this
  subst this
  exact wp_ret (hQ _ _ (Step.of_rel R rfl))
 | ghost hg _ ih =>
  intro code hc I σ a w R Q hQ
  obtain ⟨σ1,I1,i1,i2,R1,p1,p2,p3,p4⟩:=(hg I N σ a w R).out
  exact ih code hc I1 σ1 a w R1 Q fun a' w' S'=>hQ a' w' (Step.trans i1 i2 p1 p2 p3 p4 S')
 | after _ hg ih =>
  intro code hc I σ a w R Q hQ
  refine ih code hc I σ a w R Q fun a1 w1 S=>?_
  obtain ⟨σ1,I1,i1,i2,R1,p1,p2,p3,p4⟩:=S.out
  exact hQ a1 w1 (Step.trans i1 i2 p1 p2 p3 p4 (hg I1 N σ1 a1 w1 R1))
end
def argE:Nat→List AV→Env
 | _,[]=>fun _=>.un
 | n,x::l=>upd (argE (n+1) l) n x
inductive RS where
 | t (s:Nat)
 | c (s:Nat) (agg:Bool) (n:Nat)
def z33 (P:Program):List ResultVar→Option (List RS)
 | []=>some []
 | .tmp t::l=>match z33 P l with | some ts=>some (.t t::ts) | none=>none
 | .cell a t::l=>match z33 P l,z3s P t,szT P t with | some ts,some agg,some n=>some (.c a agg n::ts) | _,_,_=>none
def rsAV (e:Env) (h:H):RS→Option AV
 | .t s=>some (e s)
 | .c s agg n=>rdop (ev e) (res h) (.load agg n (.tmp s))
def z7a (e:Env) (h:H):List RS→Option (List AV)
 | []=>some []
 | r::l=>match rsAV e h r,z7a e h l with | some x,some xs=>some (x::xs) | _,_=>none
def z4s (e:Env) (h:H) (l:List RS):Option AV :=
 match z7a e h l with
 | some [x]=>some x
 | some xs=>some (.tu xs)
 | none=>none
structure FnIs (P:Program) (f:Nat) (N:Nat) (c:IC) (ts:List RS):Prop where
 is:∃ fn code,P.funcs[f]? = some fn∧fn.body=some code∧fn.ntmps=N∧z33 P fn.results.toList=some ts∧IsC P N code c
section
variable {P:Program} {I:Nat→Prop} {N:Nat} [Dfs N] {σ σ1 σ':Pl} {B:zj} {w w1 w':World} {h h1 h':H} {e e1 e':Env} {a a1 a':Act} {pro:List Nat}
theorem zb2:∀ (l:List AV) (n:Nat) (pre vs suf:List Value),pre.length=n→VaL I σ B l vs→∀ t,Va I σ B (argE n l t) ((pre++vs++suf).getD t undef)
 | [],n,pre,vs,suf,_,_,t=>by simp only [argE]; trivial
 | x::l,n,pre,_,suf,hn,h,t=>by
  obtain ⟨v,cs,rfl,h1,h2⟩:=h
  simp only [argE,upd]
  split
  ·rename_i ht
   subst ht hn
   simpa using h1
  ·have:=zb2 l (n+1) (pre++[v]) cs suf (by simp [hn]) h2 t
   simpa using this
theorem zzg (R:Rel I N σ e h a w) {s:Nat} {t:TypeId} {agg:Bool} {n:Nat} (ha:z3s P t=some agg) (hs:szT P t=some n) {av:AV} (hr:rdop (ev e) (res h) (.load agg n (.tmp s))=some av) :
  ∃ v,(do loadVar t (← asAddr (a.tmps.getD s undef)):Sem Value).run P w = .ok v w∧Va I σ (bl w) av v:=by
 obtain ⟨v,h1,h2⟩:=zi7 R ha hs hr
 refine ⟨v,?_,h2⟩
 have hx:=zt R (.tmp s)
 have hp:∃ A,a.eval (.tmp s) = .pointer (some A):=by
  simp only [rdop] at hr
  split at hr
  ·rename_i k p i c hk
   rw [hk] at hx
   obtain ⟨L,hL,hv⟩:=hx
   exact ⟨_,hv⟩
  ·rename_i s' xs i c hk
   rw [hk] at hx
   obtain ⟨A,cur,E,fr,hv,_⟩:=hx
   exact ⟨_,hv⟩
  ·rename_i b x' c hk
   rw [hk] at hx
   exact ⟨_,hx.1⟩
  ·rename_i k cs i hk
   rw [hk] at hx
   obtain ⟨L,A,cur,E,fr,hL,hv,_⟩:=hx
   exact ⟨_,hv⟩
  ·cases hr
 obtain ⟨A,hA⟩:=hp
 have hA':a.tmps.getD s undef = .pointer (some A):=hA
 rw [hA] at h1
 rw [hA']
 simpa [Instr.loadAt,Instr.sureAddr,asAddr] using h1
theorem z69 (R:Rel I N σ e h a w) (fn:Func) {ts:List RS} (hts:z33 P fn.results.toList=some ts) {r:AV} (hr:z4s e h ts=some r):∃ v,(results fn a.tmps).run P w = .ok v w∧Va I σ (bl w) r v:=by
 have key:∀ (f:ResultVar→Sem Value),(∀ t,f (.tmp t)=pure (a.tmps.getD t undef))→(∀ s t,f (.cell s t)=do loadVar t (← asAddr (a.tmps.getD s undef)))→∀ (l:List ResultVar) (ts:List RS) (xs:List AV),z33 P l=some ts→z7a e h ts=some xs →
   ∃ vs,(l.mapM f:Sem (List Value)).run P w = .ok vs w∧VaL I σ (bl w) xs vs:=by
  intro f hf hf2 l
  induction l with
  | nil=>intro ts xs h1 h2; simp only [z33,Option.some.injEq] at h1; subst h1; simp only [z7a,Option.some.injEq] at h2; subst h2; exact ⟨[],by simp,rfl⟩
  | cons x l ih =>
   intro ts xs h1 h2
   cases x with
   | tmp t =>
    simp only [z33] at h1
    split at h1
    ·rename_i ts' h'
     cases h1
     simp only [z7a,rsAV] at h2
     split at h2
     ·rename_i x xs' hx hxs
      cases hx
      cases h2
      obtain ⟨vs,q1,q2⟩:=ih ts' xs' h' hxs
      exact ⟨a.tmps.getD t undef::vs,by simp only [List.mapM_cons,hf,Sem.run_bind,Sem.run_pure,Result.andThen_ok,q1],_,_,rfl,R.vals t,q2⟩
     ·cases h2
    ·cases h1
   | cell s t =>
    simp only [z33] at h1
    split at h1
    ·rename_i ts' agg n h' ha hn
     cases h1
     simp only [z7a,rsAV] at h2
     split at h2
     ·rename_i x xs' hx hxs
      cases h2
      obtain ⟨vs,q1,q2⟩:=ih ts' xs' h' hxs
      obtain ⟨v,q3,q4⟩:=zzg R ha hn hx
      exact ⟨v::vs,by rw [List.mapM_cons,hf2,Sem.run_bind,q3,Result.andThen_ok]; simp only [Sem.run_bind,Sem.run_pure,Result.andThen_ok,q1],_,_,rfl,q4,q2⟩
     ·cases h2
    ·cases h1
 unfold z4s at hr
 cases hxs:z7a e h ts with
 | none=>simp [hxs] at hr
 | some xs =>
  let f:ResultVar→Sem Value:=fun x=>match x with | .tmp t=>pure (a.tmps.getD t undef) | .cell s t=>do loadVar t (← asAddr (a.tmps.getD s undef))
  obtain ⟨vs,q1,q2⟩:=key f (fun t=>rfl) (fun s t=>rfl) fn.results.toList ts xs hts hxs
  have hres:results fn a.tmps=(do
   let vs ← fn.results.mapM f
   pure (if h:vs.size=1 then vs[0] else .tuple vs)):=rfl
  rw [hres,Array.mapM_eq_mapM_toList]
  simp only [Sem.run_bind,Sem.run_map]
  rw [q1]
  simp only [Result.andThen_ok,Sem.run_pure]
  refine ⟨_,rfl,?_⟩
  simp only [hxs] at hr
  match xs,vs,q2,hr with
  | [],vs,q2,hr =>
   simp only [VaL] at q2
   subst q2
   cases hr
   exact ⟨_,rfl,rfl⟩
  | [x],vs,q2,hr =>
   obtain ⟨v,vs',rfl,q3,q4⟩:=q2
   simp only [VaL] at q4
   subst q4
   cases hr
   exact q3
  | x::y::xs,vs,q2,hr =>
   obtain ⟨v,vs',rfl,q3,q4⟩:=q2
   obtain ⟨v2,vs2,rfl,q5,q6⟩:=q4
   cases hr
   exact ⟨_,by simp,_,_,rfl,q3,_,_,rfl,q5,q6⟩
omit [Dfs N] in
theorem CallG.of_ex {f:Nat} {args:List AV} {hin hout:H} {c:IC} {ts:List RS} {o:Out} {r:AV} (hf:FnIs P f N c ts) (ho:(match o with | .exit _=>False | .panic _=>False | _=>True)) (hx:Ex P (hin.map Prod.fst) c (argE 0 args) hin o e' hout) (hr:z4s e' hout ts=some r):CallG P f args hin r hout:=by
 intro I σ w vs hh hv
 letI:Dfs N:=Dfs.none N
 obtain ⟨fn,code,h1,h2,h3,h4,h5⟩:=hf.is
 apply calls_of_wp h1 h2
 have R:Rel I N σ (argE 0 args) hin { tmps:=vs.toArray++Array.replicate (fn.ntmps - vs.toArray.size) undef,defers:=[] } w:=by
  refine ⟨hh,?_,fun t=>?_,rfl⟩
  ·simp only [Array.size_append,Array.size_replicate,List.size_toArray]
   omega
  ·have:=zb2 (I:=I) (σ:=σ) (B:=bl w) args 0 [] vs (List.replicate (fn.ntmps - vs.toArray.size) undef) rfl hv t
   have e2:(vs.toArray++Array.replicate (fn.ntmps - vs.toArray.size) undef)=(vs++List.replicate (fn.ntmps - vs.toArray.size) undef).toArray:=by
    apply Array.ext'
    simp
   simp only [e2]
   simpa [Array.getD_eq_getD_getElem?,List.getD_eq_getElem?_getD] using this
 refine (hx.owes (N:=N) code h5 I σ _ w R _ fun a' w' S=>?_).1
 obtain ⟨σ',I',i1,i2,R',p1,p2,p3,p4⟩:=S.out
 cases o with
 | exit id=>exact ho.elim
 | panic u=>exact ho.elim
 | normal =>
  obtain ⟨v,q1,q2⟩:=z69 R' fn h4 hr
  exact ⟨R'.defers,v,q1,v,σ',I',rfl,i1,i2,R'.heap,q2,p1,p2,p3,p4⟩
 | ret =>
  obtain ⟨v,q1,q2⟩:=z69 R' fn h4 hr
  exact ⟨R'.defers,v,q1,v,σ',I',rfl,i1,i2,R'.heap,q2,p1,p2,p3,p4⟩
omit [Dfs N] in
theorem z5p.of_ex {f:Nat} {args:List AV} {hin:H} {c:IC} {ts:List RS} {u:Value} (hf:FnIs P f N c ts) (hx:Ex P (hin.map Prod.fst) c (argE 0 args) hin (.panic u) e' h'):z5p P f args hin u:=by
 intro I σ w vs hh hv
 letI:Dfs N:=Dfs.none N
 obtain ⟨fn,code,h1,h2,h3,h4,h5⟩:=hf.is
 apply calls_of_wp h1 h2
 have R:Rel I N σ (argE 0 args) hin { tmps:=vs.toArray++Array.replicate (fn.ntmps - vs.toArray.size) undef,defers:=[] } w:=by
  refine ⟨hh,?_,fun t=>?_,rfl⟩
  ·simp only [Array.size_append,Array.size_replicate,List.size_toArray]
   omega
  ·have:=zb2 (I:=I) (σ:=σ) (B:=bl w) args 0 [] vs (List.replicate (fn.ntmps - vs.toArray.size) undef) rfl hv t
   have e2:(vs.toArray++Array.replicate (fn.ntmps - vs.toArray.size) undef)=(vs++List.replicate (fn.ntmps - vs.toArray.size) undef).toArray:=by
    apply Array.ext'
    simp
   simp only [e2]
   simpa [Array.getD_eq_getD_getElem?,List.getD_eq_getElem?_getD] using this
 refine (hx.owes (N:=N) code h5 I σ _ w R _ fun a' w' S=>?_).1
 obtain ⟨σ',I',i1,i2,R',p1,p2,p3,p4⟩:=S.out
 exact ⟨R'.defers,rfl,p2,p3⟩
theorem CallG.narrow {f:Nat} {args:List AV} {hin hout:H} {r:AV} (hc:CallG P f args hin r hout) (n1:noIm r=true) (n2:z6f hout=true):z28 P f args hin r hout:=fun I σ w vs hh hv =>
 (hc I σ w vs hh hv).mono fun en w' ⟨v,σ',I',h1,i1,i2,h2,h3,h4,h5,h6,h7⟩=>⟨v,σ',h1,HRel.narrow i1 n2 h2,Va.narrow r v n1 h3,h4,h5,h6,h7⟩
end
def W (P:Program) (pro:List Nat) (c:IC) (Q:Out→Env→H→Prop) (e:Env) (h:H):Prop:=∃ o e' h',Ex P pro c e h o e' h'∧Q o e' h'
def hx (D:List Nat):List (Nat×H)→H
 | []=>[]
 | (i,r)::l=>if D.contains i then r++hx D l else hx D l
def z3e:List (Nat×H)→H
 | []=>[]
 | (_,r)::l=>r++z3e l
def WDK (P:Program) (x:Ins×List Nat) (e:Env) (h:H) (K:AV→H→Prop):Prop:=∃ av rows,DOk P e h ⟨x.1,x.2,av,rows⟩∧K av rows
def WD (P:Program):List (Ins×List Nat)→Nat→Env→List (Nat×H)→H→(Env→H→Prop)→Prop
 | [],_,e,acc,h0,K=>zn ((z3e acc++h0).map Prod.fst)=true∧K e (z3e acc++h0)
 | x::l,i,e,acc,h0,K=>WDK P x e (hx x.2 acc++h0) fun av rows=>WD P l (i+1) (upd e x.1.dst av) (acc++[(i,rows)]) h0 K
def y44 (K:Env→H→Prop) (Q:Out→Env→H→Prop):Out→Env→H→Prop
 | .normal=>K
 | o=>Q o
def zcm (id:Nat) (Q:Out→Env→H→Prop):Out→Env→H→Prop
 | .exit id'=>if id'=id then Q .normal else Q (.exit id')
 | o=>Q o
section
variable {P:Program} {pro:List Nat} {e e1:Env} {h h1:H} {Q:Out→Env→H→Prop}
def z6b:Nat→List DOp→List (Nat×H)
 | _,[]=>[]
 | i,x::l=>(i,x.rows)::z6b (i+1) l
theorem zdi:∀ (l:List DOp) (i:Nat) (x:DOp),z6b i (l++[x])=z6b i l++[(i+l.length,x.rows)]
 | [],i,x=>by simp [z6b]
 | y::l,i,x=>by simp [z6b,zdi l (i+1) x]; omega
theorem zko:∀ (l:List DOp) (i:Nat),z3e (z6b i l)=HX i l (fun _=>true)
 | [],_=>rfl
 | x::l,i=>by simp [z6b,z3e,HX,zko l (i+1)]
theorem zxz {D:List Nat}:∀ (l:List DOp) (i:Nat),hx D (z6b i l)=HX i l (fun i=>D.contains i)
 | [],_=>rfl
 | x::l,i=>by simp only [z6b,hx,HX,zxz l (i+1)]
theorem zlx {X:Nat→Bool}:∀ (l l2:List DOp) (i:Nat),(∀ n,i+l.length≤n→X n=false)→HX i (l++l2) X=HX i l X
 | [],l2,i,hX=>by
  have:∀ (l2:List DOp) (i:Nat),(∀ n,i≤n→X n=false)→HX i l2 X=[]:=by
   intro l2
   induction l2 with
   | nil=>intro i _; rfl
   | cons y l2 ih=>intro i h; simp only [HX,h i (Nat.le_refl _),Bool.false_eq_true,if_false]; exact ih (i+1) fun n hn=>h n (by omega)
  simpa [HX] using this l2 i (by simpa using hX)
 | x::l,l2,i,hX=>by
  have ih:=zlx (X:=X) l l2 (i+1) (fun n hn=>hX n (by simp; omega))
  simp only [List.cons_append,HX,ih]
def chE:Env→List DOp→Env
 | e,[]=>e
 | e,x::l=>chE (upd e x.ins.dst x.av) l
theorem z8p:∀ (l:List DOp) (e:Env) (x:DOp),chE e (l++[x])=upd (chE e l) x.ins.dst x.av
 | [],_,_=>rfl
 | _::l,_,x=>z8p l _ x
theorem z9g {E0:Env}:∀ (l l2:List DOp),(dsts (l++l2)).Nodup→EX 0 (l++l2) (fun i=>decide (i<l.length)) E0=chE E0 l:=by
 intro l
 have key:∀ (n:Nat) (l l2:List DOp),l.length=n→(dsts (l++l2)).Nodup→EX 0 (l++l2) (fun i=>decide (i<l.length)) E0=chE E0 l:=by
  intro n
  induction n with
  | zero =>
   intro l l2 hl hn
   have:l=[]:=List.eq_nil_of_length_eq_zero hl
   subst this
   have:∀ (l2:List DOp) (i:Nat),EX i l2 (fun i=>decide (i<0)) E0=E0:=by
    intro l2
    induction l2 with
    | nil=>intro i; rfl
    | cons y l2 ih=>intro i; simp only [EX,Nat.not_lt_zero,decide_false,Bool.false_eq_true,if_false]; exact ih (i+1)
   simpa [chE] using this l2 0
  | succ n ih =>
   intro l l2 hl hn
   rcases List.eq_nil_or_concat l with rfl | ⟨l',x,rfl⟩
   ·cases hl
   ·have hl':l'.length=n:=by simpa using hl
    rw [List.concat_eq_append] at hn ⊢
    have h1:=ih l' (x::l2) hl' (by simpa using hn)
    rw [List.append_assoc,List.singleton_append] at hn ⊢
    rw [z8p,← h1]
    exact zgq (l'++x::l2) 0 l'.length _ _ x hn (by simp) (by simp) (fun m hm=>by
     have:m ≠ l'.length:=by omega
     simp only [List.length_append,List.length_cons,List.length_nil]
     rw [Bool.eq_iff_iff]
     simp only [decide_eq_true_eq]
     omega) (by simp)
 exact fun l2 hn=>key l.length l l2 rfl hn
theorem WD.sound {h0:H} {E0:Env} {K:Env→H→Prop}:∀ (pre:List (Ins×List Nat)) (l:List DOp),WD P pre l.length (chE E0 l) (z6b 0 l) h0 K→(l.map (·.ins.dst)++pre.map (·.1.dst)).Nodup →
  (∀ (j:Nat) (x:Ins×List Nat),pre[j]? = some x→∀ i ∈ x.2,i<l.length+j) →
  ∃ l2,l2.map (fun x=>(x.ins,x.dep))=pre∧(∀ (j:Nat) (x:DOp),l2[j]? = some x→DOk P (EX 0 (l++l2) (fun i=>decide (i<l.length+j)) E0) (HX 0 (l++l2) (fun i=>x.dep.contains i)++h0) x) ∧
   zn ((HX 0 (l++l2) (fun _=>true)++h0).map Prod.fst)=true∧K (EX 0 (l++l2) (fun _=>true) E0) (HX 0 (l++l2) (fun _=>true)++h0)
 | [],l,hw,hn,_=>by
  unfold WD at hw
  rw [zko] at hw
  refine ⟨[],rfl,fun j x h=>by simp at h,by simpa using hw.1,?_⟩
  have h1:=z9g (E0:=E0) l [] (by simpa [dsts] using hn)
  rw [List.append_nil] at h1 ⊢
  rw [(z9a (E0:=E0) l 0 (fun _=>true) (fun i=>decide (i<l.length)) (fun n _ hn2=>by simp; omega)).1,h1]
  exact hw.2
 | (xi,D)::pre,l,hw,hn,hd=>by
  have step:∀ (av:AV) (rows:H),DOk P (chE E0 l) (hx D (z6b 0 l)++h0) ⟨xi,D,av,rows⟩→WD P pre (l.length+1) (upd (chE E0 l) xi.dst av) (z6b 0 l++[(l.length,rows)]) h0 K →
    ∃ l2,l2.map (fun x=>(x.ins,x.dep))=(xi,D)::pre∧(∀ (j:Nat) (x:DOp),l2[j]? = some x→DOk P (EX 0 (l++l2) (fun i=>decide (i<l.length+j)) E0) (HX 0 (l++l2) (fun i=>x.dep.contains i)++h0) x) ∧
     zn ((HX 0 (l++l2) (fun _=>true)++h0).map Prod.fst)=true∧K (EX 0 (l++l2) (fun _=>true) E0) (HX 0 (l++l2) (fun _=>true)++h0):=by
   intro av rows hok hw
   obtain ⟨l2,q1,q2,q3,q4⟩:=WD.sound pre (l++[⟨xi,D,av,rows⟩]) (by rw [List.length_append,z8p,zdi,Nat.zero_add]; exact hw) (by simpa using hn) (fun j x hx i hi=>by
    have:=hd (j+1) x (by simpa using hx) i hi
    simp only [List.length_append,List.length_cons,List.length_nil]; omega)
   rw [List.append_assoc,List.singleton_append] at q2 q3 q4
   refine ⟨⟨xi,D,av,rows⟩::l2,by simp [q1],fun j x hj=>?_,q3,q4⟩
   cases j with
   | zero =>
    simp only [List.getElem?_cons_zero,Option.some.injEq] at hj
    subst hj
    rw [Nat.add_zero,z9g l _ (by rw [← q1] at hn; simpa [dsts,Function.comp_def] using hn),zlx l _ 0 (fun n hn2=>by
     have:∀ i ∈ D,i<l.length:=by simpa using hd 0 (xi,D) rfl
     cases hc:D.contains n with
     | false=>rfl
     | true=>have:=this n (by simpa using hc); omega),← zxz]
    exact hok
   | succ j =>
    have:=q2 j x (by simpa using hj)
    rw [show (l++[(⟨xi,D,av,rows⟩:DOp)]).length+j=l.length+(j+1) by simp; omega] at this
    exact this
  obtain ⟨av,rows,h1,h2⟩:=hw
  exact step av rows h1 h2
theorem y5d {l:List DOp} {pre:List (Ins×List Nat)} (h1:l.map (fun x=>(x.ins,x.dep))=pre) (h2:pre.all (fun x=>!isSt x.1.op)=true):∀ x ∈ l,isSt x.ins.op=false:=fun x hx=>by
 subst h1
 have:=List.all_eq_true.1 h2 (x.ins,x.dep) (List.mem_map.2 ⟨x,hx,rfl⟩)
 simpa using this
theorem W.skip (hq:Q .normal e h):W P pro .skip Q e h:=⟨_,_,_,.skip,hq⟩
theorem W.ret (hq:Q .ret e h):W P pro .ret Q e h:=⟨_,_,_,.ret,hq⟩
theorem W.exit {id:Nat} (hq:Q (.exit id) e h):W P pro (.exit id) Q e h:=⟨_,_,_,.exit,hq⟩
theorem W.seq {x y:IC} (hw:W P pro x (y44 (W P pro y Q) Q) e h):W P pro (.seq x y) Q e h:=by
 obtain ⟨o,e',h',h1,h2⟩:=hw
 cases o with
 | normal =>
  obtain ⟨o2,e2,h2',h3,h4⟩:=h2
  exact ⟨_,_,_,.seq h1 h3,h4⟩
 | exit id=>exact ⟨_,_,_,.seqX (by simp) h1,h2⟩
 | panic u=>exact ⟨_,_,_,.seqX (by simp) h1,h2⟩
 | ret=>exact ⟨_,_,_,.seqX (by simp) h1,h2⟩
theorem W.cond {c:Operand} {b:Bool} {x y:IC} (hc:ev e c = .sc (.bool b)) (ht:b=true→W P pro x Q e h) (hf:b=false→W P pro y Q e h):W P pro (.cond c x y) Q e h:=by
 cases b
 ·obtain ⟨o,e',h',h1,h2⟩:=hf rfl
  exact ⟨_,_,_,.cond hc h1,h2⟩
 ·obtain ⟨o,e',h',h1,h2⟩:=ht rfl
  exact ⟨_,_,_,.cond hc h1,h2⟩
theorem W.condT {c:Operand} {x y:IC} (hc:ev e c = .sc (.bool true)) (ht:W P pro x Q e h):W P pro (.cond c x y) Q e h:=W.cond hc (fun _=>ht) (fun h=>by cases h)
theorem W.condF {c:Operand} {x y:IC} (hc:ev e c = .sc (.bool false)) (ht:W P pro y Q e h):W P pro (.cond c x y) Q e h:=W.cond hc (fun h=>by cases h) (fun _=>ht)
theorem W.block {id:Nat} {x:IC} (hw:W P pro x (zcm id Q) e h):W P pro (.block id x) Q e h:=by
 obtain ⟨o,e',h',h1,h2⟩:=hw
 cases o with
 | normal=>exact ⟨_,_,_,.block h1,h2⟩
 | exit id' =>
  by_cases hid:id'=id
  ·subst hid
   simp only [zcm,if_true] at h2
   exact ⟨_,_,_,.blockX h1,h2⟩
  ·simp only [zcm,if_neg hid] at h2
   exact ⟨_,_,_,.blockE hid h1,h2⟩
 | ret=>exact ⟨_,_,_,.blockR h1,h2⟩
 | panic u=>exact ⟨_,_,_,.blockP h1,h2⟩
theorem W.loop {x:IC} (hw:W P pro x (y44 (W P pro (.loop x) Q) Q) e h):W P pro (.loop x) Q e h:=by
 obtain ⟨o,e',h',h1,h2⟩:=hw
 cases o with
 | normal =>
  obtain ⟨o2,e2,h2',h3,h4⟩:=h2
  exact ⟨_,_,_,.loop h1 h3,h4⟩
 | exit id=>exact ⟨_,_,_,.loopX (by simp) h1,h2⟩
 | panic u=>exact ⟨_,_,_,.loopX (by simp) h1,h2⟩
 | ret=>exact ⟨_,_,_,.loopX (by simp) h1,h2⟩
theorem W.ghost {c:IC} (hg:zc P pro e h e1 h1) (hw:W P pro c Q e1 h1):W P pro c Q e h:=by
 obtain ⟨o,e',h',h1,h2⟩:=hw
 exact ⟨_,_,_,.ghost hg h1,h2⟩
theorem W.mono {c:IC} {Q':Out→Env→H→Prop} (hw:W P pro c Q e h) (hq:∀ o e h,Q o e h→Q' o e h):W P pro c Q' e h:=by
 obtain ⟨o,e',h',h1,h2⟩:=hw
 exact ⟨_,_,_,h1,hq _ _ _ h2⟩
end
theorem z3x {n:Int} (h1 : -9223372036854775808≤n) (h2:n<9223372036854775808):IntKind.i64.wrap n=n:=by rw [IntKind.wrap_i64]; omega
section
variable {P:Program} {I:Nat→Prop} {N:Nat} [Dfs N] {σ σ':Pl} {w w':World} {h h':H} {e e':Env} {a a':Act} {pro:List Nat}
theorem CallG.norm {f:Nat} {args:List AV} {hin hout hb left:H} {r r':AV} (bm:List (Nat×Nat)) (hc:CallG P f args hin r hout) (hs:z2a hout bm=some (hb,left)) (hn:zn (bm.map Prod.fst)=true) (hbk:back bm r=some r')
  (hin':(hin.map Prod.fst).all (fun k=>look bm k==some k)=true):CallG P f args hin r' hb:=by
 intro I σ w vs hh hv
 refine (hc I σ w vs hh hv).mono ?_
 rintro en w' ⟨v,σ1,I',rfl,i1,i2,c1,c2,c3,c4,c5,c6⟩
 obtain ⟨b1,b2,b3,b4,b5,b6⟩:=z40 bm hout hb left c1 hs (zw _ hn)
 refine ⟨v,z1o bm σ1,I',rfl,i1,i2,b1,?_,fun k hk=>?_,c4,c5,fun b hb=>c6 b (b3 b hb).1⟩
 ·exact z5q (σ:=σ1) (fun k n hkn q=>z8d (zw _ hn) hkn q) r r' v hbk c2
 ·have:=List.all_eq_true.1 hin' k hk
  rw [beq_iff_eq] at this
  simp only [z1o,this]
  exact c3 k hk
def Ends (ts:List RS) (hin:H) (r:AV) (hout:H) (o:Out) (e:Env) (h:H):Prop :=
 (match o with | .exit _=>False | .panic _=>False | _=>True)∧∃ (bm:List (Nat×Nat)) (r0:AV) (left:H),z4s e h ts=some r0∧z2a h bm=some (hout,left)∧zn (bm.map Prod.fst)=true∧back bm r0=some r∧(hin.map Prod.fst).all (fun k=>look bm k==some k)=true
theorem CallG.of_E {f N:Nat} {args:List AV} {hin hout:H} {c:IC} {ts:List RS} {r:AV} (hf:FnIs P f N c ts) (hw:W P (hin.map Prod.fst) c (Ends ts hin r hout) (argE 0 args) hin):CallG P f args hin r hout:=by
 obtain ⟨o,e',h',h1,h2,bm,r0,left,h3,h4,h5,h6,h7⟩:=hw
 exact (CallG.of_ex hf h2 h1 h3).norm bm h4 h5 h6 h7
theorem Ends.ret {ts:List RS} {hin hout:H} {r:AV} (bm:List (Nat×Nat)) {r0:AV} {left:H} (h1:z4s e h ts=some r0) (h2:z2a h bm=some (hout,left)) (h3:zn (bm.map Prod.fst)=true) (h4:back bm r0=some r) (h5:(hin.map Prod.fst).all (fun k=>look bm k==some k)=true) :
  Ends ts hin r hout .ret e h:=⟨trivial,bm,r0,left,h1,h2,h3,h4,h5⟩
theorem zc.nil {t d s:Nat} (ht:e t = .zs) (hd:d ∉ h.map Prod.fst) (hp:pro.all (fun k=>k != d)=true):zc P pro e h (upd (z1i (fun k _=>k==d) e) t (.sl d [] 0 0)) ((d,⟨s,[]⟩)::h):=by
 intro I N _ σ a w R
 let σ1:Pl:=fun k q=>if k=d then none else σ k q
 have hne:∀ k,k ≠ d→∀ q,σ1 k q=σ k q:=fun k hk q=>if_neg hk
 have hrow:zr I σ1 (bl w) d ⟨s,[]⟩:=by
  unfold zr
  simp [σ1]
 have hfp:fpR σ1 d ⟨s,[]⟩=[]:=by
  unfold fpR
  simp [σ1]
 have hh:=R.heap.add (σ':=σ1) (w':=w) (k:=d) (r:=⟨s,[]⟩) hd hne (fun _ _ _=>rfl) (Nat.le_refl _) hrow (by rw [hfp]; exact List.nodup_nil) (by rw [hfp]; intro b hb; cases hb)
 refine ⟨σ1,I,fun _ h=>h,fun _ h=>.inl h,⟨hh,R.size,fun t'=>?_,R.defers⟩,fun k hk=>?_,Le.refl _,fun _ _ _=>rfl,fun b hb=>?_⟩
 ·unfold upd
  split
  ·rename_i htt
   subst htt
   have:=R.vals t'
   rw [ht] at this
   obtain ⟨x,hx⟩:=this
   simp only [Va,σ1,if_true]
   exact ⟨trivial,trivial,x,hx⟩
  ·exact Va.kill (fun k q hk=>hne k (by simpa using hk) q) _ _ (R.vals t')
 ·have:=List.all_eq_true.1 hp k hk
  exact hne k (by simpa using this) []
 ·rw [z1h,hfp,List.nil_append,fpH.ren h (fun k hk q=>hne k (fun e=>hd (e ▸ hk)) q)] at hb
  exact .inl hb
end
def idx {α:Type} (xs:List α) (i:Int):Option α:=if 0≤i then xs[i.toNat]? else none
def need {R:Type} (b:Prop) [Decidable b] (x:Option R):Option R:=if b then x else none
inductive Bo (S T R:Type) where
 | go (s:S)
 | out (t:T)
 | ret (r:R)
def iter {S T R:Type} (body:S→Option (Bo S T R)):Nat→S→Option (Bo S T R)
 | 0,_=>none
 | k+1,s=>match body s with
  | some (.go s')=>iter body k s'
  | x=>x
def Bo.then {S T R R':Type} (f:T→Option R') (g:R→Option R'):Bo S T R→Option R'
 | .go _=>none
 | .out t=>f t
 | .ret r=>g r
abbrev I64 (n:Int):AV:=.sc (.int .i64 n)
abbrev Bl (b:Bool):AV:=.sc (.bool b)
abbrev St (s:ByteArray):AV:=.sc (.string s)
theorem zyb {R:Type} {b:Prop} [Decidable b] {x:Option R} {r:R} (h:need b x=some r):b∧x=some r:=by
 unfold need at h
 split at h
 ·exact ⟨by assumption,h⟩
 ·cases h
theorem zgc {α:Type} {xs:List α} {i:Int} {y:α} (h:idx xs i=some y):0≤i∧i.toNat<xs.length∧xs[i.toNat]? = some y:=by
 unfold idx at h
 split at h
 ·exact ⟨by assumption,(List.getElem?_eq_some_iff.1 h).1,h⟩
 ·cases h
theorem zh {α β:Type} {x:Option α} {f:α→Option β} {r:β} (h:x.bind f=some r):∃ y,x=some y∧f y=some r:=Option.bind_eq_some_iff.1 h
def zc0 (bm:List (Nat×Nat)) (x:AV):AV:=match back bm x with | some y=>y | none=>.un
def zcv (pro:List Nat) (bm:List (Nat×Nat)) (S:List Nat) (e:Env) (h:H):Option (Env×H) :=
 match z2a h bm with
 | some (hs,_)=>if (zn (bm.map Prod.fst) && pro.all (fun k=>look bm k==some k))=true then some (z1l (S.map fun t=>(t,zc0 bm (e t))),hs) else none
 | none=>none
section
variable {P:Program} {I:Nat→Prop} {N:Nat} [Dfs N] {σ σ':Pl} {w w':World} {h h' h1:H} {e e' e1:Env} {a a':Act} {pro:List Nat}
theorem zc.norm {bm:List (Nat×Nat)} {S:List Nat} (hn:zcv pro bm S e h=some (e1,h1)):zc P pro e h e1 h1:=by
 unfold zcv at hn
 split at hn
 ·rename_i hs left hsp
  split at hn
  ·rename_i hc
   simp only [Option.some.injEq,Prod.mk.injEq] at hn
   obtain ⟨rfl,rfl⟩:=hn
   simp only [Bool.and_eq_true] at hc
   intro I N _ σ a w R
   obtain ⟨b1,b2,b3,b4,b5,b6⟩:=z40 bm h hs left R.heap hsp (zw _ hc.1)
   refine ⟨z1o bm σ,I,fun _ h=>h,fun _ h=>.inl h,⟨b1,R.size,fun t=>?_,R.defers⟩,fun k hk=>?_,Le.refl _,fun _ _ _=>rfl,fun b hb=>.inl (b3 b hb).1⟩
   ·refine zc7 (e:=fun t=>zc0 bm (e t)) (fun t=>?_) S t
    show Va I (z1o bm σ) (bl w) (zc0 bm (e t)) _
    unfold zc0
    split
    ·rename_i y hy
     exact z5q (σ:=σ) (fun k n hkn q=>z8d (zw _ hc.1) hkn q) _ _ _ hy (R.vals t)
    ·trivial
   ·have:=List.all_eq_true.1 hc.2 k hk
    rw [beq_iff_eq] at this
    simp only [z1o,this]
  ·cases hn
 ·cases hn
theorem zc.ipOne {t s i c:Nat} {xs:Els} {x:List AV} (ht:e t = .ip s xs i c) (hx:xs[i]? = some x):zc P pro e h (upd e t (.ip s [x] 0 c)) h:=by
 intro I N _ σ a w R
 refine Step.of_rel ⟨R.heap,R.size,fun t'=>?_,R.defers⟩ rfl
 unfold upd
 split
 ·rename_i htt
  subst htt
  have hv:=R.vals t'
  rw [ht] at hv
  obtain ⟨A,cur,E,fr,h1,h2,h3,h4,h5⟩:=hv
  have h6:=ImE.get xs _ h5 i x hx
  refine ⟨⟨A.block,A.off+i * s,none⟩,cur,E,fr,?_,rfl,h3,h4,h6.1,?_,trivial⟩
  ·rw [h1]; simp
  ·rw [List.drop_drop] at h6
   exact h6.2
 ·exact R.vals t'
end
def RG (P:Program) (pro keep:List Nat) (Q:Out→Env→H→Prop) (l:List Ins) (e:Env) (h:H):Prop:=∃ e' h',RunG P pro l e h e' h'∧Q .normal (z6e keep e') h'
def runL (pro:List Nat):Nat→List Ins→Env→H→Option (Env×H)
 | 0,_,e,h=>some (e,h)
 | _+1,[],_,_=>none
 | n+1,x::l,e,h =>
  match zo e x.guard with
  | none=>none
  | some false=>runL pro n l (upd e x.dst (z4d x.op)) h
  | some true =>
   match z2x pro e h x.dst x.op with
   | some (e1,h1)=>runL pro n l e1 h1
   | none=>none
def cutL (pro:List Nat) (n:Nat) (bm:List (Nat×Nat)) (S:List Nat) (l:List Ins) (e:Env) (h:H):Option (Env×H) :=
 match runL pro n l e h with
 | some (e',h')=>zcv pro bm S e' h'
 | none=>none
def finL (pro:List Nat) (keep:List Nat) (n:Nat) (bm:List (Nat×Nat)) (l:List Ins) (e:Env) (h:H):Option (Env×H) :=
 match l.drop n with
 | []=>cutL pro n bm keep l e h
 | _=>none
section
variable {P:Program} {pro keep:List Nat} {e e1:Env} {h h1:H} {Q:Out→Env→H→Prop} {l:List Ins}
theorem W.regG (hw:RG P pro keep Q l e h):W P pro (.reg keep l) Q e h:=by
 obtain ⟨e',h',h1,h2⟩:=hw
 exact ⟨_,_,_,.reg h1,h2⟩
theorem RG.ghost (hg:zc P pro e h e1 h1) (hw:RG P pro keep Q l e1 h1):RG P pro keep Q l e h:=by
 obtain ⟨e',h',r,q⟩:=hw
 exact ⟨e',h',.ghost hg r,q⟩
theorem RG.skip {x:Ins} (hx:zo e x.guard=some false) (hw:RG P pro keep Q l (upd e x.dst (z4d x.op)) h):RG P pro keep Q (x::l) e h:=by
 obtain ⟨e',h',r,q⟩:=hw
 exact ⟨e',h',.skip hx r,q⟩
theorem RG.step {x:Ins} (hx:zo e x.guard=some true) (hs:z2h P pro e h x.dst x.op e1 h1) (hw:RG P pro keep Q l e1 h1):RG P pro keep Q (x::l) e h:=by
 obtain ⟨e',h',r,q⟩:=hw
 exact ⟨e',h',.step hx hs r,q⟩
theorem RG.runL:∀ (n:Nat) (l:List Ins) (e:Env) (h:H),runL pro n l e h=some (e1,h1)→RG P pro keep Q (l.drop n) e1 h1→RG P pro keep Q l e h
 | 0,l,e,h,hr,hw=>by
  simp only [Loom.runL,Option.some.injEq,Prod.mk.injEq] at hr
  obtain ⟨rfl,rfl⟩:=hr
  exact hw
 | n+1,[],e,h,hr,hw=>by cases hr
 | n+1,x::l,e,h,hr,hw=>by
  unfold Loom.runL at hr
  split at hr
  ·cases hr
  ·rename_i hx
   exact RG.skip hx (RG.runL n l _ _ hr hw)
  ·rename_i hx
   split at hr
   ·rename_i e2 h2 hs
    exact RG.step hx (.plain hs) (RG.runL n l _ _ hr hw)
   ·cases hr
theorem RG.cut (n:Nat) (bm:List (Nat×Nat)) (S:List Nat) (e1:Env) (h1:H) (hc:cutL pro n bm S l e h=some (e1,h1)) (hw:RG P pro keep Q (l.drop n) e1 h1):RG P pro keep Q l e h:=by
 unfold cutL at hc
 split at hc
 ·rename_i e2 h2 hr
  exact RG.runL n l e h hr (RG.ghost (zc.norm hc) hw)
 ·cases hc
theorem zp0 (S:List Nat) (f:Nat→AV):z6e S (z1l (S.map fun t=>(t,f t)))=z1l (S.map fun t=>(t,f t)):=by
 have key:∀ (S:List Nat) (t:Nat),z1l (S.map fun t=>(t,f t)) t=if t ∈ S then f t else .un:=by
  intro S
  induction S with
  | nil=>intro t; rfl
  | cons s S ih =>
   intro t
   simp only [List.map_cons,z1l,upd]
   by_cases hts:t=s
   ·subst hts; simp
   ·simp [hts,ih]
 have k2:∀ (S:List Nat) (g:Nat→AV),(∀ t ∈ S,g t=f t)→S.map (fun t=>(t,g t))=S.map fun t=>(t,f t):=fun S g hg=>List.map_congr_left fun t ht=>by rw [hg t ht]
 unfold z6e
 rw [k2 S _ (fun t ht=>by rw [key S t,if_pos ht])]
theorem RG.fin (n:Nat) (bm:List (Nat×Nat)) (e1:Env) (h1:H) (hc:finL pro keep n bm l e h=some (e1,h1)) (hq:Q .normal e1 h1):RG P pro keep Q l e h:=by
 unfold finL at hc
 split at hc
 ·rename_i hl
  refine RG.cut n bm keep e1 h1 hc ?_
  rw [hl]
  refine ⟨e1,h1,.nil,?_⟩
  have:z6e keep e1=e1:=by
   unfold cutL at hc
   split at hc
   ·unfold zcv at hc
    split at hc
    ·split at hc
     ·simp only [Option.some.injEq,Prod.mk.injEq] at hc
      rw [← hc.1]
      exact zp0 keep _
     ·cases hc
    ·cases hc
   ·cases hc
  rw [this]
  exact hq
 ·cases hc
end
def loV:Option AV→Option Int
 | none=>some 0
 | some l=>nat? l
def hiV (len:Nat):Option AV→Option Int
 | none=>some len
 | some l=>nat? l
theorem za8 {len:Nat} {lo hi:Option AV} {a b:Int} (ha:loV lo=some a) (hb:hiV len hi=some b) (hc:0≤a∧a≤b∧b≤len):z65 len lo hi=some (a.toNat,b.toNat):=by
 unfold z65
 cases lo <;> cases hi <;> simp only [loV,hiV] at ha hb <;> simp only [ha,hb] <;> first | rw [if_pos hc] | (simp only [Option.some.injEq] at ha hb; subst ha; subst hb; rw [if_pos hc]) | (simp only [Option.some.injEq] at ha; subst ha; rw [if_pos hc]) | (simp only [Option.some.injEq] at hb; subst hb; rw [if_pos hc])
section
variable {P:Program} {pro keep:List Nat} {e e1:Env} {h h1:H} {Q:Out→Env→H→Prop} {l:List Ins} {R:Type} {r:R} {g:Option (Nat×Bool)} {d:Nat}
theorem RG.rd {b:IB} {av:AV} (hw:zo e g=some true) (hop:rdop (ev e) (res h) b=some av) (hK:RG P pro keep Q l (upd e d av) h):RG P pro keep Q (⟨d,g,.rd b⟩::l) e h :=
 RG.step hw (.plain (by simp only [z2x,hop])) hK
theorem RG.iadIm {α:Type} {c:α→List AV} {xs:List α} {i:Int} {k:IntKind} {s:Nat} {x y:Operand} {E:α→Option R} (hw:zo e g=some true) (hx:ev e x = .im s (xs.map c)) (hi:ev e y = .sc (.int k i)) (hg:(idx xs i).bind E=some r)
  (hK:∀ z,idx xs i=some z→E z=some r→RG P pro keep Q l (upd e d (.ip s [c z] 0 0)) h):RG P pro keep Q (⟨d,g,.rd (.iad s x y)⟩::l) e h:=by
 obtain ⟨z,hz,hE⟩:=zh hg
 obtain ⟨h0,h1,h2⟩:=zgc hz
 have hlt:i<(xs.map c).length:=by rw [List.length_map]; omega
 refine RG.rd (av:=.ip s (xs.map c) i.toNat 0) hw (by simp only [rdop,hx,hi]; rw [if_pos ⟨trivial,h0,hlt⟩]) ?_
 have hgh:zc P pro (upd e d (.ip s (xs.map c) i.toNat 0)) h (upd (upd e d (.ip s (xs.map c) i.toNat 0)) d (.ip s [c z] 0 0)) h:=zc.ipOne (i:=i.toNat) (xs:=xs.map c) (by simp [upd]) (by simp [h2])
 refine RG.ghost hgh ?_
 have:upd (upd e d (.ip s (xs.map c) i.toNat 0)) d (.ip s [c z] 0 0)=upd e d (.ip s [c z] 0 0):=by
  funext t; unfold upd; split <;> rfl
 rw [this]
 exact hK z hz hE
theorem ziv {f f':Els→Els}:∀ (p:Path) (xs:Els) (s s':Nat) (ys:Els),resE s xs p=some (s',ys)→f ys=f' ys→updE xs p f=updE xs p f'
 | [],xs,s,s',ys,h,hf=>by
  simp only [resE,Option.some.injEq,Prod.mk.injEq] at h
  obtain ⟨_,rfl⟩:=h
  exact hf
 | (i,c)::p,xs,s,s',ys,h,hf=>by
  simp only [resE,updE] at h ⊢
  split at h
  ·cases h
  ·rename_i x hx
   split at h
   ·rename_i s2 zs hz
    rw [ziv p zs s2 s' ys h hf]
   ·cases h
def zb (s:ByteArray) (m:Int):Int:=(s.data.toList.getD m.toNat 0).toNat
inductive Abs:H→List AV→List AV→H→Prop
 | nil {h:H}:Abs h [] [] h
 | one {h:H} {a a':AV} {h1:H} {l l':List AV} {h2:H}:absC h a=some (a',h1)→Abs h1 l l' h2→Abs h (a::l) (a'::l') h2
 | row {h:H} {k s:Nat} {xs:Els} {l l':List AV} {h2:H}:za h k=some ⟨s,xs⟩→Abs (zd h k) l l' h2→Abs h (.sl k [] 0 xs.length::l) (.ow s xs::l') h2
end
def zs3 (pro:List Nat) (m bm nm:List (Nat×Nat)) (S:List Nat) (e:Env) (rest:H) (d:Nat) (r:AV) (hout:H):Option (Env×H) :=
 match z2a hout bm,back bm r with
 | some (hb,_),some r'=>zcv pro nm S (upd (z1i (z6m m bm) e) d r') (hb++z1f rest (bm.map Prod.fst))
 | _,_=>none
section
variable {P:Program} {pro keep:List Nat} {e e1:Env} {h h1:H} {Q:Out→Env→H→Prop} {l:List Ins} {R:Type} {r:R} {g:Option (Nat×Bool)} {d:Nat}
theorem RG.callBy {T:Type} {f:Nat} {args:List AV} {op:IK} {gv:Option T} {E:T→Option R} (m bm nm:List (Nat×Nat)) (S:List Nat) (bor:Bool) (args':List AV) (hin rest:H) (rr:T→AV) (hout:T→H) (e1:T→Env) (h1:T→H) (hw:zo e g=some true)
  (hop:∀ e1 h1,z9f P pro e h d f args e1 h1→z2h P pro e h d op e1 h1)
  (hg:gv.bind E=some r) (hsp:z2a h m=some (hin,rest)) (hargs:z2d rest m bor args=some args') (hok:∀ v,gv=some v→CallG P f args' hin (rr v) (hout v))
  (hst:(zn (m.map Prod.fst) && zn (bm.map Prod.fst) && zbp m bm && zfb pro m bm)=true) (hbk:∀ v,zs3 pro m bm nm S e rest d (rr v) (hout v)=some (e1 v,h1 v)) (hn:bor=true→∀ v,noIm (rr v)=true∧z6f (hout v)=true)
  (hK:∀ v,gv=some v→E v=some r→RG P pro keep Q l (e1 v) (h1 v)):RG P pro keep Q (⟨d,g,op⟩::l) e h:=by
 obtain ⟨v,hv,hE⟩:=zh hg
 simp only [Bool.and_eq_true] at hst
 obtain ⟨⟨⟨k1,k2⟩,k3⟩,k4⟩:=hst
 have hb:=hbk v
 unfold zs3 at hb
 split at hb
 ·rename_i hb' left r' hs hr
  refine RG.step hw (hop _ _ ⟨m,bm,bor,hin,rest,hout v,hb',left,args',rr v,r',hsp,zw _ k1,hargs,hok v hv,hs,zw _ k2,k3,k4,hr,fun hb=>hn hb v,rfl,rfl⟩) ?_
  exact RG.ghost (zc.norm hb) (hK v hv hE)
 ·cases hb
theorem RG.callP {T:Type} {f:Nat} {args:List Operand} {gv:Option T} {E:T→Option R} (bm nm:List (Nat×Nat)) (S:List Nat) (bor:Bool) (args':List AV) (rr:T→AV) (hout:T→H) (e1:T→Env) (h1:T→H) (hw:zo e g=some true)
  (hg:gv.bind E=some r) (hargs:z2d h [] bor (args.map (ev e))=some args') (hok:∀ v,gv=some v→CallG P f args' [] (rr v) (hout v))
  (hst:(zn (bm.map Prod.fst) && zbp [] bm && zfb pro [] bm)=true) (hbk:∀ v,zs3 pro [] bm nm S e h d (rr v) (hout v)=some (e1 v,h1 v)) (hn:bor=true→∀ v,noIm (rr v)=true∧z6f (hout v)=true)
  (hK:∀ v,gv=some v→E v=some r→RG P pro keep Q l (e1 v) (h1 v)):RG P pro keep Q (⟨d,g,.call f args⟩::l) e h :=
 RG.callBy [] bm nm S bor args' [] h rr hout e1 h1 hw (fun _ _ hc=>.call hc) hg rfl hargs hok (by simpa [zn] using hst) hbk hn hK
theorem W.condB {c:Operand} {b:Bool} {x y:Option R} {cx cy:IC} (hc:ev e c=Bl b) (hg:_root_.cond b x y=some r) (ht:x=some r→W P pro cx Q e h) (hf:y=some r→W P pro cy Q e h):W P pro (.cond c cx cy) Q e h:=by
 cases b
 ·exact W.condF hc (hf hg)
 ·exact W.condT hc (ht hg)
end
theorem z4i {α:Type} {o:α→List AV} (ho:∀ x,z2o (o x)=true):∀ (xs:List α),z92 (xs.map o)=true
 | []=>rfl
 | x::xs=>by simp [z92,ho,z4i ho xs]
theorem z4k {α:Type} {o c:α→List AV} (ho:∀ x,z3w (o x)=c x):∀ (xs:List α),z2z (xs.map o)=xs.map c
 | []=>rfl
 | x::xs=>by simp [z2z,ho,z4k ho xs]
section
variable {P:Program} {pro keep:List Nat} {e e1:Env} {h h0 h1:H} {Q:Out→Env→H→Prop} {l:List (Ins×List Nat)} {tail:List Ins} {R:Type} {r:R} {g:Option (Nat×Bool)} {d i:Nat} {D ds:List Nat} {acc:List (Nat×H)} {K:Env→H→Prop}
variable {ρ:Operand→AV} {rs:Nat→Path→Option (Nat×Els)}
def zi2 (ds:List Nat) (h0 h1:H):Bool:=(h1.map Prod.fst).all (fun k=>ds.contains k || (h0.map Prod.fst).contains k)
def KD (P:Program) (pro keep ds:List Nat) (Q:Out→Env→H→Prop) (tail:List Ins) (h0:H) (e1:Env) (h1:H):Prop:=zi2 ds h0 h1=true∧RG P pro keep Q tail e1 h1
theorem W.drawG (ds:List Nat) {pre:List (Ins×List Nat)} (hds:pre.map (·.1.dst)=ds) (ck:(zn ds && z5y ds pre 0 pre && pro.all (fun k=>!ds.contains k) && pre.all (fun x=>!isSt x.1.op))=true)
  (hw:WD P pre 0 (preE ds e) [] (z1f h ds) (KD P pro keep ds Q tail (z1f h ds))):W P pro (.draw keep pre tail) Q e h:=by
 subst hds
 simp only [Bool.and_eq_true] at ck
 obtain ⟨⟨⟨k1,k2⟩,k3⟩,k4⟩:=ck
 obtain ⟨l,q1,q2,q3,q4,q5⟩:=WD.sound (E0:=preE (pre.map (·.1.dst)) e) pre [] hw (by simpa using zw _ k1) (fun j x hx i hi=>by
  have:=z9w _ 0 k2 j x hx
  simp only [Nat.zero_add,zif,Bool.and_eq_true,List.all_eq_true,decide_eq_true_eq] at this
  have:=this.1 i hi
  simpa using this)
 simp only [List.nil_append,List.length_nil,Nat.zero_add] at q2 q3 q4 q5
 obtain ⟨e',h',r1,r2⟩:=q5
 refine ⟨.normal,_,_,.draw ⟨q1,zw _ q3,q2,y5d q1 k4⟩ (fun k hk=>?_) (fun k hk=>?_) r1,r2⟩
 ·obtain ⟨x,hx,hkx⟩:=List.mem_flatMap.1 hk
  obtain ⟨z,hz,rfl⟩:=List.mem_map.1 hkx
  obtain ⟨j,hj⟩:=List.getElem?_of_mem hx
  have hz2:z ∈ HX 0 l (fun _=>true):=(z9h l 0 _).2 ⟨j,x,hj,rfl,hz⟩
  have:=List.all_eq_true.1 q4 z.1 (List.mem_map.2 ⟨z,List.mem_append_left _ hz2,rfl⟩)
  rw [Bool.or_eq_true] at this
  rcases this with h | h
  ·simpa using h
  ·exfalso
   have hnd:=zw _ q3
   rw [List.map_append,List.nodup_append] at hnd
   exact hnd.2.2 z.1 (List.mem_map.2 ⟨z,hz2,rfl⟩) z.1 (by simpa using h) rfl
 ·have:=List.all_eq_true.1 k3 k hk
  simpa using this
end
section
variable {P:Program} {I:Nat→Prop} {N:Nat} [Dfs N] {σ σ':Pl} {w w':World} {h h' h1:H} {e e' e1:Env} {a a':Act} {pro:List Nat}
theorem zoe {α:Type} {l:List α} {c:Nat} {v:α} (h:l[c]? = some v):l.set c v=l:=by
 apply List.ext_getElem?
 intro j
 rw [List.getElem?_set]
 split
 ·rename_i hj
  subst hj
  split
  ·exact h.symm
  ·rename_i hlt
   have:=(List.getElem?_eq_some_iff.1 h).1
   omega
 ·rfl
theorem HRel.cell {k i c:Nat} {r:Row} {x:List AV} {y y':AV} (hh:HRel I σ h w) (hg:za h k=some r) (hx:r.xs[i]? = some x) (hy:x[c]? = some y) (hσ:∀ k' q,¬ (k'=k∧∃ q',q=(i,c)::q')→σ' k' q=σ k' q)
  (hC:∀ v,Ce I σ (bl w) k [] i c y v→Ce I σ' (bl w) k [] i c y' v) (hfp:fpA σ' k [] i c y'=[]) :
  HRel I σ' ((k,⟨r.s,r.xs.set i (x.set c y')⟩)::zd h k) w∧(∀ b ∈ fpH σ' ((k,⟨r.s,r.xs.set i (x.set c y')⟩)::zd h k),b ∈ fpH σ h) ∧
   (∀ b ∈ fpA σ k [] i c y,b ∈ fpH σ h∧b ∉ fpH σ' ((k,⟨r.s,r.xs.set i (x.set c y')⟩)::zd h k))∧(fpA σ k [] i c y).Nodup∧∃ v,Ce I σ (bl w) k [] i c y v:=by
 obtain ⟨d1,d2,d3,d4,d5,d6⟩:=hh.del hg
 have hσ0:σ' k []=σ k []:=hσ k [] (fun ⟨_,q,h⟩=>by cases h)
 have hσk:∀ k',k' ≠ k→∀ q,σ' k' q=σ k' q:=fun k' hk q=>hσ k' q (fun e=>hk e.1)
 unfold zr at d2
 unfold fpR at d4 d5
 cases hL:σ k [] with
 | none =>
  simp only [hL] at d2
  rw [d2] at hx
  simp at hx
 | some L =>
  simp only [hL] at d2 d4 d5
  obtain ⟨f1,f2,cur,E,f3,f4,f5⟩:=d2
  obtain ⟨hxl,hCx⟩:=CeE.get r.xs 0 _ f5 i x hx
  simp only [Nat.zero_add] at hCx
  obtain ⟨v,hv,hCe⟩:=CeC.get x 0 _ hCx c y hy
  simp only [Nat.zero_add] at hCe
  have hC1:=CeC.setAt (σ':=σ') (B':=bl w) x 0 c _ y y' v hCx hy (by simpa using hC v hCe) (fun c' a'' v' hne _ hce=>Ce.ren (fun q=>hσ k _ (fun ⟨_,q',hq⟩=>by
   simp only [List.nil_append,List.cons.injEq,Prod.mk.injEq] at hq
   exact hne (by omega))) a'' v' hce)
  rw [zoe hv] at hC1
  have hnl:((cur.toList.drop (i * r.s)).take r.s).length=r.s:=by rw [CeC.length x 0 _ hCx,hxl]
  have hE1:=CeE.setAt (σ':=σ') (B':=bl w) r.xs 0 i _ x (x.set c y') _ f5 hx (by simp [hxl]) hnl (by simpa using hC1) (fun i' c' a'' v' hne _ hce=>Ce.ren (fun q=>hσ k _ (fun ⟨_,q',hq⟩=>by
   simp only [List.nil_append,List.cons.injEq,Prod.mk.injEq] at hq
   exact hne (by omega))) a'' v' hce)
  rw [zgm] at hE1
  obtain ⟨m1,m2,hm,hm'⟩:=z6p (σ:=σ) (k:=k) (p:=[]) r.xs 0 i x hx
  obtain ⟨n1,n2,hn,hn'⟩:=z7k (σ:=σ) (k:=k) (p:=[]) (i:=i) x 0 c y hy
  simp only [Nat.zero_add] at hm hn hm' hn'
  have e1:=hm' σ' (x.set c y') (fun i' c' a'' hne=>fpA.ren (fun q=>hσ k _ (fun ⟨_,q',hq⟩=>by
   simp only [List.nil_append,List.cons.injEq,Prod.mk.injEq] at hq
   exact hne (by omega))) a'')
  have e2:=hn' σ' y' (fun c' a'' hne=>fpA.ren (fun q=>hσ k _ (fun ⟨_,q',hq⟩=>by
   simp only [List.nil_append,List.cons.injEq,Prod.mk.injEq] at hq
   exact hne (by omega))) a'')
  rw [hfp] at e2
  rw [e2] at e1
  rw [hm,hn] at d4 d5
  have hrow:zr I σ' (bl w) k ⟨r.s,r.xs.set i (x.set c y')⟩:=by
   unfold zr
   rw [hσ0,hL]
   exact ⟨f1,by simpa using f2,cur,E,f3,f4,hE1⟩
  have hfpr:fpR σ' k ⟨r.s,r.xs.set i (x.set c y')⟩=L.b::(m1++(n1++[]++n2)++m2):=by
   unfold fpR
   rw [hσ0,hL]
   simp only
   rw [e1]
  have hsub:(L.b::(m1++(n1++[]++n2)++m2)).Sublist (L.b::(m1++(n1++fpA σ k [] i c y++n2)++m2)):=by
   refine List.Sublist.cons_cons _ (List.Sublist.append (List.Sublist.append (List.Sublist.refl _) (List.Sublist.append (List.Sublist.append (List.Sublist.refl _) (List.nil_sublist _)) (List.Sublist.refl _))) (List.Sublist.refl _))
  have hadd:=d1.add (σ':=σ') (w':=w) (k:=k) (r:=⟨r.s,r.xs.set i (x.set c y')⟩) d3 hσk (fun _ _ _=>rfl) (Nat.le_refl _) hrow (by rw [hfpr]; exact hsub.nodup d4) (fun b hb=>by
   rw [hfpr] at hb
   exact ⟨(d5 b (hsub.subset hb)).1,hh.apart b (d5 b (hsub.subset hb)).2⟩)
  have hfph:fpH σ' ((k,⟨r.s,r.xs.set i (x.set c y')⟩)::zd h k)=L.b::(m1++(n1++[]++n2)++m2)++fpH σ (zd h k):=by
   rw [z1h,hfpr,fpH.ren _ (fun k' hk' q=>hσk k' (fun e=>by subst e; exact d3 hk') q)]
  refine ⟨hadd,fun b hb=>?_,fun b hb=>⟨(d5 b (by simp [hb])).2,fun hm2=>?_⟩,?_,v,hCe⟩
  ·rw [hfph] at hb
   rcases List.mem_append.1 hb with hb | hb
   ·exact (d5 b (hsub.subset hb)).2
   ·exact d6 b hb
  ·rw [hfph] at hm2
   rcases List.mem_append.1 hm2 with hm2 | hm2
   ·simp only [List.append_nil,List.nodup_cons,List.mem_append,List.nodup_append,not_or] at d4 hm2
    simp only [List.mem_cons,List.mem_append] at hm2
    obtain ⟨⟨⟨p1,⟨p2a,p2b⟩,p2c⟩,p3⟩,⟨q1,⟨⟨⟨q2,q3,q4⟩,q5,q6⟩,q7⟩⟩,q8,q9⟩:=d4
    rcases hm2 with hm2 | (hm2 | hm2 | hm2) | hm2
    ·subst hm2; exact p2b hb
    ·exact q7 b hm2 b (.inl (.inr hb)) rfl
    ·exact q4 b hm2 b hb rfl
    ·exact q6 b (.inr hb) b hm2 rfl
    ·exact q9 b (.inr (.inl (.inr hb))) b hm2 rfl
   ·exact (d5 b (by simp [hb])).1 hm2
  ·simp only [List.nodup_cons,List.nodup_append] at d4
   exact d4.2.1.2.1.1.2.1
end
mutual
def renV (k i c j:Nat):AV→AV
 | .sl k' p off len =>
  if k'=j then .un else
  match p with
  | []=>.sl k' [] off len
  | (i',c')::q=>if k'=k∧i'=i∧c'=c then .sl j q off len else .sl k' ((i',c')::q) off len
 | .pt k' p o c0 =>
  if k'=j then .un else
  match p with
  | []=>.pt k' [] o c0
  | (i',c')::q=>if k'=k∧i'=i∧c'=c then .pt j q o c0 else .pt k' ((i',c')::q) o c0
 | .ag cs=>.ag (zaq k i c j cs)
 | .tu cs=>.tu (zaq k i c j cs)
 | .fn f caps=>.fn f (zaq k i c j caps)
 | .un=>.un
 | .sc v=>.sc v
 | .zs=>.zs
 | .im s xs=>.im s xs
 | .ip s xs i c=>.ip s xs i c
 | .ow s xs=>.ow s xs
 | .pp q=>z4p (fun k' _=>k'==j) q
def zaq (k i c j:Nat):List AV→List AV
 | []=>[]
 | x::l=>renV k i c j x::zaq k i c j l
end
section
variable {I:Nat→Prop} {B:zj} {σ σ':Pl} {k i c j:Nat}
mutual
theorem Va.renV (h1:∀ q,σ' j q=σ k ((i,c)::q)) (h2:∀ k',k' ≠ j→∀ q,σ' k' q=σ k' q):∀ (x:AV) (v:Value),Va I σ B x v→Va I σ' B (renV k i c j x) v
 | .un,_,_=>trivial
 | .sc _,_,h=>h
 | .zs,_,h=>h
 | .ag cs,_,h=>by obtain ⟨a,rfl,h⟩:=h; exact ⟨a,rfl,VaC.renV h1 h2 cs _ h⟩
 | .tu cs,_,h=>by obtain ⟨a,rfl,h⟩:=h; exact ⟨a,rfl,VaL.renV h1 h2 cs _ h⟩
 | .im _ _,_,h=>h
 | .ip _ _ _ _,_,h=>h
 | .pp q,v,h=>by
  have:=Va.kill (σ':=σ') (bad:=fun k' _=>k'==j) (fun k' p hb=>h2 k' (by simpa using hb) p) (.pp q) v h
  exact this
 | .sl k' p off len,v,h=>by
  simp only [Loom.renV]
  split
  ·exact trivial
  ·rename_i hk
   split
   ·simp only [Va,h2 k' hk] at h ⊢; exact h
   ·rename_i i' c' q
    split
    ·rename_i hc
     obtain ⟨rfl,rfl,rfl⟩:=hc
     simp only [Va,h1] at h ⊢; exact h
    ·simp only [Va,h2 k' hk] at h ⊢; exact h
 | .pt k' p o c0,v,h=>by
  simp only [Loom.renV]
  split
  ·exact trivial
  ·rename_i hk
   split
   ·simp only [Va,h2 k' hk] at h ⊢; exact h
   ·rename_i i' c' q
    split
    ·rename_i hc
     obtain ⟨rfl,rfl,rfl⟩:=hc
     simp only [Va,h1] at h ⊢; exact h
    ·simp only [Va,h2 k' hk] at h ⊢; exact h
 | .fn _ caps,_,h=>by obtain ⟨a,rfl,h⟩:=h; exact ⟨a,rfl,VaL.renV h1 h2 caps _ h⟩
 | .ow _ _,_,h=>h.elim
theorem VaC.renV (h1:∀ q,σ' j q=σ k ((i,c)::q)) (h2:∀ k',k' ≠ j→∀ q,σ' k' q=σ k' q):∀ (l:List AV) (cs:List Value),VaC I σ B l cs→VaC I σ' B (zaq k i c j l) cs
 | [],_,h=>h
 | a::as,_,h=>by
  obtain ⟨v,cs',rfl,h0,h3,h4⟩:=h
  exact ⟨v,cs',rfl,h0,Va.renV h1 h2 a v h3,VaC.renV h1 h2 as cs' h4⟩
theorem VaL.renV (h1:∀ q,σ' j q=σ k ((i,c)::q)) (h2:∀ k',k' ≠ j→∀ q,σ' k' q=σ k' q):∀ (l:List AV) (cs:List Value),VaL I σ B l cs→VaL I σ' B (zaq k i c j l) cs
 | [],_,h=>h
 | a::as,_,h=>by
  obtain ⟨v,cs',rfl,h3,h4⟩:=h
  exact ⟨v,cs',rfl,Va.renV h1 h2 a v h3,VaL.renV h1 h2 as cs' h4⟩
end
end
section
variable {P:Program} {I:Nat→Prop} {N:Nat} [Dfs N] {σ σ':Pl} {w w':World} {h h' h1:H} {e e' e1:Env} {a a':Act} {pro:List Nat}
theorem zc.detach {k i c s:Nat} (j:Nat) {r:Row} {x:List AV} {xs:Els} (hg:za h k=some r) (hx:r.xs[i]? = some x) (hy:x[c]? = some (.ow s xs)) (hj:(h.map Prod.fst).contains j=false) (hp:pro.all (fun k=>k != j)=true) :
  zc P pro e h (fun t=>renV k i c j (e t)) ((j,⟨s,xs⟩)::(k,⟨r.s,r.xs.set i (x.set c .un)⟩)::zd h k):=by
 intro I N _ σ a w R
 have hj':j ∉ h.map Prod.fst:=fun hm=>by
  have:(h.map Prod.fst).contains j=true:=by simpa using hm
  rw [this] at hj; cases hj
 obtain ⟨c1,c2,c3,c4,v,c5⟩:=R.heap.cell (σ':=σ) (y':=.un) hg hx hy (fun _ _ _=>rfl) (fun v hv=>by
   simp only [Ce] at hv ⊢
   split at hv
   ·obtain ⟨_,a,rfl⟩:=hv; rfl
   ·obtain ⟨_,_,rfl,_⟩:=hv; rfl) rfl
 let σ1:Pl:=fun k' q=>if k'=j then σ k ((i,c)::q) else σ k' q
 have hne:∀ k',k' ≠ j→∀ q,σ1 k' q=σ k' q:=fun k' hk q=>if_neg hk
 have hkey:j ∉ (((k,⟨r.s,r.xs.set i (x.set c .un)⟩)::zd h k:H)).map Prod.fst:=by
  simp only [List.map_cons,List.mem_cons,not_or]
  refine ⟨fun e=>hj' ?_,fun hm=>hj' ((z4m R.heap k).2.2.2 j hm)⟩
  rw [e]
  exact ((z3z hg).map Prod.fst).mem_iff.2 (by simp)
 have hrow:zr I σ1 (bl w) j ⟨s,xs⟩∧fpR σ1 j ⟨s,xs⟩=fpA σ k [] i c (.ow s xs):=by
  unfold zr fpR
  simp only [fpA,List.nil_append]
  have h0:σ1 j []=σ k [(i,c)]:=if_pos rfl
  rw [h0]
  simp only [Ce,List.nil_append] at c5
  cases hs:σ k [(i,c)] with
  | none=>simp only [hs] at c5 ⊢; exact ⟨c5.1,trivial⟩
  | some L =>
   simp only [hs] at c5 ⊢
   obtain ⟨g1,g2,g3,cur,E,g4,g5,g6⟩:=c5
   exact ⟨⟨g1,g2,cur,E,g4,g5,CeE.ren (k:=k) (p:=[(i,c)]) (p':=[]) 0 s (fun i' c' q=>if_pos rfl) xs _ g6⟩,by rw [fpE.ren (k:=k) (p:=[(i,c)]) (p':=[]) 0 (fun i' c' q=>if_pos rfl) xs]⟩
 have hadd:=c1.add (σ':=σ1) (w':=w) (k:=j) (r:=⟨s,xs⟩) hkey hne (fun _ _ _=>rfl) (Nat.le_refl _) hrow.1 (by rw [hrow.2]; exact c4) (fun b hb=>by
  rw [hrow.2] at hb
  exact ⟨(c3 b hb).2,R.heap.apart b (c3 b hb).1⟩)
 refine ⟨σ1,I,fun _ h=>h,fun _ h=>.inl h,⟨hadd,R.size,fun t'=>?_,R.defers⟩,fun k' hk'=>?_,Le.refl _,fun _ _ _=>rfl,fun b hb=>.inl ?_⟩
 ·exact Va.renV (fun q=>if_pos rfl) hne _ _ (R.vals t')
 ·have:=List.all_eq_true.1 hp k' hk'
  exact hne k' (by simpa using this) []
 ·rw [z1h,hrow.2,fpH.ren _ (fun k' hk' q=>hne k' (fun e=>hkey (e ▸ hk')) q)] at hb
  rcases List.mem_append.1 hb with hb | hb
  ·exact (c3 b hb).1
  ·exact c2 b hb
end
mutual
inductive LeZ:AV→AV→Prop
 | refl (x:AV):LeZ x x
 | zs (s:Nat):LeZ .zs (.im s [])
 | ag {l l':List AV}:LeZL l l'→LeZ (.ag l) (.ag l')
inductive LeZL:List AV→List AV→Prop
 | nil:LeZL [] []
 | cons {x y:AV} {l l':List AV}:LeZ x y→LeZL l l'→LeZL (x::l) (y::l')
end
section
variable {P:Program} {I:Nat→Prop} {σ:Pl} {B:zj}
theorem ycv {s:Nat} {v:Value} (h:Va I σ B .zs v):Va I σ B (.im s []) v:=by
 obtain ⟨a,rfl⟩:=h
 exact ⟨a,0,rfl,Nat.le_refl _,fun hn=>absurd rfl hn⟩
mutual
theorem LeZ.va:∀ {x y:AV},LeZ x y→∀ (v:Value),Va I σ B x v→Va I σ B y v
 | _,_,.refl _,_,h=>h
 | _,_,.zs s,v,h=>ycv h
 | _,_,.ag hl,v,h=>by obtain ⟨a,rfl,h⟩:=h; exact ⟨a,rfl,LeZL.vaC hl _ h⟩
theorem LeZL.vaC:∀ {l l':List AV},LeZL l l'→∀ (cs:List Value),VaC I σ B l cs→VaC I σ B l' cs
 | _,_,.nil,_,h=>h
 | _,_,.cons h1 h2,_,h=>by
  obtain ⟨v,cs',rfl,h0,h3,h4⟩:=h
  exact ⟨v,cs',rfl,h0,LeZ.va h1 v h3,LeZL.vaC h2 cs' h4⟩
end
end
theorem Abs.zs {h h2:H} {l l':List AV} (t:Abs h l l' h2):Abs h (.zs::l) (.zs::l') h2:=.one rfl t
theorem Abs.im {h h2:H} {s:Nat} {xs:Els} {l l':List AV} (t:Abs h l l' h2):Abs h (.im s xs::l) (.im s xs::l') h2:=.one rfl t
def isRd:IK→Bool
 | .rd _=>true
 | _=>false
def y0u (e:Env) (h:H) (x:Ins) (av:AV):Prop:=(zo e x.guard=some false∧av=z4d x.op)∨(zo e x.guard=some true∧∃ b av',x.op = .rd b∧rdop (ev e) (res h) b=some av'∧AVle av' av)
def zgp (dep:List Nat) (φ:AV→AV) (e:Env) (h:H):List (Ins×List Nat)→Nat→Prop
 | [],_=>True
 | (x,_)::l,i=>(dep.contains i=true∨y0u (fun t=>φ (e t)) h x (φ (e x.dst)))∧zgp dep φ e h l (i+1)
def z9x (dep:List Nat):List (Ins×List Nat)→Nat→Bool
 | [],_=>true
 | (x,_)::l,i=>(dep.contains i || isRd x.op) && z9x dep l (i+1)
def za6 (P:Program) (hN:H) (K:Env→Prop):List (Ins×List Nat)→Env→Prop
 | [],e=>K e
 | (x,D)::l,e=>∃ av,DOk P e hN ⟨x,D,av,[]⟩∧za6 P hN K l (upd e x.dst av)
theorem za6.run {P:Program} {hN:H} {K:Env→Prop}:∀ (l:List (Ins×List Nat)) (e:Env),za6 P hN K l e →
  ∃ lp:List DOp,lp.map (fun x=>(x.ins,x.dep))=l∧(∀ x ∈ lp,x.rows=[])∧(∀ (m:Nat) (x:DOp),lp[m]? = some x→DOk P (chE e (lp.take m)) hN x)∧K (chE e lp)
 | [],e,h=>⟨[],rfl,fun x hx=>(by cases hx),fun m x hx=>by simp at hx,h⟩
 | (x,D)::l,e,⟨av,h1,h2⟩=>by
  obtain ⟨lp,q1,q2,q3,q4⟩:=za6.run l _ h2
  refine ⟨⟨x,D,av,[]⟩::lp,by simp [q1],fun y hy=>?_,fun m y hy=>?_,q4⟩
  ·rcases List.mem_cons.1 hy with rfl | hy
   ·rfl
   ·exact q2 y hy
  ·cases m with
   | zero =>
    simp only [List.getElem?_cons_zero,Option.some.injEq] at hy
    subst hy
    exact h1
   | succ m=>exact q3 m y (by simpa using hy)
def KT (P:Program) (pro keep ds:List Nat) (Q:Out→Env→H→Prop) (pre0:List (Ins×List Nat)) (xj:Ins) (dep:List Nat) (post:List (Ins×List Nat)) (tail:List Ins) (h0:H) (e1:Env) (hA:H):Prop :=
 ∃ (φ:AV→AV) (av:AV) (hN:H),zi2 ds h0 hA=true∧zn (hN.map Prod.fst)=true∧zgu P pro xj e1 hA φ av hN∧zgp dep φ e1 hN pre0 0∧za6 P hN (fun e2=>RG P pro keep Q tail e2 hN) post (upd (fun t=>φ (e1 t)) xj.dst av)
section
variable {P:Program} {pro keep:List Nat} {e e1:Env} {h h1:H} {Q:Out→Env→H→Prop} {pre0:List (Ins×List Nat)} {tail:List Ins} {xj:Ins} {dep:List Nat}
theorem zfz:∀ (l:List (Ins×List Nat)) (i:Nat),z9x dep l i=true→∀ (n:Nat) (x:Ins×List Nat),l[n]? = some x→i+n ∈ dep∨isRd x.1.op=true
 | [],_,_,_,_,h=>by simp at h
 | y::l,i,h,0,x,hx=>by
  simp only [List.getElem?_cons_zero,Option.some.injEq] at hx
  subst hx
  simp only [z9x,Bool.and_eq_true,Bool.or_eq_true] at h
  simpa using h.1
 | y::l,i,h,n+1,x,hx=>by
  simp only [z9x,Bool.and_eq_true] at h
  have:=zfz l (i+1) h.2 n x (by simpa using hx)
  rwa [show i+1+n=i+(n+1) by omega] at this
theorem zfn {φ:AV→AV}:∀ (l:List (Ins×List Nat)) (i:Nat),zgp dep φ e h l i→∀ (n:Nat) (x:Ins×List Nat),l[n]? = some x→i+n ∉ dep→y0u (fun t=>φ (e t)) h x.1 (φ (e x.1.dst))
 | [],_,_,_,_,h,_=>by simp at h
 | y::l,i,h,0,x,hx,hn=>by
  simp only [List.getElem?_cons_zero,Option.some.injEq] at hx
  subst hx
  rcases h.1 with h | h
  ·exact absurd (by simpa using h) hn
  ·exact h
 | y::l,i,h,n+1,x,hx,hn=>zfn l (i+1) h.2 n x (by simpa using hx) (by rwa [show i+1+n=i+(n+1) by omega])
theorem zlw {E0:Env}:∀ (l:List DOp) (i n:Nat) (x:DOp),(dsts l).Nodup→l[n]? = some x→EX i l (fun _=>true) E0 x.ins.dst=x.av
 | [],_,_,_,_,h=>by simp at h
 | y::l,i,0,x,_,h=>by
  simp only [List.getElem?_cons_zero,Option.some.injEq] at h
  subst h
  simp [EX,upd]
 | y::l,i,n+1,x,hn,h=>by
  simp only [dsts,List.map_cons,List.nodup_cons] at hn
  have hx:l[n]? = some x:=by simpa using h
  have hne:x.ins.dst ≠ y.ins.dst:=fun e=>hn.1 (by rw [← e]; exact List.mem_map.2 ⟨x,List.mem_of_getElem? hx,rfl⟩)
  simp only [EX,if_true,upd,if_neg hne]
  exact zlw l (i+1) n x hn.2 hx
theorem zjk {E0:Env} {X:Nat→Bool} {s:Nat}:∀ (l:List DOp) (i:Nat),(∀ n x,l[n]? = some x→X (i+n)=false→x.ins.dst ≠ s)→EX i l X E0 s=EX i l (fun _=>true) E0 s
 | [],_,_=>rfl
 | x::l,i,h=>by
  have ih:=zjk (E0:=E0) l (i+1) (fun n y hy hX=>h (n+1) y (by simpa using hy) (by rwa [show i+(n+1)=i+1+n by omega]))
  simp only [EX,if_true]
  cases hX:X i with
  | true=>simp only [if_true,upd]; rw [ih]
  | false =>
   have:=h 0 x rfl (by simpa using hX)
   simp only [Bool.false_eq_true,if_false,upd,if_neg (Ne.symm this)]
   exact ih
theorem W.turn (post:List (Ins×List Nat)) (ds:List Nat) (hds:(pre0++(xj,dep)::post).map (·.1.dst)=ds) (ck:(zn ds && z9v ds 0 (pre0++(xj,dep)::post) && pro.all (fun k=>!ds.contains k) && pre0.all (fun x=>!isSt x.1.op) && z9x dep pre0 0 && !dep.contains pre0.length && dep.all (fun i=>decide (i<pre0.length)) && pre0.all (fun x=>!x.2.contains pre0.length) && post.all (fun y=>isRd y.1.op && y.2.contains pre0.length))=true)
  (hw:WD P pre0 0 (preE ds e) [] (z1f h ds) (KT P pro keep ds Q pre0 xj dep post tail (z1f h ds))):W P pro (.draw keep (pre0++(xj,dep)::post) tail) Q e h:=by
 subst hds
 simp only [Bool.and_eq_true] at ck
 obtain ⟨⟨⟨⟨⟨⟨⟨⟨k1,k2⟩,k3⟩,k4⟩,k5⟩,k6⟩,k7⟩,k8⟩,k9⟩:=ck
 have hnd:=zw _ k1
 rw [List.map_append] at hnd
 have huse:=zfy _ 0 k2
 have hnd0:(pre0.map (·.1.dst)).Nodup:=(List.nodup_append.1 hnd).1
 obtain ⟨l,q1,q2,q3,φ,av,hN,q4,q5,q6,q7,q8⟩:=WD.sound (E0:=preE ((pre0++(xj,dep)::post).map (·.1.dst)) e) pre0 [] hw (by simpa using hnd0) (fun j x hx i hi=>by
  have:=huse j x (by rw [List.getElem?_append_left (List.getElem?_eq_some_iff.1 hx).1]; exact hx)
  simp only [Nat.zero_add,zlo,Bool.and_eq_true,List.all_eq_true,decide_eq_true_eq] at this
  have:=this.1 i hi
  simpa using this)
 simp only [List.nil_append,List.length_nil,Nat.zero_add] at q2 q3 q4 q6 q7 q8
 obtain ⟨lp,p1,p2,p3,e',h',r1,r2⟩:=za6.run _ _ q8
 let lpd:List DOp:=post.map (fun x=>⟨x.1,x.2,.un,[]⟩)
 have p9:∀ x ∈ post,isRd x.1.op=true∧x.2.contains pre0.length=true:=fun x hx=>by
  have:=List.all_eq_true.1 k9 x hx
  simpa only [Bool.and_eq_true] using this
 have hl:l.length=pre0.length:=by rw [← q1]; simp
 have hdl:(dsts l).Nodup:=by
  have:dsts l=pre0.map (·.1.dst):=by rw [← q1]; simp [dsts]
  rw [this]; exact hnd0
 let E0:=preE ((pre0++(xj,dep)::post).map (·.1.dst)) e
 let eA:=EX 0 l (fun _=>true) E0
 let lj:DOp:=⟨xj,dep,.un,[]⟩
 let l':List DOp:=l.map (fun x=>⟨x.ins,x.dep,φ x.av,[]⟩)
 let lj':DOp:=⟨xj,dep,av,[]⟩
 let E0':Env:=fun t=>φ (E0 t)
 have hlpd:∀ x ∈ lpd,l.length ∈ x.dep∧x.rows=[]:=fun x hx=>by
  obtain ⟨z,hz,rfl⟩:=List.mem_map.1 hx
  have:=(p9 z hz).2
  rw [← hl] at this
  exact ⟨by simpa using this,rfl⟩
 have hgl:∀ (i:Nat) (x:DOp),i ≠ l.length→(l++lj::lpd)[i]? = some x→l[i]? = some x∨x ∈ lpd:=fun i x hi hx=>by
  rcases Nat.lt_or_ge i l.length with h | h
  ·rw [List.getElem?_append_left h] at hx; exact .inl hx
  ·rw [List.getElem?_append_right h,show i - l.length=(i - l.length - 1)+1 by omega,List.getElem?_cons_succ] at hx
   exact .inr (List.mem_of_getElem? hx)
 have hl'l:l'.length=l.length:=by simp [l']
 have hgl':∀ (i:Nat) (x:DOp),i ≠ l.length→(l'++lj'::lp)[i]? = some x→(∃ y,l[i]? = some y∧x=⟨y.ins,y.dep,φ y.av,[]⟩)∨∃ m,i=l.length+1+m∧lp[m]? = some x:=fun i x hi hx=>by
  rcases Nat.lt_or_ge i l.length with h | h
  ·rw [List.getElem?_append_left (by rw [hl'l]; exact h)] at hx
   simp only [l',List.getElem?_map] at hx
   obtain ⟨y,hy,rfl⟩:=Option.map_eq_some_iff.1 hx
   exact .inl ⟨y,hy,rfl⟩
  ·rw [List.getElem?_append_right (by rw [hl'l]; exact h),hl'l,show i - l.length=(i - l.length - 1)+1 by omega,List.getElem?_cons_succ] at hx
   exact .inr ⟨i - l.length - 1,by omega,hx⟩
 have hp0:∀ (i:Nat) (x:DOp),l[i]? = some x→pre0[i]? = some (x.ins,x.dep):=fun i x hx=>by rw [← q1]; simp [hx]
 have hEXapp:∀ (l1 l2:List DOp) (i:Nat) (X:Nat→Bool) (E:Env),EX i (l1++l2) X E=EX i l1 X (EX (i+l1.length) l2 X E):=by
  intro l1
  induction l1 with
  | nil=>intro l2 i X E; simp [EX]
  | cons y l1 ih=>intro l2 i X E; simp only [List.cons_append,EX,ih,List.length_cons]; rw [show i+1+l1.length=i+(l1.length+1) by omega]
 have hHXapp:∀ (l1 l2:List DOp) (i:Nat) (X:Nat→Bool),HX i (l1++l2) X=HX i l1 X++HX (i+l1.length) l2 X:=by
  intro l1
  induction l1 with
  | nil=>intro l2 i X; simp [HX]
  | cons y l1 ih =>
   intro l2 i X
   simp only [List.cons_append,HX,ih,List.length_cons]
   rw [show i+1+l1.length=i+(l1.length+1) by omega]
   split <;> simp
 have hnone:∀ (l2:List DOp) (i:Nat) (X:Nat→Bool) (E:Env),(∀ n,i≤n→X n=false)→EX i l2 X E=E:=by
  intro l2
  induction l2 with
  | nil=>intro i X E _; rfl
  | cons y l2 ih=>intro i X E hX; simp only [EX,hX i (Nat.le_refl _),Bool.false_eq_true,if_false]; exact ih (i+1) X E fun n hn=>hX n (by omega)
 have hrs:∀ x ∈ lj::lpd,x.rows=[]:=fun x hx=>by
  rcases List.mem_cons.1 hx with rfl | hx
  ·rfl
  ·exact (hlpd x hx).2
 have hrs':∀ x ∈ l'++lj'::lp,x.rows=[]:=fun x hx=>by
  rcases List.mem_append.1 hx with hx | hx
  ·obtain ⟨z',_,rfl⟩:=List.mem_map.1 hx; rfl
  ·rcases List.mem_cons.1 hx with rfl | hx
   ·rfl
   ·exact p2 x hx
 have hrows:∀ (i:Nat) (x:DOp),l[i]? = some x→x.rows ≠ []→i ∈ dep:=fun i x hx hr=>by
  rcases zfz pre0 0 k5 i _ (hp0 i x hx) with h | h
  ·simpa using h
  ·exfalso
   have:=q2 i x hx
   cases this with
   | skip _ _ h2=>exact hr h2
   | rd _ _ _ _ h2=>exact hr h2
   | mk _ _ h2 _ _=>simp only at h; rw [h2] at h; cases h
   | call _ h2 =>
    simp only at h
    generalize x.ins.op=op at h2 h
    cases h2 <;> cases h
 have hH:HX 0 l (fun k=>dep.contains k)=HX 0 l (fun _=>true):=ziy l 0 _ _ (fun n y hy hr=>by simpa using hrows n y hy hr)
 have hjj:l.length ∉ dep:=by rw [hl]; simpa using k6
 have hd':dsts (l'++lj'::lp)=(pre0++(xj,dep)::post).map (·.1.dst):=by
  rw [← q1,← p1]; simp [dsts,l',lj',Function.comp_def]
 have hnd':(dsts (l'++lj'::lp)).Nodup:=by rw [hd']; exact zw _ k1
 have hcut:chE E0' (l'++[lj'])=upd (fun t=>φ (eA t)) xj.dst av:=by
  rw [z8p]
  congr 1
  have hfr:=z9g (E0:=E0') l' (lj'::lp) hnd'
  rw [← hfr,hEXapp,hnone (lj'::lp) (0+l'.length) _ E0' (fun n hn=>by simp; omega)]
  funext t
  rw [(z9a (E0:=E0') l' 0 (fun i=>decide (i<l'.length)) (fun _=>true) (fun n _ hn=>by simp; omega)).1]
  exact zgr (φ:=φ) (E0:=E0) (fun _=>rfl) l l' 0 (by simp [l']) (fun n z z' hz hz' _=>by
   simp only [l',List.getElem?_map,hz,Option.map_some,Option.some.injEq] at hz'
   subst hz'
   exact ⟨rfl,rfl⟩) t
 have hch:∀ (a b:List DOp) (E:Env),chE E (a++b)=chE (chE E a) b:=by
  intro a
  induction a with
  | nil=>intro b E; rfl
  | cons y a ih=>intro b E; simp only [List.cons_append,chE,ih]
 refine ⟨.normal,z6e keep e',h',.turn ⟨l++lj::lpd,l'++lj'::lp,l.length,lj,lj',φ,E0',hN,?_,?_,?_,zw _ q5,by simp,by simp [hl'l],?_,?_,?_,?_,hrs',fun _=>rfl,?_,?_,?_⟩ (fun k hk=>?_),r2⟩
 ·rw [List.map_append,q1]; simp [lj,lpd,Function.comp_def]
 ·rw [hHXapp,z4w _ _ _ hrs,List.append_nil]; exact zw _ q3
 ·have:l'.map (fun x=>(x.ins,x.dep))=l.map (fun x=>(x.ins,x.dep)):=by simp [l']
  rw [List.map_append,this,q1,List.map_cons,p1]
 ·intro i x hi hjd hx
  rcases hgl i x hi hx with hx' | hx'
  ·have hil:=(List.getElem?_eq_some_iff.1 hx').1
   refine ⟨?_,?_⟩
   ·rw [hEXapp,hnone (lj::lpd) (0+l.length) _ _ (fun n hn=>by simp; omega),hHXapp,z4w _ _ _ hrs,List.append_nil]
    exact q2 i x hx'
   ·have:=List.all_eq_true.1 k4 _ (List.mem_of_getElem? (hp0 i x hx'))
    simpa using this
  ·exact absurd (hlpd x hx').1 hjd
 ·intro i x hi hid hx
  rcases hgl' i x hi hx with ⟨y,hy,rfl⟩ | ⟨m,rfl,hm⟩
  ·have hil:=(List.getElem?_eq_some_iff.1 hy).1
   have hst:=List.all_eq_true.1 k4 _ (List.mem_of_getElem? (hp0 i y hy))
   refine ⟨?_,by simpa using hst⟩
   have hag:=zfn pre0 0 q7 i _ (hp0 i y hy) (by simpa using hid)
   simp only at hag
   rw [z4w _ _ _ hrs',List.nil_append]
   have hav:eA y.ins.dst=y.av:=zlw l 0 i y hdl hy
   have hsl:∀ s ∈ z3a y.ins,EX 0 (l'++lj'::lp) (fun k=>decide (k<i)) E0' s=φ (eA s):=fun s hs=>by
    rw [hEXapp,hnone (lj'::lp) (0+l'.length) _ E0' (fun n hn=>by simp; omega),zgr (φ:=φ) (E0:=E0) (fun _=>rfl) l l' 0 (by simp [l']) (fun n z z' hz hz' _=>by
     simp only [l',List.getElem?_map,hz,Option.map_some,Option.some.injEq] at hz'
     subst hz'
     exact ⟨rfl,rfl⟩) s]
    congr 1
    refine zjk l 0 (fun n z hz hX=>?_)
    rintro rfl
    have hu:=huse i (y.ins,y.dep) (by rw [List.getElem?_append_left (by omega)]; exact hp0 i y hy)
    simp only [Nat.zero_add,zlo,Bool.and_eq_true,List.all_eq_true,decide_eq_true_eq,Bool.or_eq_true,Bool.not_eq_true'] at hu
    have h3:=hu.2 _ hs
    have hzp:=hp0 n z hz
    rcases h3 with h3 | h3
    ·have:((pre0++(xj,dep)::post).map (·.1.dst)).contains z.ins.dst=true:=by
      simp only [List.contains_eq_mem,decide_eq_true_eq]
      exact List.mem_map.2 ⟨(z.ins,z.dep),List.mem_append_left _ (List.mem_of_getElem? hzp),rfl⟩
     rw [this] at h3; cases h3
    ·simp only [List.any_eq_true,beq_iff_eq] at h3
     obtain ⟨m,hm,hms⟩:=h3
     have hmi:=hu.1 m hm
     have hnm:n=m:=by
      have e1:((pre0++(xj,dep)::post).map (·.1.dst))[n]? = some z.ins.dst:=by
       rw [List.getElem?_map,List.getElem?_append_left (by have:=(List.getElem?_eq_some_iff.1 hzp).1; omega),hzp]; rfl
      exact (List.getElem?_inj (List.getElem?_eq_some_iff.1 e1).1 (zw _ k1)).1 (by rw [e1,hms])
     simp only [Nat.zero_add,decide_eq_false_iff_not] at hX
     omega
   have hw:zo (EX 0 (l'++lj'::lp) (fun k=>decide (k<i)) E0') y.ins.guard=zo (fun t=>φ (eA t)) y.ins.guard:=by
    cases hg:y.ins.guard with
    | none=>rfl
    | some sw =>
     obtain ⟨s,want⟩:=sw
     simp only [zo]
     rw [hsl s (by simp [z3a,hg])]
   rcases hag with ⟨g1,g2⟩ | ⟨g1,b,av',g2,g3,g4⟩
   ·exact .skip (by rw [hw]; exact g1) (by rw [← hav]; exact g2) rfl
   ·refine .rd (b:=b) (av:=av') (by rw [hw]; exact g1) g2 ?_ (by rw [← hav]; exact g4) rfl
    rw [← g3]
    exact z4r b (fun o ho=>by
     cases o with
     | tmp t=>exact hsl t (List.mem_append_right _ (zau (by rw [g2]; exact ho)))
     | _=>rfl)
  ·have hml:=(List.getElem?_eq_some_iff.1 hm).1
   refine ⟨?_,?_⟩
   ·rw [z4w _ _ _ hrs',List.nil_append]
    have e1:l'++lj'::lp=((l'++[lj'])++lp.take m)++lp.drop m:=by
     rw [List.append_assoc,List.take_append_drop]; simp
    have e2:((l'++[lj'])++lp.take m).length=l.length+1+m:=by simp [hl'l]; omega
    have:=z9g (E0:=E0') ((l'++[lj'])++lp.take m) (lp.drop m) (by rw [← e1]; exact hnd')
    rw [e2] at this
    rw [e1,this,hch,hcut]
    exact p3 m x hm
   ·have hx':(x.ins,x.dep) ∈ post:=by rw [← p1]; exact List.mem_map.2 ⟨x,List.mem_of_getElem? hm,rfl⟩
    have:=(p9 _ hx').1
    simp only at this
    cases hop:x.ins.op <;> rw [hop] at this <;> first | rfl | (simp [isRd] at this)
 ·intro i x x' hi hjd hx hx'
  rcases hgl i x hi hx with h1 | h1
  ·rcases hgl' i x' hi hx' with ⟨y,hy,rfl⟩ | ⟨m,rfl,hm⟩
   ·rw [h1] at hy
    cases hy
    rfl
   ·have:=(List.getElem?_eq_some_iff.1 h1).1
    omega
  ·exact absurd (hlpd x h1).1 hjd
 ·intro i x hx hr
  by_cases hi:i=l.length
  ·subst hi
   simp only [List.getElem?_append_right (Nat.le_refl _),Nat.sub_self,List.getElem?_cons_zero,Option.some.injEq] at hx
   subst hx
   exact absurd rfl hr
  ·rcases hgl i x hi hx with h1 | h1
   ·exact .inl (hrows i x h1 hr)
   ·exact absurd (hlpd x h1).2 hr
 ·have h1:EX 0 (l++lj::lpd) (fun k=>decide (k<l.length)) E0=eA:=by
   rw [hEXapp,hnone (lj::lpd) (0+l.length) _ _ (fun n hn=>by simp; omega)]
   exact (z9a l 0 _ _ (fun n _ hn=>by simp; omega)).1
  have h2:HX 0 (l++lj::lpd) (fun k=>dep.contains k)=HX 0 l (fun _=>true):=by
   rw [hHXapp,hH,z4w _ _ _ hrs,List.append_nil]
  rw [h1,h2]
  exact q6
 ·intro k hk
  obtain ⟨x,hx,hkx⟩:=List.mem_flatMap.1 hk
  rcases List.mem_append.1 hx with hx | hx
  ·obtain ⟨z,hz,rfl⟩:=List.mem_map.1 hkx
   obtain ⟨j,hj⟩:=List.getElem?_of_mem hx
   have hz2:z ∈ HX 0 l (fun _=>true):=(z9h l 0 _).2 ⟨j,x,hj,rfl,hz⟩
   have:=List.all_eq_true.1 q4 z.1 (List.mem_map.2 ⟨z,List.mem_append_left _ hz2,rfl⟩)
   rw [Bool.or_eq_true] at this
   rcases this with h | h
   ·simpa using h
   ·exfalso
    have hnd2:=zw _ q3
    rw [List.map_append,List.nodup_append] at hnd2
    exact hnd2.2.2 z.1 (List.mem_map.2 ⟨z,hz2,rfl⟩) z.1 (by simpa using h) rfl
  ·rw [hrs x hx] at hkx
   cases hkx
 ·have h1:EX 0 (l'++lj'::lp) (fun _=>true) E0'=chE (upd (fun t=>φ (eA t)) xj.dst av) lp:=by
   have:=z9g (E0:=E0') (l'++lj'::lp) [] (by simpa using hnd')
   rw [List.append_nil] at this
   rw [(z9a (E0:=E0') (l'++lj'::lp) 0 (fun _=>true) (fun i=>decide (i<(l'++lj'::lp).length)) (fun n _ hn=>by rw [Nat.zero_add] at hn; simp only [decide_eq_true hn])).1,this]
   have e1:l'++lj'::lp=(l'++[lj'])++lp:=by simp
   rw [e1,hch,hcut]
  rw [h1,z4w _ _ _ hrs',List.nil_append]
  exact r1
 ·have:=List.all_eq_true.1 k3 k hk
  simpa using this
theorem zir {f g:Operand→AV} {hp:H} {n:Nat} {a x:Operand} (h1:f a=g a) (h2:f x=g x):stop f hp n a x=stop g hp n a x:=by
 simp only [stop,h1,h2]
theorem zs2 {f g:Operand→AV} {hp:H} {d s bytes:Nat} {x y:Operand} (h1:f x=g x) (h2:f y=g y):apop f hp d s bytes x y=apop g hp d s bytes x y:=by
 simp only [apop,h1,h2]
theorem z4z {x:Ins} {e EA:Env} (he:∀ s ∈ z3a x,e s=EA s) {o:Operand} (ho:o ∈ opsK x.op):ev e o=ev EA o:=by
 cases o with
 | tmp t=>exact he t (List.mem_append_right _ (zau ho))
 | _=>rfl
theorem zd6 {x:Ins} {e EA:Env} (he:∀ s ∈ z3a x,e s=EA s):zo e x.guard=zo EA x.guard:=by
 cases hg:x.guard with
 | none=>rfl
 | some sw =>
  obtain ⟨s,want⟩:=sw
  simp only [zo]
  rw [he s (by simp [z3a,hg])]
theorem zb0:∀ (p:Path) (s:Nat) (xs:Els) (q:Path) (s':Nat) (ys:Els),resE s xs p=some (s',ys)→resE s xs (p++q)=resE s' ys q
 | [],s,xs,q,s',ys,h=>by
  simp only [resE,Option.some.injEq,Prod.mk.injEq] at h
  obtain ⟨rfl,rfl⟩:=h
  rfl
 | (i,c)::p,s,xs,q,s',ys,h=>by
  simp only [resE,List.cons_append] at h ⊢
  split at h
  ·cases h
  ·rename_i x hx
   split at h
   ·rename_i s2 zs hz
    exact zb0 p s2 zs q s' ys h
   ·cases h
end
section
variable {P:Program} {I:Nat→Prop} {N:Nat} [Dfs N] {σ σ':Pl} {w w':World} {h h' h1:H} {e e' e1:Env} {a a':Act} {pro:List Nat}
theorem HRel.place_nodup {k:Nat} {r:Row} {p:Path} {s:Nat} {ys:Els} (hh:HRel I σ h w) (hg:za h k=some r) (hres:resE r.s r.xs p=some (s,ys)):(fpP σ k p ys).Nodup:=by
 obtain ⟨d1,d2,d3,d4,d5,d6⟩:=hh.del hg
 by_cases hp0:p=[]
 ·subst hp0
  simp only [resE,Option.some.injEq,Prod.mk.injEq] at hres
  obtain ⟨rfl,rfl⟩:=hres
  exact d4
 ·unfold zr at d2
  unfold fpR at d4
  cases hs:σ k [] with
  | none =>
   simp only [hs] at d2
   rw [d2] at hres
   cases p with
   | nil=>exact absurd rfl hp0
   | cons q p=>obtain ⟨i',c'⟩:=q; simp [resE] at hres
  | some L0 =>
   simp only [hs] at d2 d4
   obtain ⟨_,_,cur,E,_,_,f5⟩:=d2
   have:=(z5m p [] r.s r.xs _ s ys f5 hp0 hres).2
   rw [List.nil_append] at this
   exact this.nodup (List.nodup_cons.1 d4).2
theorem HRel.cellAt {k i c:Nat} {r:Row} {p:Path} {s:Nat} {ys:Els} {x:List AV} {y y':AV} (hh:HRel I σ h w) (hg:za h k=some r) (hr:resE r.s r.xs p=some (s,ys)) (hx:ys[i]? = some x) (hy:x[c]? = some y)
  (hσ:∀ k' q,¬ (k'=k∧∃ q',q=p++(i,c)::q')→σ' k' q=σ k' q) (hC:∀ v,Ce I σ (bl w) k p i c y v→Ce I σ' (bl w) k p i c y' v) (hfp:fpA σ' k p i c y'=[]) :
  HRel I σ' ((k,⟨r.s,updE r.xs p (fun ys=>ys.set i (x.set c y'))⟩)::zd h k) w∧(∀ b ∈ fpH σ' ((k,⟨r.s,updE r.xs p (fun ys=>ys.set i (x.set c y'))⟩)::zd h k),b ∈ fpH σ h) ∧
   (∀ b ∈ fpA σ k p i c y,b ∈ fpH σ h∧b ∉ fpH σ' ((k,⟨r.s,updE r.xs p (fun ys=>ys.set i (x.set c y'))⟩)::zd h k))∧(fpA σ k p i c y).Nodup∧∃ v,Ce I σ (bl w) k p i c y v:=by
 obtain ⟨d1,d2,d3,d4,d5,d6⟩:=hh.del hg
 obtain ⟨hp,hpf⟩:=hh.place (k:=k) (p:=p) (s:=s) (ys:=ys) (by unfold res; rw [hg]; exact hr)
 have hpnd:=hh.place_nodup hg hr
 have hne:∀ q',p ≠ p++(i,c)::q':=fun q' e=>by
  have:=congrArg List.length e
  simp at this
 have hσp:σ' k p=σ k p:=hσ k p (fun ⟨_,q',e⟩=>hne q' e)
 unfold z2c at hp
 unfold fpP at hpf hpnd
 cases hL:σ k p with
 | none =>
  simp only [hL] at hp
  rw [hp] at hx
  simp at hx
 | some L =>
  simp only [hL] at hp hpf hpnd
  obtain ⟨f1,f2,cur,E,f3,f4,f5⟩:=hp
  obtain ⟨hxl,hCx⟩:=CeE.get ys 0 _ f5 i x hx
  simp only [Nat.zero_add] at hCx
  obtain ⟨v,hv,hCe⟩:=CeC.get x 0 _ hCx c y hy
  simp only [Nat.zero_add] at hCe
  have hC1:=CeC.setAt (σ':=σ') (B':=bl w) x 0 c _ y y' v hCx hy (by simpa using hC v hCe) (fun c' a'' v' hne2 _ hce=>Ce.ren (fun q=>hσ k _ (fun ⟨_,q',hq⟩=>by
   have:=List.append_cancel_left hq
   simp only [List.cons.injEq,Prod.mk.injEq] at this
   exact hne2 (by omega))) a'' v' hce)
  rw [zoe hv] at hC1
  have hnl:((cur.toList.drop (i * s)).take s).length=s:=by rw [CeC.length x 0 _ hCx,hxl]
  have hE1:=CeE.setAt (σ':=σ') (B':=bl w) ys 0 i _ x (x.set c y') _ f5 hx (by simp [hxl]) hnl (by simpa using hC1) (fun i' c' a'' v' hne2 _ hce=>Ce.ren (fun q=>hσ k _ (fun ⟨_,q',hq⟩=>by
   have:=List.append_cancel_left hq
   simp only [List.cons.injEq,Prod.mk.injEq] at this
   exact hne2 (by omega))) a'' v' hce)
  rw [zgm] at hE1
  obtain ⟨m1,m2,hm,hm'⟩:=z6p (σ:=σ) (k:=k) (p:=p) ys 0 i x hx
  obtain ⟨n1,n2,hn,hn'⟩:=z7k (σ:=σ) (k:=k) (p:=p) (i:=i) x 0 c y hy
  simp only [Nat.zero_add] at hm hn hm' hn'
  have e1:=hm' σ' (x.set c y') (fun i' c' a'' hne2=>fpA.ren (fun q=>hσ k _ (fun ⟨_,q',hq⟩=>by
   have:=List.append_cancel_left hq
   simp only [List.cons.injEq,Prod.mk.injEq] at this
   exact hne2 (by omega))) a'')
  have e2:=hn' σ' y' (fun c' a'' hne2=>fpA.ren (fun q=>hσ k _ (fun ⟨_,q',hq⟩=>by
   have:=List.append_cancel_left hq
   simp only [List.cons.injEq,Prod.mk.injEq] at this
   exact hne2 (by omega))) a'')
  rw [hfp] at e2
  rw [e2] at e1
  have hfP:fpP σ k p ys=L.b::(m1++(n1++fpA σ k p i c y++n2)++m2):=by
   unfold fpP; rw [hL]; simp only; rw [hm,hn]
  have hfP':fpP σ' k p (ys.set i (x.set c y'))=L.b::(m1++(n1++[]++n2)++m2):=by
   unfold fpP; rw [hσp,hL]; simp only; rw [e1]
  have hpnd2:(L.b::(m1++(n1++fpA σ k p i c y++n2)++m2)).Nodup:=by rw [← hn,← hm]; exact hpnd
  have hsub:(L.b::(m1++(n1++[]++n2)++m2)).Sublist (L.b::(m1++(n1++fpA σ k p i c y++n2)++m2)):=by
   refine List.Sublist.cons_cons _ (List.Sublist.append (List.Sublist.append (List.Sublist.refl _) (List.Sublist.append (List.Sublist.append (List.Sublist.refl _) (List.nil_sublist _)) (List.Sublist.refl _))) (List.Sublist.refl _))
  obtain ⟨u1,u2,l1,l2,k2,k3⟩:=hh.updPlace (σ':=σ') (w':=w) (h1:=zd h k) hg hr (fun ys=>ys.set i (x.set c y')) (by simp) d1 d3 (fun b hb=>hb) (Nat.le_refl _)
   (by unfold z2c; rw [hσp,hL]; exact ⟨f1,by simpa using f2,cur,E,f3,f4,hE1⟩) hσp (fun k' q hn=>hσ k' q (fun ⟨e1,q',e2⟩=>hn ⟨e1,_,List.cons_ne_nil _ _,e2⟩)) (fun _ _ _=>rfl) (by rw [hfP']; exact hsub.nodup hpnd2) (fun b hb=>.inl (by rw [hfP]; rw [hfP'] at hb; exact hsub.subset hb))
  refine ⟨u1,u2,fun b hb=>⟨hpf b (by rw [hm,hn]; simp [hb]),fun hm2=>?_⟩,?_,v,hCe⟩
  ·rw [z1h,k3,hfP',fpH.ren _ (fun k' hk' q=>hσ k' q (fun ⟨e,_⟩=>by subst e; exact d3 hk'))] at hm2
   rw [k2,hfP] at d4 d5
   rcases List.mem_append.1 hm2 with hm2 | hm2
   ·have hA:b ∈ L.b::(m1++(n1++fpA σ k p i c y++n2)++m2):=by simp [hb]
    rw [List.nodup_append,List.nodup_append] at d4
    rcases List.mem_append.1 hm2 with hm2 | hm2
    ·rcases List.mem_append.1 hm2 with hm2 | hm2
     ·exact d4.1.2.2 b hm2 b hA rfl
     ·simp only [List.append_nil,List.nodup_cons,List.mem_append,List.nodup_append,not_or] at hpnd2 hm2
      simp only [List.mem_cons,List.mem_append] at hm2
      obtain ⟨⟨⟨p1,⟨p2a,p2b⟩,p2c⟩,p3⟩,⟨q1,⟨⟨⟨q2,q3,q4⟩,q5,q6⟩,q7⟩⟩,q8,q9⟩:=hpnd2
      rcases hm2 with hm2 | (hm2 | hm2 | hm2) | hm2
      ·subst hm2; exact p2b hb
      ·exact q7 b hm2 b (.inl (.inr hb)) rfl
      ·exact q4 b hm2 b hb rfl
      ·exact q6 b (.inr hb) b hm2 rfl
      ·exact q9 b (.inr (.inl (.inr hb))) b hm2 rfl
    ·exact d4.2.2 b (List.mem_append_right _ hA) b hm2 rfl
   ·exact (d5 b (by simp [hb])).1 hm2
  ·simp only [List.nodup_cons,List.nodup_append] at hpnd2
   exact hpnd2.2.1.2.1.1.2.1
theorem zc.detachAt {t k i c s s0:Nat} (j:Nat) {r:Row} {p:Path} {ys:Els} {x:List AV} {xs:Els} (ht:e t = .sl k (p++[(i,c)]) 0 xs.length) (hg:za h k=some r) (hr:resE r.s r.xs p=some (s0,ys)) (hx:ys[i]? = some x) (hy:x[c]? = some (.ow s xs)) (hj:(h.map Prod.fst).contains j=false) (hp:pro.all (fun k=>k != j)=true) :
  zc P pro e h (upd (z1i (fun k' q=>k'==j || under k p c 1 k' q) e) t (.sl j [] 0 xs.length)) ((j,⟨s,xs⟩)::(k,⟨r.s,updE r.xs p (fun ys=>ys.set i (x.set c .un))⟩)::zd h k):=by
 intro I N _ σ a w R
 have hj':j ∉ h.map Prod.fst:=fun hm=>by
  have:(h.map Prod.fst).contains j=true:=by simpa using hm
  rw [this] at hj; cases hj
 obtain ⟨c1,c2,c3,c4,v,c5⟩:=R.heap.cellAt (σ':=σ) (y':=.un) hg hr hx hy (fun _ _ _=>rfl) (fun v hv=>by
   simp only [Ce] at hv ⊢
   split at hv
   ·obtain ⟨_,a,rfl⟩:=hv; rfl
   ·obtain ⟨_,_,rfl,_⟩:=hv; rfl) rfl
 let σ1:Pl:=fun k' q=>if k'=j then σ k (p++(i,c)::q) else σ k' q
 have hne:∀ k',k' ≠ j→∀ q,σ1 k' q=σ k' q:=fun k' hk q=>if_neg hk
 have hkey:j ∉ (((k,⟨r.s,updE r.xs p (fun ys=>ys.set i (x.set c .un))⟩)::zd h k:H)).map Prod.fst:=by
  simp only [List.map_cons,List.mem_cons,not_or]
  refine ⟨fun e=>hj' ?_,fun hm=>hj' ((z4m R.heap k).2.2.2 j hm)⟩
  rw [e]
  exact ((z3z hg).map Prod.fst).mem_iff.2 (by simp)
 have hrow:zr I σ1 (bl w) j ⟨s,xs⟩∧fpR σ1 j ⟨s,xs⟩=fpA σ k p i c (.ow s xs):=by
  unfold zr fpR
  simp only [fpA]
  have h0:σ1 j []=σ k (p++[(i,c)]):=if_pos rfl
  rw [h0]
  simp only [Ce] at c5
  cases hs:σ k (p++[(i,c)]) with
  | none=>simp only [hs] at c5 ⊢; exact ⟨c5.1,trivial⟩
  | some L =>
   simp only [hs] at c5 ⊢
   obtain ⟨g1,g2,g3,cur,E,g4,g5,g6⟩:=c5
   have hq:∀ i' c' q,σ1 j ([]++(i',c')::q)=σ k ((p++[(i,c)])++(i',c')::q):=fun i' c' q=>by
    show σ1 j ((i',c')::q)=_
    simp [σ1]
   exact ⟨⟨g1,g2,cur,E,g4,g5,CeE.ren (k:=k) (p:=p++[(i,c)]) (p':=[]) 0 s hq xs _ g6⟩,by rw [fpE.ren (k:=k) (p:=p++[(i,c)]) (p':=[]) 0 hq xs]⟩
 have hadd:=c1.add (σ':=σ1) (w':=w) (k:=j) (r:=⟨s,xs⟩) hkey hne (fun _ _ _=>rfl) (Nat.le_refl _) hrow.1 (by rw [hrow.2]; exact c4) (fun b hb=>by
  rw [hrow.2] at hb
  exact ⟨(c3 b hb).2,R.heap.apart b (c3 b hb).1⟩)
 refine ⟨σ1,I,fun _ h=>h,fun _ h=>.inl h,⟨hadd,R.size,fun t'=>?_,R.defers⟩,fun k' hk'=>?_,Le.refl _,fun _ _ _=>rfl,fun b hb=>.inl ?_⟩
 ·unfold upd
  split
  ·rename_i htt
   subst htt
   have hv:=R.vals t'
   rw [ht] at hv
   have h0:σ1 j []=σ k (p++[(i,c)]):=if_pos rfl
   simp only [Va,h0] at hv ⊢
   exact hv
  ·exact Va.kill (fun k' q hb=>hne k' (fun e=>by rw [e] at hb; simp at hb) q) _ _ (R.vals t')
 ·have:=List.all_eq_true.1 hp k' hk'
  exact hne k' (by simpa using this) []
 ·rw [z1h,hrow.2,fpH.ren _ (fun k' hk' q=>hne k' (fun e=>hkey (e ▸ hk')) q)] at hb
  rcases List.mem_append.1 hb with hb | hb
  ·exact (c3 b hb).1
  ·exact c2 b hb
theorem zam {b1 b2:Nat→Path→Bool}:(∀ x:AV,kill b1 (kill b2 x)=kill (fun k q=>b2 k q || b1 k q) x)∧(∀ l:List AV,z2n b1 (z2n b2 l)=z2n (fun k q=>b2 k q || b1 k q) l):=by
 have key:∀ n,(∀ x:AV,sizeOf x≤n→kill b1 (kill b2 x)=kill (fun k q=>b2 k q || b1 k q) x)∧(∀ l:List AV,sizeOf l≤n→z2n b1 (z2n b2 l)=z2n (fun k q=>b2 k q || b1 k q) l):=by
  intro n
  induction n with
  | zero=>exact ⟨fun x hx=>by cases x <;> simp at hx,fun l hl=>by cases l <;> simp at hl⟩
  | succ n ih =>
   refine ⟨fun x hx=>?_,fun l hl=>?_⟩
   ·cases x with
    | sl k p o l=>simp only [kill]; by_cases hb:b2 k p=true <;> simp [kill,hb]
    | pt k p i c=>simp only [kill]; by_cases hb:b2 k p=true <;> simp [kill,hb]
    | pp q =>
     cases q with
     | xp b x c=>rfl
     | fs k cs=>simp only [kill,z4p]; by_cases hb:b2 k []=true <;> simp [kill,z4p,hb]
     | fp k cs i=>simp only [kill,z4p]; by_cases hb:b2 k []=true <;> simp [kill,z4p,hb]
    | ag cs=>simp only [kill]; rw [ih.2 cs (by simp at hx; omega)]
    | tu cs=>simp only [kill]; rw [ih.2 cs (by simp at hx; omega)]
    | fn f cs=>simp only [kill]; rw [ih.2 cs (by simp at hx; omega)]
    | _=>rfl
   ·cases l with
    | nil=>rfl
    | cons x l=>simp only [z2n]; rw [ih.1 x (by simp at hl; omega),ih.2 l (by simp at hl; omega)]
 exact ⟨fun x=>(key _).1 x (Nat.le_refl _),fun l=>(key _).2 l (Nat.le_refl _)⟩
end
section
variable {P:Program} {pro keep:List Nat} {e e1:Env} {h h1:H} {Q:Out→Env→H→Prop} {l:List Ins} {R:Type} {r:R} {g:Option (Nat×Bool)} {d:Nat}
end
mutual
inductive Ty where
 | int (k:IntKind)
 | bool
 | str
 | sl (s by':Nat) (e:Ty)
 | st (fs:Tys)
inductive Tys where
 | nil
 | cons (t:Ty) (ts:Tys)
end
mutual
def OfTy (R:Nat→Nat→Prop):Ty→List AV→Prop
 | .int k,cs=>∃ n,cs=[.sc (.int k n)]∧(Lit.int k n).wf=true
 | .bool,cs=>∃ b,cs=[.sc (.bool b)]
 | .str,cs=>∃ s:ByteArray,cs=[.sc (.string s)]∧R s.size 1
 | .sl s by' e,cs=>∃ xs:List (List AV),cs=[.im s xs]∧(∀ x ∈ xs,OfTy R e x)∧R xs.length by'
 | .st fs,cs=>zrw R fs cs
def zrw (R:Nat→Nat→Prop):Tys→List AV→Prop
 | .nil,cs=>cs=[]
 | .cons t ts,cs=>∃ a b,cs=a++b∧OfTy R t a∧zrw R ts b
end
mutual
def tyOk (P:Program) (t:TypeId):Ty→Bool
 | .int k=>P.cellsOf t==1 && (match P.underlying t with | some (.int k')=>k==k' | _=>false)
 | .bool=>P.cellsOf t==1 && (match P.underlying t with | some .bool=>true | _=>false)
 | .str=>P.cellsOf t==1 && (match P.underlying t with | some .string=>true | _=>false)
 | .sl s by' e=>P.cellsOf t==1 && (match P.underlying t with | some (.slice u)=>decide (0<s) && P.cellsOf u==s && P.bytesOf u==by' && tyOk P u e | _=>false)
 | .st fs=>match P.underlying t with | some (.struct fds)=>zis P fds.toList 0 (P.cellsOf t) fs | _=>false
def zis (P:Program) (fds:List Field) (off total:Nat):Tys→Bool
 | .nil=>fds.isEmpty && off==total
 | .cons t ts=>match fds with
  | []=>false
  | f::r=>f.offset==off && tyOk P f.type t && zis P r (off+P.cellsOf f.type) total ts
end
section
variable {H:Type} {enc:TypeId×Value→H} {P:Program} {w:World} {sp:Nat→Bool} {held:Bool} {R:Nat→Nat→Prop}
abbrev Old (w:World):Nat→Prop:=fun b=>b<w.heap.size
theorem ImC.append {I:Nat→Prop} {B:zj}:∀ {a b:List AV} {cs ds:List Value},ImC I B a cs→ImC I B b ds→ImC I B (a++b) (cs++ds)
 | [],_,_,_,h,h'=>by
  obtain rfl:_=[]:=h
  exact h'
 | _::as,_,_,_,h,h'=>by
  obtain ⟨v,cs',rfl,h1,h2⟩:=h
  exact ⟨v,cs'++_,rfl,h1,h2.append h'⟩
theorem ztb {I:Nat→Prop} {B:zj} {s:Nat}:∀ {xs:Els} {l:List Value},(∀ i x,xs[i]? = some x→x.length=s∧ImC I B x ((l.drop (i * s)).take s))→ImE I B s xs l
 | [],_,_=>trivial
 | x::xs,l,h=>by
  have h0:=h 0 x rfl
  simp only [Nat.zero_mul,List.drop_zero] at h0
  refine ⟨h0.1,h0.2,ztb fun i y hy=>?_⟩
  have h1:=h (i+1) y hy
  rw [List.drop_drop,show s+i * s=(i+1) * s by rw [Nat.add_mul]; omega]
  exact h1
theorem zy9 {α:Type} {Q:Nat→α→Prop}:∀ {n:Nat},(∀ i,i<n→∃ x,Q i x)→∃ xs:List α,xs.length=n∧∀ i x,xs[i]? = some x→Q i x:=by
 intro n
 induction n with
 | zero=>intro _; exact ⟨[],rfl,fun i x h=>by simp at h⟩
 | succ n ih =>
  intro h
  obtain ⟨xs,h1,h2⟩:=ih fun i hi=>h i (by omega)
  obtain ⟨x,hx⟩:=h n (by omega)
  refine ⟨xs++[x],by simp [h1],fun i y hy=>?_⟩
  by_cases hi:i<n
  ·exact h2 i y (by rw [List.getElem?_append_left (by omega)] at hy; exact hy)
  ·rw [List.getElem?_append_right (by omega)] at hy
   by_cases e:i - xs.length=0
   ·rw [e] at hy
    obtain rfl:=Option.some.inj hy
    obtain rfl:i=n:=by omega
    exact hx
   ·rw [List.getElem?_eq_none (by simp; omega)] at hy
    cases hy
theorem zs5 {a:Addr} {v:Value} (h:w.cell? a=some v):∃ c E fr,w.heap[a.block]? = some (.cells c E fr)∧a.spot=none∧c[a.off]? = some v:=by
 unfold World.cell? at h
 split at h
 ·rename_i c E fr hc
  split at h
  ·cases h
  ·rename_i hs
   refine ⟨c,E,fr,hc,?_,h⟩
   cases hsp:a.spot <;> simp_all
 ·cases h
theorem zg0 {e:TypeId}:∀ {l:List (DataW H)} {n:Nat} {d:DataW H},d ∈ l→n ∈ d.weights P e→n ∈ DataW.weightsAll P e l
 | _::_,_,_,h,h'=>by
  simp only [DataW.weightsAll,List.mem_append]
  cases h with
  | head=>exact .inl h'
  | tail _ h=>exact .inr (zg0 h h')
structure Fit (R:Nat→Nat→Prop) (P:Program) (H:Type) where
 F:TypeId→DataW H→Prop
 E:List TypeId→List (DataW H)→Prop
 str:∀ {t:TypeId} {l:List UInt8},F t (.lit (.string l))→R l.length 1
 nil:∀ b,R 0 b
 sl:∀ {t u:TypeId} {e s:List (DataW H)},P.underlying t=some (.slice u)→F t (.slice e s)→R e.length (P.bytesOf u)∧∀ x ∈ e,F u x
 st:∀ {t:TypeId} {fds:Array Field} {ps:List (DataW H)},P.underlying t=some (.struct fds)→F t (.agg ps)→E (fds.toList.map (·.type)) ps
 cons:∀ {t:TypeId} {ts:List TypeId} {d:DataW H} {ds:List (DataW H)},E (t::ts) (d::ds)→F t d∧E ts ds
def z4n (P:Program) (H:Type):Fit (fun n b=>n * b≤reachBytes) P H where
 F t d:=∀ n ∈ d.weights P t,n≤reachBytes
 E ts ds:=∀ n ∈ DataW.weightsEach P ts ds,n≤reachBytes
 str {t l} h:=by have:=h l.length (by simp [DataW.weights]); simpa using this
 nil b:=by simp
 sl hu h:=by
  refine ⟨?_,fun x hx m hm=>h m ?_⟩
  ·have:=h _ (by simp only [DataW.weights,hu]; exact List.mem_cons_self ..)
   exact Nat.le_trans (Nat.mul_le_mul_right _ (Nat.le_add_right _ _)) this
  ·simp only [DataW.weights,hu,List.mem_cons,List.mem_append]
   exact .inr (.inl (zg0 hx hm))
 st hu h:=by intro n hn; exact h n (by simp only [DataW.weights,hu]; exact hn)
 cons h:=⟨fun n hn=>h n (by simp only [DataW.weightsEach,List.mem_append]; exact .inl hn),fun n hn=>h n (by simp only [DataW.weightsEach,List.mem_append]; exact .inr hn)⟩
def ycx (P:Program) (H:Type) (N:Nat) (B:DataW H→Nat) (BA:List (DataW H)→Nat) (h1:∀ d,1≤B d) (hs:∀ l,B (.lit (.string l))=l.length+1) (hsl:∀ e s,B (.slice e s)=BA e+BA s+1) (ha:∀ l,B (.agg l)=BA l+1) (hc:∀ d r,BA (d::r)=B d+BA r) :
  Fit (fun n b=>n * b≤reachBytes∧n≤N) P H where
 F t d:=(z4n P H).F t d∧B d≤N
 E ts ds:=(z4n P H).E ts ds∧BA ds≤N
 str h:=⟨(z4n P H).str h.1,by have:=h.2; rw [hs] at this; omega⟩
 nil b:=⟨by simp,Nat.zero_le _⟩
 sl {t u e s} hu h:=by
  obtain ⟨a,b⟩:=(z4n P H).sl hu h.1
  have hN:=h.2
  rw [hsl] at hN
  have hl:∀ l:List (DataW H),l.length≤BA l:=by
   intro l
   induction l with
   | nil=>exact Nat.zero_le _
   | cons x r ih=>rw [hc]; have:=h1 x; simp only [List.length_cons]; omega
  have hm:∀ (l:List (DataW H)),∀ x ∈ l,B x≤BA l:=by
   intro l
   induction l with
   | nil=>intro x hx; cases hx
   | cons y r ih =>
    intro x hx
    rw [hc]
    rcases List.mem_cons.1 hx with rfl | hx
    ·omega
    ·have:=ih x hx; omega
  exact ⟨⟨a,by have:=hl e; omega⟩,fun x hx=>⟨b x hx,by have:=hm e x hx; omega⟩⟩
 st hu h:=⟨(z4n P H).st hu h.1,by have:=h.2; rw [ha] at this; omega⟩
 cons h:=⟨⟨((z4n P H).cons h.1).1,by have:=h.2; rw [hc] at this; omega⟩,((z4n P H).cons h.1).2,by have:=h.2; rw [hc] at this; omega⟩
mutual
theorem lift (Φ:Fit R P H):∀ (T:Ty) {t:TypeId} {fuel:Nat} {cs:List Value} {x:DataW H×List MemPlace},tyOk P t T=true→DataW.trod enc P w 0 sp held fuel t cs=some x→Φ.F t x.1 →
  ∃ as,OfTy R T as∧ImC (Old w) (bl w) as cs∧as.length=P.cellsOf t
 | .int k,t,fuel,cs,x,ok,h,hw=>by
  simp only [tyOk,Bool.and_eq_true,beq_iff_eq] at ok
  obtain ⟨o1,o2⟩:=ok
  split at o2
  ·rename_i k' hu
   obtain rfl:k=k':=by simpa using o2
   obtain ⟨n,rfl,rfl,hwf⟩:=DataW.trod_int hu h
   exact ⟨_,⟨n,rfl,hwf⟩,⟨_,[],rfl,⟨rfl,rfl⟩,rfl⟩,o1.symm⟩
  ·cases o2
 | .bool,t,fuel,cs,x,ok,h,hw=>by
  simp only [tyOk,Bool.and_eq_true,beq_iff_eq] at ok
  obtain ⟨o1,o2⟩:=ok
  split at o2
  ·rename_i hu
   obtain ⟨b,rfl,rfl⟩:=DataW.trod_bool hu h
   exact ⟨_,⟨b,rfl⟩,⟨_,[],rfl,⟨rfl,rfl⟩,rfl⟩,o1.symm⟩
  ·cases o2
 | .str,t,fuel,cs,x,ok,h,hw=>by
  simp only [tyOk,Bool.and_eq_true,beq_iff_eq] at ok
  obtain ⟨o1,o2⟩:=ok
  split at o2
  ·rename_i hu
   obtain ⟨s,rfl,rfl,hs⟩:=DataW.trod_string hu h
   refine ⟨_,⟨s,rfl,?_⟩,⟨_,[],rfl,⟨rfl,rfl⟩,rfl⟩,o1.symm⟩
   have:=Φ.str hw
   simpa using this
  ·cases o2
 | .sl s b e,t,fuel,cs,x,ok,h,hw=>by
  simp only [tyOk,Bool.and_eq_true,beq_iff_eq] at ok
  obtain ⟨o1,o2⟩:=ok
  split at o2
  ·rename_i u hu
   simp only [Bool.and_eq_true,beq_iff_eq,decide_eq_true_eq] at o2
   obtain ⟨⟨⟨hs,rfl⟩,rfl⟩,oe⟩:=o2
   rcases DataW.trod_slice hu h with ⟨rfl,rfl⟩ | ⟨a,len,cap,elems,rest,n,rfl,rfl,rfl,-,hlc,-,hlen,hel,-,-⟩
   ·exact ⟨[.im _ []],⟨[],rfl,(fun x hx=>by cases hx),Φ.nil _⟩,⟨_,[],rfl,⟨none,0,rfl,Nat.le_refl _,fun h=>(h rfl).elim⟩,rfl⟩,o1.symm⟩
   ·obtain ⟨hwe,hww⟩:=Φ.sl hu hw
    have step:∀ i,i<len→∃ as,(OfTy R e as∧as.length=P.cellsOf u)∧∃ cs',w.cells? 0 (a.add (i * P.cellsOf u)) (P.cellsOf u)=some cs'∧ImC (Old w) (bl w) as cs':=by
     intro i hi
     have h1:=hel i hi
     rw [List.getElem?_eq_getElem (by omega)] at h1
     obtain ⟨cs',h2,h3⟩:=Option.bind_eq_some_iff.1 h1
     obtain ⟨as,a1,a2,a3⟩:=lift Φ e oe h3 (hww _ (List.mem_map_of_mem (List.getElem_mem (by omega))))
     exact ⟨as,⟨a1,a3⟩,cs',h2,a2⟩
    obtain ⟨xs,x1,x2⟩:=zy9 step
    refine ⟨[.im _ xs],⟨xs,rfl,fun x hx=>?_,?_⟩,⟨_,[],rfl,⟨some a,cap,by rw [x1],by omega,fun hne=>?_⟩,rfl⟩,o1.symm⟩
    ·obtain ⟨i,hi,rfl⟩:=List.getElem_of_mem hx
     exact (x2 i _ (List.getElem?_eq_getElem hi)).1.1
    ·rw [x1,← hlen]
     simpa using hwe
    ·have h0:0<xs.length:=List.length_pos_iff.2 hne
     obtain ⟨-,cs0,c1,-⟩:=x2 0 _ (List.getElem?_eq_getElem h0)
     have c2:=(World.cells?_some c1).2.2 0 hs
     rw [List.getElem?_eq_getElem (by have:=(World.cells?_some c1).2.1; omega)] at c2
     obtain ⟨c,E,fr,hc,hsp,-⟩:=zs5 c2
     have hsn:a.spot=none:=by
      rcases a with ⟨b0,o0,s0⟩
      cases s0 with
      | none=>rfl
      | some z=>simp [Addr.add] at hsp
     obtain ⟨b0,o0,s0⟩:=a
     obtain rfl:s0=none:=hsn
     have hadd:∀ o k,Addr.add ⟨b0,o,none⟩ k=⟨b0,o+k,none⟩:=fun o k=>by
      unfold Addr.add
      split
      ·subst_vars; rfl
      ·rfl
     simp only [hadd] at hc
     refine ⟨⟨b0,o0,none⟩,c,E,fr,rfl,rfl,?_,hc,ztb fun i x hx=>?_⟩
     ·show b0<w.heap.size
      by_cases hl:b0<w.heap.size
      ·exact hl
      ·rw [Array.getElem?_eq_none (by omega)] at hc; cases hc
     ·obtain ⟨⟨-,q1⟩,cs',q2,q3⟩:=x2 i x hx
      refine ⟨q1,?_⟩
      obtain ⟨-,l1,l2⟩:=World.cells?_some q2
      have:((c.toList.drop o0).drop (i * P.cellsOf u)).take (P.cellsOf u)=cs':=by
       apply List.ext_getElem?
       intro j
       by_cases hj:j<P.cellsOf u
       ·rw [← l2 j hj,List.getElem?_take_of_lt hj,List.drop_drop,List.getElem?_drop]
        simp only [World.cell?,hadd,hc]
        simp [Nat.add_assoc]
       ·rw [List.getElem?_eq_none (by simp; omega),List.getElem?_eq_none (by omega)]
      rw [this]
      exact q3
  ·cases o2
 | .st fs,t,fuel,cs,x,ok,h,hw=>by
  simp only [tyOk] at ok
  split at ok
  ·rename_i fds hu
   obtain ⟨xs,n,rfl,rfl,hl,hx,hf⟩:=DataW.trod_struct hu h
   obtain ⟨as,a1,a2,a3⟩:=y3s Φ fs (fds:=fds.toList) (off:=0) (cs:=cs) (total:=P.cellsOf t) (xs:=xs) (n:=n) ok hl (by simpa using hx) (fun i f hi=>hf i f (by simpa using hi)) (Φ.st hu hw)
   exact ⟨as,a1,by simpa using a2,by simpa using a3⟩
  ·cases ok
theorem y3s (Φ:Fit R P H):∀ (T:Tys) {fds:List Field} {off total:Nat} {cs:List Value} {xs:List (DataW H×List MemPlace)} {n:Nat},zis P fds off total T=true→cs.length=total→xs.length=fds.length →
  (∀ (i:Nat) (f:Field),fds[i]? = some f→DataW.trod enc P w 0 sp held n f.type ((cs.drop f.offset).take (P.cellsOf f.type))=xs[i]?) →
  Φ.E (fds.map (·.type)) (xs.map (·.1)) →
  ∃ as,zrw R T as∧ImC (Old w) (bl w) as (cs.drop off)∧as.length=total - off
 | .nil,fds,off,total,cs,xs,n,ok,hl,hx,hf,hw=>by
  simp only [zis,Bool.and_eq_true,beq_iff_eq] at ok
  obtain ⟨-,rfl⟩:=ok
  refine ⟨[],rfl,?_,by simp⟩
  rw [List.drop_eq_nil_of_le (by omega)]
  exact rfl
 | .cons t ts,fds,off,total,cs,xs,n,ok,hl,hx,hf,hw=>by
  simp only [zis] at ok
  split at ok
  ·cases ok
  ·rename_i f r
   simp only [Bool.and_eq_true,beq_iff_eq] at ok
   obtain ⟨⟨rfl,o1⟩,o2⟩:=ok
   cases xs with
   | nil=>simp at hx
   | cons x xs =>
    have h0:=hf 0 f rfl
    obtain ⟨as,a1,a2,a3⟩:=lift Φ t o1 h0 (Φ.cons hw).1
    obtain ⟨bs,b1,b2,b3⟩:=y3s Φ ts (fds:=r) (off:=f.offset+P.cellsOf f.type) (total:=total) (cs:=cs) (xs:=xs) (n:=n) o2 hl (by simpa using hx) (fun i g hg=>hf (i+1) g hg) (Φ.cons hw).2
    have e:cs.drop f.offset=(cs.drop f.offset).take (P.cellsOf f.type)++cs.drop (f.offset+P.cellsOf f.type):=by
     rw [← List.drop_drop,List.take_append_drop]
    refine ⟨as++bs,⟨as,bs,rfl,a1,b1⟩,?_,?_⟩
    ·rw [e]; exact a2.append b2
    ·have q:∀ {I:Nat→Prop} {B:zj} (l:List AV) (c:List Value),ImC I B l c→l.length=c.length:=by
      intro I B l
      induction l with
      | nil=>intro c h; obtain rfl:c=[]:=h; rfl
      | cons a l ih=>intro c h; obtain ⟨v,c',rfl,-,h'⟩:=h; simp [ih c' h']
     have e1:=q as _ a2
     have e2:=q bs _ b2
     simp only [List.length_append,List.length_take,List.length_drop] at *
     omega
end
end
theorem z9o {α:Type} {c:α→List AV} {W:α→Prop} {Q:List AV→Prop} (hq:∀ x,Q x→∃ y,W y∧c y=x):∀ {xs:Els},(∀ x ∈ xs,Q x)→∃ ys:List α,(∀ y ∈ ys,W y)∧ys.map c=xs
 | [],_=>⟨[],(fun y hy=>by cases hy),rfl⟩
 | x::xs,h=>by
  obtain ⟨y,h1,h2⟩:=hq x (h x (List.mem_cons_self ..))
  obtain ⟨ys,h3,h4⟩:=z9o hq (xs:=xs) fun z hz=>h z (List.mem_cons_of_mem _ hz)
  exact ⟨y::ys,(fun z hz=>by cases hz with | head=>exact h1 | tail _ hz=>exact h3 z hz),by simp [h2,h4]⟩
end Loom
namespace Loom
open Go Go.ChangeShapes Go.WideShapes Go.RowKit
def y1a:Ty→List AV→AV
 | .st _,cs=>.ag cs
 | _,cs=>cs.headD .un
def OfArgs (R:Nat→Nat→Prop):List Ty→List (List AV)→Prop
 | [],as=>as=[]
 | T::Ts,as=>∃ a r,as=a::r∧OfTy R T a∧OfArgs R Ts r
def argsOf:List Ty→List (List AV)→List AV
 | T::Ts,a::as=>y1a T a::argsOf Ts as
 | _,_=>[]
def ze7 (P:Program):List TypeId→List Ty→Bool
 | [],[]=>true
 | t::ts,T::Ts=>tyOk P t T && P.readableRec t && decide (t<P.types.size) && ze7 P ts Ts
 | _,_=>false
section
variable {H:Type} {enc:TypeId×Value→H} {P:Program} {W:World} {σ:Pl} {R:Nat→Nat→Prop}
theorem zza (Φ:Fit R P H) {T:Ty} {t:TypeId} {v:Value} {d:DataW H} {p:List MemPlace} {r:Reach} {b0:Nat} (ok:tyOk P t T=true) (hval:Value.okWide P W r b0 t v)
  (h:DataW.Trod enc P W 0 (fun _=>true) true t v d p) (hw:Φ.F t d):∃ as,OfTy R T as∧Va (Old W) σ (bl W) (y1a T as) v:=by
 obtain ⟨fuel,h⟩:=h
 obtain ⟨as,a1,a2,-⟩:=lift Φ T ok h hw
 refine ⟨as,a1,?_⟩
 have one:∀ {x:AV},as=[x]→v.cells = #[v]→Va (Old W) σ (bl W) x v:=by
  rintro x rfl hc
  rw [hc] at a2
  obtain ⟨u,cs',e,h1,-⟩:=a2
  obtain ⟨rfl,-⟩:=List.cons.inj e
  exact (Im.va _ _ h1).1
 cases T with
 | int k =>
  simp only [tyOk,Bool.and_eq_true] at ok
  have ok:=ok.2
  split at ok
  ·rename_i hu
   obtain ⟨n,rfl⟩:=okWide_int hu hval
   obtain ⟨m,rfl,-⟩:=a1
   exact one rfl rfl
  ·cases ok
 | bool =>
  simp only [tyOk,Bool.and_eq_true] at ok
  have ok:=ok.2
  split at ok
  ·rename_i hu
   obtain ⟨n,rfl⟩:=okWide_bool hu hval
   obtain ⟨m,rfl⟩:=a1
   exact one rfl rfl
  ·cases ok
 | str =>
  simp only [tyOk,Bool.and_eq_true] at ok
  have ok:=ok.2
  split at ok
  ·rename_i hu
   obtain ⟨n,rfl⟩:=okWide_string hu hval
   obtain ⟨m,rfl,-⟩:=a1
   exact one rfl rfl
  ·cases ok
 | sl s b e =>
  simp only [tyOk,Bool.and_eq_true] at ok
  have ok:=ok.2
  split at ok
  ·rename_i hu
   obtain ⟨a,l,c,rfl⟩:=okWide_slice hu hval
   obtain ⟨m,rfl,-⟩:=a1
   exact one rfl rfl
  ·cases ok
 | st fs =>
  simp only [tyOk] at ok
  split at ok
  ·rename_i hu
   obtain ⟨cs,rfl,-⟩:=okWide_struct hu hval
   exact ⟨cs,rfl,ImC.va _ _ a2⟩
  ·cases ok
theorem zdj (Φ:Fit R P H) (hl:laidOutB P=true):∀ {ts:List TypeId} {Ts:List Ty} {vs:List Value} {ds:List (DataW H)} {ps:List MemPlace},ze7 P ts Ts=true→(∀ (j:Nat) t v,ts[j]? = some t→vs[j]? = some v→Value.okWide P W .any 0 t v) →
  DataW.TrodAll enc P W 0 (fun _=>true) true ts vs ds ps→Φ.E ts ds →
  (∃ as,OfArgs R Ts as∧VaL (Old W) σ (bl W) (argsOf Ts as) vs)∧ds.length=Ts.length∧∀ W',Below W.heap.size W W'→DataW.TrodAll enc P W' 0 (fun b=>decide (b<W.heap.size)) true ts vs ds ps
 | [],[],vs,ds,ps,_,_,h,_=>by
  obtain ⟨rfl,rfl,rfl⟩:=trodAll_nil h
  exact ⟨⟨[],rfl,rfl⟩,rfl,fun _ _=>rfl⟩
 | t::ts,T::Ts,vs,ds,ps,ok,hval,h,hw=>by
  simp only [ze7,Bool.and_eq_true,decide_eq_true_eq] at ok
  obtain ⟨⟨⟨o1,o2⟩,o3⟩,o4⟩:=ok
  obtain ⟨v,vs,d,ds,p,q,rfl,rfl,rfl,h1,h2⟩:=trodAll_cons h
  obtain ⟨a,a1,a2⟩:=zza Φ (σ:=σ) o1 (hval 0 _ _ rfl rfl) h1 (Φ.cons hw).1
  obtain ⟨⟨as,b1,b2⟩,b3,b4⟩:=zdj Φ hl o4 (fun j t v e1 e2=>hval (j+1) t v e1 e2) h2 (Φ.cons hw).2
  refine ⟨⟨a::as,⟨a,as,rfl,a1,b1⟩,v,vs,rfl,a2,b2⟩,by simp [b3],fun W' hb=>⟨p,q,?_,b4 W' hb,rfl⟩⟩
  have h1':=h1
  obtain ⟨n,hn⟩:=h1
  exact RowKit.Below.trod hl o2 o3 h1' hb (DataW.trod_lt n _ _ _ hn)
 | [],_::_,_,_,_,ok,_,_,_=>by cases ok
 | _::_,[],_,_,_,ok,_,_,_=>by cases ok
theorem zkt {f:Nat} {as:List AV} {vs:List Value} (hc:CallG P f as [] (Bl true) []) (hv:VaL (Old W) (fun _ _=>none) (bl W) as vs) :
  Calls P f vs.toArray W fun e W'=>e = .returned (.bool true)∧Below W.heap.size W W':=by
 refine (hc (Old W) (fun _ _=>none) W vs ⟨trivial,List.nodup_nil,List.nodup_nil,(fun b hb=>by cases hb),fun b hb=>hb⟩ hv).mono ?_
 rintro e W' ⟨v,σ',I',rfl,-,-,-,hr,-,hle,hb,-⟩
 obtain rfl:v = .bool true:=hr
 exact ⟨rfl,hle.os,hle.tape,hle.output,hle.size,fun k hk=>hb k hk (by intro h; cases h)⟩
end
abbrev RSaid:Nat→Nat→Prop:=fun n b=>n * b≤reachBytes
abbrev ycy (N:Nat):Nat→Nat→Prop:=fun n b=>n * b≤reachBytes∧n≤N
theorem row_of {C:Checked} {os:Os} {H:Type} {enc:TypeId×Value→H} {f:Nat} {fn:Func} {s:ChangeSpec} {ts:List TypeId} (Ts:List Ty) (tb:TypeId) (started:os.Started) (own:ownKnob C.prog.godebug=none)
  (noInit:C.prog.inits.idxOf? f=none) (hfn:C.prog.funcs[f]? = some fn)
  (witness:∃ (w:World) (tape:Tape) (i:Input),w.os=os∧(w.forCall tape i).Shaped C.prog∧i.vars=[]∧Input.okWide C.prog (w.forCall tape i) .any w.heap.size f i ∧
   s.pre6 enc C.prog fn [] false (w.forCall tape i).memory i.args∧({}:Assume).holds C.prog (lone (Frame.enter C.prog f i.args .normal) [] (w.forCall tape i)))
  (hl:laidOutB C.prog=true) (hps:fn.params=ts.toArray) (hrs:fn.resultTypes = #[tb]) (htb:C.prog.underlying tb=some .bool) (hts:ze7 C.prog ts Ts=true)
  (hvars:s.vars=[]) (hs:∀ ds:List (DataW H),ds.length=Ts.length→s.fn H ds = { results:=[.lit (.bool true)],args:=ds })
  (hc:∀ as,OfArgs RSaid Ts as→CallG C.prog f (argsOf Ts as) [] (Bl true) []) :
  ReturnsInHanded {} C os f .any (s.pre6 enc C.prog fn [] false) (s.post enc C.prog fn false true false false):=by
 refine returnsInHanded_of_change_sized (C:=C) own started noInit hfn witness ?_
 intro W base args ds gs before hval hW _ hsz _
 have hW':=hW
 obtain ⟨p,q,hA,hV,rfl,hfz,hnd⟩:=hW
 rw [hvars] at hV
 obtain ⟨rfl,rfl⟩:=trodVars_none hV
 have hvt:s.plain.varTypes C.prog=[]:=by
  have:s.plain.vars=[]:=hvars
  simp [DataSpec.varTypes,this]
 rw [hvt,List.append_nil,List.append_nil] at hsz
 rw [hps] at hA hsz
 obtain ⟨⟨as,a1,a2⟩,a3,a4⟩:=zdj (z4n C.prog H) (W:=W) (σ:=fun _ _=>none) hl hts (fun j t v h1 h2=>hval j t v (by rw [hps]; simpa using h1) (by simpa using h2)) hA fun n hn=>by
  have:=List.all_eq_true.1 hsz n hn
  simpa using this
 have:=zkt (hc as a1) a2
 rw [Array.toArray_toList] at this
 refine this.mono fun e W' ⟨he,bel⟩=>?_
 subst he
 refine ⟨_,rfl,_,_,_,[],p,[],hW',?_⟩
 have e:s.fn H (ds++[]) = { results:=[.lit (.bool true)],args:=ds }:=by rw [List.append_nil]; exact hs ds a3
 rw [e,hvars,hrs,hps]
 exact ⟨trodAll_mk1 (shut_bool htb _),a4 W' bel,rfl,bel.frame _,fun h=>by cases h⟩
theorem ycw {C:Checked} {os:Os} {H:Type} {enc:TypeId×Value→H} {f:Nat} {fn:Func} {s:OpenSpec} {k:(H:Type)→List (DataW H)→Bool} (hk:s.cond=some k) {F:Stop.Interp} {ts:List TypeId} (Ts:List Ty) (tb:TypeId) {R:Nat→Nat→Prop} (Φ:Fit R C.prog H) (started:os.Started) (own:ownKnob C.prog.godebug=none)
  (noInit:C.prog.inits.idxOf? f=none) (hfn:C.prog.funcs[f]? = some fn)
  (witness:∃ (w:World) (tape:Tape) (i:Input),w.os=os∧(w.forCall tape i).Shaped C.prog∧i.vars=[]∧Input.okWide C.prog (w.forCall tape i) .any w.heap.size f i ∧
   s.pre6 enc C.prog fn [] false (w.forCall tape i).memory i.args∧({}:Assume).holds C.prog (lone (Frame.enter C.prog f i.args .normal) [] (w.forCall tape i)))
  (hl:laidOutB C.prog=true) (hps:fn.params=ts.toArray) (hrs:fn.resultTypes = #[tb]) (htb:C.prog.underlying tb=some .bool) (hts:ze7 C.prog ts Ts=true)
  (hvars:s.vars=[]) (hs:∀ ds:List (DataW H),ds.length=Ts.length→(s.at F).fn H ds = { results:=[.lit (.bool true)],args:=ds })
  (hΦ:∀ ds,k H ds=true→(z4n C.prog H).E ts ds→Φ.E ts ds)
  (hc:∀ as,OfArgs R Ts as→CallG C.prog f (argsOf Ts as) [] (Bl true) []) :
  ReturnsInHanded {} C os f .any (s.pre6 enc C.prog fn [] false) ((s.at F).post enc C.prog fn false true false false):=by
 refine returnsInHanded_of_cond_sized (C:=C) hk own started noInit hfn witness ?_
 intro W base args ds gs before hval hW _ hkk hsz _
 have hW':=hW
 obtain ⟨p,q,hA,hV,rfl,hfz,hnd⟩:=hW
 rw [hvars] at hV
 obtain ⟨rfl,rfl⟩:=trodVars_none hV
 have hvt:s.bare.plain.varTypes C.prog=[]:=by
  have:s.bare.plain.vars=[]:=hvars
  simp [DataSpec.varTypes,this]
 rw [hvt,List.append_nil,List.append_nil] at hsz
 rw [List.append_nil] at hkk
 rw [hps] at hA hsz
 obtain ⟨⟨as,a1,a2⟩,a3,a4⟩:=zdj Φ (W:=W) (σ:=fun _ _=>none) hl hts (fun j t v h1 h2=>hval j t v (by rw [hps]; simpa using h1) (by simpa using h2)) hA (hΦ ds hkk fun n hn=>by
  have:=List.all_eq_true.1 hsz n hn
  simpa using this)
 have:=zkt (hc as a1) a2
 rw [Array.toArray_toList] at this
 refine this.mono fun e W' ⟨he,bel⟩=>?_
 subst he
 refine ⟨_,rfl,_,_,_,[],p,[],hW',?_⟩
 have e:(s.at F).fn H (ds++[]) = { results:=[.lit (.bool true)],args:=ds }:=by rw [List.append_nil]; exact hs ds a3
 have hvars':(s.at F).vars=[]:=hvars
 rw [e,hvars',hrs,hps]
 exact ⟨trodAll_mk1 (shut_bool htb _),a4 W' bel,rfl,bel.frame _,fun h=>by cases h⟩
end Loom
namespace Loom
attribute [local instance] Dfs.none
open Go Go.ChangeMaps
def KM (w:World) (b:Nat) (ks:List ByteArray):Prop :=
 ∃ es cl,w.heap[b]? = some (.map es cl)∧es.toList.map (·.key)=ks.map Value.string∧∀ x ∈ es.toList,∃ n,x.val = .int .i64 n
section
variable {P:Program} {w:World} {b:Nat} {ks:List ByteArray} {t k e:TypeId}
def has (s:ByteArray) (ks:List ByteArray):Bool:=ks.any (· == s)
theorem zg9 (s:ByteArray):∀ (l:List MapEntry) (ks:List ByteArray) (i:Nat),l.map (·.key)=ks.map Value.string →
  (has s ks=false∧Instr.findNow .string (.string s) l i=some none)∨∃ j e,has s ks=true∧Instr.findNow .string (.string s) l i=some (some (i+j,e.val))∧l[j]? = some e∧e.key = .string s
 | [],[],i,_=>.inl ⟨rfl,rfl⟩
 | x::l,k::ks,i,h=>by
  simp only [List.map_cons,List.cons.injEq] at h
  obtain ⟨h1,h2⟩:=h
  cases e:k==s
  ·have e':(s==k)=false:=by
    cases q:s==k
    ·rfl
    ·rw [(MapKept.bytes_beq s k).1 q,(MapKept.bytes_beq k k).2 rfl] at e; cases e
   have hn:Instr.findNow .string (.string s) (x::l) i=Instr.findNow .string (.string s) l (i+1):=by
    simp only [Instr.findNow,Instr.sameNow,h1,e']
   rw [hn]
   rcases zg9 s l ks (i+1) h2 with ⟨g1,g2⟩ | ⟨j,e',g0,g1,g2,g3⟩
   ·exact .inl ⟨by simp only [has,List.any_cons,e,Bool.false_or]; exact g1,g2⟩
   ·exact .inr ⟨j+1,e',by simp only [has,List.any_cons,e,Bool.false_or]; exact g0,by rw [g1,show i+1+j=i+(j+1) by omega],by simpa using g2,g3⟩
  ·obtain rfl:=(MapKept.bytes_beq k s).1 e
   refine .inr ⟨0,x,by simp only [has,List.any_cons,e,Bool.true_or],?_,rfl,h1⟩
   simp only [Instr.findNow,Instr.sameNow,h1,e]
   rfl
 | [],_::_,_,h=>by cases h
 | _::_,[],_,h=>by cases h
theorem zce (hk:P.underlying k=some .string) (s:ByteArray) (l:List MapEntry) {r:Option (Nat×Value)} (h:Instr.findNow .string (.string s) l 0=some r):(Instr.findKey k (.string s) l).run P w = .ok r w:=MapKept.run_findKey hk h
theorem zaa (em:Bool) (hk:P.underlying k=some .string) (s:ByteArray):(Instr.checkKey em 10000 k (.string s)).run P w = .ok () w:=MapKept.run_checkKey hk (by simp [MapKept.IsKey]) em 9999
theorem KM.lookup (h:KM w b ks) (ht:P.underlying t=some (.map k e)) (hk:P.underlying k=some .string) (hz:(zeroValue e).run P w = .ok (.int .i64 0) w) (s:ByteArray) :
  ∃ n,(Instr.lookup t (.map (some b)) (.string s) false).run P w = .ok (.int .i64 n) w:=by
 obtain ⟨es,cl,hb,h1,h2⟩:=h
 rcases zg9 s es.toList ks 0 h1 with ⟨g1,g2⟩ | ⟨j,e',g0,g1,g2,g3⟩
 ·exact ⟨0,by simp [Instr.lookup,run_underlying ht,MapKept.run_getObj_map hb,zaa _ hk,zce hk _ _ g2,hz,Result.andThen]⟩
 ·obtain ⟨n,hn⟩:=h2 e' (List.mem_of_getElem? g2)
  exact ⟨n,by simp [Instr.lookup,run_underlying ht,MapKept.run_getObj_map hb,zaa _ hk,zce hk _ _ g1,Result.andThen,hn]⟩
theorem KM.update (h:KM w b ks) (ht:P.underlying t=some (.map k e)) (hk:P.underlying k=some .string) (s:ByteArray) (n:Int) :
  ∃ w',(Instr.mapUpdate t (.map (some b)) (.string s) (.int .i64 n)).run P w = .ok () w'∧KM w' b (bif has s ks then ks else ks++[s])∧Le w w'∧∀ i,i ≠ b→bl w' i=bl w i:=by
 obtain ⟨es,cl,hb,h1,h2⟩:=h
 have le:∀ o,Le w (setBlock w b o):=fun o=>⟨by simp [setBlock],rfl,rfl,rfl⟩
 have oth:∀ o i,i ≠ b→bl (setBlock w b o) i=bl w i:=fun o i hi=>heap_setBlock_other hb o hi
 rcases zg9 s es.toList ks 0 h1 with ⟨g1,g2⟩ | ⟨j,e',g0,g1,g2,g3⟩
 ·refine ⟨setBlock w b (.map (es.push ⟨.string s,.int .i64 n,cl⟩) (cl+1)),?_,⟨_,_,heap_setBlock_same hb _,?_,?_⟩,le _,oth _⟩
  ·simp [Instr.mapUpdate,run_underlying ht,MapKept.run_getObj_map hb,zaa _ hk,zce hk _ _ g2,MapKept.run_setObj_map _ hb,Result.andThen,setBlock]
  ·simp [g1,h1]
  ·intro x hx
   simp only [Array.toList_push,List.mem_append,List.mem_singleton] at hx
   rcases hx with hx | rfl
   ·exact h2 x hx
   ·exact ⟨n,rfl⟩
 ·have hj:es[j]? = some e':=by simpa using g2
  have hj':j<es.size:=(Array.getElem?_eq_some_iff.1 hj).1
  refine ⟨setBlock w b (.map (es.modify j fun e=>{ e with key:=.string s,val:=.int .i64 n }) cl),?_,⟨_,_,heap_setBlock_same hb _,?_,?_⟩,le _,oth _⟩
  ·simp [Instr.mapUpdate,run_underlying ht,MapKept.run_getObj_map hb,zaa _ hk,zce hk _ _ g1,MapKept.run_setObj_map _ hb,Result.andThen,setBlock,Instr.keyThatStays,Instr.sameBits,hj,g3,(MapKept.bytes_beq s s).2 rfl]
  ·simp only [g0,cond_true,← h1]
   apply List.ext_getElem?
   intro i
   simp only [List.getElem?_map,Array.getElem?_toList,Array.getElem?_modify]
   split
   ·rename_i hi
    subst hi
    simp [hj,g3]
   ·rfl
  ·intro x hx
   obtain ⟨i,hi⟩:=List.getElem?_of_mem hx
   simp only [Array.getElem?_toList,Array.getElem?_modify] at hi
   split at hi
   ·obtain ⟨y,hy,rfl⟩:=Option.map_eq_some_iff.1 hi
    exact ⟨n,rfl⟩
   ·exact h2 x (List.mem_of_getElem? (by simpa using hi))
theorem KM.len (h:KM w b ks) (ht:P.underlying t=some (.map k e)) (ty:TypeId):(Builtin.len_ #[t] ty #[.map (some b)]).run P w = .ok (.int .i64 ks.length) w:=by
 obtain ⟨es,cl,hb,h1,h2⟩:=h
 have:es.size=ks.length:=by simpa using congrArg List.length h1
 simp [Builtin.len_,run_underlying ht,MapKept.run_getObj_map hb,this,Builtin.lenOf,goInt]
end
structure Now (N:Nat) (w0:World) (m:Option (Nat×List ByteArray)) (e:Env) (h:H) (a:Act) (w:World):Prop where
 rel:∃ I σ,Rel I N σ e h a w∧(∀ x ∈ fpH σ h,w0.heap.size≤x)∧∀ b ks,m=some (b,ks)→b ∉ fpH σ h∧¬ I b
 km:∀ b ks,m=some (b,ks)→KM w b ks∧w0.heap.size≤b
 le:Le w0 w
 old:∀ i,i<w0.heap.size→bl w i=bl w0 i
section
variable {P:Program} {N:Nat} {w0 w w':World} {m:Option (Nat×List ByteArray)} {e e1:Env} {h h1:H} {a:Act} {Q:Exit→Act→World→Prop} {ops:Array Oper}
theorem KM.lt {b:Nat} {ks:List ByteArray} (h:KM w b ks):b<w.heap.size:=by
 obtain ⟨es,cl,hb,-⟩:=h
 exact (Array.getElem?_eq_some_iff.1 hb).1
theorem KM.same {b:Nat} {ks:List ByteArray} (h:KM w b ks) (e:bl w' b=bl w b):KM w' b ks:=by
 obtain ⟨es,cl,hb,h2⟩:=h
 exact ⟨es,cl,e.trans hb,h2⟩
theorem Now.step {I:Nat→Prop} {σ:Pl} {e':Env} {h':H} {a':Act} (hf:∀ x ∈ fpH σ h,w0.heap.size≤x) (hm:∀ b ks,m=some (b,ks)→b ∉ fpH σ h∧¬ I b)
  (km:∀ b ks,m=some (b,ks)→KM w b ks∧w0.heap.size≤b) (le:Le w0 w) (old:∀ i,i<w0.heap.size→bl w i=bl w0 i) (S:Step P I N [] σ h w e' h' a' w'):Now N w0 m e' h' a' w':=by
 obtain ⟨σ',I',i1,i2,R,p1,p2,p3,p4⟩:=S.out
 have ps:=p2.size
 have ls:=le.size
 refine ⟨⟨I',σ',R,fun x hx=>?_,fun b ks hb=>?_⟩,fun b ks hb=>?_,le.trans p2,fun i hi=>?_⟩
 ·rcases p4 x hx with h | h
  ·exact hf x h
  ·omega
 ·have lt:=(km b ks hb).1.lt
  refine ⟨fun hx=>?_,fun hx=>?_⟩
  ·rcases p4 b hx with h | h
   ·exact (hm b ks hb).1 h
   ·omega
  ·rcases i2 b hx with h | h | h
   ·exact (hm b ks hb).2 h
   ·exact (hm b ks hb).1 h
   ·omega
 ·exact ⟨(km b ks hb).1.same (p3 b (km b ks hb).1.lt (hm b ks hb).1),(km b ks hb).2⟩
 ·rw [p3 i (by omega) fun hx=>by have:=hf i hx; omega]
  exact old i hi
theorem Now.ex {R:Out→Env→H→Prop} {code:Code} {c:IC} (n:Now N w0 m e h a w) (hc:IsC P N code c) (hw:W P [] c R e h) (hQ:∀ o e' h' a' w',R o e' h'→Now N w0 m e' h' a' w'→Q o.ex a' w'):code.wp P Q a w:=by
 obtain ⟨⟨I,σ,R',hf,hm⟩,km,le,old⟩:=n
 obtain ⟨o,e',h',hx,hr⟩:=hw
 exact (hx.owes code hc I σ a w R' Q fun a' w' S=>hQ _ _ _ _ _ hr (Now.step hf hm km le old S)).1
theorem Now.loom {i:Nat} {is:List Nat} {o:Oper} {x:Ins} (n:Now N w0 m e h a w) (ho:ops[i]? = some o) (hco:comp P N ops o=some x) (hg:x.guard=none) (hs:z2h P [] e h x.dst x.op e1 h1)
  (hK:∀ a' w',Now N w0 m e1 h1 a' w'→wpOps P ops Q is a' w'):wpOps P ops Q (i::is) a w:=by
 obtain ⟨⟨I,σ,R,hf,hm⟩,km,le,old⟩:=n
 obtain ⟨g1,g2,g3⟩:=z34 hco
 have hw:zo e x.guard=some true:=by rw [hg]; rfl
 rw [wpOps_cons]
 unfold wpOp
 simp only [ho,z1z R g1 hw,if_true]
 exact .inl (z2h.sound R g2 g3 hs fun a1 w1 S=>hK _ _ (Now.step hf hm km le old S))
theorem Rel.away {I:Nat→Prop} {σ:Pl} {b:Nat} (R:Rel I N σ e h a w) (le:Le w w') (hb:∀ i,i ≠ b→bl w' i=bl w i) (h1:b ∉ fpH σ h) (h2:¬ I b):Rel I N σ e h a w':=by
 have hI:∀ i,I i→bl w' i=bl w i:=fun i hi=>hb i fun e=>h2 (e ▸ hi)
 have ls:=le.size
 exact ⟨⟨zm.mono hI h (fun i hi=>hb i fun e=>h1 (e ▸ hi)) R.heap.ok,R.heap.keys,R.heap.nodup,fun i hi=>⟨(R.heap.apart i hi).1,by have:=(R.heap.apart i hi).2; omega⟩,fun i hi=>by have:=R.heap.low i hi; omega⟩,
  R.size,fun t=>Va.mono hI _ _ (R.vals t),R.defers⟩
theorem zgo {i:Nat} {is:List Nat} {o:Oper} (ho:ops[i]? = some o) (hg:o.guard=none) (h:o.wp P a w (wpOps P ops Q is) Q):wpOps P ops Q (i::is) a w:=by
 rw [wpOps_cons]
 unfold wpOp
 have:Region.wanted o (yielded ops a.tmps)=true:=by simp [Region.wanted,hg]
 simp only [ho,this,if_true]
 exact .inl h
theorem Now.val {i d:Nat} {is:List Nat} {o:Oper} {v:Value} (n:Now N w0 m e h a w) (ho:ops[i]? = some o) (hg:o.guard=none) (hd:o.dst=some d) (hN:d<N)
  (hrun:(execOp a.eval o).run P w = .ok (.value v) w) (hK:∀ a',Now N w0 m (upd e d (.sc v)) h a' w→wpOps P ops Q is a' w):wpOps P ops Q (i::is) a w:=by
 refine zgo ho hg ?_
 unfold Oper.wp
 rw [hrun,Oper.upon_value,hd]
 obtain ⟨⟨I,σ,R,hf,hm⟩,km,le,old⟩:=n
 exact hK _ ⟨⟨I,σ,Rel.put R.heap R.size R.vals R.defers hN rfl,hf,hm⟩,km,le,old⟩
theorem Now.eval {v:Value} {x:Operand} (n:Now N w0 m e h a w) (hx:ev e x = .sc v):a.eval x=v:=by
 obtain ⟨⟨I,σ,R,-,-⟩,-,-,-⟩:=n
 have:=zt R x
 rw [hx] at this
 exact this
theorem Now.make {i d:Nat} {is:List Nat} {o:Oper} {t:TypeId} (n:Now N w0 none e h a w) (ho:ops[i]? = some o) (hg:o.guard=none) (hd:o.dst=some d) (hN:d<N) (hop:o.op = .makeMap t none)
  (hK:∀ b a' w',Now N w0 (some (b,[])) (upd e d (.sc (.map (some b)))) h a' w'→wpOps P ops Q is a' w'):wpOps P ops Q (i::is) a w:=by
 refine zgo ho hg ?_
 have hrun:(execOp a.eval o).run P w = .ok (.value (.map (some w.heap.size))) (w.alloc (.map #[] 0)):=by
  simp [execOp,hop,RowKit.run_makeMap,Result.andThen]
 unfold Oper.wp
 rw [hrun,Oper.upon_value,hd]
 obtain ⟨⟨I,σ,R,hf,hm⟩,km,le,old⟩:=n
 have e1:(w.alloc (.map #[] 0)).heap[w.heap.size]? = some (.map #[] 0):=(MapKept.heap_alloc w _).1
 have l1:Le w (w.alloc (.map #[] 0)):=⟨by show w.heap.size≤(w.heap.push _).size; simp,rfl,rfl,rfl⟩
 have nb:w.heap.size ∉ fpH σ h:=fun hx=>by have:=(R.heap.apart _ hx).2; omega
 have ni:¬ I w.heap.size:=fun hx=>by have:=R.heap.low _ hx; omega
 have oth:∀ i,i ≠ w.heap.size→bl (w.alloc (.map #[] 0)) i=bl w i:=fun i hi=>by
  rcases Nat.lt_or_ge i w.heap.size with h | h
  ·exact z5a w _ i h
  ·have e2:bl (w.alloc (.map #[] 0)) i=none:=by simp only [bl]; exact Array.getElem?_eq_none (by show (w.heap.push _).size≤i; simp; omega)
   have e3:bl w i=none:=by simp only [bl]; exact Array.getElem?_eq_none (by omega)
   rw [e2,e3]
 have R':=R.away l1 oth nb ni
 refine hK w.heap.size _ _ ⟨⟨I,σ,Rel.put R'.heap R'.size R'.vals R'.defers hN rfl,hf,fun b ks hb=>?_⟩,fun b ks hb=>?_,le.trans l1,fun i hi=>?_⟩
 ·cases hb; exact ⟨nb,ni⟩
 ·cases hb; exact ⟨⟨#[],0,e1,rfl,fun x hx=>by simp at hx⟩,le.size⟩
 ·have:=le.size
  rw [oth i (by omega)]; exact old i hi
theorem Now.upd {i b:Nat} {ks:List ByteArray} {is:List Nat} {o:Oper} {t k et:TypeId} {xm xk xv:Operand} {s:ByteArray} {v:Int} (n:Now N w0 (some (b,ks)) e h a w) (ho:ops[i]? = some o) (hg:o.guard=none) (hd:o.dst=none) (hop:o.op = .mapUpdate t xm xk xv)
  (ht:P.underlying t=some (.map k et)) (hk:P.underlying k=some .string) (hm:ev e xm = .sc (.map (some b))) (hs:ev e xk = .sc (.string s)) (hv:ev e xv = .sc (.int .i64 v))
  (hK:∀ a' w',Now N w0 (some (b,bif has s ks then ks else ks++[s])) e h a' w'→wpOps P ops Q is a' w'):wpOps P ops Q (i::is) a w:=by
 have q1:=n.eval hm
 have q2:=n.eval hs
 have q3:=n.eval hv
 obtain ⟨⟨I,σ,R,hf,hm⟩,km,le,old⟩:=n
 obtain ⟨w',r1,r2,r3,r4⟩:=(km b ks rfl).1.update (P:=P) ht hk s v
 refine zgo ho hg ?_
 unfold Oper.wp
 simp only [execOp,hop,q1,q2,q3,Sem.run_bind,r1,Result.andThen]
 have lt:=(km b ks rfl).2
 have R':=R.away r3 r4 (hm b ks rfl).1 (hm b ks rfl).2
 refine hK _ _ ⟨⟨I,σ,?_,hf,fun b' ks' hb=>?_⟩,fun b' ks' hb=>?_,le.trans r3,fun i hi=>?_⟩
 ·rw [hd]; exact R'
 ·cases hb; exact hm b ks rfl
 ·cases hb; exact ⟨r2,lt⟩
 ·rw [r4 i (by omega)]; exact old i hi
end
end Loom
