/- Loom,an abstract machine over the kit's calculus: rows,z13,stores,calls,regions,what they owe;and its evaluator (part 1 of 4). -/
import Derived.Orders
import Derived.Laws.AppendOwn
import Derived.Laws.Rows
import Derived.Laws.Concat
import Derived.Laws.BytesString
import Derived.Laws.StructEq
import Derived.Laws.BitsLemmas
import Derived.MapKept
import GoSem.Instr.MakeMap
import Derived.IntWalk
set_option linter.unusedVariables false
set_option linter.unusedSimpArgs false
set_option linter.unusedSectionVars false
open Go.IntKind (i64)
open Bool (and_eq_true false_eq_true)
open List (all_cons all_eq_true append_assoc append_cancel_left append_nil cons_append drop_drop drop_left' drop_take drop_zero ext_getElem? flatMap_cons flatten_cons getElem?_drop getElem?_eq_getElem getElem?_eq_none getElem?_map getElem?_take length length_append length_cons length_drop length_map length_take map_append map_cons map_map map_nil mem_append mem_cons mem_cons_of_mem nil_append nodup_append nodup_cons nodup_nil replicate singleton_append size_toArray take_add take_append_drop take_append_of_le_length take_of_length_le take_take take_zero)
open Option (map_none map_some)
namespace Loom
open Go
structure Loc where
 b:Nat
 cap:Nat
 s:Nat
inductive PV where
 | xp (b:Nat) (x:List Value) (c:Nat)
 | fs (k:Nat) (cs:List Nat)
 | fp (k:Nat) (cs:List Nat) (i:Nat)
 | mr (k:Nat) (p:List (Nat×Nat))
inductive AV where
 | un
 | sc (v:Value)
 | zs
 | ag (cs:List AV)
 | tu (vs:List AV)
 | im (s:Nat) (xs:List (List AV))
 | ip (s:Nat) (xs:List (List AV)) (i c:Nat)
 | sl (k:Nat) (p:List (Nat×Nat)) (off len:Nat)
 | pt (k:Nat) (p:List (Nat×Nat)) (i c:Nat)
 | fn (f:Nat) (caps:List AV)
 | ow (s:Nat) (xs:List (List AV))
 | pp (q:PV)
abbrev Els:=List (List AV)
abbrev Path:=List (Nat×Nat)
structure Row where
 s:Nat
 xs:Els
abbrev H:=List (Nat×Row)
abbrev Env:=Nat->AV
abbrev Pl:=Nat->Path->Option Loc
abbrev zm:=Nat->Option Obj
abbrev MB:Nat:=1000000
abbrev esz (s:Nat):Nat:=s % 1000000
def ofC:List Value->Value
 | [v]=>v
 | l=>.agg l.toArray
def z2z (ents:List (List Value×List Value)):List Value:=ents.flatMap λx=>x.1++x.2
structure zfb (o:Obj) (cur:Array Value) (s:Nat):Prop where
 ex:∃ (es:Array MapEntry) (clk:Nat) (ents:List (List Value×List Value)),o = .map es clk/\es.toList.map (λe=>(e.key,e.val))=ents.map (λx=>(ofC x.1,ofC x.2))/\(∀ x∈ents,x.1.length+1=s / 1000000/\x.1.length+x.2.length=esz s)/\cur.toList=z2z ents
structure EF (cur:Array Value) (s:Nat) where
 obj:Obj
 ok:if s<MB then ∃ (t:TypeId) (fr:Nat×Nat),obj = .cells cur t fr/\(fr.1=fr.2\/cur.size<=fr.1) else zfb obj cur s
theorem EF.cells {cur:Array Value}{s:Nat}(E:EF cur s)(h:s<MB):∃ (t:TypeId) (fr:Nat×Nat),E.obj = .cells cur t fr/\(fr.1=fr.2\/cur.size<=fr.1):=by
 have:=E.ok
 rwa [if_pos h] at this
def EF.mk' {cur:Array Value}{s:Nat}(h:s<MB)(t:TypeId)(fr:Nat×Nat)(hf:fr.1=fr.2\/cur.size<=fr.1):EF cur s:=⟨.cells cur t fr,by rw [if_pos h];exact ⟨t,fr,rfl,hf⟩⟩
def hdr (L:Loc)(len:Nat):Value:=if L.s<MB then .slice (some ⟨L.b,0,none⟩) len L.cap else .map (some L.b)
def zb7 (L:Loc)(xs:Els)(s:Nat):Nat:=if s<MB then L.cap else xs.length
theorem zaf {L:Loc}{xs:Els}{s:Nat}(h:s<MB):zb7 L xs s=L.cap:=if_pos h
theorem z76 {L:Loc}{xs ys:Els}{s:Nat}(h:xs.length=ys.length):zb7 L xs s=zb7 L ys s:=by unfold zb7;rw [h]
theorem z95 {s:Nat}(h:s<MB):esz s=s:=Nat.mod_eq_of_lt h
mutual
def Im (I:Nat->Prop)(B:zm):AV->Value->Prop
 | .sc u,v=>v=u/\u.oneCell'=true
 | .zs,v=>∃ a,v = .slice a 0 0
 | .im s xs,v=>∃ a c,v = .slice a xs.length c/\xs.length<=c /\
   (xs≠[]->∃ (A:Addr) (cur:Array Value) (E:TypeId) (fr:Nat×Nat),a=some A/\A.spot=none/\I A.block/\B A.block=some (.cells cur E fr)/\ImE I B s xs (cur.toList.drop A.off))
 | .un,v=>v.oneCell'=true
 | .ag _,_=>False
 | .tu _,_=>False
 | .ip _ _ _ _,_=>False
 | .sl _ _ _ _,_=>False
 | .pt _ _ _ _,_=>False
 | .fn _ _,_=>False
 | .ow _ _,_=>False
 | .pp _,_=>False
def ImC (I:Nat->Prop)(B:zm):List AV->List Value->Prop
 | [],cs=>cs=[]
 | a::as,cs=>∃ v cs',cs=v::cs'/\Im I B a v/\ImC I B as cs'
def ImE (I:Nat->Prop)(B:zm)(s:Nat):Els->List Value->Prop
 | [],_=>True
 | x::xs,cs=>x.length=s/\ImC I B x (cs.take s)/\ImE I B s xs (cs.drop s)
end
def VaP (I:Nat->Prop)(σ:Pl)(B:zm):PV->Value->Prop
 | .xp b x c,v=>v = .pointer (some ⟨b,c,none⟩)/\I b/\∃ (cur:Array Value) (E:TypeId) (fr:Nat×Nat),B b=some (.cells cur E fr)/\cur.toList.take x.length=x/\∀ u∈x,u.oneCell'=true
 | .fs k cs,v=>∃ L a c,σ k []=some L/\v = .slice a cs.length c/\cs.length<=c /\
   (cs≠[]->∃ (A:Addr) (cur:Array Value) (E:TypeId) (fr:Nat×Nat),a=some A/\A.spot=none/\I A.block/\B A.block=some (.cells cur E fr)/\(cur.toList.drop A.off).take cs.length=cs.map λc=>Value.pointer (some ⟨L.b,c,none⟩))
 | .fp k cs i,v=>∃ (L:Loc) (A:Addr) (cur:Array Value) (E:TypeId) (fr:Nat×Nat),σ k []=some L/\v = .pointer (some ⟨A.block,A.off+i,none⟩)/\A.spot=none/\I A.block/\B A.block=some (.cells cur E fr) /\
   (cur.toList.drop A.off).take cs.length=cs.map λc=>Value.pointer (some ⟨L.b,c,none⟩)
 | .mr k p,v=>∃ L,σ k p=some L/\MB<=L.s/\v = .map (some L.b)
mutual
def Va (I:Nat->Prop)(σ:Pl)(B:zm):AV->Value->Prop
 | .un,_=>True
 | .sc u,v=>v=u
 | .zs,v=>∃ a,v = .slice a 0 0
 | .ag cs,v=>∃ a,v = .agg a/\VaC I σ B cs a.toList
 | .tu vs,v=>∃ a,v = .tuple a/\VaL I σ B vs a.toList
 | .im s xs,v=>∃ a c,v = .slice a xs.length c/\xs.length<=c /\
   (xs≠[]->∃ (A:Addr) (cur:Array Value) (E:TypeId) (fr:Nat×Nat),a=some A/\A.spot=none/\I A.block/\B A.block=some (.cells cur E fr)/\ImE I B s xs (cur.toList.drop A.off))
 | .ip s xs i c,v=>∃ (A:Addr) (cur:Array Value) (E:TypeId) (fr:Nat×Nat),v = .pointer (some ⟨A.block,A.off+i * s+c,none⟩)/\A.spot=none/\I A.block/\B A.block=some (.cells cur E fr) /\
   ImE I B s xs (cur.toList.drop A.off)
 | .sl k p off len,v =>
  match σ k p with
  | none=>len=0/\off=0/\∃ a,v = .slice a 0 0
  | some L=>if L.s<MB then ∃ a c,v = .slice (some a) len c/\off+c=L.cap/\len<=c/\(0<c\/off=0->a=⟨L.b,off * L.s,none⟩) else False
 | .pt k p i c,v=>∃ L,σ k p=some L/\v = .pointer (some ⟨L.b,i * L.s+c,none⟩)
 | .fn f caps,v=>∃ a,v = .func (.func f) #[] a/\VaL I σ B caps a.toList
 | .ow _ _,_=>False
 | .pp q,v=>VaP I σ B q v
def VaC (I:Nat->Prop)(σ:Pl)(B:zm):List AV->List Value->Prop
 | [],cs=>cs=[]
 | a::as,cs=>∃ v cs',cs=v::cs'/\v.oneCell'=true/\Va I σ B a v/\VaC I σ B as cs'
def VaL (I:Nat->Prop)(σ:Pl)(B:zm):List AV->List Value->Prop
 | [],cs=>cs=[]
 | a::as,cs=>∃ v cs',cs=v::cs'/\Va I σ B a v/\VaL I σ B as cs'
end
mutual
def Ce (I:Nat->Prop)(σ:Pl)(B:zm)(k:Nat)(p:Path)(i c:Nat):AV->Value->Prop
 | .ow s xs,v =>
  match σ k (p++[(i,c)]) with
  | none=>xs=[]/\s<MB/\∃ a,v = .slice a 0 0
  | some L=>L.s=s/\(s<MB->xs.length<=L.cap)/\v=hdr L xs.length /\
    ∃ (cur:Array Value) (E:EF cur s),B L.b=some E.obj/\cur.size=zb7 L xs s * esz s/\CeE I σ B k (p++[(i,c)]) 0 (esz s) xs cur.toList
 | .sc u,v=>v=u/\u.oneCell'=true
 | .zs,v=>Im I B .zs v
 | .im s xs,v=>Im I B (.im s xs) v
 | .un,v=>v.oneCell'=true
 | .sl _ _ _ _,_=>False
 | .pt _ _ _ _,_=>False
 | .ip _ _ _ _,_=>False
 | .ag _,_=>False
 | .tu _,_=>False
 | .fn _ _,_=>False
 | .pp _,_=>False
def CeC (I:Nat->Prop)(σ:Pl)(B:zm)(k:Nat)(p:Path)(i c:Nat):List AV->List Value->Prop
 | [],cs=>cs=[]
 | a::as,cs=>∃ v cs',cs=v::cs'/\Ce I σ B k p i c a v/\CeC I σ B k p i (c+1) as cs'
def CeE (I:Nat->Prop)(σ:Pl)(B:zm)(k:Nat)(p:Path)(i s:Nat):Els->List Value->Prop
 | [],_=>True
 | x::xs,cs=>x.length=s/\CeC I σ B k p i 0 x (cs.take s)/\CeE I σ B k p (i+1) s xs (cs.drop s)
end
mutual
def fpA (σ:Pl)(k:Nat)(p:Path)(i c:Nat):AV->List Nat
 | .ow _ xs =>
  match σ k (p++[(i,c)]) with
  | none=>[]
  | some L=>L.b::fpE σ k (p++[(i,c)]) 0 xs
 | .un | .sc _ | .zs | .ag _ | .tu _ | .im _ _ | .ip _ _ _ _ | .sl _ _ _ _ | .pt _ _ _ _ | .fn _ _ | .pp _=>[]
def fpC (σ:Pl)(k:Nat)(p:Path)(i c:Nat):List AV->List Nat
 | []=>[]
 | a::as=>fpA σ k p i c a++fpC σ k p i (c+1) as
def fpE (σ:Pl)(k:Nat)(p:Path)(i:Nat):Els->List Nat
 | []=>[]
 | x::xs=>fpC σ k p i 0 x++fpE σ k p (i+1) xs
end
def fpR (σ:Pl)(k:Nat)(r:Row):List Nat :=
 match σ k [] with
 | none=>[]
 | some L=>L.b::fpE σ k [] 0 r.xs
def fpH (σ:Pl):H->List Nat
 | []=>[]
 | (k,r)::h=>fpR σ k r++fpH σ h
def zy (I:Nat->Prop)(σ:Pl)(B:zm)(k:Nat)(r:Row):Prop :=
 match σ k [] with
 | none=>r.xs=[]/\r.s<MB
 | some L=>L.s=r.s/\(r.s<MB->r.xs.length<=L.cap)/\∃ (cur:Array Value) (E:EF cur r.s),B L.b=some E.obj/\cur.size=zb7 L r.xs r.s * esz r.s/\CeE I σ B k [] 0 (esz r.s) r.xs cur.toList
def zr (I:Nat->Prop)(σ:Pl)(B:zm):H->Prop
 | []=>True
 | (k,r)::h=>zy I σ B k r/\zr I σ B h
def bl (w:World):zm:=λb=>w.heap[b]?
structure Le (w w':World):Prop where
 size:w.heap.size<=w'.heap.size
 os:w'.os=w.os
 tape:w'.tape=w.tape
 output:w'.output=w.output
theorem Le.refl (w:World):Le w w:=⟨Nat.le_refl _,rfl,rfl,rfl⟩
theorem Le.trans {a b c:World}(h:Le a b)(k:Le b c):Le a c:=⟨Nat.le_trans h.size k.size,k.os.trans h.os,k.tape.trans h.tape,k.output.trans h.output⟩
structure zk (I:Nat->Prop) (σ:Pl) (h:H) (w:World):Prop where
 ok:zr I σ (bl w) h
 keys:(h.map Prod.fst).Nodup
 nodup:(fpH σ h).Nodup
 apart:∀ b∈fpH σ h,¬ I b/\b<w.heap.size
 low:∀ b,I b->b<w.heap.size
class Dfs (N:Nat) where
 ds:List Deferred
@[reducible] def Dfs.none (N:Nat):Dfs N:=⟨[]⟩
structure Rel (I:Nat->Prop) (N:Nat) [Dfs N] (σ:Pl) (e:Env) (h:H) (a:Act) (w:World):Prop where
 heap:zk I σ h w
 size:N<=a.tmps.size
 vals:∀ t,Va I σ (bl w) (e t) (a.tmps.getD t undef)
 defers:a.defers=Dfs.ds N
section
variable {I:Nat->Prop}{B B':zm}
mutual
theorem Im.mono (hB:∀ b,I b->B' b=B b):∀ (a:AV) (v:Value),Im I B a v->Im I B' a v
 | .sc _,_,h=>h
 | .zs,_,h=>h
 | .un,_,h=>h
 | .im s xs,v,h=>by obtain ⟨a,c,rfl,hc,hx⟩:=h;refine ⟨a,c,rfl,hc,λhne=>?_⟩;obtain ⟨A,cur,E,fr,e1,e2,e3,e4,e5⟩:=hx hne;exact ⟨A,cur,E,fr,e1,e2,e3,by rw [hB _ e3];exact e4,ImE.mono hB s xs _ e5⟩
 | .ag _,_,h=>h.elim
 | .tu _,_,h=>h.elim
 | .ip _ _ _ _,_,h=>h.elim
 | .sl _ _ _ _,_,h=>h.elim
 | .pt _ _ _ _,_,h=>h.elim
 | .fn _ _,_,h=>h.elim
 | .ow _ _,_,h=>h.elim
 | .pp _,_,h=>h.elim
theorem ImC.mono (hB:∀ b,I b->B' b=B b):∀ (l:List AV) (cs:List Value),ImC I B l cs->ImC I B' l cs
 | [],_,h=>h
 | a::as,_,h=>by obtain ⟨v,cs',rfl,h1,h2⟩:=h;exact ⟨v,cs',rfl,Im.mono hB a v h1,ImC.mono hB as cs' h2⟩
theorem ImE.mono (hB:∀ b,I b->B' b=B b)(s:Nat):∀ (l:Els) (cs:List Value),ImE I B s l cs->ImE I B' s l cs
 | [],_,_=>trivial
 | x::xs,cs,h=>⟨h.1,ImC.mono hB x _ h.2.1,ImE.mono hB s xs _ h.2.2⟩
end
variable {σ σ':Pl}
theorem VaP.mono (hB:∀ b,I b->B' b=B b):∀ (q:PV) (v:Value),VaP I σ B q v->VaP I σ B' q v
 | .xp _ _ _,_,h=>by obtain ⟨h1,h2,cur,E,fr,h3,h4⟩:=h;exact ⟨h1,h2,cur,E,fr,by rw [hB _ h2];exact h3,h4⟩
 | .fs _ _,_,h=>by obtain ⟨L,a,c,h1,h2,h3,h4⟩:=h;refine ⟨L,a,c,h1,h2,h3,λhne=>?_⟩;obtain ⟨A,cur,E,fr,e1,e2,e3,e4,e5⟩:=h4 hne;exact ⟨A,cur,E,fr,e1,e2,e3,by rw [hB _ e3];exact e4,e5⟩
 | .fp _ _ _,_,h=>by obtain ⟨L,A,cur,E,fr,h1,h2,h3,h4,h5,h6⟩:=h;exact ⟨L,A,cur,E,fr,h1,h2,h3,h4,by rw [hB _ h4];exact h5,h6⟩
 | .mr _ _,_,h=>h
mutual
theorem Va.mono (hB:∀ b,I b->B' b=B b):∀ (a:AV) (v:Value),Va I σ B a v->Va I σ B' a v
 | .un,_,h=>h
 | .sc _,_,h=>h
 | .zs,_,h=>h
 | .ag cs,_,h=>by obtain ⟨a,rfl,h⟩:=h;exact ⟨a,rfl,VaC.mono hB cs _ h⟩
 | .tu cs,_,h=>by obtain ⟨a,rfl,h⟩:=h;exact ⟨a,rfl,VaL.mono hB cs _ h⟩
 | .im s xs,v,h=>by obtain ⟨a,c,rfl,hc,hx⟩:=h;refine ⟨a,c,rfl,hc,λhne=>?_⟩;obtain ⟨A,cur,E,fr,e1,e2,e3,e4,e5⟩:=hx hne;exact ⟨A,cur,E,fr,e1,e2,e3,by rw [hB _ e3];exact e4,ImE.mono hB s xs _ e5⟩
 | .ip s xs i c,v,h=>by obtain ⟨A,cur,E,fr,rfl,h1,h2,h3,h4⟩:=h;exact ⟨A,cur,E,fr,rfl,h1,h2,by rw [hB _ h2];exact h3,ImE.mono hB s xs _ h4⟩
 | .sl _ _ _ _,_,h=>h
 | .pt _ _ _ _,_,h=>h
 | .fn _ caps,_,h=>by obtain ⟨a,rfl,h⟩:=h;exact ⟨a,rfl,VaL.mono hB caps _ h⟩
 | .ow _ _,_,h=>h.elim
 | .pp q,v,h=>VaP.mono hB q v h
theorem VaC.mono (hB:∀ b,I b->B' b=B b):∀ (l:List AV) (cs:List Value),VaC I σ B l cs->VaC I σ B' l cs
 | [],_,h=>h
 | a::as,_,h=>by obtain ⟨v,cs',rfl,h0,h1,h2⟩:=h;exact ⟨v,cs',rfl,h0,Va.mono hB a v h1,VaC.mono hB as cs' h2⟩
theorem VaL.mono (hB:∀ b,I b->B' b=B b):∀ (l:List AV) (cs:List Value),VaL I σ B l cs->VaL I σ B' l cs
 | [],_,h=>h
 | a::as,_,h=>by obtain ⟨v,cs',rfl,h1,h2⟩:=h;exact ⟨v,cs',rfl,Va.mono hB a v h1,VaL.mono hB as cs' h2⟩
end
mutual
theorem Ce.mono (hI:∀ b,I b->B' b=B b)(k:Nat)(p:Path)(i c:Nat):∀ (a:AV) (v:Value),(∀ b∈fpA σ k p i c a,B' b=B b)->Ce I σ B k p i c a v->Ce I σ B' k p i c a v
 | .ow s xs,v,hf,h=>by
  simp only [Ce,fpA] at h hf ⊢;cases hs:σ k (p++[(i,c)]) with
  | none=>simpa only [hs] using h
  | some L =>simp only [hs] at h hf ⊢;obtain ⟨h1,h2,h3,cur,E,h4,h5,h6⟩:=h;exact ⟨h1,h2,h3,cur,E,by rw [hf _ (by simp)];exact h4,h5,CeE.mono hI k _ 0 (esz s) xs _ (λb hb=>hf b (by simp [hb])) h6⟩
 | .sc _,_,_,h=>h
 | .zs,_,_,h=>h
 | .im s xs,v,_,h=>Im.mono hI (.im s xs) v h
 | .un,_,_,h=>h
 | .sl _ _ _ _,_,_,h=>h.elim
 | .pt _ _ _ _,_,_,h=>h.elim
 | .ip _ _ _ _,_,_,h=>h.elim
 | .ag _,_,_,h=>h.elim
 | .tu _,_,_,h=>h.elim
 | .fn _ _,_,_,h=>h.elim
 | .pp _,_,_,h=>h.elim
theorem CeC.mono (hI:∀ b,I b->B' b=B b)(k:Nat)(p:Path)(i c:Nat):∀ (l:List AV) (cs:List Value),(∀ b∈fpC σ k p i c l,B' b=B b)->CeC I σ B k p i c l cs->CeC I σ B' k p i c l cs
 | [],_,_,h=>h
 | a::as,_,hf,h=>by obtain ⟨v,cs',rfl,h1,h2⟩:=h;simp only [fpC,mem_append] at hf;exact ⟨v,cs',rfl,Ce.mono hI k p i c a v (λb hb=>hf b (.inl hb)) h1,CeC.mono hI k p i (c+1) as cs' (λb hb=>hf b (.inr hb)) h2⟩
theorem CeE.mono (hI:∀ b,I b->B' b=B b)(k:Nat)(p:Path)(i s:Nat):∀ (l:Els) (cs:List Value),(∀ b∈fpE σ k p i l,B' b=B b)->CeE I σ B k p i s l cs->CeE I σ B' k p i s l cs
 | [],_,_,_=>trivial
 | x::xs,cs,hf,h=>by simp only [fpE,mem_append] at hf;exact ⟨h.1,CeC.mono hI k p i 0 x _ (λb hb=>hf b (.inl hb)) h.2.1,CeE.mono hI k p (i+1) s xs _ (λb hb=>hf b (.inr hb)) h.2.2⟩
end
theorem zy.mono (hI:∀ b,I b->B' b=B b)(k:Nat)(r:Row)(hf:∀ b∈fpR σ k r,B' b=B b)(h:zy I σ B k r):zy I σ B' k r:=by
 unfold zy fpR at *;cases hs:σ k [] with
 | none=>simpa only [hs] using h
 | some L =>simp only [hs] at h hf ⊢;obtain ⟨h1,h2,cur,E,h3,h4,h5⟩:=h;exact ⟨h1,h2,cur,E,by rw [hf _ (by simp)];exact h3,h4,CeE.mono hI k [] 0 (esz r.s) r.xs _ (λb hb=>hf b (by simp [hb])) h5⟩
theorem zr.mono (hI:∀ b,I b->B' b=B b):∀ (h:H),(∀ b∈fpH σ h,B' b=B b)->zr I σ B h->zr I σ B' h
 | [],_,_=>trivial
 | (k,r)::h,hf,hh=>by simp only [fpH,mem_append] at hf;exact ⟨zy.mono hI k r (λb hb=>hf b (.inl hb)) hh.1,zr.mono hI h (λb hb=>hf b (.inr hb)) hh.2⟩
end
def z3k (bad:Nat->Path->Bool):PV->AV
 | .xp b x c=>.pp (.xp b x c)
 | .fs k cs=>if bad k [] then .un else .pp (.fs k cs)
 | .fp k cs i=>if bad k [] then .un else .pp (.fp k cs i)
 | .mr k p=>if bad k p then .un else .pp (.mr k p)
mutual
def kill (bad:Nat->Path->Bool):AV->AV
 | .sl k p off len=>if bad k p then .un else .sl k p off len
 | .pt k p i c=>if bad k p then .un else .pt k p i c
 | .ag cs=>.ag (z2x bad cs)
 | .tu cs=>.tu (z2x bad cs)
 | .fn f caps=>.fn f (z2x bad caps)
 | .un=>.un
 | .sc v=>.sc v
 | .zs=>.zs
 | .im s xs=>.im s xs
 | .ip s xs i c=>.ip s xs i c
 | .ow s xs=>.ow s xs
 | .pp q=>z3k bad q
def z2x (bad:Nat->Path->Bool):List AV->List AV
 | []=>[]
 | a::as=>kill bad a::z2x bad as
end
section
variable {I:Nat->Prop}{B:zm}{σ σ':Pl}{bad:Nat->Path->Bool}
mutual
theorem Va.kill (hσ:∀ k p,bad k p=false->σ' k p=σ k p):∀ (a:AV) (v:Value),Va I σ B a v->Va I σ' B (kill bad a) v
 | .un,_,_=>trivial
 | .sc _,_,h=>h
 | .zs,_,h=>h
 | .ag cs,_,h=>by obtain ⟨a,rfl,h⟩:=h;exact ⟨a,rfl,VaC.kill hσ cs _ h⟩
 | .tu cs,_,h=>by obtain ⟨a,rfl,h⟩:=h;exact ⟨a,rfl,VaL.kill hσ cs _ h⟩
 | .im _ _,_,h=>h
 | .ip _ _ _ _,_,h=>h
 | .sl k p off len,v,h=>by
  simp only [Loom.kill];cases hb:bad k p with
  | true=>exact trivial
  | false =>simp only [false_eq_true,if_false];simp only [Va,hσ k p hb] at h ⊢;exact h
 | .pt k p i c,v,h=>by
  simp only [Loom.kill];cases hb:bad k p with
  | true=>exact trivial
  | false =>simp only [false_eq_true,if_false];simp only [Va,hσ k p hb] at h ⊢;exact h
 | .fn _ caps,_,h=>by obtain ⟨a,rfl,h⟩:=h;exact ⟨a,rfl,VaL.kill hσ caps _ h⟩
 | .ow _ _,_,h=>h.elim
 | .pp q,v,h=>by
  simp only [Loom.kill];cases q with
  | xp b x c=>exact h
  | fs k cs =>
   simp only [z3k];cases hb:bad k [] with
   | true=>exact trivial
   | false =>simp only [false_eq_true,if_false];obtain ⟨L,a,c,h1,h2⟩:=h;exact ⟨L,a,c,by rw [hσ k [] hb];exact h1,h2⟩
  | fp k cs i =>
   simp only [z3k];cases hb:bad k [] with
   | true=>exact trivial
   | false =>simp only [false_eq_true,if_false];obtain ⟨L,A,cur,E,fr,h1,h2⟩:=h;exact ⟨L,A,cur,E,fr,by rw [hσ k [] hb];exact h1,h2⟩
  | mr k p =>
   simp only [z3k];cases hb:bad k p with
   | true=>exact trivial
   | false =>simp only [false_eq_true,if_false];obtain ⟨L,h1,h2⟩:=h;exact ⟨L,by rw [hσ k p hb];exact h1,h2⟩
theorem VaC.kill (hσ:∀ k p,bad k p=false->σ' k p=σ k p):∀ (l:List AV) (cs:List Value),VaC I σ B l cs->VaC I σ' B (z2x bad l) cs
 | [],_,h=>h
 | a::as,_,h=>by obtain ⟨v,cs',rfl,h0,h1,h2⟩:=h;exact ⟨v,cs',rfl,h0,Va.kill hσ a v h1,VaC.kill hσ as cs' h2⟩
theorem VaL.kill (hσ:∀ k p,bad k p=false->σ' k p=σ k p):∀ (l:List AV) (cs:List Value),VaL I σ B l cs->VaL I σ' B (z2x bad l) cs
 | [],_,h=>h
 | a::as,_,h=>by obtain ⟨v,cs',rfl,h1,h2⟩:=h;exact ⟨v,cs',rfl,Va.kill hσ a v h1,VaL.kill hσ as cs' h2⟩
end
end
def z6:H->Nat->Option Row
 | [],_=>none
 | (k',r)::h,k=>if k'=k then some r else z6 h k
def zc:H->Nat->H
 | [],_=>[]
 | (k',r)::h,k=>if k'=k then h else (k',r)::zc h k
def setRow:H->Nat->Row->H
 | [],_,_=>[]
 | (k',r)::h,k,r'=>if k'=k then (k',r')::h else (k',r)::setRow h k r'
def zp:Nat->Els->Path->Option (Nat×Els)
 | s,xs,[]=>some (s,xs)
 | _,xs,(i,c)::p =>
  match xs[i]? with
  | none=>none
  | some x =>
   match x[c]? with
   | some (.ow s' ys)=>zp s' ys p
   | _=>none
theorem z3z {s s':Nat}{xs:Els}:∀ {p:Path},p≠[]->zp s xs p=zp s' xs p
 | [],h=>absurd rfl h
 | (i,c)::p,_=>rfl
def z1l:Els->Path->(Els->Els)->Els
 | xs,[],f=>f xs
 | xs,(i,c)::p,f =>
  match xs[i]? with
  | none=>xs
  | some x =>
   match x[c]? with
   | some (.ow s' ys)=>xs.set i (x.set c (.ow s' (z1l ys p f)))
   | _=>xs
def z39 (I:Nat->Prop)(σ:Pl)(B:zm)(k:Nat)(p:Path)(s:Nat)(xs:Els):Prop :=
 match σ k p with
 | none=>xs=[]/\s<MB
 | some L=>L.s=s/\(s<MB->xs.length<=L.cap)/\∃ (cur:Array Value) (E:EF cur s),B L.b=some E.obj/\cur.size=zb7 L xs s * esz s/\CeE I σ B k p 0 (esz s) xs cur.toList
def fpP (σ:Pl)(k:Nat)(p:Path)(xs:Els):List Nat :=
 match σ k p with
 | none=>[]
 | some L=>L.b::fpE σ k p 0 xs
theorem zlc {I:Nat->Prop}{σ:Pl}{B:zm}{k:Nat}{r:Row}:zy I σ B k r↔z39 I σ B k [] r.s r.xs:=Iff.rfl
theorem zyg {σ:Pl}{k:Nat}{r:Row}:fpR σ k r=fpP σ k [] r.xs:=rfl
section
variable {I:Nat->Prop}{σ σ':Pl}{B B':zm}{k:Nat}
theorem CeC.get {p:Path}{i:Nat}:∀ (l:List AV) (c0:Nat) (cs:List Value),CeC I σ B k p i c0 l cs->∀ (j:Nat) (a:AV),l[j]?=some a->∃ v,cs[j]?=some v/\Ce I σ B k p i (c0+j) a v
 | [],_,_,_,_,_,h=>by simp at h
 | a::as,c0,_,h,0,a',ha=>by obtain ⟨v,cs',rfl,h1,_⟩:=h;simp at ha;subst ha;exact ⟨v,rfl,h1⟩
 | a::as,c0,_,h,j+1,a',ha=>by obtain ⟨v,cs',rfl,_,h2⟩:=h;obtain ⟨v',hv,hc⟩:=CeC.get as (c0+1) cs' h2 j a' (by simpa using ha);exact ⟨v',by simpa using hv,by rwa [show c0+(j+1)=c0+1+j by omega]⟩
theorem CeC.length {p:Path}{i:Nat}:∀ (l:List AV) (c0:Nat) (cs:List Value),CeC I σ B k p i c0 l cs->cs.length=l.length
 | [],_,_,h=>by simp only [CeC] at h;simp [h]
 | a::as,c0,_,h=>by obtain ⟨v,cs',rfl,_,h2⟩:=h;simp [CeC.length as (c0+1) cs' h2]
theorem CeE.get {p:Path}{s:Nat}:∀ (xs:Els) (i0:Nat) (cs:List Value),CeE I σ B k p i0 s xs cs->∀ (j:Nat) (x:List AV),xs[j]?=some x->x.length=s/\CeC I σ B k p (i0+j) 0 x ((cs.drop (j * s)).take s)
 | [],_,_,_,_,_,h=>by simp at h
 | x::xs,i0,cs,h,0,x',hx=>by simp at hx;subst hx;simpa using ⟨h.1,h.2.1⟩
 | x::xs,i0,cs,h,j+1,x',hx=>by
  have:=CeE.get xs (i0+1) (cs.drop s) h.2.2 j x' (by simpa using hx);rw [drop_drop,show s+j * s=(j+1) * s by rw [Nat.add_mul,Nat.one_mul,Nat.add_comm]] at this
  rwa [show i0+(j+1)=i0+1+j by omega]
theorem z8e {p:Path}{i:Nat}:∀ (l:List AV) (c0 j:Nat) (a:AV),l[j]?=some a->∃ l1 l2,fpC σ k p i c0 l=l1++fpA σ k p i (c0+j) a++l2 /\
  ∀ (σ':Pl) (a':AV),(∀ c' a'',c'≠c0+j->fpA σ' k p i c' a''=fpA σ k p i c' a'')->fpC σ' k p i c0 (l.set j a')=l1++fpA σ' k p i (c0+j) a'++l2
 | [],_,_,_,h=>by simp at h
 | a::as,c0,0,a',h=>by
  simp at h;subst h;refine ⟨[],fpC σ k p i (c0+1) as,by simp [fpC],fun σ' a' hs=>?_⟩
  have:∀ (l:List AV) (c1:Nat),c0<c1->fpC σ' k p i c1 l=fpC σ k p i c1 l:=by
   intro l
   induction l with
   | nil=>intros;rfl
   | cons b l ih=>intro c1 hc;simp only [fpC];rw [hs c1 b (by omega),ih (c1+1) (by omega)]
  simp [fpC,this as (c0+1) (by omega)]
 | b::as,c0,j+1,a',h=>by obtain ⟨l1,l2,h1,h2⟩:=z8e (p:=p) (i:=i) as (c0+1) j a' (by simpa using h);refine ⟨fpA σ k p i c0 b++l1,l2,by simp [fpC,h1,show c0+1+j=c0+(j+1) by omega],fun σ' a'' hs=>?_⟩;have:=h2 σ' a'' (λc' a3 hc=>hs c' a3 (by omega));simp [fpC,this,hs c0 b (by omega),show c0+1+j=c0+(j+1) by omega]
theorem z6b {p:Path}:∀ (xs:Els) (i0 j:Nat) (x:List AV),xs[j]?=some x->∃ l1 l2,fpE σ k p i0 xs=l1++fpC σ k p (i0+j) 0 x++l2 /\
  ∀ (σ':Pl) (x':List AV),(∀ i' c' a'',i'≠i0+j->fpA σ' k p i' c' a''=fpA σ k p i' c' a'')->fpE σ' k p i0 (xs.set j x')=l1++fpC σ' k p (i0+j) 0 x'++l2
 | [],_,_,_,h=>by simp at h
 | x::xs,i0,0,x',h=>by
  simp at h;subst h;refine ⟨[],fpE σ k p (i0+1) xs,by simp [fpE],fun σ' x' hs=>?_⟩
  have hC:∀ (l:List AV) (i1 c1:Nat),i0<i1->fpC σ' k p i1 c1 l=fpC σ k p i1 c1 l:=by
   intro l
   induction l with
   | nil=>intros;rfl
   | cons b l ih=>intro i1 c1 hc;simp only [fpC];rw [hs i1 c1 b (by omega),ih i1 (c1+1) hc]
  have:∀ (l:Els) (i1:Nat),i0<i1->fpE σ' k p i1 l=fpE σ k p i1 l:=by
   intro l
   induction l with
   | nil=>intros;rfl
   | cons b l ih=>intro i1 hc;simp only [fpE];rw [hC b i1 0 hc,ih (i1+1) (by omega)]
  simp [fpE,this xs (i0+1) (by omega)]
 | b::xs,i0,j+1,x',h=>by
  obtain ⟨l1,l2,h1,h2⟩:=z6b (p:=p) xs (i0+1) j x' (by simpa using h);refine ⟨fpC σ k p i0 0 b++l1,l2,by simp [fpE,h1,show i0+1+j=i0+(j+1) by omega],fun σ' x'' hs=>?_⟩
  have hC:∀ (l:List AV) (c1:Nat),fpC σ' k p i0 c1 l=fpC σ k p i0 c1 l:=by
   intro l
   induction l with
   | nil=>intros;rfl
   | cons b l ih=>intro c1;simp only [fpC];rw [hs i0 c1 b (by omega),ih (c1+1)]
  have:=h2 σ' x'' (λi' c' a3 hc=>hs i' c' a3 (by omega));simp [fpE,this,hC b 0,show i0+1+j=i0+(j+1) by omega]
theorem z5e:∀ (p:Path) (pre:Path) (s:Nat) (xs:Els) (cs:List Value) (s':Nat) (ys:Els),CeE I σ B k pre 0 s xs cs->p≠[]->zp s xs p=some (s',ys) ->
  z39 I σ B k (pre++p) s' ys/\(fpP σ k (pre++p) ys).Sublist (fpE σ k pre 0 xs)
 | [],_,_,_,_,_,_,_,h,_=>absurd rfl h
 | (i,c)::p,pre,s,xs,cs,s',ys,h,_,hr=>by
  simp only [zp] at hr;cases hx:xs[i]? with
  | none=>rw [hx] at hr;cases hr
  | some x =>
   rw [hx] at hr;simp only at hr;obtain ⟨_,hC⟩:=CeE.get xs 0 cs h i x hx;obtain ⟨m1,m2,hm,_⟩:=z6b (σ:=σ) (k:=k) (p:=pre) xs 0 i x hx;cases ha:x[c]? with
   | none=>rw [ha] at hr;cases hr
   | some a =>
    rw [ha] at hr;cases a with
    | ow s1 zs =>
     simp only at hr;obtain ⟨v,_,hCe⟩:=CeC.get x 0 _ hC c _ ha;obtain ⟨n1,n2,hn,_⟩:=z8e (σ:=σ) (k:=k) (p:=pre) (i:=0+i) x 0 c _ ha;simp only [Nat.zero_add] at hCe hm hn
     have hsub:(fpA σ k pre i c (.ow s1 zs)).Sublist (fpE σ k pre 0 xs):=by rw [hm,hn];exact ((List.sublist_append_right n1 _).trans (List.sublist_append_left _ n2)).trans ((List.sublist_append_right m1 _).trans (List.sublist_append_left _ m2))
     have hplace:z39 I σ B k (pre++[(i,c)]) s1 zs:=by simp only [Ce,z39] at hCe ⊢;cases hs:σ k (pre++[(i,c)]) with | none=>simp only [hs] at hCe ⊢;exact ⟨hCe.1,hCe.2.1⟩ | some L=>simp only [hs] at hCe ⊢;exact ⟨hCe.1,hCe.2.1,hCe.2.2.2⟩
     have hfp:fpA σ k pre i c (.ow s1 zs)=fpP σ k (pre++[(i,c)]) zs:=by
      simp only [fpA,fpP]
      all_goals (cases σ k (pre++[(i,c)])<;>rfl)
     rw [hfp] at hsub;by_cases hp:p=[]
     ·subst hp;simp only [zp,Option.some.injEq,Prod.mk.injEq] at hr;obtain ⟨rfl,rfl⟩:=hr;exact ⟨hplace,hsub⟩
     ·unfold z39 at hplace;cases hs:σ k (pre++[(i,c)]) with
      | none =>
       simp only [hs] at hplace
       replace hplace:=hplace.1
       subst hplace;cases p with | nil=>exact absurd rfl hp | cons q p=>obtain ⟨i',c'⟩:=q;simp [zp] at hr
      | some L =>simp only [hs] at hplace;obtain ⟨_,_,cur,E,_,_,hE⟩:=hplace;have:=z5e p (pre++[(i,c)]) (esz s1) zs _ s' ys hE hp (by rw [<- hr];exact z3z hp);simp only [append_assoc,singleton_append] at this;refine ⟨this.1,this.2.trans (List.Sublist.trans ?_ hsub)⟩;simp only [fpP,hs];exact List.sublist_cons_self _ _
    | _=>cases hr
end
section
variable {I:Nat->Prop}{σ σ':Pl}{B B':zm}{k k':Nat}
mutual
theorem Ce.ren {p p':Path}{i c:Nat}(hσ:∀ q,σ' k' (p'++(i,c)::q)=σ k (p++(i,c)::q)):∀ (a:AV) (v:Value),Ce I σ B k p i c a v->Ce I σ' B k' p' i c a v
 | .ow s xs,v,h=>by
  simp only [Ce] at h ⊢;have h0:=hσ [];rw [show p'++[(i,c)]=p'++(i,c)::[] by rfl,h0];cases hs:σ k (p++[(i,c)]) with
  | none=>simpa only [hs] using h
  | some L =>simp only [hs] at h ⊢;obtain ⟨h1,h2,h3,cur,E,h4,h5,h6⟩:=h;exact ⟨h1,h2,h3,cur,E,h4,h5,CeE.ren (p:=p++[(i,c)]) (p':=p'++[(i,c)]) 0 (esz s) (λi' c' q=>by simpa using hσ ((i',c')::q)) xs _ h6⟩
 | .sc _,_,h=>h
 | .zs,_,h=>h
 | .im _ _,_,h=>h
 | .un,_,h=>h
 | .sl _ _ _ _,_,h=>h.elim
 | .pt _ _ _ _,_,h=>h.elim
 | .ip _ _ _ _,_,h=>h.elim
 | .ag _,_,h=>h.elim
 | .tu _,_,h=>h.elim
 | .fn _ _,_,h=>h.elim
theorem CeC.ren {p p':Path}{i:Nat}(c:Nat)(hσ:∀ c' q,σ' k' (p'++(i,c')::q)=σ k (p++(i,c')::q)):∀ (l:List AV) (cs:List Value),CeC I σ B k p i c l cs->CeC I σ' B k' p' i c l cs
 | [],_,h=>h
 | a::as,_,h=>by obtain ⟨v,cs',rfl,h1,h2⟩:=h;exact ⟨v,cs',rfl,Ce.ren (λq=>hσ c q) a v h1,CeC.ren (c+1) hσ as cs' h2⟩
theorem CeE.ren {p p':Path}(i s:Nat)(hσ:∀ i' c' q,σ' k' (p'++(i',c')::q)=σ k (p++(i',c')::q)):∀ (l:Els) (cs:List Value),CeE I σ B k p i s l cs->CeE I σ' B k' p' i s l cs
 | [],_,_=>trivial
 | x::xs,cs,h=>⟨h.1,CeC.ren 0 (λc' q=>hσ i c' q) x _ h.2.1,CeE.ren (i+1) s hσ xs _ h.2.2⟩
end
mutual
theorem fpA.ren {p p':Path}{i c:Nat}(hσ:∀ q,σ' k' (p'++(i,c)::q)=σ k (p++(i,c)::q)):∀ (a:AV),fpA σ' k' p' i c a=fpA σ k p i c a
 | .ow s xs=>by
  simp only [fpA];have h0:=hσ [];rw [show p'++[(i,c)]=p'++(i,c)::[] by rfl,h0];cases hs:σ k (p++[(i,c)]) with
  | none=>rfl
  | some L=>simp only;rw [fpE.ren (p:=p++[(i,c)]) (p':=p'++[(i,c)]) 0 (λi' c' q=>by simpa using hσ ((i',c')::q)) xs]
 | .sc _=>rfl
 | .zs=>rfl
 | .im _ _=>rfl
 | .un=>rfl
 | .sl _ _ _ _=>rfl
 | .pt _ _ _ _=>rfl
 | .ip _ _ _ _=>rfl
 | .ag _=>rfl
 | .tu _=>rfl
 | .fn _ _=>rfl
 | .pp _=>rfl
theorem fpC.ren {p p':Path}{i:Nat}(c:Nat)(hσ:∀ c' q,σ' k' (p'++(i,c')::q)=σ k (p++(i,c')::q)):∀ (l:List AV),fpC σ' k' p' i c l=fpC σ k p i c l
 | []=>rfl
 | a::as=>by simp only [fpC];rw [fpA.ren (λq=>hσ c q) a,fpC.ren (c+1) hσ as]
theorem fpE.ren {p p':Path}(i:Nat)(hσ:∀ i' c' q,σ' k' (p'++(i',c')::q)=σ k (p++(i',c')::q)):∀ (l:Els),fpE σ' k' p' i l=fpE σ k p i l
 | []=>rfl
 | x::xs=>by simp only [fpE];rw [fpC.ren 0 (λc' q=>hσ i c' q) x,fpE.ren (i+1) hσ xs]
end
theorem CeC.setAt {p:Path}{i:Nat}:∀ (l:List AV) (c0 j:Nat) (cs:List Value) (a:AV) (a':AV) (v':Value),CeC I σ B k p i c0 l cs->l[j]?=some a->Ce I σ' B' k p i (c0+j) a' v' ->
  (∀ c' a'' v,c'≠c0+j->(∀ b∈fpA σ k p i c' a'',b∈fpC σ k p i c0 l/\(((fpC σ k p i c0 l).Nodup)->b∉fpA σ k p i (c0+j) a))->Ce I σ B k p i c' a'' v->Ce I σ' B' k p i c' a'' v) ->
  CeC I σ' B' k p i c0 (l.set j a') (cs.set j v')
 | [],_,_,_,_,_,_,_,h,_,_=>by simp at h
 | x::as,c0,0,cs,a,a',v',h,ha,hc,T=>by
  obtain ⟨v,cs',rfl,h1,h2⟩:=h;simp at ha;subst ha;refine ⟨v',cs',rfl,by simpa using hc,?_⟩
  have aux:∀ (l:List AV) (c1:Nat) (cs:List Value),c0<c1->(∃ pre,fpC σ k p i c0 (x::as)=fpA σ k p i c0 x++pre++fpC σ k p i c1 l)->CeC I σ B k p i c1 l cs->CeC I σ' B' k p i c1 l cs:=by
   intro l
   induction l with
   | nil=>intro _ _ _ _ h;exact h
   | cons y l ih =>intro c1 cs hlt ⟨pre,hpre⟩ h;obtain ⟨v,cs',rfl,h1,h2⟩:=h;refine ⟨v,cs',rfl,T c1 y v (by omega) (λb hb=>?_) h1,ih (c1+1) cs' (by omega) ⟨pre++fpA σ k p i c1 y,by rw [hpre];simp [fpC]⟩ h2⟩;rw [hpre];refine ⟨by simp [fpC,hb],λhn hx=>?_⟩;rw [append_assoc,nodup_append] at hn;exact hn.2.2 b (by simpa using hx) b (by simp [fpC,hb]) rfl
  exact aux as (c0+1) cs' (by omega) ⟨[],by simp [fpC]⟩ h2
 | x::as,c0,j+1,cs,a,a',v',h,ha,hc,T=>by
  obtain ⟨v,cs',rfl,h1,h2⟩:=h;obtain ⟨l1,l2,hl,_⟩:=z8e (σ:=σ) (k:=k) (p:=p) (i:=i) as (c0+1) j a (by simpa using ha);rw [show c0+1+j=c0+(j+1) by omega] at hl;refine ⟨v,cs'.set j v',rfl,T c0 x v (by omega) (λb hb=>⟨by simp [fpC,hb],λhn hx=>?_⟩) h1,?_⟩
  ·simp only [fpC] at hn;rw [nodup_append] at hn;exact hn.2.2 b hb b (by rw [hl];simp [hx]) rfl
  ·refine CeC.setAt as (c0+1) j cs' a a' v' h2 (by simpa using ha) (by rwa [show c0+1+j=c0+(j+1) by omega]) (λc' a'' v hne hb hce=>T c' a'' v (by omega) (λb hbb=>?_) hce);obtain ⟨q1,q2⟩:=hb b hbb;refine ⟨by simp [fpC,q1],λhn=>?_⟩;rw [show c0+(j+1)=c0+1+j by omega];simp only [fpC] at hn;exact q2 (nodup_append.1 hn).2.1
theorem CeC.map {p:Path}{i:Nat}:∀ (l:List AV) (c0:Nat) (cs:List Value),
  (∀ c' a v,(∀ b∈fpA σ k p i c' a,b∈fpC σ k p i c0 l)->Ce I σ B k p i c' a v->Ce I σ' B' k p i c' a v)->CeC I σ B k p i c0 l cs->CeC I σ' B' k p i c0 l cs
 | [],_,_,_,h=>h
 | x::as,c0,cs,T,h=>by obtain ⟨v,cs',rfl,h1,h2⟩:=h;exact ⟨v,cs',rfl,T c0 x v (λb hb=>by simp [fpC,hb]) h1,CeC.map as (c0+1) cs' (λc' a v hb=>T c' a v (λb hbb=>by simp [fpC,hb b hbb])) h2⟩
theorem CeE.map {p:Path}{s:Nat}:∀ (xs:Els) (i0:Nat) (cs:List Value),
  (∀ i' c' a v,i0<=i'->(∀ b∈fpA σ k p i' c' a,b∈fpE σ k p i0 xs)->Ce I σ B k p i' c' a v->Ce I σ' B' k p i' c' a v)->CeE I σ B k p i0 s xs cs->CeE I σ' B' k p i0 s xs cs
 | [],_,_,_,_=>trivial
 | x::xs,i0,cs,T,h=>⟨h.1,CeC.map x 0 _ (λc' a v hb=>T i0 c' a v (Nat.le_refl _) (λb hbb=>by simp [fpE,hb b hbb])) h.2.1,
   CeE.map xs (i0+1) _ (λi' c' a v hle hb=>T i' c' a v (by omega) (λb hbb=>by simp [fpE,hb b hbb])) h.2.2⟩
theorem CeE.setAt {p:Path}{s:Nat}:∀ (xs:Els) (i0 j:Nat) (cs:List Value) (x x':List AV) (news:List Value),CeE I σ B k p i0 s xs cs->xs[j]?=some x->x'.length=s->news.length=s ->
  CeC I σ' B' k p (i0+j) 0 x' news ->
  (∀ i' c' a v,i'≠i0+j->(∀ b∈fpA σ k p i' c' a,b∈fpE σ k p i0 xs/\((fpE σ k p i0 xs).Nodup->b∉fpC σ k p (i0+j) 0 x))->Ce I σ B k p i' c' a v->Ce I σ' B' k p i' c' a v) ->
  CeE I σ' B' k p i0 s (xs.set j x') (cs.take (j * s)++news++cs.drop (j * s+s))
 | [],_,_,_,_,_,_,_,h,_,_,_,_=>by simp at h
 | y::xs,i0,0,cs,x,x',news,h,hx,hl,hn,hc,T=>by
  simp at hx;subst hx;refine ⟨hl,?_,?_⟩
  ·simp only [Nat.zero_mul,take_zero,nil_append,Nat.zero_add];rw [take_append_of_le_length (by omega),take_of_length_le (by omega)];simpa using hc
  ·simp only [Nat.zero_mul,take_zero,nil_append,Nat.zero_add];rw [List.drop_append_of_le_length (by omega),List.drop_of_length_le (by omega),nil_append];refine CeE.map xs (i0+1) _ (λi' c' a v hle hb hce=>T i' c' a v (by omega) (λb hbb=>?_) hce) h.2.2;refine ⟨by simp [fpE,hb b hbb],λhnd hxx=>?_⟩;simp only [fpE] at hnd;rw [nodup_append] at hnd;exact hnd.2.2 b (by simpa using hxx) b (hb b hbb) rfl
 | y::xs,i0,j+1,cs,x,x',news,h,hx,hl,hn,hc,T=>by
  obtain ⟨l1,l2,hfl,_⟩:=z6b (σ:=σ) (k:=k) (p:=p) xs (i0+1) j x (by simpa using hx);rw [show i0+1+j=i0+(j+1) by omega] at hfl;have hylen:(cs.take s).length=s:=by rw [CeC.length y 0 _ h.2.1];exact h.1
  have hcs:s<=cs.length:=by rw [length_take] at hylen;omega
  have hjs:(j+1) * s=s+j * s:=by rw [Nat.add_mul,Nat.one_mul,Nat.add_comm]
  refine ⟨h.1,?_,?_⟩
  ·have e:(cs.take ((j+1) * s)++news++cs.drop ((j+1) * s+s)).take s=cs.take s:=by rw [append_assoc,take_append_of_le_length (by rw [length_take];omega),take_take,Nat.min_eq_left (by omega)]
   rw [e];refine CeC.map y 0 _ (λc' a v hb hce=>T i0 c' a v (by omega) (λb hbb=>?_) hce) h.2.1;refine ⟨by simp [fpE,hb b hbb],λhnd hxx=>?_⟩;simp only [fpE] at hnd;rw [nodup_append] at hnd;exact hnd.2.2 b (hb b hbb) b (by rw [hfl];simp [hxx]) rfl
  ·have e:(cs.take ((j+1) * s)++news++cs.drop ((j+1) * s+s)).drop s=(cs.drop s).take (j * s)++news++(cs.drop s).drop (j * s+s):=by rw [append_assoc,List.drop_append_of_le_length (by rw [length_take];omega),hjs,drop_take,drop_drop,Nat.add_sub_cancel_left,Nat.add_assoc,append_assoc]
   rw [e];refine CeE.setAt xs (i0+1) j (cs.drop s) x x' news h.2.2 (by simpa using hx) hl hn (by rwa [show i0+1+j=i0+(j+1) by omega]) (λi' c' a v hne hb hce=>T i' c' a v (by omega) (λb hbb=>?_) hce);obtain ⟨q1,q2⟩:=hb b hbb;refine ⟨by simp [fpE,q1],λhnd=>?_⟩;rw [show i0+(j+1)=i0+1+j by omega];simp only [fpE] at hnd;exact q2 (nodup_append.1 hnd).2.1
end
section
variable {I:Nat->Prop}{σ σ':Pl}{B B':zm}{k:Nat}
theorem Ce.still {p:Path}{i c:Nat}(hI:∀ b,I b->B' b=B b)(hσ:∀ q,σ' k (p++(i,c)::q)=σ k (p++(i,c)::q))(a:AV)(v:Value)
  (hb:∀ b∈fpA σ k p i c a,B' b=B b) (h:Ce I σ B k p i c a v):Ce I σ' B' k p i c a v :=
 Ce.ren hσ a v (Ce.mono hI k p i c a v hb h)
theorem zid (cs:List Value)(a s:Nat):cs.take a++(cs.drop a).take s++cs.drop (a+s)=cs:=by rw [append_assoc,<- drop_drop,take_append_drop,take_append_drop]
theorem y5y {L:Loc}{a b:Nat}(h:L.s<MB->a=b):hdr L a=hdr L b:=by
 unfold hdr;by_cases hm:L.s<MB
 ·rw [h hm]
 ·rw [if_neg hm,if_neg hm]
theorem CeE.updAt (hI:∀ b,I b->B' b=B b)(f:Els->Els):∀ (p pre:Path) (s:Nat) (xs:Els) (cs:List Value) (s':Nat) (ys:Els),
  CeE I σ B k pre 0 s xs cs->(fpE σ k pre 0 xs).Nodup->p≠[]->zp s xs p=some (s',ys)->(s'<MB->(f ys).length=ys.length) ->
  z39 I σ' B' k (pre++p) s' (f ys)->(∀ q,¬ (∃ r,r≠[]/\q=pre++p++r)->σ' k q=σ k q)->(∀ b,b∉fpP σ k (pre++p) ys->b∈fpE σ k pre 0 xs->B' b=B b) ->
  CeE I σ' B' k pre 0 s (z1l xs p f) cs
 | [],_,_,_,_,_,_,_,_,h,_,_,_,_,_=>absurd rfl h
 | (i,c)::p,pre,s,xs,cs,s',ys,h,hnd,_,hr,hlen,hpl,hσ,hB=>by
  have hr0:=hr;simp only [zp] at hr;simp only [z1l];cases hx:xs[i]? with
  | none=>rw [hx] at hr;cases hr
  | some x =>
   rw [hx] at hr;simp only at hr;cases ha:x[c]? with
   | none=>rw [ha] at hr;cases hr
   | some a =>
    rw [ha] at hr;cases a with
    | ow s1 zs =>
     simp only at hr;simp only [ha];obtain ⟨hxl,hC⟩:=CeE.get xs 0 cs h i x hx;obtain ⟨m1,m2,hm,_⟩:=z6b (σ:=σ) (k:=k) (p:=pre) xs 0 i x hx;obtain ⟨n1,n2,hn,_⟩:=z8e (σ:=σ) (k:=k) (p:=pre) (i:=i) x 0 c _ ha;simp only [Nat.zero_add] at hC hm hn;obtain ⟨v,hv,hCe⟩:=CeC.get x 0 _ hC c _ ha;simp only [Nat.zero_add] at hCe;have hres:=z5e ((i,c)::p) pre s xs cs s' ys h (by simp) hr0
     have hin:∀ b∈fpP σ k (pre++(i,c)::p) ys,b∈fpA σ k pre i c (.ow s1 zs):=by
      intro b hb;simp only [fpA];by_cases hp:p=[]
      ·subst hp;simp only [zp,Option.some.injEq,Prod.mk.injEq] at hr;obtain ⟨rfl,rfl⟩:=hr;unfold fpP at hb;cases hs:σ k (pre++[(i,c)]) with | none=>simp [hs] at hb | some L=>simp only [hs] at hb ⊢;exact hb
      ·simp only [Ce] at hCe;cases hs:σ k (pre++[(i,c)]) with
       | none =>simp only [hs] at hCe;obtain ⟨rfl,_⟩:=hCe;cases p with | nil=>exact absurd rfl hp | cons q p=>obtain ⟨i',c'⟩:=q;simp [zp] at hr
       | some L =>simp only [hs] at hCe ⊢;obtain ⟨_,_,_,cur,E,_,_,hE⟩:=hCe;have:=(z5e p (pre++[(i,c)]) (esz s1) zs _ s' ys hE hp ((z3z hp).symm.trans hr)).2;simp only [append_assoc,singleton_append] at this;exact mem_cons_of_mem _ (this.subset hb)
     have hcells:(cs.drop (i * s)).take s=((cs.drop (i * s)).take s).set c v:=by
      apply ext_getElem?;intro j;rw [List.getElem?_set];by_cases hj:c=j
      ·subst hj;rw [if_pos rfl,hv]
       have:c<((cs.drop (i * s)).take s).length:=by
        rcases Nat.lt_or_ge c ((cs.drop (i * s)).take s).length with h' | h'
        ·exact h'
        ·rw [getElem?_eq_none h'] at hv;cases hv
       rw [if_pos this]
      ·rw [if_neg hj]
     have hnews:((cs.drop (i * s)).take s).length=s:=by rw [CeC.length x 0 _ hC];exact hxl
     have hndx:(fpC σ k pre i 0 x).Nodup:=by rw [hm] at hnd;exact (nodup_append.1 (nodup_append.1 hnd).1).2.1
     have noP:∀ (x:Nat×Nat) (q:Path),x≠(i,c)->¬ ∃ r,r≠[]/\pre++x::q=pre++(i,c)::p++r:=by rintro x q hx ⟨r,_,h2⟩;rw [append_assoc] at h2;have h3:=append_cancel_left h2;rw [cons_append,List.cons.injEq] at h3;exact hx h3.1
     have noS:¬ ∃ r,r≠[]/\pre++[(i,c)]=pre++(i,c)::p++r:=by rintro ⟨r,hr1,h2⟩;rw [append_assoc] at h2;have h3:=append_cancel_left h2;rw [cons_append,List.cons.injEq] at h3;have h4:=h3.2.symm;rw [List.append_eq_nil_iff] at h4;exact hr1 h4.2
     rw [<- zid cs (i * s) s];refine CeE.setAt (σ:=σ) (B:=B) xs 0 i cs x _ _ h hx (by simpa using hxl) hnews ?_ ?_
     ·rw [Nat.zero_add,hcells];refine CeC.setAt (σ:=σ) (B:=B) x 0 c _ (.ow s1 zs) _ v hC ha ?_ ?_
      ·rw [Nat.zero_add];simp only [Ce] at hCe ⊢;have hσ1:σ' k (pre++[(i,c)])=σ k (pre++[(i,c)]):=hσ _ noS;rw [hσ1];by_cases hp:p=[]
       ·subst hp;simp only [zp,Option.some.injEq,Prod.mk.injEq] at hr;obtain ⟨rfl,rfl⟩:=hr;simp only [z1l];simp only [z39,hσ1] at hpl;cases hs:σ k (pre++[(i,c)]) with
        | none=>simp only [hs] at hCe hpl ⊢;exact ⟨hpl.1,hCe.2⟩
        | some L =>simp only [hs] at hCe hpl ⊢;obtain ⟨q1,q2,q3,q4⟩:=hCe;exact ⟨hpl.1,hpl.2.1,q3.trans (y5y λhm=>(hlen (by rw [<- q1];exact hm)).symm),hpl.2.2⟩
       ·cases hs:σ k (pre++[(i,c)]) with
        | none =>simp only [hs] at hCe;obtain ⟨rfl,_⟩:=hCe;cases p with | nil=>exact absurd rfl hp | cons q p=>obtain ⟨i',c'⟩:=q;simp [zp] at hr
        | some L =>
         simp only [hs] at hCe ⊢;obtain ⟨q1,q2,q3,cur,E,q4,q5,q6⟩:=hCe;have hfa:fpA σ k pre i c (.ow s1 zs)=L.b::fpE σ k (pre++[(i,c)]) 0 zs:=by simp only [fpA,hs]
         have hnda:(L.b::fpE σ k (pre++[(i,c)]) 0 zs).Nodup:=by rw [hn,hfa] at hndx;exact (nodup_append.1 (nodup_append.1 hndx).1).2.1
         have hsub:=(z5e p (pre++[(i,c)]) (esz s1) zs _ s' ys q6 hp ((z3z hp).symm.trans hr)).2;simp only [append_assoc,singleton_append] at hsub
         have hmem:∀ b∈L.b::fpE σ k (pre++[(i,c)]) 0 zs,b∈fpE σ k pre 0 xs:=by intro b hb;rw [hm,hn,hfa];simp only [mem_append];exact .inl (.inr (.inl (.inr hb)))
         have hlen':(z1l zs p f).length=zs.length:=by
          cases p with
          | nil=>exact absurd rfl hp
          | cons q p =>
           obtain ⟨i',c'⟩:=q;simp only [z1l];split
           ·rfl
           ·split<;>simp
         refine ⟨q1,by rw [hlen'];exact q2,by rw [hlen'];exact q3,cur,E,?_,by rw [z76 hlen'];exact q5,?_⟩
         ·rw [hB L.b (λhb=>?_) (hmem _ (by simp))]
          ·exact q4
          ·rw [nodup_cons] at hnda;exact hnda.1 (hsub.subset hb)
         ·refine CeE.updAt hI f p (pre++[(i,c)]) (esz s1) zs _ s' ys q6 (nodup_cons.1 hnda).2 hp ((z3z hp).symm.trans hr) hlen (by simpa using hpl) (λq hq=>hσ q (by simpa using hq)) (λb hb hbm=>hB b (by simpa using hb) (hmem b (by simp [hbm])))
      ·intro c' a'' w hne hb hce;refine Ce.still hI (λq=>hσ _ (noP _ _ (λe=>hne (by simp only [Prod.mk.injEq] at e;omega)))) a'' w (λb hbb=>?_) hce;refine hB b (λhbp=>?_) ?_
       ·have h2:=(hb b hbb).2 hndx;rw [Nat.zero_add] at h2;exact h2 (hin b hbp)
       ·rw [hm];simp only [mem_append];exact .inl (.inr (hb b hbb).1)
     ·intro i' c' a'' w hne hb hce;refine Ce.still hI (λq=>hσ _ (noP _ _ (λe=>hne (by simp only [Prod.mk.injEq] at e;omega)))) a'' w (λb hbb=>?_) hce;refine hB b (λhbp=>?_) (hb b hbb).1;have h2:=(hb b hbb).2 hnd;rw [Nat.zero_add] at h2;refine h2 ?_;rw [hn];simp only [mem_append];exact .inl (.inr (hin b hbp))
    | _=>cases hr
theorem fpE.updAt (f:Els->Els):∀ (p pre:Path) (s:Nat) (xs:Els) (cs:List Value) (s':Nat) (ys:Els),
  CeE I σ B k pre 0 s xs cs->p≠[]->zp s xs p=some (s',ys)->(∀ q,¬ (∃ r,r≠[]/\q=pre++p++r)->σ' k q=σ k q) ->
  ∃ l1 l2,fpE σ k pre 0 xs=l1++fpP σ k (pre++p) ys++l2/\fpE σ' k pre 0 (z1l xs p f)=l1++fpP σ' k (pre++p) (f ys)++l2
 | [],_,_,_,_,_,_,_,h,_,_=>absurd rfl h
 | (i,c)::p,pre,s,xs,cs,s',ys,h,_,hr,hσ=>by
  have hr0:=hr;simp only [zp] at hr;simp only [z1l];cases hx:xs[i]? with
  | none=>rw [hx] at hr;cases hr
  | some x =>
   rw [hx] at hr;simp only at hr;cases ha:x[c]? with
   | none=>rw [ha] at hr;cases hr
   | some a =>
    rw [ha] at hr;cases a with
    | ow s1 zs =>
     simp only at hr;simp only [ha];obtain ⟨hxl,hC⟩:=CeE.get xs 0 cs h i x hx;obtain ⟨m1,m2,hm,hm'⟩:=z6b (σ:=σ) (k:=k) (p:=pre) xs 0 i x hx;obtain ⟨n1,n2,hn,hn'⟩:=z8e (σ:=σ) (k:=k) (p:=pre) (i:=i) x 0 c _ ha;simp only [Nat.zero_add] at hC hm hn hm' hn';obtain ⟨v,hv,hCe⟩:=CeC.get x 0 _ hC c _ ha;simp only [Nat.zero_add] at hCe
     have noP:∀ (x:Nat×Nat) (q:Path),x≠(i,c)->¬ ∃ r,r≠[]/\pre++x::q=pre++(i,c)::p++r:=by rintro x q hx ⟨r,_,h2⟩;rw [append_assoc] at h2;have h3:=append_cancel_left h2;rw [cons_append,List.cons.injEq] at h3;exact hx h3.1
     have noS:¬ ∃ r,r≠[]/\pre++[(i,c)]=pre++(i,c)::p++r:=by rintro ⟨r,hr1,h2⟩;rw [append_assoc] at h2;have h3:=append_cancel_left h2;rw [cons_append,List.cons.injEq] at h3;have h4:=h3.2.symm;rw [List.append_eq_nil_iff] at h4;exact hr1 h4.2
     have hσ1:σ' k (pre++[(i,c)])=σ k (pre++[(i,c)]):=hσ _ noS;have e1:=hm' σ' (x.set c (.ow s1 (z1l zs p f))) (λi' c' a'' hne=>fpA.ren (λq=>hσ _ (noP _ _ (λe=>hne (by simp only [Prod.mk.injEq] at e;omega)))) a'');have e2:=hn' σ' (.ow s1 (z1l zs p f)) (λc' a'' hne=>fpA.ren (λq=>hσ _ (noP _ _ (λe=>hne (by simp only [Prod.mk.injEq] at e;omega)))) a'');simp only [Ce] at hCe
     have key:∃ l1 l2,fpA σ k pre i c (.ow s1 zs)=l1++fpP σ k (pre++(i,c)::p) ys++l2/\fpA σ' k pre i c (.ow s1 (z1l zs p f))=l1++fpP σ' k (pre++(i,c)::p) (f ys)++l2:=by
      simp only [fpA,hσ1];by_cases hp:p=[]
      ·subst hp;simp only [zp,Option.some.injEq,Prod.mk.injEq] at hr;obtain ⟨rfl,rfl⟩:=hr;refine ⟨[],[],?_,?_⟩
       ·simp only [fpP,nil_append,append_nil]
        all_goals (cases σ k (pre++[(i,c)])<;>rfl)
       ·simp only [fpP,nil_append,append_nil,z1l,hσ1]
        all_goals (cases σ k (pre++[(i,c)])<;>rfl)
      ·cases hs:σ k (pre++[(i,c)]) with
       | none =>simp only [hs] at hCe;obtain ⟨rfl,_⟩:=hCe;cases p with | nil=>exact absurd rfl hp | cons q p=>obtain ⟨i',c'⟩:=q;simp [zp] at hr
       | some L =>simp only [hs] at hCe ⊢;obtain ⟨q1,q2,q3,cur,E,q4,q5,q6⟩:=hCe;obtain ⟨l1,l2,h1,h2⟩:=fpE.updAt f p (pre++[(i,c)]) (esz s1) zs _ s' ys q6 hp ((z3z hp).symm.trans hr) (λq hq=>hσ q (by simpa using hq));simp only [append_assoc,singleton_append] at h1 h2;exact ⟨L.b::l1,l2,by rw [h1];simp,by rw [h2];simp⟩
     obtain ⟨l1,l2,h1,h2⟩:=key;refine ⟨m1++n1++l1,l2++n2++m2,?_,?_⟩
     ·rw [hm,hn,h1];simp
     ·rw [e1,e2,h2];simp
    | _=>cases hr
end
section
variable {I:Nat->Prop}{σ σ':Pl}{B B':zm}{k:Nat}{h:H}{r r':Row}
theorem zas:∀ (h:H),z6 h k=some r->∃ h1 h2,h=h1++(k,r)::h2/\(∀ r',setRow h k r'=h1++(k,r')::h2)/\zc h k=h1++h2
 | [],h=>by cases h
 | (k',r1)::h,hg=>by
  simp only [z6] at hg;by_cases e:k'=k
  ·subst e;rw [if_pos rfl] at hg;cases hg;exact ⟨[],h,rfl,λr'=>by simp [setRow],by simp [zc]⟩
  ·rw [if_neg e] at hg;obtain ⟨h1,h2,e1,e2,e3⟩:=zas h hg;exact ⟨(k',r1)::h1,h2,by rw [e1];rfl,λr'=>by simp [setRow,e,e2],by simp [zc,e,e3]⟩
theorem zr.append:∀ {h1 h2:H},zr I σ B (h1++h2)↔zr I σ B h1/\zr I σ B h2
 | [],h2=>by simp [zr]
 | (k,r)::h1,h2=>by simp [zr,zr.append (h1:=h1),and_assoc]
theorem z33:∀ {h1 h2:H},fpH σ (h1++h2)=fpH σ h1++fpH σ h2
 | [],h2=>by simp [fpH]
 | (k,r)::h1,h2=>by simp [fpH,z33 (h1:=h1)]
theorem zr.cons {k:Nat}{r:Row}{h:H}:zr I σ B ((k,r)::h)↔zy I σ B k r/\zr I σ B h:=Iff.rfl
theorem z1o {k:Nat}{r:Row}{h:H}:fpH σ ((k,r)::h)=fpR σ k r++fpH σ h:=rfl
theorem zy.ren (k:Nat)(r:Row)(hσ:∀ q,σ' k q=σ k q)(h:zy I σ B k r):zy I σ' B k r:=by
 unfold zy at *;rw [hσ []];cases hs:σ k [] with
 | none=>simpa only [hs] using h
 | some L =>simp only [hs] at h ⊢;obtain ⟨h1,h2,cur,E,h3,h4,h5⟩:=h;exact ⟨h1,h2,cur,E,h3,h4,CeE.ren 0 (esz r.s) (λi' c' q=>hσ _) r.xs _ h5⟩
theorem fpR.ren (k:Nat)(r:Row)(hσ:∀ q,σ' k q=σ k q):fpR σ' k r=fpR σ k r:=by
 unfold fpR;rw [hσ []];cases σ k [] with
 | none=>rfl
 | some L=>simp only;rw [fpE.ren 0 (λi' c' q=>hσ _) r.xs]
theorem zr.ren:∀ (h:H),(∀ k∈h.map Prod.fst,∀ q,σ' k q=σ k q)->zr I σ B h->zr I σ' B h
 | [],_,_=>trivial
 | (k,r)::h,hσ,hh=>⟨zy.ren k r (hσ k (by simp)) hh.1,zr.ren h (λk hk=>hσ k (by simp [hk])) hh.2⟩
theorem fpH.ren:∀ (h:H),(∀ k∈h.map Prod.fst,∀ q,σ' k q=σ k q)->fpH σ' h=fpH σ h
 | [],_=>rfl
 | (k,r)::h,hσ=>by simp only [fpH];rw [fpR.ren k r (hσ k (by simp)),fpH.ren h (λk hk=>hσ k (by simp [hk]))]
theorem zk.del {w:World}(hh:zk I σ h w)(hg:z6 h k=some r):zk I σ (zc h k) w/\zy I σ (bl w) k r/\k∉(zc h k).map Prod.fst /\
  (fpR σ k r).Nodup/\(∀ b∈fpR σ k r,b∉fpH σ (zc h k)/\b∈fpH σ h)/\(∀ b∈fpH σ (zc h k),b∈fpH σ h):=by
 obtain ⟨h1,h2,e1,_,e3⟩:=zas h hg;obtain ⟨ok,keys,nd,ap,low⟩:=hh;rw [e3];rw [e1,zr.append,zr.cons] at ok;rw [e1,map_append,map_cons] at keys;rw [e1,z33,z1o] at nd
 have hsub:(fpH σ (h1++h2)).Sublist (fpH σ h):=by rw [e1,z33,z33,z1o];exact List.Sublist.append (List.Sublist.refl _) (List.sublist_append_right _ _)
 have hk:k∉(h1++h2).map Prod.fst:=by
  rw [map_append];rw [nodup_append,nodup_cons] at keys;intro hm;rcases mem_append.1 hm with hm | hm
  ·exact keys.2.2 k hm k (by simp) rfl
  ·exact keys.2.1.1 hm
 refine ⟨⟨zr.append.2 ⟨ok.1,ok.2.2⟩,?_,?_,λb hb=>ap b (hsub.subset hb),low⟩,ok.2.1,hk,?_,?_,λb hb=>hsub.subset hb⟩
 ·rw [map_append];rw [nodup_append,nodup_cons] at keys;rw [nodup_append];exact ⟨keys.1,keys.2.1.2,λa ha b hb=>keys.2.2 a ha b (by simp [hb])⟩
 ·rw [z33];rw [nodup_append,nodup_append] at nd;rw [nodup_append];exact ⟨nd.1,nd.2.1.2.1,λa ha b hb=>nd.2.2 a ha b (by simp [hb])⟩
 ·rw [nodup_append,nodup_append] at nd;exact nd.2.1.1
 ·intro b hb;refine ⟨λhm=>?_,by rw [e1,z33,z1o];simp [hb]⟩;rw [z33] at hm;rw [nodup_append,nodup_append] at nd;rcases mem_append.1 hm with hm | hm
  ·exact nd.2.2 b hm b (by simp [hb]) rfl
  ·exact nd.2.1.2.2 b hb b hm rfl
theorem zk.add {w w':World}(hh:zk I σ h w)(hk:k∉h.map Prod.fst)(hσ:∀ k',k'≠k->∀ q,σ' k' q=σ k' q)
  (hB:∀ b,b<w.heap.size->(I b\/b∈fpH σ h)->bl w' b=bl w b) (hsz:w.heap.size<=w'.heap.size)
  (hr:zy I σ' (bl w') k r) (hnd:(fpR σ' k r).Nodup) (hfp:∀ b∈fpR σ' k r,b∉fpH σ h/\¬ I b/\b<w'.heap.size):zk I σ' ((k,r)::h) w':=by
 obtain ⟨ok,keys,nd,ap,low⟩:=hh;have hne:∀ k'∈h.map Prod.fst,∀ q,σ' k' q=σ k' q:=λk' hk'=>hσ k' (λe=>hk (e ▸ hk'));have hI:∀ b,I b->bl w' b=bl w b:=λb hb=>hB b (low b hb) (.inl hb);refine ⟨⟨hr,zr.ren h hne (zr.mono hI h (λb hb=>hB b (ap b hb).2 (.inr hb)) ok)⟩,?_,?_,?_,λb hb=>Nat.lt_of_lt_of_le (low b hb) hsz⟩
 ·simp only [map_cons,nodup_cons];exact ⟨hk,keys⟩
 ·rw [z1o,fpH.ren h hne,nodup_append];exact ⟨hnd,nd,λa ha b hb e=>(hfp a ha).1 (e ▸ hb)⟩
 ·intro b hb;rw [z1o,fpH.ren h hne] at hb;rcases mem_append.1 hb with hb | hb
  ·exact (hfp b hb).2
  ·exact ⟨(ap b hb).1,Nat.lt_of_lt_of_le (ap b hb).2 hsz⟩
theorem zr.perm {h1 h2:H}(p:h1.Perm h2):zr I σ B h1↔zr I σ B h2:=by
 induction p with
 | nil=>rfl
 | cons x p ih=>obtain ⟨k,r⟩:=x;simp only [zr,ih]
 | swap x y l=>obtain ⟨k,r⟩:=x;obtain ⟨k',r'⟩:=y;simp only [zr];exact ⟨λ⟨a,b,c⟩=>⟨b,a,c⟩,λ⟨a,b,c⟩=>⟨b,a,c⟩⟩
 | trans _ _ ih1 ih2=>exact ih1.trans ih2
theorem fpH.perm {h1 h2:H}(p:h1.Perm h2):(fpH σ h1).Perm (fpH σ h2):=by
 induction p with
 | nil=>exact .refl _
 | cons x p ih=>obtain ⟨k,r⟩:=x;exact .append_left _ ih
 | swap x y l =>obtain ⟨k,r⟩:=x;obtain ⟨k',r'⟩:=y;simp only [fpH];rw [<- append_assoc,<- append_assoc];exact .append_right _ List.perm_append_comm
 | trans _ _ ih1 ih2=>exact ih1.trans ih2
theorem zk.perm {h1 h2:H}{w:World}(p:h1.Perm h2)(hh:zk I σ h1 w):zk I σ h2 w :=
 ⟨(zr.perm p).1 hh.ok,((p.map Prod.fst).nodup_iff).1 hh.keys,((fpH.perm p).nodup_iff).1 hh.nodup,λb hb=>hh.apart b ((fpH.perm p).mem_iff.2 hb),hh.low⟩
theorem z3x {r:Row}(hg:z6 h k=some r):h.Perm ((k,r)::zc h k):=by obtain ⟨h1,h2,e1,_,e3⟩:=zas h hg;rw [e3];subst e1;exact List.perm_middle
end
inductive IB where
 | mov (x:Operand)
 | pick (c a b:Operand)
 | bin (op:BinOp) (x y:Operand)
 | beq (neg:Bool) (x y:Operand)
 | eqs (neg:Bool) (n:Nat) (plan:List (Nat×Nat)) (x y:Operand)
 | un1 (op:UnOp) (x:Operand)
 | cvt (k:IntKind) (x:Operand)
 | fad (off:Nat) (x:Operand)
 | iad (s:Nat) (x i:Operand)
 | aad (len n:Nat) (x i:Operand)
 | load (agg:Bool) (n:Nat) (x:Operand)
 | fld (agg:Bool) (off n:Nat) (x:Operand)
 | ida (agg:Bool) (len n:Nat) (x i:Operand)
 | ids (x i:Operand)
 | len (x:Operand)
 | lens (x:Operand)
 | b2s (x:Operand)
 | ext (n:Nat) (x:Operand)
 | nchk (x:Operand)
 | slc (s:Nat) (x:Operand) (lo hi:Option Operand)
 | slc0 (x:Operand)
 | sls (x:Operand) (lo hi:Option Operand)
 | build (zero:List Value) (parts:List (Nat×Nat×Operand))
 | mkf (f:Nat) (caps:List Operand)
 | mm (isMax:Bool) (x y:Operand)
 | mkm (s:Nat)
 | lku (nv:Nat) (ks:List Nat) (agg ok:Bool) (zero:List Value) (x key:Operand)
 | box (s:Nat) (x:Operand)
 | bsl (s len:Nat) (zero:List Value) (parts:List (Nat×Operand))
 | mks (s bytes:Nat) (zero:List Value) (l:Operand)
 | app (s bytes:Nat) (x y:Operand)
 | store (n:Nat) (a x:Operand)
 | call (f:Nat) (args:List Operand)
 | callv (x:Operand) (args:List Operand)
def cval:Value->AV
 | .slice none 0 0=>.zs
 | .agg cs=>if cs.toList.all Value.oneCell' then .ag (cs.toList.map λ| .slice none 0 0=>AV.zs | v=>AV.sc v) else .un
 | v=>.sc v
def ev (e:Env):Operand->AV
 | .tmp t=>e t
 | .const v=>cval v
 | .func f=>.fn f []
 | .global _=>.un
def z8m (op:BinOp):Value->Value->Option Value
 | .int k a,.int k' b =>
  match op with
  | .shl=>if 0<=b then some (.int k (k.wrap (a * 2 ^ min b.toNat k.bits))) else none
  | .shr=>if 0<=b then some (.int k (a.fdiv (2 ^ min b.toNat k.bits))) else none
  | .add=>if k=k' then some (.int k (k.wrap (a+b))) else none
  | .sub=>if k=k' then some (.int k (k.wrap (a - b))) else none
  | .mul=>if k=k' then some (.int k (k.wrap (a * b))) else none
  | .quo=>if k=k'/\b≠0 then some (.int k (k.wrap (a.tdiv b))) else none
  | .rem=>if k=k'/\b≠0 then some (.int k (a.tmod b)) else none
  | .and=>if k=k' then some (.int k (k.wrap (BitVec.ofInt k.bits a &&& BitVec.ofInt k.bits b).toNat)) else none
  | .or=>if k=k' then some (.int k (k.wrap (BitVec.ofInt k.bits a ||| BitVec.ofInt k.bits b).toNat)) else none
  | .xor=>if k=k' then some (.int k (k.wrap (BitVec.ofInt k.bits a ^^^ BitVec.ofInt k.bits b).toNat)) else none
  | .andNot=>if k=k' then some (.int k (k.wrap (BitVec.ofInt k.bits a &&& ~~~BitVec.ofInt k.bits b).toNat)) else none
  | .eql=>if k=k' then some (.bool (a==b)) else none
  | .neq=>if k=k' then some (.bool (a != b)) else none
  | .lss=>if k=k' then some (.bool (decide (a<b))) else none
  | .leq=>if k=k' then some (.bool (decide (a<=b))) else none
  | .gtr=>if k=k' then some (.bool (decide (a > b))) else none
  | .geq=>if k=k' then some (.bool (decide (a>=b))) else none
 | .string a,.string b =>
  match op with
  | .eql=>some (.bool (a==b))
  | .neq=>some (.bool (!(a==b)))
  | .add=>if a.size+b.size<=9223372036854775807 then some (.string (a++b)) else none
  | _=>none
 | _,_=>none
theorem y6y {P:Program}{op:BinOp}{x y v:Value}(h:z8m op x y=some v)(t:TypeId)(X Y:Operand)(w:World) :
  (do eqGuard op t X Y x y;binOp op t x y:Sem Value).run P w = .ok v w:=by
 unfold z8m at h;split at h
 ·rename_i k a k' b;have hg:(eqGuard op t X Y (.int k a) (.int k' b)).run P w = .ok () w:=by cases op<;>simp [eqGuard]
  simp only [Sem.run_bind,hg,Result.andThen_ok];split at h
  case h_1=>split at h<;>simp_all [binOp,Op.shift];intro hh;omega
  case h_2=>split at h<;>simp_all [binOp,Op.shift];intro hh;omega
  all_goals (split at h<;>simp_all [binOp,Op.intArith,Op.intDiv,Op.intBits,Op.intCmp])
 ·rename_i a b;have hg:(eqGuard op t X Y (.string a) (.string b)).run P w = .ok () w:=by cases op<;>simp [eqGuard]
  simp only [Sem.run_bind,hg,Result.andThen_ok];split at h
  ·simp_all [binOp,Op.stringOp,beq_toListBytes]
  ·simp_all [binOp,Op.stringOp,beq_toListBytes]
  ·split at h
   ·rename_i hc;cases h;exact run_string_add_sum w a b hc
   ·cases h
  ·cases h
 ·cases h
def zev:Nat->Value->Value->Option Bool
 | 0,.int k a,.int k' b=>if k=k' then some (a==b) else none
 | 1,.bool a,.bool b=>some (a==b)
 | 2,.string a,.string b=>some (a==b)
 | _,_,_=>none
def z17 (xs ys:List AV):List (Nat×Nat)->Option Bool
 | []=>some true
 | (i,q)::is =>
  match xs[i]?,ys[i]? with
  | some (.sc a),some (.sc b) =>
   match zev q a b,z17 xs ys is with
   | some r,some r'=>some (r&&r')
   | _,_=>none
  | _,_=>none
def zxg (k:Nat)(p:Path)(i c:Nat):AV->AV
 | .ow s xs=>if s<MB then .sl k (p++[(i,c)]) 0 xs.length else .pp (.mr k (p++[(i,c)]))
 | a=>a
def z87 (k:Nat)(p:Path)(i:Nat):Nat->List AV->List AV
 | _,[]=>[]
 | c,a::as=>zxg k p i c a::z87 k p i (c+1) as
def z5g (xs:Els)(i c n:Nat):Option (List AV) :=
 match xs[i]? with
 | some x=>if c+n<=x.length then some ((x.drop c).take n) else none
 | none=>none
def z44:Bool->List AV->Option AV
 | true,cs=>some (.ag cs)
 | false,[a]=>some a
 | false,_=>none
def nn:AV->Option AV
 | .un=>none
 | a=>some a
def zi7 : AV->Option Int
 | .sc (.int _ n)=>some n
 | _=>none
def z6m (len:Nat)(lo hi:Option AV):Option (Nat×Nat) :=
 match (match hi with | none=>some (len:Int) | some h=>zi7 h),(match lo with | none=>some 0 | some l=>zi7 l) with
 | some h,some l=>if 0<=l/\l<=h/\h<=len then some (l.toNat,h.toNat) else none
 | _,_=>none
def z46:AV->Bool
 | .sc u=>u.oneCell'
 | .zs | .im _ _ | .ip _ _ _ _ | .sl _ _ _ _ | .pt _ _ _ _ | .fn _ _ | .pp _=>true
 | _=>false
def cellsOf:AV->Option (List AV)
 | .ag cs=>some cs
 | a=>if z46 a then some [a] else none
def z5a (cells:List AV):List (Nat×Nat×AV)->Option (List AV)
 | []=>some cells
 | (off,size,v)::rest =>
  match cellsOf v with
  | some cs=>if cs.length=size/\off+size<=cells.length then z5a (cells.take off++cs++cells.drop (off+size)) rest else none
  | none=>none
def z48:Els->Option (List Int)
 | []=>some []
 | [.sc (.int .u8 n)]::l=>match z48 l with | some ns=>some (n::ns) | none=>none
 | _=>none
def z91 (ns:List Int):ByteArray:=ns.foldl (λr n=>r.push (UInt8.ofNat n.toNat)) ByteArray.empty
def ycd (k:IntKind)(n:Int):Int:=k.wrap (BitVec.ofInt k.bits (if k.signed then -1 else k.max) ^^^ BitVec.ofInt k.bits n).toNat
structure RR where
 c:Nat->Path->Option (Nat×Els)
 m:Nat->Path->Option (Nat×Els)
instance:CoeFun RR λ_=>Nat->Path->Option (Nat×Els):=⟨RR.c⟩
def z4h (nk nv:Nat):Nat:=(nk+1) * 1000000+(nk+nv)
def z2p:Nat->List Nat->List (Nat×Nat)
 | _,[]=>[]
 | i,q::l=>(i,q)::z2p (i+1) l
def z4u (ks:List Nat)(key:List AV):Els->Nat->Option (Option (Nat×List AV))
 | [],_=>some none
 | x::l,i=>match z17 key x (z2p 0 ks) with
  | some true=>some (some (i,x))
  | some false=>z4u ks key l (i+1)
  | none=>none
def zei (agg ok b:Bool)(cs:List AV):Option AV :=
 match z44 agg cs with
 | some v=>if ok then some (.tu [v,.sc (.bool b)]) else some v
 | none=>none
def z35 (n:Nat):AV->Option (List AV)
 | .ag cs=>if n=1 then none else some cs
 | a=>if z46 a then some [a] else none
def zpm (m:Nat->Path->Option (Nat×Els))(nv:Nat)(ks:List Nat)(agg ok:Bool)(zero:List Value)(x key:AV):Option AV :=
 match x,z35 ks.length key with
 | .pp (.mr k p),some kc =>
  match m k p with
  | some (s,xs)=>if s=z4h ks.length nv/\kc.length=ks.length then
    match z4u ks kc xs 0 with
    | some (some (i,c))=>zei agg ok true (z87 k p i ks.length (c.drop ks.length))
    | some none=>zei agg ok false (zero.map cval)
    | none=>none
   else none
  | none=>none
 | _,_=>none
def zi (e:Operand->AV)(res:RR):IB->Option AV
 | .lku nv ks agg ok zero x key=>zpm res.m nv ks agg ok zero (e x) (e key)
 | .mov x=>nn (e x)
 | .pick c a b =>
  match e c with
  | .sc (.bool t)=>if t then nn (e a) else nn (e b)
  | _=>none
 | .bin op x y =>
  match e x,e y with
  | .sc a,.sc b=>match z8m op a b with | some v=>some (.sc v) | none=>none
  | _,_=>none
 | .beq neg x y =>
  match e x,e y with
  | .sc (.bool a),.sc (.bool b)=>some (.sc (.bool (if neg then a != b else a==b)))
  | _,_=>none
 | .eqs neg n plan x y =>
  match e x,e y with
  | .ag xs,.ag ys =>
   if xs.length=n/\ys.length=n then match z17 xs ys plan with | some r=>some (.sc (.bool (if neg then !r else r))) | none=>none
   else none
  | _,_=>none
 | .un1 op x =>
  match op,e x with
  | .not,.sc (.bool b)=>some (.sc (.bool (!b)))
  | .neg,.sc (.int k n)=>some (.sc (.int k (k.wrap (0 - n))))
  | .xor,.sc (.int k n)=>some (.sc (.int k (ycd k n)))
  | _,_=>none
 | .cvt k x =>
  match e x with
  | .sc (.int _ n)=>some (.sc (.int k (k.wrap n)))
  | _=>none
 | .fad off x =>
  match e x with
  | .pt k p i c=>some (.pt k p i (c+off))
  | .ip s xs i c=>some (.ip s xs i (c+off))
  | .pp (.xp b x c)=>some (.pp (.xp b x (c+off)))
  | _=>none
 | .iad s x i =>
  match e x,e i with
  | .sl k p off len,.sc (.int _ n) =>
   if 0<=n/\n<len then
    match res k p with
    | some (s',_)=>if s'=s then some (.pt k p (off+n.toNat) 0) else none
    | none=>none
   else none
  | .im s' xs,.sc (.int _ n)=>if s'=s/\0<=n/\n<xs.length then some (.ip s xs n.toNat 0) else none
  | .pp (.fs k cs),.sc (.int _ n)=>if s=1/\0<=n/\n<cs.length then some (.pp (.fp k cs n.toNat)) else none
  | _,_=>none
 | .aad len n x i =>
  match e x,e i with
  | .pt k p o c,.sc (.int _ m)=>if 0<=m/\m<len then some (.pt k p o (c+m.toNat * n)) else none
  | _,_=>none
 | .load agg n x =>
  match e x with
  | .pt k p i c =>
   match res k p with
   | some (_,ys)=>match z5g ys i c n with | some cs=>z44 agg (z87 k p i c cs) | none=>none
   | none=>none
  | .ip _ xs i c=>match z5g xs i c n with | some cs=>z44 agg cs | none=>none
  | .pp (.xp _ x c)=>if c+n<=x.length then z44 agg (((x.drop c).take n).map AV.sc) else none
  | .pp (.fp k cs i)=>match cs[i]? with | some c=>if n=1/\agg=false then some (.pt k [] 0 c) else none | none=>none
  | _=>none
 | .fld agg off n x =>
  match e x with
  | .ag cs=>if off+n<=cs.length then z44 agg ((cs.drop off).take n) else none
  | _=>none
 | .ida agg len n x i =>
  match e x,e i with
  | .ag cs,.sc (.int _ m)=>if 0<=m/\m<len/\m.toNat * n+n<=cs.length then z44 agg ((cs.drop (m.toNat * n)).take n) else none
  | _,_=>none
 | .ids x i =>
  match e x,e i with
  | .sc (.string s),.sc (.int _ m)=>if 0<=m/\m<s.size then some (.sc (.int .u8 (s.data.toList.getD m.toNat 0).toNat)) else none
  | _,_=>none
 | .len x =>
  match e x with
  | .sl _ _ _ len=>some (.sc (.int .i64 len))
  | .im _ xs=>some (.sc (.int .i64 xs.length))
  | .pp (.fs _ cs)=>some (.sc (.int .i64 cs.length))
  | .zs=>some (.sc (.int .i64 0))
  | _=>none
 | .lens x =>
  match e x with
  | .sc (.string s)=>some (.sc (.int .i64 s.size))
  | _=>none
 | .b2s x =>
  match e x with
  | .sl k p off len =>
   match res k p with
   | some (s,ys)=>if s=1/\off+len<=ys.length then match z48 ((ys.drop off).take len) with | some ns=>some (.sc (.string (z91 ns))) | none=>none else none
   | none=>none
  | .im s xs=>if s=1 then match z48 xs with | some ns=>some (.sc (.string (z91 ns))) | none=>none else none
  | .zs=>some (.sc (.string (z91 [])))
  | _=>none
 | .ext n x =>
  match e x with
  | .tu vs=>match vs[n]? with | some a=>nn a | none=>none
  | _=>none
 | .nchk x =>
  match e x with
  | .pt k p i c=>some (.pt k p i c)
  | .ip s xs i c=>some (.ip s xs i c)
  | .pp (.xp b x c)=>some (.pp (.xp b x c))
  | .fn f caps=>some (.fn f caps)
  | _=>none
 | .slc s x lo hi =>
  match e x with
  | .sl k p off len =>
   match res k p with
   | some (s',_)=>if s'=s then match z6m len (lo.map e) (hi.map e) with | some (l,h)=>some (.sl k p (off+l) (h - l)) | none=>none else none
   | none=>none
  | .im s' xs=>if s'=s then match z6m xs.length (lo.map e) (hi.map e) with | some (l,h)=>some (.im s ((xs.take h).drop l)) | none=>none else none
  | .zs=>match z6m 0 (lo.map e) (hi.map e) with | some _=>some .zs | none=>none
  | _=>none
 | .slc0 x =>
  match e x with
  | .sl _ _ _ _=>some .zs
  | .im _ _=>some .zs
  | .zs=>some .zs
  | _=>none
 | .sls x lo hi =>
  match e x with
  | .sc (.string s)=>match z6m s.size (lo.map e) (hi.map e) with | some (l,h)=>some (.sc (.string (s.extract l h))) | none=>none
  | _=>none
 | .build zero parts =>
  match z5a (zero.map cval) (parts.map λ(o,n,x)=>(o,n,e x)) with
  | some cs=>some (.ag cs)
  | none=>none
 | .mkf f caps=>if caps.all (λx=>(nn (e x)).isSome) then some (.fn f (caps.map e)) else none
 | .mm isMax x y =>
  match e x,e y with
  | .sc (.int k a),.sc (.int k' b)=>if k=k' then some (.sc (.int k (if isMax then (if b > a then b else a) else (if b<a then b else a)))) else none
  | _,_=>none
 | _=>none
section
variable {I:Nat->Prop}{σ:Pl}{B:zm}{k:Nat}
theorem ImC.length:∀ (l:List AV) (cs:List Value),ImC I B l cs->cs.length=l.length
 | [],_,h=>by simp only [ImC] at h;simp [h]
 | a::as,_,h=>by obtain ⟨v,cs',rfl,_,h2⟩:=h;simp [ImC.length as cs' h2]
theorem ImE.get {s:Nat}:∀ (xs:Els) (cs:List Value),ImE I B s xs cs->∀ (j:Nat) (x:List AV),xs[j]?=some x->x.length=s/\ImC I B x ((cs.drop (j * s)).take s)
 | [],_,_,_,_,h=>by simp at h
 | x::xs,cs,h,0,x',hx=>by simp at hx;subst hx;simpa using ⟨h.1,h.2.1⟩
 | x::xs,cs,h,j+1,x',hx=>by
  have:=ImE.get xs (cs.drop s) h.2.2 j x' (by simpa using hx)
  rwa [drop_drop,show s+j * s=(j+1) * s by rw [Nat.add_mul,Nat.one_mul,Nat.add_comm]] at this
theorem Im.va:∀ (a:AV) (v:Value),Im I B a v->Va I σ B a v/\v.oneCell'=true
 | .sc _,_,h=>by obtain ⟨rfl,h⟩:=h;exact ⟨rfl,h⟩
 | .zs,_,h=>by obtain ⟨a,rfl⟩:=h;exact ⟨⟨a,rfl⟩,rfl⟩
 | .un,_,h=>⟨trivial,h⟩
 | .im s xs,v,h=>by have h':=h;obtain ⟨a,c,rfl,_⟩:=h';exact ⟨h,rfl⟩
 | .ag _,_,h=>h.elim
 | .tu _,_,h=>h.elim
 | .ip _ _ _ _,_,h=>h.elim
 | .sl _ _ _ _,_,h=>h.elim
 | .pt _ _ _ _,_,h=>h.elim
 | .fn _ _,_,h=>h.elim
 | .ow _ _,_,h=>h.elim
theorem Ce.va {p:Path}{i c:Nat}:∀ (a:AV) (v:Value),Ce I σ B k p i c a v->Va I σ B (zxg k p i c a) v/\v.oneCell'=true
 | .sc _,_,h=>by obtain ⟨rfl,h⟩:=h;exact ⟨rfl,h⟩
 | .zs,_,h=>by obtain ⟨a,rfl⟩:=h;exact ⟨⟨a,rfl⟩,rfl⟩
 | .un,_,h=>⟨trivial,h⟩
 | .im s xs,v,h=>by have h':Im I B (.im s xs) v:=h;have h'':=h';obtain ⟨a,c,rfl,_⟩:=h'';exact ⟨h',rfl⟩
 | .ow s xs,v,h=>by
  simp only [Ce] at h;simp only [zxg];cases hs:σ k (p++[(i,c)]) with
  | none =>simp only [hs] at h;obtain ⟨rfl,hm,a,rfl⟩:=h;rw [if_pos hm];simp only [Va,hs];exact ⟨⟨rfl,trivial,a,rfl⟩,rfl⟩
  | some L =>
   simp only [hs] at h;obtain ⟨h1,h2,rfl,_⟩:=h;unfold hdr;by_cases hm:L.s<MB
   ·rw [if_pos (show s<MB by rw [<- h1];exact hm)];simp only [Va,hs,if_pos hm];exact ⟨⟨_,_,rfl,by omega,h2 (by rw [<- h1];exact hm),λ_=>by simp⟩,rfl⟩
   ·rw [if_neg (show ¬ s<MB by rw [<- h1];exact hm)];simp only [if_neg hm];exact ⟨⟨L,hs,Nat.le_of_not_lt hm,rfl⟩,rfl⟩
 | .ag _,_,h=>h.elim
 | .tu _,_,h=>h.elim
 | .ip _ _ _ _,_,h=>h.elim
 | .sl _ _ _ _,_,h=>h.elim
 | .pt _ _ _ _,_,h=>h.elim
 | .fn _ _,_,h=>h.elim
theorem CeC.va {p:Path}{i:Nat}:∀ (l:List AV) (c:Nat) (cs:List Value),CeC I σ B k p i c l cs->VaC I σ B (z87 k p i c l) cs
 | [],_,_,h=>h
 | a::as,c,_,h=>by obtain ⟨v,cs',rfl,h1,h2⟩:=h;exact ⟨v,cs',rfl,(Ce.va a v h1).2,(Ce.va a v h1).1,CeC.va as (c+1) cs' h2⟩
theorem ImC.va:∀ (l:List AV) (cs:List Value),ImC I B l cs->VaC I σ B l cs
 | [],_,h=>h
 | a::as,_,h=>by obtain ⟨v,cs',rfl,h1,h2⟩:=h;exact ⟨v,cs',rfl,(Im.va (σ:=σ) a v h1).2,(Im.va a v h1).1,ImC.va as cs' h2⟩
theorem CeC.part {p:Path}{i:Nat}:∀ (l:List AV) (c0:Nat) (cs:List Value) (c n:Nat),CeC I σ B k p i c0 l cs->CeC I σ B k p i (c0+c) ((l.drop c).take n) ((cs.drop c).take n)
 | [],c0,cs,c,n,h=>by simp only [CeC] at h;subst h;simp [CeC]
 | a::as,c0,_,0,n,h=>by
  obtain ⟨v,cs',rfl,h1,h2⟩:=h;cases n with
  | zero=>simp [CeC]
  | succ n =>refine ⟨v,cs'.take n,by simp,h1,?_⟩;have:=CeC.part as (c0+1) cs' 0 n h2;simpa using this
 | a::as,c0,_,c+1,n,h=>by obtain ⟨v,cs',rfl,h1,h2⟩:=h;have:=CeC.part as (c0+1) cs' c n h2;rw [show c0+(c+1)=c0+1+c by omega];simpa using this
theorem ImC.part:∀ (l:List AV) (cs:List Value) (c n:Nat),ImC I B l cs->ImC I B ((l.drop c).take n) ((cs.drop c).take n)
 | [],cs,c,n,h=>by simp only [ImC] at h;subst h;simp [ImC]
 | a::as,_,0,n,h=>by
  obtain ⟨v,cs',rfl,h1,h2⟩:=h;cases n with
  | zero=>simp [ImC]
  | succ n =>refine ⟨v,cs'.take n,by simp,h1,?_⟩;have:=ImC.part as cs' 0 n h2;simpa using this
 | a::as,_,c+1,n,h=>by obtain ⟨v,cs',rfl,h1,h2⟩:=h;have:=ImC.part as cs' c n h2;simpa using this
theorem VaC.part:∀ (l:List AV) (cs:List Value) (c n:Nat),VaC I σ B l cs->VaC I σ B ((l.drop c).take n) ((cs.drop c).take n)
 | [],cs,c,n,h=>by simp only [VaC] at h;subst h;simp [VaC]
 | a::as,_,0,n,h=>by
  obtain ⟨v,cs',rfl,h0,h1,h2⟩:=h;cases n with
  | zero=>simp [VaC]
  | succ n =>refine ⟨v,cs'.take n,by simp,h0,h1,?_⟩;have:=VaC.part as cs' 0 n h2;simpa using this
 | a::as,_,c+1,n,h=>by obtain ⟨v,cs',rfl,h0,h1,h2⟩:=h;have:=VaC.part as cs' c n h2;simpa using this
theorem VaC.length:∀ (l:List AV) (cs:List Value),VaC I σ B l cs->cs.length=l.length
 | [],_,h=>by simp only [VaC] at h;simp [h]
 | a::as,_,h=>by obtain ⟨v,cs',rfl,_,_,h2⟩:=h;simp [VaC.length as cs' h2]
theorem VaC.one:∀ (l:List AV) (cs:List Value),VaC I σ B l cs->∀ v∈cs,v.oneCell'=true
 | [],_,h=>by simp only [VaC] at h;simp [h]
 | a::as,_,h=>by
  obtain ⟨v,cs',rfl,h0,_,h2⟩:=h;intro u hu;rcases mem_cons.1 hu with rfl | hu
  ·exact h0
  ·exact VaC.one as cs' h2 u hu
theorem VaC.get:∀ (l:List AV) (cs:List Value),VaC I σ B l cs->∀ (j:Nat) (a:AV),l[j]?=some a->∃ v,cs[j]?=some v/\v.oneCell'=true/\Va I σ B a v
 | [],_,_,_,_,h=>by simp at h
 | a::as,_,h,0,a',ha=>by obtain ⟨v,cs',rfl,h0,h1,_⟩:=h;simp at ha;subst ha;exact ⟨v,rfl,h0,h1⟩
 | a::as,_,h,j+1,a',ha=>by obtain ⟨v,cs',rfl,_,_,h2⟩:=h;obtain ⟨v',hv,hc⟩:=VaC.get as cs' h2 j a' (by simpa using ha);exact ⟨v',by simpa using hv,hc⟩
theorem VaL.get:∀ (l:List AV) (cs:List Value),VaL I σ B l cs->∀ (j:Nat) (a:AV),l[j]?=some a->∃ v,cs[j]?=some v/\Va I σ B a v
 | [],_,_,_,_,h=>by simp at h
 | a::as,_,h,0,a',ha=>by obtain ⟨v,cs',rfl,h1,_⟩:=h;simp at ha;subst ha;exact ⟨v,rfl,h1⟩
 | a::as,_,h,j+1,a',ha=>by obtain ⟨v,cs',rfl,_,h2⟩:=h;obtain ⟨v',hv,hc⟩:=VaL.get as cs' h2 j a' (by simpa using ha);exact ⟨v',by simpa using hv,hc⟩
theorem VaL.map {ρ:Operand->Value}{f:Operand->AV}(hf:∀ x,Va I σ B (f x) (ρ x)):∀ (l:List Operand),VaL I σ B (l.map f) (l.map ρ)
 | []=>by simp [VaL]
 | x::l=>⟨ρ x,l.map ρ,by simp,hf x,VaL.map hf l⟩
theorem zgl (v:Value):Va I σ B (cval v) v:=by
 unfold cval;split
 ·exact ⟨none,rfl⟩
 ·rename_i cs;split
  ·rename_i ha;refine ⟨cs,rfl,?_⟩;generalize cs.toList=l at ha;clear cs
   induction l with
   | nil=>rfl
   | cons v l ih =>
    simp only [all_cons,and_eq_true] at ha;refine ⟨v,l,rfl,ha.1,?_,ih ha.2⟩;dsimp only;split
    ·exact ⟨none,rfl⟩
    ·rfl
  ·trivial
 ·rfl
end
def z43 (P:Program)(t:TypeId):Option Bool :=
 match P.underlying t with
 | some (.struct _) | some (.array _ _)=>some true
 | some _=>some false
 | none=>none
def szT (P:Program)(t:TypeId):Option Nat:=(P.info? t).map (·.size)
def z3q (P:Program)(t:TypeId):Option Nat :=
 match P.underlying t with
 | some (.int _)=>some 0
 | some .bool=>some 1
 | some .string=>some 2
 | _=>none
def zac (P:Program)(plan:TypeId->Nat->Option (List (Nat×Nat)))(n off:Nat):List Field->Option (List (Nat×Nat))
 | []=>some []
 | f::fs =>
  if f.name = "_" then none
  else match szT P f.type,z43 P f.type,plan f.type (off+f.offset),zac P plan n off fs with
   | some m,some b,some x,some y=>if f.offset+m<=n/\0<m/\b=(z3q P f.type).isNone then some (x++y) else none
   | _,_,_,_=>none
def z4x (P:Program):Nat->TypeId->Nat->Option (List (Nat×Nat))
 | 0,_,_=>none
 | d+1,t,off =>
  match z3q P t with
  | some q=>some [(off,q)]
  | none =>
   match P.underlying t with
   | some (.struct fs)=>if P.stoodInHeld t then none else match szT P t with | some n=>zac P (z4x P d) n off fs.toList | none=>none
   | _=>none
def zad (P:Program)(fs:Array Field):List (Nat×Operand)->Option (List (Nat×Nat×Operand))
 | []=>some []
 | (i,x)::l =>
  match fs[i]?,zad P fs l with
  | some f,some r=>match szT P f.type with | some n=>some ((f.offset,n,x)::r) | none=>none
  | _,_=>none
def zi3 (P:Program)(kt:TypeId):Option (List Nat) :=
 match z3q P kt with
 | some q=>some [q]
 | none=>match z4x P 9 kt 0,szT P kt with
  | some pl,some n=>if pl=z2p 0 (pl.map Prod.snd)/\pl.length=n/\n≠1 then some (pl.map Prod.snd) else none
  | _,_=>none
def yim:Value->Bool
 | .agg _=>true
 | _=>false
def zi6 (P:Program)(t:TypeId):Option (List Nat×Nat×Bool×Value) :=
 match P.underlying t with
 | some (.map kt et)=>match zi3 P kt,z43 P et,szT P et,(P.info? et).bind (·.zero) with
  | some ks,some b,some nv,some z=>if 0<ks.length/\ks.length+nv<1000000/\z.cells.size=nv/\b=(!(nv==1))/\yim z=b/\z.cells.toList.all Value.oneCell'=true then some (ks,nv,b,z) else none
  | _,_,_,_=>none
 | _=>none
def ziy (P:Program)(o:Oper):Option IB :=
 match o.op with
 | .lookup t x key ok=>match zi6 P t with | some (ks,nv,b,z)=>some (.lku nv ks b ok z.cells.toList x key) | none=>none
 | .move x | .assign x=>some (.mov x)
 | .pick c a b=>some (.pick c a b)
 | .binOp op t x y _ =>
  match P.underlying t with
  | some (.int _) | some .string=>some (.bin op x y)
  | some .bool=>match op with | .eql=>some (.beq false x y) | .neq=>some (.beq true x y) | _=>none
  | some (.struct _) =>
   if P.eqGuardType P.depth t then none
   else match z4x P 9 t 0,szT P t,op with
    | some pl,some n,.eql=>some (.eqs false n pl x y)
    | some pl,some n,.neq=>some (.eqs true n pl x y)
    | _,_,_=>none
  | _=>none
 | .unOp op _ x=>some (.un1 op x)
 | .convert src dst x =>
  match P.underlying src,P.underlying dst with
  | some (.int _),some (.int k)=>some (.cvt k x)
  | some (.slice el),some .string=>match P.underlying el with | some (.int .u8)=>some (.b2s x) | _=>none
  | _,_=>none
 | .fieldAddr s x f =>
  match P.underlying s with
  | some (.struct fs)=>match fs[f]? with
   | some fd=>match szT P fd.type with
    | some n=>if n=0 then none else some (.fad fd.offset x)
    | none=>none
   | none=>none
  | _=>none
 | .indexAddr t x i =>
  match P.underlying t with
  | some (.slice e)=>match szT P e with | some n=>some (.iad n x i) | none=>none
  | some (.array len e)=>match szT P e with | some n=>some (.aad len n x i) | none=>none
  | _=>none
 | .load t x=>match z43 P t,szT P t with | some b,some n=>some (.load b n x) | _,_=>none
 | .field t x f =>
  match P.underlying t with
  | some (.struct fs)=>match fs[f]? with
   | some fd=>match z43 P fd.type,szT P fd.type with | some b,some n=>some (.fld b fd.offset n x) | _,_=>none
   | none=>none
  | _=>none
 | .index t x i =>
  match P.underlying t with
  | some .string=>some (.ids x i)
  | some (.array len e)=>match z43 P e,szT P e with | some b,some n=>some (.ida b len n x i) | _,_=>none
  | _=>none
 | .call { callee:=.builtin .len,args,argTypes } =>
  match args.toList,argTypes.toList with
  | [x],[t]=>match P.underlying t with
   | some (.slice _)=>some (.len x)
   | some .string=>some (.lens x)
   | _=>none
  | _,_=>none
 | .call { callee:=.builtin .max,args,argTypes } =>
  match args.toList with
  | [x,y]=>some (.mm true x y)
  | _=>none
 | .call { callee:=.builtin .min,args,argTypes } =>
  match args.toList with
  | [x,y]=>some (.mm false x y)
  | _=>none
 | .extract x n=>some (.ext n x)
 | .nilCheck x=>some (.nchk x)
 | .slice t x lo hi mx =>
  match P.underlying t,mx with
  | some (.slice e),none=>match szT P e with | some n=>some (.slc n x lo hi) | none=>none
  | some (.slice e),some (.const (.int .i64 0))=>match lo,hi,szT P e with
   | none,some (.const (.int .i64 0)),some _=>some (.slc0 x)
   | _,_,_=>none
  | some .string,none=>some (.sls x lo hi)
  | _,_=>none
 | .build t parts =>
  match P.underlying t,(P.info? t).bind (·.zero) with
  | some (.struct fs),some z =>
   match zad P fs parts.toList with
   | some l=>some (.build z.cells.toList l)
   | none=>none
  | some (.array _ e),some z =>
   match szT P e with
   | some n=>some (.build z.cells.toList (parts.toList.map λ(i,x)=>(i * n,n,x)))
   | none=>none
  | _,_=>none
 | .makeFunc (.func f) first caps=>if first.size=0 then some (.mkf f caps.toList) else none
 | _=>none
section
variable {P:Program}{I:Nat->Prop}{σ:Pl}{w:World}
theorem z7e {t:TypeId}{b:Bool}(h:z43 P t=some b):(isAgg t).run P w = .ok b w:=by
 unfold z43 at h;unfold isAgg;cases hu:P.underlying t with
 | none=>simp [hu] at h
 | some d =>simp only [hu] at h;cases d<;>simp_all [run_underlying hu]
theorem z25 {t:TypeId}{n:Nat}(h:szT P t=some n):(Go.sizeOf t).run P w = .ok n w:=by unfold szT at h;cases hi:P.info? t with | none=>simp [hi] at h | some i=>simp [hi] at h;simp [Go.sizeOf,typeInfo,hi,h]
theorem z2h (b o n:Nat):(⟨b,o,none⟩:Addr).add n=⟨b,o+n,none⟩:=by
 unfold Addr.add;split
 ·subst n;simp
 ·rfl
theorem z84 {t:TypeId}{agg:Bool}{n:Nat}(ha:z43 P t=some agg)(hs:szT P t=some n){b o:Nat}{cur:Array Value}{E:TypeId}{fr:Nat×Nat}
  (hb:w.heap[b]?=some (.cells cur E fr)) {us:List Value} (hu:(cur.toList.drop o).take n=us) (hl:us.length=n) {cs:List AV} (hv:VaC I σ (bl w) cs us) {av:AV} (hm:z44 agg cs=some av) :
  ∃ v,(loadVar t ⟨b,o,none⟩).run P w = .ok v w/\Va I σ (bl w) av v:=by
 have hcell:∀ j u,us[j]?=some u->w.cell? ((⟨b,o,none⟩:Addr).add j)=some u:=by
  intro j u hj;rw [z2h,cell_of_row w b (o+j) cur E fr hb];subst hu;rw [getElem?_take] at hj;split at hj
  ·rw [getElem?_drop] at hj;simpa using hj
  ·cases hj
 cases agg with
 | true =>simp only [z44,Option.some.injEq] at hm;subst hm;refine ⟨.agg us.toArray,?_,us.toArray,rfl,by simpa using hv⟩;have:=run_loadCells_list (P:=P) w ⟨b,o,none⟩ us hcell;simp only [loadVar,Sem.run_bind,z7e ha,Result.andThen_ok,if_true,z25 hs];rw [hl] at this;simp [this]
 | false =>
  have hone:∃ a,cs=[a]/\av=a:=by
   unfold z44 at hm;split at hm
   ·simp_all
   ·cases hm;exact ⟨_,rfl,rfl⟩
   ·cases hm
  obtain ⟨a,rfl,rfl⟩:=hone;obtain ⟨v,cs',rfl,_,h1,h2⟩:=hv;have h0:=hcell 0 v rfl;rw [z2h] at h0;simp only [Nat.add_zero] at h0;refine ⟨v,?_,h1⟩;simp only [loadVar,Sem.run_bind,z7e ha,Result.andThen_ok,false_eq_true,if_false,run_load,h0]
theorem zmt {t:TypeId}{agg:Bool}{n:Nat}(ha:z43 P t=some agg)(hs:szT P t=some n){cur:Array Value}{o:Nat}{us:List Value}(hu:(cur.toList.drop o).take n=us)(hl:us.length=n)
  {cs:List AV} (hv:VaC I σ (bl w) cs us) {av:AV} (hm:z44 agg cs=some av):∃ v,(part t cur o).run P w = .ok v w/\Va I σ (bl w) av v:=by
 cases agg with
 | true =>
  simp only [z44,Option.some.injEq] at hm;subst hm;refine ⟨.agg (cur.extract o (o+n)),?_,_,rfl,?_⟩
  ·simp only [part,Sem.run_bind,z7e ha,Result.andThen_ok,if_true,z25 hs];rfl
  ·rw [Array.toList_extract,List.extract_eq_take_drop,Nat.add_sub_cancel_left,hu];exact hv
 | false =>
  have hone:∃ a,cs=[a]/\av=a:=by
   unfold z44 at hm;split at hm
   ·simp_all
   ·cases hm;exact ⟨_,rfl,rfl⟩
   ·cases hm
  obtain ⟨a,rfl,rfl⟩:=hone;obtain ⟨v,cs',rfl,_,h1,h2⟩:=hv
  have h0:cur[o]?=some v:=by
   have:((cur.toList.drop o).take n)[0]?=some v:=by rw [hu];rfl
   rw [getElem?_take] at this;split at this
   ·simpa using this
   ·cases this
  refine ⟨v,?_,h1⟩;simp only [part,Sem.run_bind,z7e ha,Result.andThen_ok,false_eq_true,if_false,h0];rfl
end
def z1j (h:H)(k:Nat)(p:Path):Option (Nat×Els) :=
 match z6 h k with
 | some r=>zp r.s r.xs p
 | none=>none
def z82 (h:H)(k:Nat)(p:Path):Option (Nat×Els) :=
 match z1j h k p with
 | some (s,xs)=>if s<MB then some (s,xs) else none
 | none=>none
def z8k (h:H)(k:Nat)(p:Path):Option (Nat×Els) :=
 match z1j h k p with
 | some (s,xs)=>if s<MB then none else some (s,xs)
 | none=>none
def res (h:H):RR:=⟨z82 h,z8k h⟩
theorem y3x {h:H}{k:Nat}{p:Path}{s:Nat}{xs:Els}(hr:z8k h k p=some (s,xs)):z1j h k p=some (s,xs)/\¬ s<MB:=by
 unfold z8k at hr;cases h1:z1j h k p with
 | none=>rw [h1] at hr;cases hr
 | some q =>
  obtain ⟨s1,x1⟩:=q;rw [h1] at hr;simp only at hr;split at hr
  ·cases hr
  ·rename_i h2;cases hr;exact ⟨rfl,h2⟩
theorem ybs {h:H}{k:Nat}{p:Path}{s:Nat}{xs:Els}(hr:z1j h k p=some (s,xs))(hs:¬ s<MB):z8k h k p=some (s,xs):=by unfold z8k;rw [hr];exact if_neg hs
theorem z83 {h:H}{k:Nat}{p:Path}{s:Nat}{xs:Els}(hr:res h k p=some (s,xs)):z1j h k p=some (s,xs)/\s<MB:=by
 change z82 h k p=_ at hr;unfold z82 at hr;cases h1:z1j h k p with
 | none=>rw [h1] at hr;cases hr
 | some q =>
  obtain ⟨s1,x1⟩:=q;rw [h1] at hr;simp only at hr;split at hr
  ·rename_i h2;cases hr;exact ⟨rfl,h2⟩
  ·cases hr
theorem zd6 {h:H}{k:Nat}{p:Path}{s:Nat}{xs:Els}(hr:z1j h k p=some (s,xs))(hs:s<MB):res h k p=some (s,xs):=by change z82 h k p=_;unfold z82;rw [hr];exact if_pos hs
structure EFc (cur:Array Value) where
 t:TypeId
 fr:Nat×Nat
 ok:fr.1=fr.2\/cur.size<=fr.1
def z2f (I:Nat->Prop)(σ:Pl)(B:zm)(k:Nat)(p:Path)(s:Nat)(xs:Els):Prop :=
 match σ k p with
 | none=>xs=[]
 | some L=>L.s=s/\xs.length<=L.cap/\∃ (cur:Array Value) (E:EFc cur),B L.b=some (.cells cur E.t E.fr)/\cur.size=L.cap * s/\CeE I σ B k p 0 s xs cur.toList
theorem z9n {I:Nat->Prop}{σ:Pl}{B:zm}{k:Nat}{p:Path}{s:Nat}{xs:Els}(hs:s<MB):z39 I σ B k p s xs↔z2f I σ B k p s xs:=by
 unfold z39 z2f;cases σ k p with
 | none=>exact ⟨λh=>h.1,λh=>⟨h,hs⟩⟩
 | some L =>
  simp only;constructor
  ·rintro ⟨h1,h2,cur,E,h3,h4,h5⟩;obtain ⟨t,fr,e1,e2⟩:=E.cells hs;rw [z95 hs] at h4 h5;rw [zaf hs] at h4;exact ⟨h1,h2 hs,cur,⟨t,fr,e2⟩,by rw [h3,e1],h4,h5⟩
  ·rintro ⟨h1,h2,cur,E,h3,h4,h5⟩;refine ⟨h1,λ_=>h2,cur,EF.mk' hs E.t E.fr E.ok,h3,?_,?_⟩
   ·rw [z95 hs,zaf hs];exact h4
   ·rw [z95 hs];exact h5
section
variable {P:Program}{I:Nat->Prop}{N:Nat}[Dfs N]{σ:Pl}{w:World}{h:H}{e:Env}{a:Act}
theorem zk.row {k:Nat}{r:Row}(hh:zk I σ h w)(hg:z6 h k=some r):zy I σ (bl w) k r/\(∀ b∈fpR σ k r,b∈fpH σ h)/\(fpR σ k r).Nodup:=by obtain ⟨_,h1,_,h3,h4,_⟩:=hh.del hg;exact ⟨h1,λb hb=>(h4 b hb).2,h3⟩
theorem zk.placeA {k:Nat}{p:Path}{s:Nat}{ys:Els}(hh:zk I σ h w)(hr:z1j h k p=some (s,ys)):z39 I σ (bl w) k p s ys/\(∀ b∈fpP σ k p ys,b∈fpH σ h):=by
 unfold z1j at hr;split at hr
 ·rename_i r hg;obtain ⟨h1,h2,_⟩:=hh.row hg;by_cases hp:p=[]
  ·subst hp;simp only [zp,Option.some.injEq,Prod.mk.injEq] at hr;obtain ⟨rfl,rfl⟩:=hr;exact ⟨h1,h2⟩
  ·unfold zy at h1;unfold fpR at h2;cases hs:σ k [] with
   | none =>simp only [hs] at h1;rw [h1.1] at hr;cases p with | nil=>exact absurd rfl hp | cons q p=>obtain ⟨i',c'⟩:=q;simp [zp] at hr
   | some L =>simp only [hs] at h1 h2;obtain ⟨_,_,cur,E,_,_,hE⟩:=h1;have:=z5e p [] (esz r.s) r.xs _ s ys hE hp ((z3z hp).symm.trans hr);rw [nil_append] at this;exact ⟨this.1,λb hb=>h2 b (mem_cons_of_mem _ (this.2.subset hb))⟩
 ·cases hr
theorem zk.place {k:Nat}{p:Path}{s:Nat}{ys:Els}(hh:zk I σ h w)(hr:res h k p=some (s,ys)):z2f I σ (bl w) k p s ys/\(∀ b∈fpP σ k p ys,b∈fpH σ h):=by obtain ⟨h1,h2⟩:=z83 hr;obtain ⟨h3,h4⟩:=hh.placeA h1;exact ⟨(z9n h2).1 h3,h4⟩
theorem z2f.lt {B:zm}{k:Nat}{p:Path}{s:Nat}{xs:Els}{L:Loc}(h:z2f I σ B k p s xs)(hL:σ k p=some L)(hs:s<MB):L.s<MB:=by unfold z2f at h;rw [hL] at h;rw [h.1];exact hs
theorem zy.C {B:zm}{k:Nat}{r:Row}(h:zy I σ B k r)(hs:r.s<MB):z2f I σ B k [] r.s r.xs:=(z9n hs).1 (zlc.1 h)
theorem zy.ofC {B:zm}{k:Nat}{r:Row}(hs:r.s<MB)(h:z2f I σ B k [] r.s r.xs):zy I σ B k r:=zlc.2 ((z9n hs).2 h)
theorem Va.sl_slice {B:zm}{k:Nat}{p:Path}{off len:Nat}{v:Value}(h:Va I σ B (.sl k p off len) v):∃ A c,v = .slice A len c:=by
 simp only [Va] at h;split at h
 ·obtain ⟨rfl,_,a,rfl⟩:=h;exact ⟨_,_,rfl⟩
 ·split at h
  ·obtain ⟨a,c,rfl,_⟩:=h;exact ⟨_,_,rfl⟩
  ·exact h.elim
theorem zw (R:Rel I N σ e h a w)(x:Operand):Va I σ (bl w) (ev e x) (a.eval x):=by cases x with | tmp t=>exact R.vals t | const v=>exact zgl v | global g=>trivial | func f=>exact ⟨#[],rfl,rfl⟩
theorem zd2 {x y:AV}(h:nn x=some y):x=y:=by
 unfold nn at h;split at h
 ·cases h
 ·exact Option.some.inj h
theorem zk4 (cur:List Value)(i s c n:Nat)(h:c+n<=s):(((cur.drop (i * s)).take s).drop c).take n=(cur.drop (i * s+c)).take n:=by rw [drop_take,drop_drop,take_take,Nat.min_eq_left (by omega)]
theorem zxx {k:Nat}{p:Path}{s:Nat}{ys:Els}{i c n:Nat}{cs:List AV}{cur:Array Value}(hE:CeE I σ (bl w) k p 0 s ys cur.toList)(hc:z5g ys i c n=some cs) :
  CeC I σ (bl w) k p i c cs ((cur.toList.drop (i * s+c)).take n)/\cs.length=n:=by
 unfold z5g at hc;split at hc
 ·rename_i x hx;split at hc
  ·rename_i hle;simp only [Option.some.injEq] at hc;subst hc;obtain ⟨hl,hC⟩:=CeE.get ys 0 _ hE i x hx;have:=CeC.part x 0 _ c n hC;rw [zk4 _ _ _ _ _ (by omega)] at this;simp only [Nat.zero_add] at this;exact ⟨this,by rw [length_take,length_drop];omega⟩
  ·cases hc
 ·cases hc
theorem y51 {s:Nat}{ys:Els}{i c n o:Nat}{cs:List AV}{cur:Array Value}(hE:ImE I (bl w) s ys (cur.toList.drop o))(hc:z5g ys i c n=some cs) :
  ImC I (bl w) cs ((cur.toList.drop (o+i * s+c)).take n)/\cs.length=n:=by
 unfold z5g at hc;split at hc
 ·rename_i x hx;split at hc
  ·rename_i hle;simp only [Option.some.injEq] at hc;subst hc;obtain ⟨hl,hC⟩:=ImE.get ys _ hE i x hx;have:=ImC.part x _ c n hC;rw [zk4 _ _ _ _ _ (by omega),drop_drop,<- Nat.add_assoc] at this;exact ⟨this,by rw [length_take,length_drop];omega⟩
  ·cases hc
 ·cases hc
theorem y6e {t:TypeId}{q:Nat}{x y:Value}{r:Bool}(d:Nat)(ht:z3q P t=some q)(h:zev q x y=some r):(Op.equalIn (d+1) t x y).run P w = .ok r w:=by
 unfold z3q at ht;unfold zev at h;split at h
 ·split at h
  ·rename_i k a k' b hk;subst hk;cases h;split at ht
   ·rename_i q hq;exact run_equalIn_int w d t k q a b hq
   ·cases ht
   ·cases ht
   ·cases ht
  ·cases h
 ·rename_i a b;cases h;split at ht
  ·cases ht
  ·rename_i hq;exact run_equalIn_bool' w d t a b hq
  ·cases ht
  ·cases ht
 ·rename_i a b;cases h;split at ht
  ·cases ht
  ·cases ht
  ·rename_i hq;rw [run_equalIn_string w d t a b hq,<- beq_toListBytes]
  ·cases ht
 ·cases h
def z49 (P:Program)(t:TypeId)(xs:List Value)(off:Nat)(v:Value):Prop :=
 match z3q P t with
 | some _=>xs[off]?=some v
 | none=>∃ cs:Array Value,v = .agg cs/\∀ n,szT P t=some n->∀ j,j<n->cs[j]?=xs[off+j]?
theorem zcs (X Y:List AV):∀ (p q:List (Nat×Nat)) (r:Bool),z17 X Y (p++q)=some r->∃ r1 r2,z17 X Y p=some r1/\z17 X Y q=some r2/\r=(r1&&r2)
 | [],q,r,h=>⟨true,r,rfl,h,by simp⟩
 | (i,k)::p,q,r,h=>by
  rw [cons_append] at h;unfold z17 at h;split at h
  ·rename_i a b ha hb;split at h
   ·rename_i r0 r' h0 h';obtain ⟨r1,r2,h1,h2,rfl⟩:=zcs X Y p q _ h';refine ⟨r0&&r1,r2,?_,h2,?_⟩
    ·unfold z17;simp only [ha,hb,h0,h1]
    ·simp only [Option.some.injEq] at h;rw [<- h,Bool.and_assoc]
   ·cases h
  ·cases h
theorem zfx {t:TypeId}{cs:Array Value}{o:Nat}{xs:List Value}{off n m:Nat}{b:Bool}(hcs:∀ j,j<n->cs[j]?=xs[off+j]?)(hm:szT P t=some m)(hb:z43 P t=some b)(hle:o+m<=n)(h0:0<m)
  (hl:b=(z3q P t).isNone) (hx:∀ j,j<m->∃ u,xs[off+o+j]?=some u):∃ v,(part t cs o).run P w = .ok v w/\z49 P t xs (off+o) v:=by
 unfold z49;cases hq:z3q P t with
 | some q =>rw [hq] at hl;simp only [Option.isNone_some] at hl;subst hl;obtain ⟨u,hu⟩:=hx 0 h0;rw [Nat.add_zero] at hu;have:=hcs o (by omega);rw [hu] at this;refine ⟨u,?_,hu⟩;simp only [part,Sem.run_bind,z7e hb,Result.andThen_ok,false_eq_true,if_false,this];rfl
 | none =>
  rw [hq] at hl;simp only [Option.isNone_none] at hl;subst hl;refine ⟨.agg (cs.extract o (o+m)),?_,_,rfl,?_⟩
  ·simp only [part,Sem.run_bind,z7e hb,Result.andThen_ok,if_true,z25 hm];rfl
  ·intro n' hn' j hj;rw [hm] at hn';cases hn';rw [Array.getElem?_extract]
   have:o+j<cs.size:=by
    have h1:=hcs (o+j) (by omega);obtain ⟨u,hu⟩:=hx j hj;rw [<- Nat.add_assoc,hu] at h1;rcases Nat.lt_or_ge (o+j) cs.size with h' | h'
    ·exact h'
    ·rw [Array.getElem?_eq_none h'] at h1;cases h1
   rw [if_pos (by have h1:o+j<min (o+m) cs.size:=Nat.lt_min.2 ⟨by omega,this⟩;omega),hcs (o+j) (by omega),Nat.add_assoc]
theorem zhg (X Y:List AV)(xs ys:List Value)(D:Nat)(plan:TypeId->Nat->Option (List (Nat×Nat)))
  (hplan:∀ (t:TypeId) (off:Nat) (pl:List (Nat×Nat)) (vx vy:Value) (r:Bool) (m:Nat),plan t off=some pl->szT P t=some m->z49 P t xs off vx->z49 P t ys off vy ->
   (∀ j,j<m->∃ u,xs[off+j]?=some u)->(∀ j,j<m->∃ u,ys[off+j]?=some u)->z17 X Y pl=some r->(Op.equalIn D t vx vy).run P w = .ok r w) (n off:Nat) :
  ∀ (fs:List Field) (pl:List (Nat×Nat)) (cx cy:Array Value) (r:Bool),zac P plan n off fs=some pl->(∀ j,j<n->cx[j]?=xs[off+j]?)->(∀ j,j<n->cy[j]?=ys[off+j]?) ->
   (∀ j,j<n->∃ u,xs[off+j]?=some u)->(∀ j,j<n->∃ u,ys[off+j]?=some u)->z17 X Y pl=some r->(Op.eqFields D cx cy fs).run P w = .ok r w
 | [],pl,cx,cy,r,h,_,_,_,_,hr=>by simp only [zac,Option.some.injEq] at h;subst h;simp only [z17,Option.some.injEq] at hr;subst hr;simp [Op.eqFields]
 | f::fs,pl,cx,cy,r,h,hx,hy,ex,ey,hr=>by
  unfold zac at h;split at h
  ·cases h
  ·rename_i hname;split at h
   ·rename_i m b x y hm hb hx' hy';split at h
    ·rename_i hc;obtain ⟨hle,h0,hl⟩:=hc;simp only [Option.some.injEq] at h;subst h;obtain ⟨r1,r2,h1,h2,rfl⟩:=zcs X Y x y r hr;obtain ⟨v,hv,lv⟩:=zfx (P:=P) (w:=w) hx hm hb hle h0 hl (λj hj=>by rw [Nat.add_assoc];exact ex _ (by omega));obtain ⟨u,hu,lu⟩:=zfx (P:=P) (w:=w) hy hm hb hle h0 hl (λj hj=>by rw [Nat.add_assoc];exact ey _ (by omega));have ih:=hplan f.type (off+f.offset) x v u r1 m hx' hm lv lu (λj hj=>by rw [Nat.add_assoc];exact ex _ (by omega)) (λj hj=>by rw [Nat.add_assoc];exact ey _ (by omega)) h1;have ihF:=zhg X Y xs ys D plan hplan n off fs y cx cy r2 hy' hx hy ex ey h2;simp only [Op.eqFields,ne_eq,hname,not_false_eq_true,if_true,Sem.run_bind,hv,hu,Result.andThen_ok,ih,Sem.run_ite];cases r1 with | false=>simp | true=>simp [ihF]
    ·cases h
   ·cases h
theorem zdu (X Y:List AV)(xs ys:List Value)(hX:∀ (i:Nat) (a:Value),X[i]?=some (.sc a)->xs[i]?=some a)(hY:∀ (i:Nat) (a:Value),Y[i]?=some (.sc a)->ys[i]?=some a) :
  ∀ (d:Nat) (t:TypeId) (off:Nat) (pl:List (Nat×Nat)) (D:Nat) (vx vy:Value) (r:Bool) (m:Nat),z4x P d t off=some pl->szT P t=some m->z49 P t xs off vx->z49 P t ys off vy ->
   (∀ j,j<m->∃ u,xs[off+j]?=some u)->(∀ j,j<m->∃ u,ys[off+j]?=some u)->z17 X Y pl=some r->(Op.equalIn (D+d) t vx vy).run P w = .ok r w
 | 0,_,_,_,_,_,_,_,_,h,_,_,_,_,_,_=>by simp [z4x] at h
 | d+1,t,off,pl,D,vx,vy,r,m,h,hm,lx,ly,ex,ey,hr=>by
  unfold z4x at h;unfold z49 at lx ly;cases hq:z3q P t with
  | some q =>
   simp only [hq,Option.some.injEq] at h lx ly;subst h;unfold z17 at hr;split at hr
   ·rename_i a b ha hb;split at hr
    ·rename_i r0 r1 h0 h1;simp only [z17,Option.some.injEq] at h1;subst h1;simp only [Bool.and_true,Option.some.injEq] at hr;subst hr;have e1:=hX _ _ ha;have e2:=hY _ _ hb;rw [lx] at e1;rw [ly] at e2;cases e1;cases e2;exact y6e (D+d) hq h0
    ·cases hr
   ·cases hr
  | none =>
   simp only [hq] at h lx ly;split at h
   ·rename_i fs hu;split at h
    ·cases h
    ·rename_i hp;simp only [hm] at h;obtain ⟨cx,rfl,hcx⟩:=lx;obtain ⟨cy,rfl,hcy⟩:=ly;have hfs:P.fieldsOf t=fs:=by simp [Program.fieldsOf,hu]
     rw [show D+(d+1)=D+d+1 by omega,run_equalIn_struct w (D+d) t cx cy (by rw [hu,hfs]) (by simpa using hp),hfs];exact zhg X Y xs ys (D+d) (z4x P d) (λt off pl vx vy r m h1 h2 h3 h4 h5 h6 h7=>zdu X Y xs ys hX hY d t off pl D vx vy r m h1 h2 h3 h4 h5 h6 h7) m off fs.toList pl cx cy r h (hcx m hm) (hcy m hm) ex ey hr
   ·cases h
end
section
variable {P:Program}{I:Nat->Prop}{N:Nat}[Dfs N]{σ:Pl}{w:World}{h:H}{e:Env}{a:Act}
theorem z6g {u v:Value}(h:Va I σ (bl w) (.sc u) v):v=u:=h
theorem VaC.sc (l:List AV)(cs:List Value)(h:VaC I σ (bl w) l cs)(i:Nat)(u:Value)(hi:l[i]?=some (.sc u)):cs[i]?=some u:=by obtain ⟨v,hv,_,h1⟩:=VaC.get l cs h i _ hi;rw [hv,z6g h1]
theorem ziq {isSlice:Bool}{len cap:Nat}{lo hi:Option Operand}{l hh:Nat}(hb:z6m len (lo.map (ev e)) (hi.map (ev e))=some (l,hh))(hcap:len<=cap)(R:∀ x,Va I σ (bl w) (ev e x) (a.eval x))(hm:isSlice=true\/cap=len) :
  (Instr.sliceBounds isSlice len cap (lo.map a.eval) (hi.map a.eval) none).run P w = .ok (l,hh,cap) w/\l<=hh/\hh<=len:=by
 unfold z6m at hb
 have key:∀ (x:Operand) (n:Int),zi7 (ev e x)=some n->∃ k,a.eval x = .int k n:=by
  intro x n hn;have:=R x;unfold zi7 at hn;split at hn
  ·rename_i k m hx;cases hn;rw [hx] at this;exact ⟨k,this⟩
  ·cases hn
 split at hb
 ·rename_i h' l' e1 e2;split at hb
  ·rename_i hc;simp only [Option.some.injEq,Prod.mk.injEq] at hb;obtain ⟨rfl,rfl⟩:=hb;refine ⟨?_,by omega,by omega⟩
   have hlo:∀ (y:Nat) (code:BoundsCode),l'<=y->∀ x,lo=some x->(Instr.sliceBound (a.eval x) y code).run P w = .ok l'.toNat w:=by intro y code hy x hx;subst hx;simp only [map_some] at e2;obtain ⟨k,hk⟩:=key x l' e2;simp only [Instr.sliceBound,hk,asIntOf,Sem.run_bind,Sem.run_pure,Result.andThen_ok,Sem.run_ite];rw [if_pos ⟨by omega,hy⟩]
   have hhi:∀ (y:Nat) (code:BoundsCode),h'<=y->∀ x,hi=some x->(Instr.sliceBound (a.eval x) y code).run P w = .ok h'.toNat w:=by intro y code hy x hx;subst hx;simp only [map_some] at e1;obtain ⟨k,hk⟩:=key x h' e1;simp only [Instr.sliceBound,hk,asIntOf,Sem.run_bind,Sem.run_pure,Result.andThen_ok,Sem.run_ite];rw [if_pos ⟨by omega,hy⟩]
   have hlen:(h'.toNat:Int)=h':=by omega
   cases hi with
   | none =>
    simp only [map_none,Option.some.injEq] at e1;subst e1;cases lo with
    | none =>simp only [map_none,Option.some.injEq] at e2;subst e2;simp [Instr.sliceBounds]
    | some x =>have:=hlo len .sliceB (by omega) x rfl;simp [Instr.sliceBounds,this]
   | some y =>
    have h1:∀ code,(Instr.sliceBound (a.eval y) cap code).run P w = .ok h'.toNat w:=λcode=>hhi cap code (by omega) y rfl;cases lo with
    | none =>simp only [map_none,Option.some.injEq] at e2;subst e2;simp [Instr.sliceBounds,h1]
    | some x =>have:=hlo h'.toNat .sliceB (by omega) x rfl;simp [Instr.sliceBounds,h1,this]
  ·cases hb
 ·cases hb
theorem zud {s:Nat}:∀ (xs:Els) (cs:List Value) (n:Nat),ImE I (bl w) s xs cs->ImE I (bl w) s (xs.take n) cs
 | [],_,n,_=>by simp [ImE]
 | x::xs,cs,0,_=>by simp [ImE]
 | x::xs,cs,n+1,h=>⟨h.1,h.2.1,zud xs _ n h.2.2⟩
theorem zuc {s:Nat}:∀ (xs:Els) (cs:List Value) (n:Nat),ImE I (bl w) s xs cs->ImE I (bl w) s (xs.drop n) (cs.drop (n * s))
 | [],_,n,_=>by simp [ImE]
 | x::xs,cs,0,h=>by simpa using h
 | x::xs,cs,n+1,h=>by have:=zuc xs _ n h.2.2;rw [drop_drop,show s+n * s=(n+1) * s by rw [Nat.add_mul,Nat.one_mul,Nat.add_comm]] at this;exact this
theorem VaC.consts:∀ (z:List Value),(∀ v∈z,v.oneCell'=true)->VaC I σ (bl w) (z.map cval) z
 | [],_=>rfl
 | v::z,h=>⟨v,z,rfl,h v (by simp),zgl v,VaC.consts z (λu hu=>h u (by simp [hu]))⟩
theorem VaC.append:∀ (l1 l2:List AV) (c1 c2:List Value),VaC I σ (bl w) l1 c1->VaC I σ (bl w) l2 c2->VaC I σ (bl w) (l1++l2) (c1++c2)
 | [],l2,c1,c2,h1,h2=>by simp only [VaC] at h1;subst h1;simpa using h2
 | a::l1,l2,_,c2,h1,h2=>by obtain ⟨v,cs',rfl,h3,h4,h5⟩:=h1;exact ⟨v,cs'++c2,rfl,h3,h4,VaC.append l1 l2 cs' c2 h5 h2⟩
theorem zye (cells:Array Value)(off size:Nat)(v:Value)(hs:v.cells.size=size)(hle:off+size<=cells.size) :
  (v.cells.zipIdx.foldl (λcs (x:Value×Nat)=>cs.setIfInBounds (off+x.2) x.1) cells).toList=cells.toList.take off++v.cells.toList++cells.toList.drop (off+size):=by
 have aux:∀ (l:List Value) (k:Nat) (cs:Array Value),off+k+l.length<=cs.size ->
   ((l.zipIdx k).foldl (λcs (x:Value×Nat)=>cs.setIfInBounds (off+x.2) x.1) cs).toList=cs.toList.take (off+k)++l++cs.toList.drop (off+k+l.length):=by
  intro l
  induction l with
  | nil=>intro k cs _;simp
  | cons v l ih =>intro k cs hle;simp only [length_cons] at hle;rw [List.zipIdx_cons,List.foldl_cons,ih (k+1) _ (by simp;omega)];simp only [Array.toList_setIfInBounds,length_cons];have:=list_seg_step cs.toList (off+k) v l (by simp;omega);rw [show off+(k+1)=off+k+1 by omega,this]
 have:=aux v.cells.toList 0 cells (by simpa [hs] using hle);rw [Nat.add_zero] at this;rw [<- Array.foldl_toList,Array.toList_zipIdx,this];simp [hs]
theorem Va.one:∀ (x:AV) (v:Value),z46 x=true->Va I σ (bl w) x v->v.oneCell'=true
 | .sc u,v,h1,h2=>by cases h2;exact h1
 | .zs,_,_,h=>by obtain ⟨a,rfl⟩:=h;rfl
 | .im _ _,_,_,h=>by obtain ⟨a,c,rfl,_⟩:=h;rfl
 | .ip _ _ _ _,_,_,h=>by obtain ⟨A,cur,E,fr,rfl,_⟩:=h;rfl
 | .sl k p off len,v,_,h=>by
  simp only [Va] at h;split at h
  ·obtain ⟨_,_,a,rfl⟩:=h;rfl
  ·split at h
   ·obtain ⟨a,c,rfl,_⟩:=h;rfl
   ·exact h.elim
 | .pp (.xp _ _ _),_,_,h=>by obtain ⟨rfl,_⟩:=h;rfl
 | .pp (.fs _ _),_,_,h=>by obtain ⟨L,a,c,_,rfl,_⟩:=h;rfl
 | .pp (.fp _ _ _),_,_,h=>by obtain ⟨L,A,cur,E,fr,_,rfl,_⟩:=h;rfl
 | .pp (.mr _ _),_,_,h=>by obtain ⟨L,_,_,rfl⟩:=h;rfl
 | .pt _ _ _ _,_,_,h=>by obtain ⟨L,_,rfl⟩:=h;rfl
 | .fn _ _,_,_,h=>by obtain ⟨a,rfl,_⟩:=h;rfl
 | .un,_,h,_=>by cases h
 | .ag _,_,h,_=>by cases h
 | .tu _,_,h,_=>by cases h
 | .ow _ _,_,h,_=>by cases h
theorem zxw {v:Value}(h:v.oneCell'=true):v.cells = #[v]:=by
 unfold Value.cells;split
 ·cases h
 ·rfl
theorem zdn {x:AV}{v:Value}{cs:List AV}(hc:cellsOf x=some cs)(h:Va I σ (bl w) x v):VaC I σ (bl w) cs v.cells.toList:=by
 unfold cellsOf at hc;split at hc
 ·rename_i l;cases hc;obtain ⟨a,rfl,h⟩:=h;exact h
 ·split at hc
  ·rename_i h1;cases hc;have h2:=Va.one x v h1 h;rw [zxw h2];exact ⟨v,[],rfl,h2,h,rfl⟩
  ·cases hc
theorem zdy (place:Nat->Option (Nat×Nat))(ρ:Operand->Value)(f:Operand->AV)(hf:∀ x,Va I σ (bl w) (f x) (ρ x)):∀ (parts:List (Nat×Operand)) (l:List (Nat×Nat×Operand)) (X:List AV) (cells:Array Value) (X':List AV),
  parts.length=l.length->(∀ (j:Nat) (q:Nat×Operand) (q':Nat×Nat×Operand),parts[j]?=some q->l[j]?=some q'->place q.1=some (q'.1,q'.2.1)/\q.2=q'.2.2) ->
  VaC I σ (bl w) X cells.toList->z5a X (l.map λ(o,n,x)=>(o,n,f x))=some X'->∃ cells',Instr.fill place cells (parts.map λ(i,x)=>(i,ρ x))=some cells'/\VaC I σ (bl w) X' cells'.toList
 | [],l,X,cells,X',hl,_,hv,h=>by cases l with | nil=>simp only [map_nil,z5a,Option.some.injEq] at h;subst h;exact ⟨cells,rfl,hv⟩ | cons _ _=>simp at hl
 | (i,x)::parts,l,X,cells,X',hl,hp,hv,h=>by
  cases l with
  | nil=>simp at hl
  | cons q l =>
   obtain ⟨o,n,x'⟩:=q;obtain ⟨h1,h2⟩:=hp 0 (i,x) (o,n,x') rfl rfl;simp only at h1 h2;subst h2;simp only [map_cons] at h ⊢;unfold z5a at h;split at h
   ·rename_i cs hcs;split at h
    ·rename_i hc;have hva:=zdn hcs (hf x);have hlen:=VaC.length _ _ hva;have hX:=VaC.length _ _ hv;simp only [Array.length_toList] at hlen hX;unfold Instr.fill;simp only [h1];rw [if_neg (by simp only [Bool.or_eq_true,decide_eq_true_eq];omega)];have hstep:=zye cells o n (ρ x) (by omega) (by omega);refine zdy place ρ f hf parts l _ _ X' (by simpa using hl) (λj q q' hq hq'=>hp (j+1) q q' (by simpa using hq) (by simpa using hq')) ?_ h;rw [hstep];have t1:=VaC.part X cells.toList 0 o hv;simp only [drop_zero] at t1;have t2:=VaC.part X cells.toList (o+n) (X.length) hv;rw [take_of_length_le (by simp),take_of_length_le (by simp;omega)] at t2;exact VaC.append _ _ _ _ (VaC.append _ _ _ _ t1 hva) t2
    ·cases h
   ·cases h
end
section
variable {P:Program}{I:Nat->Prop}{N:Nat}[Dfs N]{σ:Pl}{w:World}{h:H}{e:Env}{a:Act}
theorem z86 {k:IntKind}{n:Int}{v:Value}(h:Va I σ (bl w) (.sc (.int k n)) v):v = .int k n:=h
theorem VaC.scs:∀ (l:List Value),(∀ u∈l,u.oneCell'=true)->VaC I σ (bl w) (l.map AV.sc) l
 | [],_=>rfl
 | u::l,h=>⟨u,l,rfl,h u (by simp),rfl,VaC.scs l λv hv=>h v (by simp [hv])⟩
theorem zjt (R:Rel I N σ e h a w){t:TypeId}{x:Operand}{agg:Bool}{n:Nat}(ha:z43 P t=some agg)(hs:szT P t=some n){av:AV}(hr:zi (ev e) (res h) (.load agg n x)=some av) :
  ∃ v,(Instr.loadAt t (a.eval x)).run P w = .ok v w/\Va I σ (bl w) av v:=by
 have hx:=zw R x;simp only [zi] at hr;split at hr
 ·rename_i k p i c hk;rw [hk] at hx;obtain ⟨L,hL,hv⟩:=hx;split at hr
  ·rename_i s ys hres;split at hr
   ·rename_i cs hcs;obtain ⟨hp,_⟩:=R.heap.place hres;unfold z2f at hp;simp only [hL] at hp;obtain ⟨hLs,hle,cur,E,hB,hsz,hE⟩:=hp;obtain ⟨h1,h2⟩:=zxx hE hcs;rw [hv];simp only [Instr.loadAt,Instr.sureAddr,Sem.run_bind,Sem.run_pure,Result.andThen_ok];refine z84 ha hs hB rfl ?_ ?_ hr
    ·have:=CeC.length cs c _ h1;rw [hLs];omega
    ·have h3:=CeC.va cs c _ h1;rw [hLs];exact h3
   ·cases hr
  ·cases hr
 ·rename_i s xs i c hk;rw [hk] at hx;obtain ⟨A,cur,E,fr,hv,hsp,hI,hB,hE⟩:=hx;split at hr
  ·rename_i cs hcs;obtain ⟨h1,h2⟩:=y51 hE hcs;rw [hv];simp only [Instr.loadAt,Instr.sureAddr,Sem.run_bind,Sem.run_pure,Result.andThen_ok];refine z84 ha hs hB rfl ?_ (ImC.va cs _ h1) hr;have:=ImC.length cs _ h1;omega
  ·cases hr
 ·rename_i b x' c hk;rw [hk] at hx;obtain ⟨hv,hI,cur,E,fr,hB,hcur,hone⟩:=hx;split at hr
  ·rename_i hle
   have hp:(cur.toList.drop c).take n=(x'.drop c).take n:=by rw [<- hcur,drop_take,take_take,Nat.min_eq_left (by omega)]
   have hlen:x'.length<=cur.toList.length:=by rw [<- hcur];exact List.length_take_le' _ _
   rw [hv];simp only [Instr.loadAt,Instr.sureAddr,Sem.run_bind,Sem.run_pure,Result.andThen_ok];refine z84 ha hs hB rfl ?_ ?_ hr
   ·rw [length_take,length_drop];omega
   ·rw [hp];exact VaC.scs _ λu hu=>hone u (List.mem_of_mem_drop (List.mem_of_mem_take hu))
  ·cases hr
 ·rename_i k cs i hk;rw [hk] at hx;obtain ⟨L,A,cur,E,fr,hL,hv,hsp,hI,hB,hcs⟩:=hx;split at hr
  ·rename_i c hc;split at hr
   ·rename_i hn;obtain ⟨rfl,rfl⟩:=hn;simp only [Option.some.injEq] at hr;subst hr;obtain ⟨b,o,sp⟩:=A;simp only at hsp hv hB hcs;subst hsp;have hi:i<cs.length:=(List.getElem?_eq_some_iff.1 hc).1
    have hcell:(cur.toList.drop (o+i)).take 1=[Value.pointer (some ⟨L.b,c,none⟩)]:=by
     have h1:((cur.toList.drop o).take cs.length)[i]?=some (Value.pointer (some ⟨L.b,c,none⟩)):=by rw [hcs,getElem?_map,hc];rfl
     rw [getElem?_take,if_pos hi,getElem?_drop] at h1;obtain ⟨hl,he⟩:=List.getElem?_eq_some_iff.1 h1;rw [List.drop_eq_getElem_cons hl,he];rfl
    rw [hv];simp only [Instr.loadAt,Instr.sureAddr,Sem.run_bind,Sem.run_pure,Result.andThen_ok];refine z84 (cs:=[.pt k [] 0 c]) ha hs hB rfl ?_ ?_ rfl
    ·have:=congrArg length hcell;simpa using this
    ·rw [hcell];exact ⟨_,_,rfl,rfl,⟨L,hL,by simp⟩,rfl⟩
   ·cases hr
  ·cases hr
 ·cases hr
theorem zyd (R:Rel I N σ e h a w){s:TypeId}{x:Operand}{f:Nat}{fs:Array Field}{fd:Field}{n:Nat}(hs:P.underlying s=some (.struct fs))(hf:fs[f]?=some fd)(hn:szT P fd.type=some n)(h0:n≠0)
  {av:AV} (hr:zi (ev e) (res h) (.fad fd.offset x)=some av):∃ v,(Instr.fieldAt s (a.eval x) f).run P w = .ok v w/\Va I σ (bl w) av v:=by
 have hx:=zw R x
 have key:∀ b o,(Instr.fieldAt s (.pointer (some ⟨b,o,none⟩)) f).run P w = .ok (.pointer (some ⟨b,o+fd.offset,none⟩)) w:=by intro b o;simp only [Instr.fieldAt,Sem.run_bind,run_underlying hs,Result.andThen_ok,hf,Instr.sureAddr,Sem.run_pure,fieldPlace,z25 hn,if_neg h0,z2h,Sem.run_ite]
 simp only [zi] at hr;split at hr
 ·rename_i k p i c hk;rw [hk] at hx;obtain ⟨L,hL,hv⟩:=hx;simp only [Option.some.injEq] at hr;subst hr;exact ⟨_,by rw [hv];exact key _ _,L,hL,by rw [Nat.add_assoc]⟩
 ·rename_i s' xs i c hk;rw [hk] at hx;obtain ⟨A,cur,E,fr,hv,hsp,hI,hB,hE⟩:=hx;simp only [Option.some.injEq] at hr;subst hr;exact ⟨_,by rw [hv];exact key _ _,A,cur,E,fr,by rw [Nat.add_assoc (A.off+i * s')],hsp,hI,hB,hE⟩
 ·rename_i b x' c hk;rw [hk] at hx;obtain ⟨hv,hx⟩:=hx;simp only [Option.some.injEq] at hr;subst hr;exact ⟨_,by rw [hv];exact key _ _,rfl,hx⟩
 ·cases hr
theorem y38 (R:Rel I N σ e h a w){t el:TypeId}{x i:Operand}{n:Nat}(ht:P.underlying t=some (.slice el))(hn:szT P el=some n){av:AV}(hr:zi (ev e) (res h) (.iad n x i)=some av) :
  ∃ v,(Instr.indexAt t (a.eval x) (a.eval i)).run P w = .ok v w/\Va I σ (bl w) av v:=by
 have hx:=zw R x;have hi:=zw R i
 have key:∀ (A:Addr) (len c:Nat) (k:IntKind) (m:Int),0<=m->m<len->(Instr.indexAt t (.slice (some A) len c) (.int k m)).run P w = .ok (.pointer (some (A.add (m.toNat * n)))) w:=by intro A len c k m h0 h1;simp only [Instr.indexAt,asIntOf,Sem.run_bind,Sem.run_pure,Result.andThen_ok,run_underlying ht,Sem.run_ite];rw [if_pos ⟨h0,h1⟩];simp only [Sem.run_bind,z25 hn,Result.andThen_ok,Sem.run_pure]
 simp only [zi] at hr;split at hr
 ·rename_i k p off len k' m hk hm;rw [hk] at hx;rw [hm] at hi;split at hr
  ·rename_i hb;split at hr
   ·rename_i s' ys hres;split at hr
    ·rename_i hs;simp only [Option.some.injEq] at hr;subst hr hs;obtain ⟨hp,_⟩:=R.heap.place hres;simp only [Va] at hx;unfold z2f at hp;cases hL:σ k p with
     | none=>simp only [hL] at hx;omega
     | some L =>have hlt:=z2f.lt hp hL (z83 hres).2;simp only [hL,if_pos hlt] at hx hp;obtain ⟨A,c,hv,hc1,hc2,hA⟩:=hx;have:=hA (.inl (by omega));subst this;refine ⟨_,by rw [hv,z86 hi];exact key _ _ _ _ _ hb.1 hb.2,L,hL,?_⟩;rw [z2h,hp.1,Nat.add_mul,Nat.add_zero]
    ·cases hr
   ·cases hr
  ·cases hr
 ·rename_i s' xs k' m hk hm;rw [hk] at hx;rw [hm] at hi;split at hr
  ·rename_i hb;simp only [Option.some.injEq] at hr;subst hr;obtain ⟨rfl,hb⟩:=hb;obtain ⟨A0,c,hv,hc,hne⟩:=hx;obtain ⟨A,cur,E,fr,rfl,hsp,hI,hB,hE⟩:=hne (by rintro rfl;simp at hb;omega);refine ⟨_,by rw [hv,z86 hi];exact key _ _ _ _ _ hb.1 hb.2,A,cur,E,fr,?_,hsp,hI,hB,hE⟩;obtain ⟨b,o,sp⟩:=A;simp only at hsp;subst hsp;rw [z2h,Nat.add_zero]
  ·cases hr
 ·rename_i k cs k' m hk hm;rw [hk] at hx;rw [hm] at hi;split at hr
  ·rename_i hb;simp only [Option.some.injEq] at hr;subst hr;obtain ⟨rfl,hb⟩:=hb;obtain ⟨L,A0,c,hL,hv,hc,hne⟩:=hx;obtain ⟨A,cur,E,fr,rfl,hsp,hI,hB,hE⟩:=hne (by rintro rfl;simp at hb;omega);refine ⟨_,by rw [hv,z86 hi];exact key _ _ _ _ _ hb.1 hb.2,L,A,cur,E,fr,hL,?_,hsp,hI,hB,hE⟩;obtain ⟨b,o,sp⟩:=A;simp only at hsp;subst hsp;rw [z2h,Nat.mul_one]
  ·cases hr
 ·cases hr
theorem zxo (R:Rel I N σ e h a w){t el:TypeId}{x i:Operand}{len n:Nat}(ht:P.underlying t=some (.array len el))(hn:szT P el=some n){av:AV}(hr:zi (ev e) (res h) (.aad len n x i)=some av) :
  ∃ v,(Instr.indexAt t (a.eval x) (a.eval i)).run P w = .ok v w/\Va I σ (bl w) av v:=by
 have hx:=zw R x;have hi:=zw R i;simp only [zi] at hr;split at hr
 ·rename_i k p o c k' m hk hm;rw [hk] at hx;rw [hm] at hi;split at hr
  ·rename_i hb;simp only [Option.some.injEq] at hr;subst hr;obtain ⟨L,hL,hv⟩:=hx;refine ⟨.pointer (some ⟨L.b,o * L.s+c+m.toNat * n,none⟩),?_,L,hL,by rw [Nat.add_assoc]⟩;rw [hv,z86 hi];simp only [Instr.indexAt,asIntOf,Sem.run_bind,Sem.run_pure,Result.andThen_ok,run_underlying ht,Instr.sureAddr,Sem.run_ite];rw [if_pos hb];simp only [Sem.run_bind,z25 hn,Result.andThen_ok,Sem.run_pure,z2h]
  ·cases hr
 ·cases hr
theorem y47 (R:Rel I N σ e h a w){t el:TypeId}{x:Operand}{lo hi:Option Operand}{n:Nat}(ht:P.underlying t=some (.slice el))(hn:szT P el=some n){av:AV}(hr:zi (ev e) (res h) (.slc n x lo hi)=some av) :
  ∃ v,(Instr.sliceAt t (a.eval x) (lo.map a.eval) (hi.map a.eval) none).run P w = .ok v w/\Va I σ (bl w) av v:=by
 have hx:=zw R x
 have key:∀ (A:Option Addr) (len c l hh:Nat),z6m len (lo.map (ev e)) (hi.map (ev e))=some (l,hh)->len<=c ->
   (Instr.sliceAt t (.slice A len c) (lo.map a.eval) (hi.map a.eval) none).run P w = .ok (.slice (if c=l then A else A.map (·.add (l * n))) (hh - l) (c - l)) w/\l<=hh/\hh<=len:=by
  intro A len c l hh hb hle;obtain ⟨h1,h2,h3⟩:=ziq (P:=P) (isSlice:=true) hb hle (λx=>zw R x) (.inl rfl);refine ⟨?_,h2,h3⟩;simp only [Instr.sliceAt,Instr.slice,Sem.run_bind,run_underlying ht,Result.andThen_ok,h1,z25 hn,Sem.run_pure]
 simp only [zi] at hr;split at hr
 ·rename_i k p off len hk;rw [hk] at hx;split at hr
  ·rename_i s' ys hres;split at hr
   ·rename_i hs;subst hs;split at hr
    ·rename_i l hh hb;simp only [Option.some.injEq] at hr;subst hr;obtain ⟨hp,_⟩:=R.heap.place hres;simp only [Va] at hx ⊢;unfold z2f at hp;cases hL:σ k p with
     | none =>simp only [hL] at hx ⊢;obtain ⟨rfl,rfl,A,hv⟩:=hx;obtain ⟨h1,h2,h3⟩:=key A 0 0 l hh hb (Nat.le_refl _);rw [hv,h1];exact ⟨_,rfl,by omega,by omega,_,by rw [show hh - l=0 by omega,show 0 - l=0 by omega]⟩
     | some L =>
      have hlt:=z2f.lt hp hL (z83 hres).2;simp only [hL,if_pos hlt] at hx hp ⊢;obtain ⟨A,c,hv,hc1,hc2,hA⟩:=hx;obtain ⟨h1,h2,h3⟩:=key (some A) len c l hh hb hc2;rw [hv,h1];by_cases hcl:c=l
      ·rw [if_pos hcl];refine ⟨_,rfl,A,c - l,rfl,by omega,by omega,λhor=>?_⟩;rcases hor with h' | h'
       ·omega
       ·have h0:off=0:=by omega
        have hl0:l=0:=by omega
        subst h0 hl0;exact hA (.inr rfl)
      ·rw [if_neg hcl];have:=hA (.inl (by omega));subst this;refine ⟨_,rfl,_,c - l,rfl,by omega,by omega,λ_=>?_⟩;show (⟨L.b,off * L.s,none⟩:Addr).add (l * s')=_;rw [z2h,hp.1,Nat.add_mul]
    ·cases hr
   ·cases hr
  ·cases hr
 ·rename_i s' xs hk;rw [hk] at hx;split at hr
  ·rename_i hs;subst hs;split at hr
   ·rename_i l hh hb;simp only [Option.some.injEq] at hr;subst hr;obtain ⟨A0,c,hv,hc,hne⟩:=hx;obtain ⟨h1,h2,h3⟩:=key A0 xs.length c l hh hb hc;have hlen:((xs.take hh).drop l).length=hh - l:=by rw [length_drop,length_take];omega
    rw [hv,h1];refine ⟨_,rfl,_,c - l,by rw [hlen],by omega,λhn0=>?_⟩;have hne':xs≠[]:=by rintro rfl;simp at hn0
    have hlt:l<hh:=by
     rcases Nat.lt_or_ge l hh with h' | h'
     ·exact h'
     ·exact absurd (List.eq_nil_of_length_eq_zero (by omega)) hn0
    obtain ⟨A,cur,E,fr,rfl,hsp,hI,hB,hE⟩:=hne hne';rw [if_neg (by omega)];obtain ⟨b,o,sp⟩:=A;simp only at hsp;subst hsp;refine ⟨⟨b,o+l * s',none⟩,cur,E,fr,by rw [map_some,z2h],rfl,hI,hB,?_⟩;have:=zuc (xs.take hh) _ l (zud xs _ hh hE);rw [drop_drop] at this;exact this
   ·cases hr
  ·cases hr
 ·rename_i hk;rw [hk] at hx;split at hr
  ·rename_i x' hb;obtain ⟨l,hh⟩:=x';simp only [Option.some.injEq] at hr;subst hr;obtain ⟨A,hv⟩:=hx;obtain ⟨h1,h2,h3⟩:=key A 0 0 l hh hb (Nat.le_refl _);rw [hv,h1];exact ⟨_,rfl,_,by rw [show hh - l=0 by omega,show 0 - l=0 by omega]⟩
  ·cases hr
 ·cases hr
end
section
variable {P:Program}{I:Nat->Prop}{N:Nat}[Dfs N]{σ:Pl}{w:World}{h:H}{e:Env}{a:Act}
theorem zlf (R:Rel I N σ e h a w){op:BinOp}{t:TypeId}{x y:Operand}{av:AV}(hr:zi (ev e) (res h) (.bin op x y)=some av) :
  ∃ v,(do eqGuard op t x y (a.eval x) (a.eval y);binOp op t (a.eval x) (a.eval y):Sem Value).run P w = .ok v w/\Va I σ (bl w) av v:=by
 have hx:=zw R x;have hy:=zw R y;simp only [zi] at hr;split at hr
 ·rename_i u v hu hv;rw [hu] at hx;rw [hv] at hy;split at hr
  ·rename_i z hz;cases hr;rw [z6g hx,z6g hy];exact ⟨z,y6y hz t x y w,rfl⟩
  ·cases hr
 ·cases hr
theorem zle (R:Rel I N σ e h a w){neg:Bool}{t:TypeId}{x y:Operand}(ht:P.underlying t=some .bool){av:AV}(hr:zi (ev e) (res h) (.beq neg x y)=some av) :
  ∃ v,(do eqGuard (if neg then .neq else .eql) t x y (a.eval x) (a.eval y);binOp (if neg then .neq else .eql) t (a.eval x) (a.eval y):Sem Value).run P w = .ok v w/\Va I σ (bl w) av v:=by
 have hx:=zw R x;have hy:=zw R y;simp only [zi] at hr;split at hr
 ·rename_i u v hu hv;rw [hu] at hx;rw [hv] at hy;cases hr;rw [z6g hx,z6g hy];refine ⟨_,?_,rfl⟩;cases neg
  ·simp [eqGuard,binOp,Op.equal,Op.maxDepth,run_equalIn_bool' w 9999 t u v ht]
  ·simp [eqGuard,binOp,Op.equal,Op.maxDepth,run_equalIn_bool' w 9999 t u v ht];cases u<;>cases v<;>rfl
 ·cases hr
theorem zlj (R:Rel I N σ e h a w){neg:Bool}{t:TypeId}{x y:Operand}{n:Nat}{pl:List (Nat×Nat)}(hg:P.eqGuardType P.depth t=false)(hp:z4x P 9 t 0=some pl)(hl:z3q P t=none)(hn:szT P t=some n)
  {av:AV} (hr:zi (ev e) (res h) (.eqs neg n pl x y)=some av) :
  ∃ v,(do eqGuard (if neg then .neq else .eql) t x y (a.eval x) (a.eval y);binOp (if neg then .neq else .eql) t (a.eval x) (a.eval y):Sem Value).run P w = .ok v w/\Va I σ (bl w) av v:=by
 have hx:=zw R x;have hy:=zw R y;simp only [zi] at hr;split at hr
 ·rename_i X Y hu hv;rw [hu] at hx;rw [hv] at hy;split at hr
  ·rename_i hlen;split at hr
   ·rename_i r hc;cases hr;obtain ⟨cx,hcx,vx⟩:=hx;obtain ⟨cy,hcy,vy⟩:=hy;have lx:=VaC.length _ _ vx;have ly:=VaC.length _ _ vy
    have:=zdu (P:=P) (w:=w) X Y cx.toList cy.toList (λi u hi=>VaC.sc X _ vx i u hi) (λi u hi=>VaC.sc Y _ vy i u hi) 9 t 0 pl 9991 (.agg cx) (.agg cy) r n hp hn
     (by unfold z49;rw [hl];exact ⟨cx,rfl,λn' hn' j _=>by simp⟩) (by unfold z49;rw [hl];exact ⟨cy,rfl,λn' hn' j _=>by simp⟩)
     (λj hj=>by rw [Nat.zero_add];exact ⟨_,getElem?_eq_getElem (by omega)⟩) (λj hj=>by rw [Nat.zero_add];exact ⟨_,getElem?_eq_getElem (by omega)⟩) hc
    rw [hcx,hcy];refine ⟨_,?_,rfl⟩;cases neg
    ·simp only [false_eq_true,if_false,Sem.run_bind,run_eqGuard_agg w _ t x y cx cy hg,Result.andThen_ok,run_eql_struct];rw [this];rfl
    ·simp only [if_true,Sem.run_bind,run_eqGuard_agg w _ t x y cx cy hg,Result.andThen_ok,run_neq_struct];rw [this];rfl
   ·cases hr
  ·cases hr
 ·cases hr
theorem zyf (R:Rel I N σ e h a w){t:TypeId}{x:Operand}{f:Nat}{fs:Array Field}{fd:Field}{n:Nat}{agg:Bool}(ht:P.underlying t=some (.struct fs))(hf:fs[f]?=some fd)(hn:szT P fd.type=some n)
  (hb:z43 P fd.type=some agg) {av:AV} (hr:zi (ev e) (res h) (.fld agg fd.offset n x)=some av):∃ v,(Instr.field t (a.eval x) f).run P w = .ok v w/\Va I σ (bl w) av v:=by
 have hx:=zw R x;simp only [zi] at hr;split at hr
 ·rename_i cs hk;rw [hk] at hx;split at hr
  ·rename_i hle;obtain ⟨c,hv,hc⟩:=hx;have hp:=VaC.part cs _ fd.offset n hc;obtain ⟨v,h1,h2⟩:=zmt (P:=P) (w:=w) hb hn rfl (by rw [VaC.length _ _ hp,length_take,length_drop];omega) hp hr;refine ⟨v,?_,h2⟩;rw [hv];simp only [Instr.field,Sem.run_bind,run_underlying ht,Result.andThen_ok,hf,asAgg,Sem.run_pure,h1]
  ·cases hr
 ·cases hr
theorem y39 (R:Rel I N σ e h a w){t el:TypeId}{x i:Operand}{len n:Nat}{agg:Bool}(ht:P.underlying t=some (.array len el))(hn:szT P el=some n)(hb:z43 P el=some agg)
  {av:AV} (hr:zi (ev e) (res h) (.ida agg len n x i)=some av):∃ v,(Instr.index t (a.eval x) (a.eval i)).run P w = .ok v w/\Va I σ (bl w) av v:=by
 have hx:=zw R x;have hi:=zw R i;simp only [zi] at hr;split at hr
 ·rename_i cs k m hk hm;rw [hk] at hx;rw [hm] at hi;split at hr
  ·rename_i hle;obtain ⟨c,hv,hc⟩:=hx;have hp:=VaC.part cs _ (m.toNat * n) n hc;obtain ⟨v,h1,h2⟩:=zmt (P:=P) (w:=w) hb hn rfl (by rw [VaC.length _ _ hp,length_take,length_drop];omega) hp hr;refine ⟨v,?_,h2⟩;rw [hv,z86 hi];simp only [Instr.index,asIntOf,Sem.run_bind,Sem.run_pure,run_underlying ht,Result.andThen_ok,Sem.run_ite];rw [if_pos ⟨hle.1,hle.2.1⟩];simp only [Sem.run_bind,z25 hn,Result.andThen_ok,h1]
  ·cases hr
 ·cases hr
theorem y3a (R:Rel I N σ e h a w){t:TypeId}{x i:Operand}(ht:P.underlying t=some .string){av:AV}(hr:zi (ev e) (res h) (.ids x i)=some av) :
  ∃ v,(Instr.index t (a.eval x) (a.eval i)).run P w = .ok v w/\Va I σ (bl w) av v:=by
 have hx:=zw R x;have hi:=zw R i;simp only [zi] at hr;split at hr
 ·rename_i s k m hk hm;rw [hk] at hx;rw [hm] at hi;split at hr
  ·rename_i hle;cases hr;rw [z6g hx,z86 hi];have hlt:m.toNat<s.size:=by omega
   refine ⟨_,?_,rfl⟩;simp only [Instr.index,asIntOf,Sem.run_bind,Sem.run_pure,run_underlying ht,Result.andThen_ok];rw [if_pos hle.1,getElem?_pos s m.toNat hlt];simp only [Sem.run_pure];congr 4;obtain ⟨⟨l⟩⟩:=s;simp only [List.getD_eq_getElem?_getD];have hlt':m.toNat<l.length:=hlt;have:l[m.toNat]?=some l[m.toNat]:=getElem?_eq_getElem hlt';rw [this];rfl
  ·cases hr
 ·cases hr
theorem y3g (R:Rel I N σ e h a w){t el ty:TypeId}{x:Operand}(ht:P.underlying t=some (.slice el)){av:AV}(hr:zi (ev e) (res h) (.len x)=some av) :
  ∃ v,(Builtin.len_ #[t] ty #[a.eval x]).run P w = .ok v w/\Va I σ (bl w) av v:=by
 have hx:=zw R x
 have key:∀ A n c,(Builtin.len_ #[t] ty #[.slice A n c]).run P w = .ok (.int .i64 n) w:=by intro A n c;simp [Builtin.len_,run_underlying ht,goInt]
 simp only [zi] at hr;split at hr
 ·rename_i k p off len hk;rw [hk] at hx;cases hr;obtain ⟨A,c,hv⟩:=Va.sl_slice hx;rw [hv];exact ⟨_,key _ _ _,rfl⟩
 ·rename_i s xs hk;rw [hk] at hx;cases hr;obtain ⟨A,c,hv,_⟩:=hx;rw [hv];exact ⟨_,key _ _ _,rfl⟩
 ·rename_i k cs hk;rw [hk] at hx;cases hr;obtain ⟨L,A,c,hL,hv,_⟩:=hx;rw [hv];exact ⟨_,key _ _ _,rfl⟩
 ·rename_i hk;rw [hk] at hx;cases hr;obtain ⟨A,hv⟩:=hx;rw [hv];exact ⟨_,key _ _ _,rfl⟩
 ·cases hr
theorem zwo (R:Rel I N σ e h a w){t ty:TypeId}{x:Operand}(ht:P.underlying t=some .string){av:AV}(hr:zi (ev e) (res h) (.lens x)=some av) :
  ∃ v,(Builtin.len_ #[t] ty #[a.eval x]).run P w = .ok v w/\Va I σ (bl w) av v:=by
 have hx:=zw R x;simp only [zi] at hr;split at hr
 ·rename_i s hk;rw [hk] at hx;cases hr;rw [z6g hx];exact ⟨_,by simp [Builtin.len_,run_underlying ht,goInt],rfl⟩
 ·cases hr
theorem CeE.drop {k:Nat}{p:Path}{s:Nat}:∀ (xs:Els) (i:Nat) (cs:List Value) (n:Nat),CeE I σ (bl w) k p i s xs cs->CeE I σ (bl w) k p (i+n) s (xs.drop n) (cs.drop (n * s))
 | [],_,_,n,_=>by simp [CeE]
 | x::xs,i,cs,0,h=>by simpa using h
 | x::xs,i,cs,n+1,h=>by have:=CeE.drop xs (i+1) _ n h.2.2;rw [drop_drop,show s+n * s=(n+1) * s by rw [Nat.add_mul,Nat.one_mul,Nat.add_comm],show i+1+n=i+(n+1) by omega] at this;exact this
theorem CeE.take {k:Nat}{p:Path}{s:Nat}:∀ (xs:Els) (i0:Nat) (cs:List Value) (n:Nat),CeE I σ (bl w) k p i0 s xs cs->CeE I σ (bl w) k p i0 s (xs.take n) cs
 | [],_,_,n,_=>by simp [CeE]
 | x::xs,_,_,0,_=>by simp [CeE]
 | x::xs,i0,cs,n+1,h=>⟨h.1,h.2.1,CeE.take xs (i0+1) _ n h.2.2⟩
theorem zis {s:Nat}:∀ (xs:Els) (ns:List Int) (cs:List Value),z48 xs=some ns->ImE I (bl w) 1 xs cs->ns.length=xs.length/\cs.take xs.length=ns.map (Value.int .u8)
 | [],_,cs,h,_=>by cases h;simp
 | x::xs,ns,cs,h,hE=>by
  unfold z48 at h;split at h
  ·rename_i h0;cases h0
  ·rename_i n l h0;cases h0;split at h
   ·rename_i ms hm;cases h;obtain ⟨_,⟨v,cs',h1,⟨h2,_⟩,h3⟩,h4⟩:=hE;obtain ⟨q1,q2⟩:=zis (s:=s) xs ms (cs.drop 1) hm h4;subst h2;cases cs with
    | nil=>simp at h1
    | cons c cs =>simp only [List.take_succ_cons,take_zero,List.cons.injEq] at h1;obtain ⟨rfl,_⟩:=h1;simp only [List.drop_succ_cons,drop_zero] at q2;exact ⟨by simp [q1],by simp [q2]⟩
   ·cases h
  ·cases h
theorem zir {k s:Nat}{p:Path}:∀ (xs:Els) (ns:List Int) (i:Nat) (cs:List Value),z48 xs=some ns->CeE I σ (bl w) k p i 1 xs cs->ns.length=xs.length/\cs.take xs.length=ns.map (Value.int .u8)
 | [],_,_,cs,h,_=>by cases h;simp
 | x::xs,ns,i,cs,h,hE=>by
  unfold z48 at h;split at h
  ·rename_i h0;cases h0
  ·rename_i n l h0;cases h0;split at h
   ·rename_i ms hm;cases h;obtain ⟨_,⟨v,cs',h1,⟨h2,_⟩,h3⟩,h4⟩:=hE;obtain ⟨q1,q2⟩:=zir (s:=s) xs ms (i+1) (cs.drop 1) hm h4;subst h2;cases cs with
    | nil=>simp at h1
    | cons c cs =>simp only [List.take_succ_cons,take_zero,List.cons.injEq] at h1;obtain ⟨rfl,_⟩:=h1;simp only [List.drop_succ_cons,drop_zero] at q2;exact ⟨by simp [q1],by simp [q2]⟩
   ·cases h
  ·cases h
theorem zxs (R:Rel I N σ e h a w){src dst el:TypeId}{x:Operand}(hs:P.underlying src=some (.slice el))(hel:P.underlying el=some (.int .u8))(hd:P.underlying dst=some .string){av:AV}(hr:zi (ev e) (res h) (.b2s x)=some av) :
  ∃ v,(convert src dst (a.eval x)).run P w = .ok v w/\Va I σ (bl w) av v:=by
 have hx:=zw R x;have none_:∀ c,(Conv.bytesToString (.slice none 0 c)).run P w = .ok (.string (z91 [])) w:=λc=>rfl
 have zero:∀ A,a.eval x = .slice A 0 0->∃ v,(convert src dst (a.eval x)).run P w = .ok v w/\Va I σ (bl w) (.sc (.string (z91 []))) v:=λA hA=>by
  rw [hA,run_convert_bytes_string w src dst el A 0 0 hs hel hd];cases A with
  | none=>exact ⟨_,none_ 0,rfl⟩
  | some A =>refine ⟨_,run_bytesToString w A 0 0 [] ?_,rfl⟩;simp [loadCells,loadCellsFrom]
 have some_:∀ (A:Addr) (len c:Nat) (ns:List Int),a.eval x = .slice (some A) len c->ns.length=len->(∀ j u,(ns.map (Value.int .u8))[j]?=some u->w.cell? (A.add j)=some u)->∃ v,(convert src dst (a.eval x)).run P w = .ok v w/\Va I σ (bl w) (.sc (.string (z91 ns))) v:=λA len c ns hA hl hc=>by rw [hA,run_convert_bytes_string w src dst el (some A) len c hs hel hd];have:=run_loadCells_list (P:=P) w A (ns.map (Value.int .u8)) hc;rw [length_map,hl] at this;exact ⟨_,run_bytesToString w A len c ns this,rfl⟩
 simp only [zi] at hr;split at hr
 ·rename_i k p off len hk;rw [hk] at hx;split at hr
  ·rename_i s ys hres;split at hr
   ·rename_i hcond;obtain ⟨rfl,hle⟩:=hcond;split at hr
    ·rename_i ns hns;cases hr;obtain ⟨hp,_⟩:=R.heap.place hres;unfold z2f at hp;simp only [Va] at hx;cases hL:σ k p with
     | none =>simp only [hL] at hp hx;subst hp;obtain ⟨rfl,rfl,A,hA⟩:=hx;simp only [List.drop_nil,List.take_nil,z48,Option.some.injEq] at hns;subst hns;exact zero A hA
     | some L =>
      simp only [hL] at hp hx;obtain ⟨q1,q2,cur,E,q3,q4,q5⟩:=hp;rw [if_pos (by rw [q1];exact (z83 hres).2)] at hx;obtain ⟨A,c,hv,f1,f2,f3⟩:=hx;have hlen:((ys.drop off).take len).length=len:=by rw [length_take,length_drop];omega
      have hE:=CeE.take _ _ _ len (CeE.drop ys 0 _ off q5);obtain ⟨b1,b2⟩:=zir (s:=1) _ _ _ _ hns hE;rw [hlen] at b1 b2;by_cases h0:len=0
      ·subst h0;have:ns=[]:=List.eq_nil_of_length_eq_zero b1;subst this;rw [hv];rw [run_convert_bytes_string w src dst el (some A) 0 c hs hel hd];refine ⟨_,run_bytesToString w A 0 c [] ?_,rfl⟩;simp [loadCells,loadCellsFrom]
      ·have:=f3 (.inl (by omega));subst this;refine some_ _ len c ns hv b1 λj u hj=>?_;rw [z2h,cell_of_row w L.b (off * L.s+j) cur E.t E.fr q3,q1,Nat.mul_one];rw [<- b2,getElem?_take] at hj;split at hj
       ·rw [getElem?_drop] at hj;simpa using hj
       ·cases hj
    ·cases hr
   ·cases hr
  ·cases hr
 ·rename_i s xs hk;rw [hk] at hx;split at hr
  ·rename_i hs1;subst hs1;split at hr
   ·rename_i ns hns;cases hr;obtain ⟨A0,c,hv,hc,hne⟩:=hx;by_cases hz:xs=[]
    ·subst hz;cases hns;rw [hv,run_convert_bytes_string w src dst el A0 _ c hs hel hd];cases A0 with
     | none=>exact ⟨_,none_ c,rfl⟩
     | some A =>refine ⟨_,run_bytesToString w A 0 c [] ?_,rfl⟩;simp [loadCells,loadCellsFrom]
    ·obtain ⟨A,cur,E,fr,rfl,hsp,hI,hB,hE⟩:=hne hz;obtain ⟨b1,b2⟩:=zis (s:=1) _ _ _ hns hE;obtain ⟨b,o,sp⟩:=A;simp only at hsp hB hE b2;subst hsp;refine some_ _ xs.length c ns hv b1 λj u hj=>?_;rw [z2h,cell_of_row w b (o+j) cur E fr hB];rw [<- b2,getElem?_take] at hj;split at hj
     ·rw [getElem?_drop] at hj;simpa using hj
     ·cases hj
   ·cases hr
  ·cases hr
 ·rename_i hk;rw [hk] at hx;cases hr;obtain ⟨A,hA⟩:=hx;exact zero A hA
 ·cases hr
theorem y48 (R:Rel I N σ e h a w){t:TypeId}{x:Operand}{lo hi:Option Operand}(ht:P.underlying t=some .string){av:AV}(hr:zi (ev e) (res h) (.sls x lo hi)=some av) :
  ∃ v,(Instr.sliceAt t (a.eval x) (lo.map a.eval) (hi.map a.eval) none).run P w = .ok v w/\Va I σ (bl w) av v:=by
 have hx:=zw R x;simp only [zi] at hr;split at hr
 ·rename_i s hk;rw [hk] at hx;split at hr
  ·rename_i l hh hb;cases hr;obtain ⟨h1,h2,h3⟩:=ziq (P:=P) (w:=w) (isSlice:=false) hb (Nat.le_refl _) (λx=>zw R x) (.inr rfl);rw [z6g hx];refine ⟨_,?_,rfl⟩;simp [Instr.sliceAt,Instr.slice,run_underlying ht,h1]
  ·cases hr
 ·cases hr
theorem zxa (R:Rel I N σ e h a w){t el:TypeId}{x:Operand}(ht:P.underlying t=some (.slice el)){n:Nat}(hn:szT P el=some n){av:AV}(hr:zi (ev e) (res h) (.slc0 x)=some av) :
  ∃ v,(Instr.sliceAt t (a.eval x) none (some (.int .i64 0)) (some (.int .i64 0))).run P w = .ok v w/\Va I σ (bl w) av v:=by
 have hx:=zw R x
 have key:∀ A m c,(Instr.sliceAt t (.slice A m c) none (some (.int .i64 0)) (some (.int .i64 0))).run P w = .ok (.slice A 0 0) w:=by intro A m c;simp [Instr.sliceAt,Instr.slice,run_underlying ht,Instr.sliceBounds,Instr.sliceBound,asIntOf,z25 hn]
 simp only [zi] at hr;split at hr
 ·rename_i k p off len hk;rw [hk] at hx;cases hr;obtain ⟨A,c,hv⟩:=Va.sl_slice hx;rw [hv];exact ⟨_,key _ _ _,_,rfl⟩
 ·rename_i s xs hk;rw [hk] at hx;cases hr;obtain ⟨A,c,hv,_⟩:=hx;rw [hv];exact ⟨_,key _ _ _,_,rfl⟩
 ·rename_i hk;rw [hk] at hx;cases hr;obtain ⟨A,hv⟩:=hx;rw [hv];exact ⟨_,key _ _ _,_,rfl⟩
 ·cases hr
theorem zpq (R:Rel I N σ e h a w){isMax:Bool}{x y:Operand}{av:AV}(hr:zi (ev e) (res h) (.mm isMax x y)=some av)(ts:Array TypeId)(ty:TypeId) :
  ∃ v,(if isMax then Builtin.max_ ts ty #[a.eval x,a.eval y] else Builtin.min_ ts ty #[a.eval x,a.eval y]).run P w = .ok v w/\Va I σ (bl w) av v:=by
 have hx:=zw R x;have hy:=zw R y;simp only [zi] at hr;split at hr
 ·rename_i k m k' n hu hv;rw [hu] at hx;rw [hv] at hy;split at hr
  ·rename_i hk;subst hk;cases hr;rw [z86 hx,z86 hy];refine ⟨_,?_,rfl⟩;cases isMax
   ·simp [Builtin.min_,Builtin.min2]
   ·simp [Builtin.max_,Builtin.max2]
  ·cases hr
 ·cases hr
end
section
variable {P:Program}{I:Nat->Prop}{N:Nat}[Dfs N]{σ:Pl}{w:World}{h:H}{e:Env}{a:Act}
theorem zf0 {t:TypeId}{q:Nat}(hq:z3q P t=some q)(em:Bool)(D:Nat)(v:Value):(Instr.checkKey em (D+1) t v).run P w = .ok () w:=by
 unfold z3q at hq;unfold Instr.checkKey;split at hq
 ·rename_i u hu;simp only [Sem.run_bind,run_underlying hu,Result.andThen_ok];cases v<;>rfl
 ·rename_i hu;simp only [Sem.run_bind,run_underlying hu,Result.andThen_ok];cases v<;>rfl
 ·rename_i hu;simp only [Sem.run_bind,run_underlying hu,Result.andThen_ok];cases v<;>rfl
 ·cases hq
theorem zf1 (em:Bool)(xs:List Value):∀ (d:Nat) (t:TypeId) (off:Nat) (pl:List (Nat×Nat)) (D:Nat) (v:Value) (m:Nat),z4x P d t off=some pl->szT P t=some m->z49 P t xs off v ->
   (∀ j,j<m->∃ u,xs[off+j]?=some u)->(Instr.checkKey em (D+d) t v).run P w = .ok () w
 | 0,_,_,_,_,_,_,h,_,_,_=>by simp [z4x] at h
 | d+1,t,off,pl,D,v,m,h,hm,lx,ex=>by
  cases hq:z3q P t with
  | some q=>exact zf0 hq em (D+d) v
  | none =>
   unfold z4x at h;unfold z49 at lx;simp only [hq] at h lx;split at h
   ·rename_i fs hu;split at h
    ·cases h
    ·simp only [hm] at h;obtain ⟨cx,rfl,hcx⟩:=lx;have hcx:=hcx m hm;rw [show D+(d+1)=(D+d)+1 by omega,Instr.checkKey];simp only [Sem.run_bind,run_underlying hu,Result.andThen_ok];rw [<- Array.forIn_toList];generalize fs.toList=l at h ⊢
     induction l generalizing pl with
     | nil=>simp
     | cons f l ih =>
      unfold zac at h;split at h
      ·cases h
      ·rename_i hname;split at h
       ·rename_i m' b x y hm' hb hx' hy';split at h
        ·rename_i hc;obtain ⟨hle,h0,hl⟩:=hc;obtain ⟨v,hv,lv⟩:=zfx (P:=P) (w:=w) hcx hm' hb hle h0 hl (λj hj=>by rw [Nat.add_assoc];exact ex _ (by omega));have p2:=zf1 em xs d f.type (off+f.offset) x D v m' hx' hm' lv (λj hj=>by rw [Nat.add_assoc];exact ex _ (by omega));simp only [List.forIn_cons,Sem.run_bind,hname,ne_eq,not_false_eq_true,if_true,hv,Result.andThen_ok,p2,Sem.run_pure];exact ih y hy'
        ·cases h
       ·cases h
   ·cases h
theorem zd3 {l:List Value}(h:l.length≠1):ofC l = .agg l.toArray:=by
 unfold ofC;split
 ·simp at h
 ·rfl
theorem zfu {n:Nat}{x:AV}{kc:List AV}{v:Value}(hk:z35 n x=some kc)(hl:kc.length=n)(hv:Va I σ (bl w) x v):∃ kcs,v=ofC kcs/\VaC I σ (bl w) kc kcs/\kcs.length=n:=by
 unfold z35 at hk;split at hk
 ·split at hk
  ·cases hk
  ·rename_i cs hn;cases hk;obtain ⟨c,rfl,hc⟩:=hv;have:=VaC.length _ _ hc;exact ⟨c.toList,by rw [zd3 (by omega)],hc,by omega⟩
 ·split at hk
  ·rename_i hone;cases hk;exact ⟨[v],rfl,⟨v,[],rfl,Va.one x v hone hv,hv,rfl⟩,by simpa using hl⟩
  ·cases hk
def zcl (nk:Nat):Els->List (List Value×List Value)->List MapEntry->Prop
 | [],[],[]=>True
 | x::xs,n::ns,e::es=>e.key=ofC n.1/\e.val=ofC n.2/\n.1.length=nk/\(∀ (c:Nat) (a:Value),x[c]?=some (.sc a)->(n.1++n.2)[c]?=some a)/\zcl nk xs ns es
 | _,_,_=>False
theorem zi9:∀ (ks:List Nat) (i:Nat) (X Y:List AV) (r:Bool),z17 X Y (z2p i ks)=some r->∀ j q,ks[j]?=some q->∃ a b r0,X[i+j]?=some (.sc a)/\Y[i+j]?=some (.sc b)/\zev q a b=some r0/\(r=true->r0=true)
 | [],i,X,Y,r,h,j,q,hj=>by simp at hj
 | q0::ks,i,X,Y,r,h,j,q,hj=>by
  unfold z2p z17 at h;split at h
  ·rename_i a b ha hb;split at h
   ·rename_i r1 r2 h1 h2;cases h;cases j with
    | zero =>simp only [List.getElem?_cons_zero,Option.some.injEq] at hj;subst hj;exact ⟨a,b,r1,ha,hb,h1,λhr=>by simpa using (Bool.and_eq_true_iff.1 hr).1⟩
    | succ j =>obtain ⟨a',b',r0,g1,g2,g3,g4⟩:=zi9 ks (i+1) X Y r2 h2 j q (by simpa using hj);exact ⟨a',b',r0,by rw [show i+(j+1)=i+1+j by omega];exact g1,by rw [show i+(j+1)=i+1+j by omega];exact g2,g3,λhr=>g4 (Bool.and_eq_true_iff.1 hr).2⟩
   ·cases h
  ·cases h
theorem zv4 {q:Nat}{a b:Value}(h:zev q a b=some true):a=b:=by
 unfold zev at h;split at h
 ·split at h
  ·rename_i k a k' b hk;subst hk;have h':a=b:=by simpa using h
   rw [h']
  ·cases h
 ·rename_i a b;have h':a=b:=by simpa using h
  rw [h']
 ·rename_i a b;have h':(a==b)=true:=Option.some.inj h;exact congrArg Value.string ((MapKept.bytes_beq a b).1 h')
 ·cases h
theorem ybd {ks:List Nat}{kc x:List AV}{kcs ek ev:List Value}(hX:∀ (i:Nat) (a:Value),kc[i]?=some (.sc a)->kcs[i]?=some a)(hY:∀ (c:Nat) (a:Value),x[c]?=some (.sc a)->(ek++ev)[c]?=some a)(h1:kcs.length=ks.length)(h2:ek.length=ks.length)
  (h:z17 kc x (z2p 0 ks)=some true):ek=kcs:=by
 apply ext_getElem?;intro j;by_cases hj:j<ks.length
 ·obtain ⟨a,b,r0,g1,g2,g3,g4⟩:=zi9 ks 0 kc x true h j _ (getElem?_eq_getElem hj);rw [Nat.zero_add] at g1 g2;have e1:=hX j a g1;have e2:=hY j b g2;rw [List.getElem?_append_left (by omega)] at e2;have h5:a=b:=zv4 (g3.trans (by rw [g4 rfl]));rw [e1,e2,h5]
 ·rw [getElem?_eq_none (by omega),getElem?_eq_none (by omega)]
theorem zuf {kt:TypeId}{q:Nat}(hq:z3q P kt=some q){kc x:List AV}{kcs ek ev:List Value}(hX:∀ (i:Nat) (a:Value),kc[i]?=some (.sc a)->kcs[i]?=some a)(hY:∀ (c:Nat) (a:Value),x[c]?=some (.sc a)->(ek++ev)[c]?=some a)
  (h1:kcs.length=1) (h2:ek.length=1) {r:Bool} (h:z17 kc x (z2p 0 [q])=some r):∃ d,P.underlying kt=some d/\Instr.sameNow d (ofC kcs) (ofC ek)=some r:=by
 unfold z2p z2p z17 at h;split at h
 ·rename_i a b ha hb;split at h
  ·rename_i r1 r2 g1 g2;simp only [z17,Option.some.injEq] at g2;subst g2;simp only [Bool.and_true,Option.some.injEq] at h;subst h;have e1:=hX _ _ ha;have e2:=hY _ _ hb;rw [List.getElem?_append_left (by omega)] at e2
   match kcs,ek,h1,h2 with
   | [u],[v],_,_ =>
    simp only [List.getElem?_cons_zero,Option.some.injEq] at e1 e2;subst e1 e2;simp only [ofC];unfold z3q at hq;unfold zev at g1;split at g1
    ·split at g1
     ·rename_i k a k' b hk;subst hk;split at hq
      ·rename_i u hu;exact ⟨_,hu,by simpa [Instr.sameNow] using g1⟩
      all_goals cases hq
     ·cases g1
    ·split at hq
     ·cases hq
     ·rename_i hu;exact ⟨_,hu,by simpa [Instr.sameNow] using g1⟩
     all_goals cases hq
    ·split at hq
     ·cases hq
     ·cases hq
     ·rename_i hu;exact ⟨_,hu,by simpa [Instr.sameNow] using g1⟩
     ·cases hq
    ·cases g1
  ·cases h
 ·cases h
def zaa (ks:List Nat)(kc:List AV)(xs:Els)(ents:List (List Value×List Value))(es:List MapEntry)(i:Nat)(run:Option (Nat×Value)):Option (Nat×List AV)->Prop
 | none=>run=none
 | some (n,x)=>∃ j ent e,n=i+j/\xs[j]?=some x/\ents[j]?=some ent/\es[j]?=some e/\e.key=ofC ent.1/\e.val=ofC ent.2/\run=some (n,e.val)/\z17 kc x (z2p 0 ks)=some true/\ent.1.length=ks.length/\(∀ (c:Nat) (a:Value),x[c]?=some (.sc a)->(ent.1++ent.2)[c]?=some a)
theorem zaa.step {ks:List Nat}{kc x0:List AV}{xs:Els}{n0:List Value×List Value}{ents:List (List Value×List Value)}{e0:MapEntry}{es:List MapEntry}{i:Nat}{run:Option (Nat×Value)}{r:Option (Nat×List AV)}(h:zaa ks kc xs ents es (i+1) run r):zaa ks kc (x0::xs) (n0::ents) (e0::es) i run r:=by
 cases r with
 | none=>exact h
 | some z =>obtain ⟨n,x⟩:=z;obtain ⟨j,ent,e,h1,h2,h3,h4,h5⟩:=h;exact ⟨j+1,ent,e,by omega,by simpa using h2,by simpa using h3,by simpa using h4,h5⟩
theorem zor {kt:TypeId}{q:Nat}(hq:z3q P kt=some q){d:TypeDesc}(hd:P.underlying kt=some d){kc:List AV}{kcs:List Value}(hX:∀ (i:Nat) (a:Value),kc[i]?=some (.sc a)->kcs[i]?=some a)(h1:kcs.length=1) :
  ∀ (xs:Els) (ents:List (List Value×List Value)) (es:List MapEntry) (i:Nat) (r:Option (Nat×List AV)),zcl 1 xs ents es->z4u [q] kc xs i=some r->∃ run,Instr.findNow d (ofC kcs) es i=some run/\zaa [q] kc xs ents es i run r
 | [],[],[],i,r,_,hf=>by cases hf;exact ⟨none,rfl,rfl⟩
 | x::xs,n::ns,e::es,i,r,hE,hf=>by
  obtain ⟨g1,g2,g3,g4,g5⟩:=hE;unfold z4u at hf;split at hf
  ·rename_i hc;cases hf;obtain ⟨d',hd',hs⟩:=zuf hq hX g4 h1 g3 hc;rw [hd] at hd';cases hd';exact ⟨some (i,e.val),by simp only [Instr.findNow,g1,hs],0,n,e,rfl,rfl,rfl,rfl,g1,g2,rfl,hc,g3,g4⟩
  ·rename_i hc;obtain ⟨d',hd',hs⟩:=zuf hq hX g4 h1 g3 hc;rw [hd] at hd';cases hd';obtain ⟨run,k1,k2⟩:=zor hq hd hX h1 xs ns es (i+1) r g5 hf;exact ⟨run,by simp only [Instr.findNow,g1,hs,k1],k2.step⟩
  ·cases hf
 | [],_::_,_,_,_,hE,_=>hE.elim
 | [],[],_::_,_,_,hE,_=>hE.elim
 | _::_,[],_,_,_,hE,_=>hE.elim
 | _::_,_::_,[],_,_,hE,_=>hE.elim
theorem zoq {kt:TypeId}(hl:z3q P kt=none){n:Nat}{ks:List Nat}(hp:z4x P 9 kt 0=some (z2p 0 ks))(hn:szT P kt=some n)(hks:ks.length=n)(hn1:n≠1){kc:List AV}{kcs:List Value}(hX:∀ (i:Nat) (a:Value),kc[i]?=some (.sc a)->kcs[i]?=some a)(h1:kcs.length=n) :
  ∀ (xs:Els) (ents:List (List Value×List Value)) (es:List MapEntry) (i:Nat) (r:Option (Nat×List AV)),zcl n xs ents es->z4u ks kc xs i=some r->∃ run,(Instr.findAsking kt (ofC kcs) es i).run P w = .ok run w/\zaa ks kc xs ents es i run r
 | [],[],[],i,r,_,hf=>by cases hf;exact ⟨none,by simp [Instr.findAsking],rfl⟩
 | x::xs,m::ns,e::es,i,r,hE,hf=>by
  obtain ⟨g1,g2,g3,g4,g5⟩:=hE
  have one:∀ b,z17 kc x (z2p 0 ks)=some b->(Op.equal kt (ofC kcs) e.key).run P w = .ok b w:=λb hc=>by
   rw [g1,zd3 (by omega),zd3 (by omega)]
   exact zdu (P:=P) (w:=w) kc x kcs (m.1++m.2) hX g4 9 kt 0 (z2p 0 ks) 9991 (.agg kcs.toArray) (.agg m.1.toArray) b n hp hn
     (by unfold z49;rw [hl];exact ⟨_,rfl,λn' hn' j _=>by simp⟩) (by unfold z49;rw [hl];exact ⟨_,rfl,λn' hn' j hj=>by rw [hn] at hn';cases hn';rw [Nat.zero_add,List.getElem?_append_left (by omega)];simp⟩)
     (λj hj=>by rw [Nat.zero_add];exact ⟨_,getElem?_eq_getElem (by omega)⟩) (λj hj=>by rw [Nat.zero_add];exact ⟨_,getElem?_eq_getElem (by rw [length_append];omega)⟩) hc
  unfold z4u at hf;split at hf
  ·rename_i hc;cases hf;exact ⟨some (i,e.val),by simp [Instr.findAsking,one _ hc],0,m,e,rfl,rfl,rfl,rfl,g1,g2,rfl,hc,by omega,g4⟩
  ·rename_i hc;obtain ⟨run,k1,k2⟩:=zoq hl hp hn hks hn1 hX h1 xs ns es (i+1) r g5 hf;exact ⟨run,by simp [Instr.findAsking,one _ hc,k1],k2.step⟩
  ·cases hf
 | [],_::_,_,_,_,hE,_=>hE.elim
 | [],[],_::_,_,_,hE,_=>hE.elim
 | _::_,[],_,_,_,hE,_=>hE.elim
 | _::_,_::_,[],_,_,hE,_=>hE.elim
theorem zpj {kt:TypeId}{ks:List Nat}(hk:zi3 P kt=some ks){kc:List AV}{kcs:List Value}(hX:∀ (i:Nat) (a:Value),kc[i]?=some (.sc a)->kcs[i]?=some a)(h1:kcs.length=ks.length) :
  (∀ em,(Instr.checkKey em 10000 kt (ofC kcs)).run P w = .ok () w) /\
  ∀ (xs:Els) (ents:List (List Value×List Value)) (es:List MapEntry) (r:Option (Nat×List AV)),zcl ks.length xs ents es->z4u ks kc xs 0=some r->∃ run,(Instr.findKey kt (ofC kcs) es).run P w = .ok run w/\zaa ks kc xs ents es 0 run r:=by
 unfold zi3 at hk;split at hk
 ·rename_i q hq;cases hk;refine ⟨λem=>zf0 hq em 9999 _,λxs ents es r hE hf=>?_⟩
  obtain ⟨d,hd⟩:∃ d,P.underlying kt=some d:=by unfold z3q at hq;split at hq<;>first | exact ⟨_,by assumption⟩ | cases hq
  obtain ⟨run,k1,k2⟩:=zor hq hd hX h1 xs ents es 0 r hE hf;exact ⟨run,by simp only [Instr.findKey,Sem.run_bind,run_underlying hd,Result.andThen_ok,k1,Sem.run_pure],k2⟩
 ·rename_i hl;split at hk
  ·rename_i pl n hp hn;split at hk
   ·rename_i hc;cases hk;obtain ⟨c1,c2,c3⟩:=hc;have hlen:(pl.map Prod.snd).length=n:=by simpa using c2
    rw [c1] at hp;refine ⟨λem=>?_,λxs ents es r hE hf=>?_⟩
    ·rw [zd3 (by omega)];exact zf1 em kcs 9 kt 0 _ 9991 (.agg kcs.toArray) n hp hn (by unfold z49;rw [hl];exact ⟨_,rfl,λn' hn' j _=>by simp⟩) (λj hj=>by rw [Nat.zero_add];exact ⟨_,getElem?_eq_getElem (by omega)⟩)
    ·obtain ⟨run,k1,k2⟩:=zoq (w:=w) hl hp hn hlen c3 hX (by omega) xs ents es 0 r (by rw [<- hlen];exact hE) hf;refine ⟨run,?_,k2⟩
     obtain ⟨d,hd,hs⟩:∃ d,P.underlying kt=some d/\∀ a b,Instr.sameNow d a b=none:=by
      have hp':=hp;unfold z4x at hp';simp only [hl] at hp';split at hp'
      ·rename_i fs hu;exact ⟨_,hu,λa b=>rfl⟩
      ·cases hp'
     have hnow:Instr.findNow d (ofC kcs) es 0=none\/es=[]:=by cases es with | nil=>exact .inr rfl | cons e es=>left;simp only [Instr.findNow,hs]
     rcases hnow with h | rfl
     ·simp only [Instr.findKey,Sem.run_bind,run_underlying hd,Result.andThen_ok,h,k1]
     ·simp only [Instr.findKey,Sem.run_bind,run_underlying hd,Result.andThen_ok,Instr.findNow,Sem.run_pure];simpa [Instr.findAsking] using k1
   ·cases hk
  ·cases hk
theorem zhs {s:Nat}:∀ l:List (List Value×List Value),(∀ x∈l,x.1.length+x.2.length=s)->(z2z l).length=l.length * s
 | [],_=>by simp [z2z]
 | x::l,hl=>by have ih:=zhs l (λy hy=>hl y (by simp [hy]));have h0:=hl x (by simp);simp only [z2z,flatMap_cons,length_append,length_cons] at ih ⊢;rw [ih,Nat.add_mul,Nat.one_mul];omega
theorem zre {nk s k:Nat}{p:Path}:∀ (xs:Els) (i:Nat) (ents:List (List Value×List Value)) (es:List MapEntry),CeE I σ (bl w) k p i s xs (z2z ents)->xs.length=ents.length->(∀ x∈ents,x.1.length=nk/\x.1.length+x.2.length=s)->es.map (λe=>(e.key,e.val))=ents.map (λx=>(ofC x.1,ofC x.2))->zcl nk xs ents es
 | [],_,[],[],_,_,_,_=>trivial
 | x::xs,i,n::ns,e::es,hE,hl,hn,he=>by
  have hn0:=hn n (by simp);simp only [map_cons,List.cons.injEq,Prod.mk.injEq] at he
  have e1:(z2z (n::ns)).take s=n.1++n.2:=by simp only [z2z,flatMap_cons];rw [List.take_left' (by rw [length_append];omega)]
  have e2:(z2z (n::ns)).drop s=z2z ns:=by simp only [z2z,flatMap_cons];rw [drop_left' (by rw [length_append];omega)]
  obtain ⟨h1,h2,h3⟩:=hE;rw [e1] at h2;rw [e2] at h3;refine ⟨he.1.1,he.1.2,hn0.1,λc a hc=>?_,zre xs (i+1) ns es h3 (by simpa using hl) (λy hy=>hn y (by simp [hy])) he.2⟩;obtain ⟨v,q1,q2⟩:=CeC.get x 0 _ h2 c _ hc;rw [q1,q2.1]
 | [],_,_::_,_,_,hl,_,_=>by simp at hl
 | _::_,_,[],_,_,hl,_,_=>by simp at hl
 | [],_,[],_::_,_,_,_,he=>by simp at he
 | _::_,_,_::_,[],_,_,_,he=>by simp at he
theorem zrd {s nk nv:Nat}(hs:s=z4h nk nv)(hb:nk+nv<1000000)(h0:0<nk){cur:Array Value}{o:Obj}(hM:zfb o cur s){k:Nat}{p:Path}{xs:Els}(hsz:cur.size=xs.length * esz s)(hE:CeE I σ (bl w) k p 0 (esz s) xs cur.toList) :
  ∃ es clk ents,o = .map es clk/\zcl nk xs ents es.toList/\ents.length=xs.length/\cur.toList=z2z ents/\(∀ x∈ents,x.1.length=nk/\x.1.length+x.2.length=esz s)/\es.toList.map (λe=>(e.key,e.val))=ents.map (λx=>(ofC x.1,ofC x.2)):=by
 obtain ⟨es,clk,ents,h1,h2,h3,h4⟩:=hM.ex;have hnk:s / 1000000=nk+1:=by subst hs;unfold z4h;omega
 have hez:esz s=nk+nv:=by subst hs;unfold z4h esz;omega
 have h3':∀ x∈ents,x.1.length=nk/\x.1.length+x.2.length=esz s:=λx hx=>by have:=h3 x hx;rw [hnk] at this;exact ⟨by omega,this.2⟩
 have e1:=zhs ents (λx hx=>(h3' x hx).2);rw [<- h4,Array.length_toList,hsz] at e1;have hlen:ents.length=xs.length:=(Nat.mul_right_cancel (by omega) e1).symm;rw [h4] at hE;exact ⟨es,clk,ents,h1,zre xs 0 ents es.toList hE hlen.symm h3' h2,hlen,h4,h3',h2⟩
theorem znz {s:Nat}:∀ (l:List (List Value×List Value)) (j:Nat) (n:List Value×List Value),(∀ x∈l,x.1.length+x.2.length=s)->l[j]?=some n->((z2z l).drop (j * s)).take s=n.1++n.2
 | [],_,_,_,h=>by simp at h
 | x::l,0,n,hl,h=>by simp only [List.getElem?_cons_zero,Option.some.injEq] at h;subst h;simp only [z2z,flatMap_cons,Nat.zero_mul,drop_zero];rw [List.take_left' (by rw [length_append];exact hl _ (by simp))]
 | x::l,j+1,n,hl,h=>by
  have ih:=znz l j n (λy hy=>hl y (by simp [hy])) (by simpa using h)
  have e:(z2z (x::l)).drop ((j+1) * s)=(z2z l).drop (j * s):=by simp only [z2z,flatMap_cons];rw [show (j+1) * s=s+j * s by rw [Nat.add_mul,Nat.one_mul,Nat.add_comm],<- drop_drop,drop_left' (by rw [length_append];exact hl _ (by simp))]
  rw [e];exact ih
theorem znw:∀ (l:List Value),l.all Value.oneCell'=true->VaC I σ (bl w) (l.map cval) l
 | [],_=>rfl
 | v::l,h=>by simp only [all_cons,and_eq_true] at h;exact ⟨v,l,rfl,h.1,zgl v,znw l h.2⟩
theorem y3l (R:Rel I N σ e h a w){t:TypeId}{x key:Operand}{ok agg:Bool}{ks:List Nat}{nv:Nat}{z:Value}(ht:zi6 P t=some (ks,nv,agg,z)){av:AV}(hr:zi (ev e) (res h) (.lku nv ks agg ok z.cells.toList x key)=some av) :
  ∃ v,(Instr.lookup t (a.eval x) (a.eval key) ok).run P w = .ok v w/\Va I σ (bl w) av v:=by
 have hx:=zw R x;have hy:=zw R key;unfold zi6 at ht;split at ht
 ·rename_i kt et hu;split at ht
  ·rename_i ks' b nv' z' hk hb hn hz;split at ht
   ·rename_i hc;cases ht;obtain ⟨c0,c1,c2,c3,c4,c5⟩:=hc;simp only [zi,zpm] at hr;split at hr
    ·rename_i k p kc hm hkc;rw [hm] at hx;obtain ⟨L,hL,hLs,hxv⟩:=hx;cases hres:(res h).m k p with
     | none=>simp only [hres] at hr;cases hr
     | some q =>
      obtain ⟨s,xs⟩:=q;simp only [hres] at hr;split at hr
      ·rename_i hs;obtain ⟨hs,hkl⟩:=hs;obtain ⟨kcs,e1,e2,e3⟩:=zfu (w:=w) hkc hkl hy;obtain ⟨g1,g2⟩:=zpj (P:=P) (w:=w) hk (VaC.sc kc kcs e2) e3;obtain ⟨hA,hnm⟩:=y3x hres;obtain ⟨hp,-⟩:=R.heap.placeA hA;unfold z39 at hp;simp only [hL] at hp;obtain ⟨f1,f2,cur,E,f3,f4,f5⟩:=hp;have hM:zfb E.obj cur s:=by have:=E.ok;rwa [if_neg hnm] at this
       have hroom:zb7 L xs s=xs.length:=if_neg hnm;rw [hroom] at f4;obtain ⟨es,clk,ents,q1,q2,q3,q4,q5,q6⟩:=zrd hs c1 c0 hM f4 f5;have hheap:w.heap[L.b]?=some (.map es clk):=by rw [<- q1];exact f3
       have hzv:(zeroValue et).run P w = .ok z w:=by cases hi:P.info? et with | none=>simp [hi] at hz | some i=>simp [hi] at hz;simp [zeroValue,typeInfo,hi,hz]
       have fin:∀ (bb:Bool) (cs:List AV) (us:List Value),VaC I σ (bl w) cs us->us.length=nv->zei agg ok bb cs=some av->∀ v,v=ofC us->Va I σ (bl w) av (if ok then .tuple #[v,.bool bb] else v):=by
        intro bb cs us hv hl hlk v hvv;unfold zei at hlk;split at hlk
        ·rename_i v' hld
         have hva:Va I σ (bl w) v' v:=by
          unfold z44 at hld;split at hld
          ·cases hld;have:nv≠1:=by simpa using c3
           rw [hvv,zd3 (by omega)];exact ⟨_,rfl,by simpa using hv⟩
          ·cases hld;obtain ⟨u,cs',rfl,_,h1,h2⟩:=hv;simp only [VaC] at h2;subst h2;rw [hvv];exact h1
          ·cases hld
         cases ok with
         | true =>simp only [if_true,Option.some.injEq] at hlk;subst hlk;exact ⟨_,rfl,_,_,rfl,hva,_,_,rfl,rfl,rfl⟩
         | false =>simp only [false_eq_true,if_false,Option.some.injEq] at hlk ⊢;rw [<- hlk];exact hva
        ·cases hlk
       have run:∀ r,(Instr.findKey kt (ofC kcs) es.toList).run P w = .ok r w->(Instr.lookup t (a.eval x) (a.eval key) ok).run P w = .ok (let q:Value×Bool:=match r with | some (_,v)=>(v,true) | none=>(z,false);if ok then .tuple #[q.1,.bool q.2] else q.1) w:=by intro r hr;rw [hxv,e1];cases r with | none=>simp [Instr.lookup,run_underlying hu,MapKept.run_getObj_map hheap,g1,hr,hzv,Result.andThen] | some q=>simp [Instr.lookup,run_underlying hu,MapKept.run_getObj_map hheap,g1,hr,Result.andThen]
       split at hr
       ·rename_i i c hf;obtain ⟨r,k1,k2⟩:=g2 xs ents es.toList _ q2 hf;obtain ⟨j,ent,en,m1,m2,m3,m4,m5,m6,m7,m8,m9,m10⟩:=k2;rw [Nat.zero_add] at m1;subst m1;refine ⟨_,run _ k1,?_⟩;rw [m7];simp only;have hlen:=q5 ent (List.mem_of_getElem? m3);have hmm:esz (z4h ks.length nv)=ks.length+nv:=by unfold z4h esz;omega
        rw [hs] at hlen;obtain ⟨d1,d2⟩:=CeE.get xs 0 _ f5 _ c m2
        have hcell:(cur.toList.drop (i * esz s)).take (esz s)=ent.1++ent.2:=by rw [q4];exact znz ents i ent (λy hy=>(q5 y hy).2) m3
        rw [hcell] at d2;have d3:=CeC.part c 0 _ ks.length (ks.length+nv) d2;rw [drop_left' m9,Nat.zero_add] at d3;refine fin true _ ent.2 ?_ (by omega) hr _ m6;have d4:=CeC.va _ _ _ d3;have hl1:c.length=ks.length+nv:=by rw [d1,hs,hmm]
        have hl2:ent.2.length=nv:=by omega
        rw [take_of_length_le (by rw [length_drop];omega),take_of_length_le (by omega)] at d4;rw [Nat.zero_add] at d4;exact d4
       ·rename_i hf;obtain ⟨r,k1,k2⟩:=g2 xs ents es.toList _ q2 hf;cases k2;refine ⟨_,run _ k1,?_⟩;simp only;refine fin false _ z.cells.toList ?_ (by rw [<- c2];simp) hr _ ?_
        ·exact znw _ c5
        ·have hz1:z.cells.size=nv:=c2;cases z with
         | agg cs =>
          have:nv≠1:=by
           intro hn1;have h4:true = !(nv==1):=by rw [<- c3];exact c4
           simp [hn1] at h4
          rw [zd3 (by rw [Array.length_toList];omega)];rfl
         | _=>rfl
       ·cases hr
      ·cases hr
    ·cases hr
   ·cases ht
  ·cases ht
 ·cases ht
end
section
variable {P:Program}{I:Nat->Prop}{N:Nat}[Dfs N]{σ:Pl}{w:World}{h:H}{e:Env}{a:Act}
theorem zfy {fs:Array Field}:∀ (ps:List (Nat×Operand)) (l:List (Nat×Nat×Operand)),zad P fs ps=some l->ps.length=l.length /\
  ∀ (j:Nat) (q:Nat×Operand) (q':Nat×Nat×Operand),ps[j]?=some q->l[j]?=some q'->(∃ f,fs[q.1]?=some f/\f.offset=q'.1/\szT P f.type=some q'.2.1)/\q.2=q'.2.2
 | [],l,h=>by simp only [zad,Option.some.injEq] at h;subst h;exact ⟨rfl,λj q q' h=>by simp at h⟩
 | (i,x)::ps,l,h=>by
  unfold zad at h;split at h
  ·rename_i f r hf hr;split at h
   ·rename_i n hn;cases h;obtain ⟨h1,h2⟩:=zfy ps r hr;refine ⟨by simp [h1],λj q q' hq hq'=>?_⟩;cases j with
    | zero =>simp only [List.getElem?_cons_zero,Option.some.injEq] at hq hq';subst hq hq';exact ⟨⟨f,hf,rfl,hn⟩,rfl⟩
    | succ j=>exact h2 j q q' (by simpa using hq) (by simpa using hq')
   ·cases h
  ·cases h
theorem zqs {t:TypeId}{z:Value}(hz:z.cells.toList.all Value.oneCell'=true):VaC I σ (bl w) (z.cells.toList.map cval) z.cells.toList :=
 VaC.consts _ (λv hv=>all_eq_true.1 hz v hv)
theorem zbc {t:TypeId}{z:Value}(h:(P.info? t).bind (·.zero)=some z):(zeroValue t).run P w = .ok z w:=by
 cases hi:P.info? t with
 | none=>simp [hi] at h
 | some i =>simp only [hi,Option.bind_some] at h;simp [zeroValue,typeInfo,hi,h]
theorem zwx (fs:Array Field)(hsz:∀ f∈fs,∃ n,szT P f.type=some n):(fs.mapM λf=>do pure (f.offset,<- Go.sizeOf f.type):Sem (Array (Nat×Nat))).run P w = .ok (fs.map λf=>(f.offset,P.cellsOf f.type)) w:=by
 rw [Array.mapM_eq_mapM_toList]
 have:∀ (l:List Field),(∀ f∈l,∃ n,szT P f.type=some n)->(l.mapM λf=>do pure (f.offset,<- Go.sizeOf f.type):Sem (List (Nat×Nat))).run P w = .ok (l.map λf=>(f.offset,P.cellsOf f.type)) w:=by
  intro l
  induction l with
  | nil=>intro _;simp
  | cons f l ih =>
   intro hl;obtain ⟨n,hn⟩:=hl f (by simp)
   have hn':P.cellsOf f.type=n:=by unfold szT at hn;simp [Program.cellsOf,hn]
   simp only [List.mapM_cons,Sem.run_bind,z25 hn,Result.andThen_ok,Sem.run_pure,ih (λf hf=>hl f (by simp [hf])),map_cons,hn']
 simp only [Sem.run_map,this fs.toList (λf hf=>hsz f (by simpa using hf)),Result.andThen_ok];congr 1;apply Array.ext';simp
theorem znp (R:Rel I N σ e h a w){t:TypeId}{fs:Array Field}{parts:Array (Nat×Operand)}{z:Value}{l:List (Nat×Nat×Operand)}(ht:P.underlying t=some (.struct fs))(hz:(P.info? t).bind (·.zero)=some z)
  (h1:z.cells.toList.all Value.oneCell'=true) (hsz:∀ f∈fs,∃ n,szT P f.type=some n) (hl:zad P fs parts.toList=some l) {av:AV} (hr:zi (ev e) (res h) (.build z.cells.toList l)=some av) :
  ∃ v,(Instr.build t (parts.map λ(i,x)=>(i,a.eval x))).run P w = .ok v w/\Va I σ (bl w) av v:=by
 simp only [zi] at hr;split at hr
 ·rename_i cs hc;cases hr;obtain ⟨hlen,hp⟩:=zfy _ _ hl
  obtain ⟨cells',q1,q2⟩:=zdy (w:=w) (λi=>(fs.map λf=>(f.offset,P.cellsOf f.type))[i]?) a.eval (ev e) (λx=>zw R x) parts.toList l (z.cells.toList.map cval) z.cells cs hlen (λj q q' hq hq'=>by
   obtain ⟨⟨f,hf,ho,hn⟩,hx⟩:=hp j q q' hq hq';refine ⟨?_,hx⟩;have:P.cellsOf f.type=q'.2.1:=by unfold szT at hn;simp [Program.cellsOf,hn]
   simp [hf,ho,this]) (zqs (t:=t) h1) hc
  refine ⟨.agg cells',?_,cells',rfl,q2⟩;have e1:(parts.map λ(x:Nat×Operand)=>(x.1,a.eval x.2)).toList=parts.toList.map λ(x:Nat×Operand)=>(x.1,a.eval x.2):=by simp
  simp only [Instr.build,Sem.run_bind,zbc hz,run_underlying ht,Result.andThen_ok,zwx fs hsz,e1,q1,Sem.run_pure]
 ·cases hr
theorem zqw (R:Rel I N σ e h a w){t el:TypeId}{n len:Nat}{parts:Array (Nat×Operand)}{z:Value}(ht:P.underlying t=some (.array len el))(hn:szT P el=some n)(hz:(P.info? t).bind (·.zero)=some z)
  (h1:z.cells.toList.all Value.oneCell'=true) {av:AV} (hr:zi (ev e) (res h) (.build z.cells.toList (parts.toList.map λ(i,x)=>(i * n,n,x)))=some av) :
  ∃ v,(Instr.build t (parts.map λ(i,x)=>(i,a.eval x))).run P w = .ok v w/\Va I σ (bl w) av v:=by
 simp only [zi] at hr;split at hr
 ·rename_i cs hc;cases hr
  obtain ⟨cells',q1,q2⟩:=zdy (w:=w) (λi=>some (i * n,n)) a.eval (ev e) (λx=>zw R x) parts.toList (parts.toList.map λ(i,x)=>(i * n,n,x)) (z.cells.toList.map cval) z.cells cs (by simp) (λj q q' hq hq'=>by simp only [getElem?_map,hq,map_some,Option.some.injEq] at hq';subst hq';exact ⟨rfl,rfl⟩) (zqs (t:=t) h1) hc
  refine ⟨.agg cells',?_,cells',rfl,q2⟩;have e1:(parts.map λ(x:Nat×Operand)=>(x.1,a.eval x.2)).toList=parts.toList.map λ(x:Nat×Operand)=>(x.1,a.eval x.2):=by simp
  simp only [Instr.build,Sem.run_bind,zbc hz,run_underlying ht,Result.andThen_ok,z25 hn,e1,q1,Sem.run_pure]
 ·cases hr
def y3p (P:Program)(t:TypeId):Bool :=
 match P.underlying t,(P.info? t).bind (·.zero) with
 | some (.struct fs),some z=>z.cells.toList.all Value.oneCell'&&fs.toList.all λf=>(szT P f.type).isSome
 | some (.array _ _),some z=>z.cells.toList.all Value.oneCell'
 | _,_=>false
def zn7 (P:Program)(o:Oper):Option IB :=
 match o.op with
 | .build t _=>if y3p P t then ziy P o else none
 | _=>ziy P o
theorem zib (R:Rel I N σ e h a w){o:Oper}{ib:IB}(hc:zn7 P o=some ib){av:AV}(hr:zi (ev e) (res h) ib=some av):∃ v,(execOp a.eval o).run P w = .ok (.value v) w/\Va I σ (bl w) av v:=by
 have fin:∀ {s:Sem Value},(∃ v,s.run P w = .ok v w/\Va I σ (bl w) av v)->∃ v,(do pure (Next.value (<- s)):Sem Next).run P w = .ok (.value v) w/\Va I σ (bl w) av v:=by rintro s ⟨v,h1,h2⟩;exact ⟨v,by simp only [Sem.run_bind,h1,Result.andThen_ok,Sem.run_pure],h2⟩
 unfold zn7 at hc;split at hc
 ·
  rename_i t ps ho;split at hc
  ·rename_i hok;unfold ziy at hc;simp only [ho] at hc;unfold y3p at hok;simp only [execOp,ho];apply fin;split at hc
   ·rename_i fs z hu hz;simp only [hu,hz,and_eq_true] at hok;split at hc
    ·rename_i l hl;cases hc
     exact znp R hu hz hok.1 (λf hf=>by have:=all_eq_true.1 hok.2 f (by simpa using hf);exact Option.isSome_iff_exists.1 this) hl hr
    ·cases hc
   ·rename_i len el z hu hz;simp only [hu,hz] at hok;split at hc
    ·rename_i n hn;cases hc;exact zqw R hu hn hz hok hr
    ·cases hc
   ·cases hc
  ·cases hc
 ·rename_i hno;unfold ziy at hc;split at hc
  ·rename_i t x key ok ho;simp only [execOp,ho];apply fin;split at hc
   ·rename_i ks nv b z hm;cases hc;exact y3l R hm hr
   ·cases hc
  ·rename_i x ho;cases hc;simp only [execOp,ho];have:=zw R x;simp only [zi] at hr;rw [zd2 hr] at this;exact ⟨_,rfl,this⟩
  ·rename_i x ho;cases hc;simp only [execOp,ho];have:=zw R x;simp only [zi] at hr;rw [zd2 hr] at this;exact ⟨_,rfl,this⟩
  ·rename_i c x y ho;cases hc;simp only [execOp,ho];have hc:=zw R c;simp only [zi] at hr;split at hr
   ·rename_i t ht;rw [ht] at hc;rw [z6g hc];simp only [asBool,Sem.run_bind,Sem.run_pure,Result.andThen_ok];cases t
    ·have:=zw R y;simp only [false_eq_true,if_false] at hr ⊢;rw [zd2 hr] at this;exact ⟨_,rfl,this⟩
    ·have:=zw R x;simp only [if_true] at hr ⊢;rw [zd2 hr] at this;exact ⟨_,rfl,this⟩
   ·cases hr
  ·rename_i op t x y t' ho;simp only [execOp,ho];apply fin;split at hc
   ·cases hc;exact zlf R hr
   ·cases hc;exact zlf R hr
   ·rename_i hu;split at hc
    ·cases hc;exact zle (neg:=false) R hu hr
    ·cases hc;exact zle (neg:=true) R hu hr
    ·cases hc
   ·rename_i fs hu;have hl:z3q P t=none:=by simp [z3q,hu]
    split at hc
    ·cases hc
    ·rename_i hg;split at hc
     ·rename_i pl n hp hn;cases hc;exact zlj (neg:=false) R (by simpa using hg) hp hl hn hr
     ·rename_i pl n hp hn;cases hc;exact zlj (neg:=true) R (by simpa using hg) hp hl hn hr
     ·cases hc
   ·cases hc
  ·rename_i op t x ho;cases hc;simp only [execOp,ho];apply fin;have hx:=zw R x;simp only [zi] at hr;split at hr
   ·rename_i b hb;rw [hb] at hx;cases hr;rw [z6g hx];exact ⟨_,rfl,rfl⟩
   ·rename_i k n hb;rw [hb] at hx;cases hr;rw [z6g hx];exact ⟨_,rfl,rfl⟩
   ·rename_i k n hb;rw [hb] at hx;cases hr;rw [z6g hx];exact ⟨_,rfl,rfl⟩
   ·cases hr
  ·rename_i src dst x ho;simp only [execOp,ho];apply fin;split at hc
   ·rename_i k1 k2 hu1 hu2;cases hc;have hx:=zw R x;simp only [zi] at hr;split at hr
    ·rename_i k n hb;rw [hb] at hx;cases hr;rw [z6g hx];refine ⟨_,?_,rfl⟩;simp [convert,run_underlying hu1,run_underlying hu2,Conv.intToInt]
    ·cases hr
   ·rename_i el hu1 hu2;split at hc
    ·rename_i hel;cases hc;exact zxs R hu1 hel hu2 hr
    ·cases hc
   ·cases hc
  ·rename_i s x f ho;simp only [execOp,ho];apply fin;split at hc
   ·rename_i fs hu;split at hc
    ·rename_i fd hf;split at hc
     ·rename_i n hn;split at hc
      ·cases hc
      ·rename_i h0;cases hc;exact zyd R hu hf hn h0 hr
     ·cases hc
    ·cases hc
   ·cases hc
  ·rename_i t x i ho;simp only [execOp,ho];apply fin;split at hc
   ·rename_i el hu;split at hc
    ·rename_i n hn;cases hc;exact y38 R hu hn hr
    ·cases hc
   ·rename_i len el hu;split at hc
    ·rename_i n hn;cases hc;exact zxo R hu hn hr
    ·cases hc
   ·cases hc
  ·rename_i t x ho;simp only [execOp,ho];apply fin;split at hc
   ·rename_i b n hb hn;cases hc;exact zjt R hb hn hr
   ·cases hc
  ·rename_i t x f ho;simp only [execOp,ho];apply fin;split at hc
   ·rename_i fs hu;split at hc
    ·rename_i fd hf;split at hc
     ·rename_i b n hb hn;cases hc;exact zyf R hu hf hn hb hr
     ·cases hc
    ·cases hc
   ·cases hc
  ·rename_i t x i ho;simp only [execOp,ho];apply fin;split at hc
   ·rename_i hu;cases hc;exact y3a R hu hr
   ·rename_i len el hu;split at hc
    ·rename_i b n hb hn;cases hc;exact y39 R hu hn hb hr
    ·cases hc
   ·cases hc
  ·rename_i args ts ho;split at hc
   ·rename_i x t hx ht;have e1:args = #[x]:=by apply Array.ext';simpa using hx
    have e2:ts = #[t]:=by apply Array.ext';simpa using ht
    subst e1 e2;simp only [execOp,ho,resolve,invoke,builtin,Sem.run_bind,Sem.run_pure,Result.andThen_ok]
    have fin2:∀ {s:Sem Value},(∃ v,s.run P w = .ok v w/\Va I σ (bl w) av v)->∃ v,(s.run P w).andThen (λa w'=>Result.ok (Next.value a) w') = .ok (.value v) w/\Va I σ (bl w) av v:=by rintro s ⟨v,h1,h2⟩;exact ⟨v,by rw [h1];rfl,h2⟩
    split at hc
    ·rename_i el hu;cases hc;exact fin2 (by simpa using y3g (ty:=o.type) R hu hr)
    ·rename_i hu;cases hc;exact fin2 (by simpa using zwo (ty:=o.type) R hu hr)
    ·cases hc
   ·cases hc
  ·rename_i args ts ho;split at hc
   ·rename_i x y hx;cases hc;have e1:args = #[x,y]:=by apply Array.ext';simpa using hx
    subst e1;simp only [execOp,ho,resolve,invoke,builtin,Sem.run_bind,Sem.run_pure,Result.andThen_ok];obtain ⟨v,h1,h2⟩:=zpq R hr ts o.type;exact ⟨v,by simp at h1 ⊢;rw [h1];rfl,h2⟩
   ·cases hc
  ·rename_i args ts ho;split at hc
   ·rename_i x y hx;cases hc;have e1:args = #[x,y]:=by apply Array.ext';simpa using hx
    subst e1;simp only [execOp,ho,resolve,invoke,builtin,Sem.run_bind,Sem.run_pure,Result.andThen_ok];obtain ⟨v,h1,h2⟩:=zpq R hr ts o.type;exact ⟨v,by simp at h1 ⊢;rw [h1];rfl,h2⟩
   ·cases hc
  ·rename_i x n ho;cases hc;simp only [execOp,ho];apply fin;have hx:=zw R x;simp only [zi] at hr;split at hr
   ·rename_i vs hv;rw [hv] at hx;split at hr
    ·rename_i y hy;obtain ⟨t,ht,hl⟩:=hx;obtain ⟨v,h1,h2⟩:=VaL.get vs _ hl n y hy;rw [zd2 hr] at h2;refine ⟨v,?_,h2⟩;rw [ht];simp only [Array.getElem?_toList] at h1;simp [Instr.extract,h1]
    ·cases hr
   ·cases hr
  ·rename_i x ho;cases hc;simp only [execOp,ho];have hx:=zw R x;simp only [zi] at hr;split at hr
   ·rename_i k p i c hk;rw [hk] at hx;cases hr;have hx':=hx;obtain ⟨L,_,hv⟩:=hx';exact ⟨_,by rw [hv];rfl,hv ▸ hx⟩
   ·rename_i s xs i c hk;rw [hk] at hx;cases hr;have hx':=hx;obtain ⟨A,cur,E,fr,hv,_⟩:=hx';exact ⟨_,by rw [hv];rfl,hv ▸ hx⟩
   ·rename_i b x c hk;rw [hk] at hx;cases hr;have hx':=hx;obtain ⟨hv,_⟩:=hx';exact ⟨_,by rw [hv];rfl,hv ▸ hx⟩
   ·rename_i f caps hk;rw [hk] at hx;cases hr;have hx':=hx;obtain ⟨c,hv,_⟩:=hx';exact ⟨_,by rw [hv];rfl,hv ▸ hx⟩
   ·cases hr
  ·rename_i t x lo hi mx ho;simp only [execOp,ho];apply fin;split at hc
   ·rename_i el hu;split at hc
    ·rename_i n hn;cases hc;exact y47 R hu hn hr
    ·cases hc
   ·rename_i el hu;split at hc
    ·rename_i n hn;cases hc;exact zxa R hu hn hr
    ·cases hc
   ·rename_i hu;cases hc;exact y48 R hu hr
   ·cases hc
  ·rename_i t ps ho;exact (hno _ _ ho).elim
  ·rename_i f first caps ho
   split at hc
   ·rename_i h0;cases hc;simp only [execOp,ho];apply fin;simp only [zi] at hr;split at hr
    case isFalse=>cases hr
    cases hr;refine ⟨_,rfl,caps.map a.eval,?_,?_⟩
    ·congr 1;apply Array.ext';have:first = #[]:=Array.eq_empty_of_size_eq_zero h0
     simp [this]
    ·have:=VaL.map (I:=I) (σ:=σ) (B:=bl w) (ρ:=a.eval) (f:=ev e) (λx=>zw R x) caps.toList;simpa using this
   ·cases hc
  ·cases hc
end
def z41 (h:H):AV->Option (AV×H)
 | .sc u=>if u.oneCell' then some (.sc u,h) else none
 | .zs=>some (.zs,h)
 | .im s xs=>some (.im s xs,h)
 | .pp (.xp b _ c)=>some (.sc (.pointer (some ⟨b,c,none⟩)),h)
 | .pp (.mr k [])=>match z6 h k with
  | some r=>if MB<=r.s then some (.ow r.s r.xs,zc h k) else none
  | none=>none
 | .sl k p off len =>
  if p=[]/\off=0 then
   match z6 h k with
   | some r=>if len<=r.xs.length then some (.ow r.s (r.xs.take len),zc h k) else none
   | none=>none
  else none
 | _=>none
def z3s:H->List AV->Option (List AV×H)
 | h,[]=>some ([],h)
 | h,a::as =>
  match z41 h a with
  | some (a',h1) =>
   match z3s h1 as with
   | some (as',h2)=>some (a'::as',h2)
   | none=>none
  | none=>none
def z4f (σ0:Pl)(d:Nat)(p0:Path)(τ:Path->Option Loc):Pl:=λkey q=>if key=d/\p0.isPrefixOf q=true then τ (q.drop p0.length) else σ0 key q
section
variable {P:Program}{I:Nat->Prop}{σ σ0:Pl}{B:zm}{w:World}{h:H}{e:Env}{a:Act}
theorem z8g {d:Nat}{p0 q:Path}{τ:Path->Option Loc}:z4f σ0 d p0 τ d (p0++q)=τ q:=by unfold z4f;rw [if_pos ⟨rfl,List.isPrefixOf_iff_prefix.2 (List.prefix_append p0 q)⟩,List.drop_left]
theorem z7r {d:Nat}{p0:Path}{τ:Path->Option Loc}:z4f σ0 d p0 τ d p0=τ []:=by
 have:=z8g (σ0:=σ0) (d:=d) (p0:=p0) (q:=[]) (τ:=τ)
 rwa [append_nil] at this
theorem zqy {d k:Nat}{p0 q:Path}{τ:Path->Option Loc}(h:k≠d):z4f σ0 d p0 τ k q=σ0 k q:=by unfold z4f;rw [if_neg (λe=>h e.1)]
theorem zmd {d k:Nat}{p0 q:Path}{τ:Path->Option Loc}(h:¬ p0 <+: q):z4f σ0 d p0 τ k q=σ0 k q:=by unfold z4f;rw [if_neg (λe=>h (List.isPrefixOf_iff_prefix.1 e.2))]
theorem zep {p q:Path}{i c i' c':Nat}:p++[(i,c)] <+: p++(i',c')::q↔(i,c)=(i',c'):=by
 constructor
 ·rintro ⟨t,ht⟩;rw [append_assoc] at ht;have:=append_cancel_left ht;rw [singleton_append,List.cons.injEq] at this;exact this.1
 ·rintro ⟨rfl,rfl⟩;exact ⟨q,by simp⟩
theorem z70 {k:Nat}{p:Path}:∀ (xs:Els) (i0 n:Nat),(fpE σ k p i0 (xs.take n)).Sublist (fpE σ k p i0 xs)
 | [],_,n=>by simp
 | x::xs,_,0=>by simp [fpE]
 | x::xs,i0,n+1=>by simp only [List.take_succ_cons,fpE];exact List.Sublist.append (List.Sublist.refl _) (z70 xs (i0+1) n)
theorem zil (hh:zk I σ h w){x x':AV}{v:Value}{h':H}(hv:Va I σ (bl w) x v)(ha:z41 h x=some (x',h'))(d:Nat)(p:Path)(i c:Nat)(hd:d∉h.map Prod.fst)(σ0:Pl) :
  ∃ τ,Ce I (z4f σ0 d (p++[(i,c)]) τ) (bl w) d p i c x' v/\zk I σ h' w/\(∀ k,k∈h'.map Prod.fst->k∈h.map Prod.fst)/\(∀ b∈fpH σ h',b∈fpH σ h) /\
   (fpA (z4f σ0 d (p++[(i,c)]) τ) d p i c x').Nodup/\∀ b∈fpA (z4f σ0 d (p++[(i,c)]) τ) d p i c x',b∈fpH σ h/\b∉fpH σ h':=by
 unfold z41 at ha;split at ha
 ·rename_i u;split at ha
  ·rename_i hu;cases ha;exact ⟨λ_=>none,⟨hv,hu⟩,hh,λk hk=>hk,λb hb=>hb,by simp [fpA],by simp [fpA]⟩
  ·cases ha
 ·cases ha;exact ⟨λ_=>none,hv,hh,λk hk=>hk,λb hb=>hb,by simp [fpA],by simp [fpA]⟩
 ·cases ha;exact ⟨λ_=>none,hv,hh,λk hk=>hk,λb hb=>hb,by simp [fpA],by simp [fpA]⟩
 ·cases ha;exact ⟨λ_=>none,⟨hv.1,rfl⟩,hh,λk hk=>hk,λb hb=>hb,by simp [fpA],by simp [fpA]⟩
 ·rename_i k;split at ha
  ·rename_i r hg;split at ha
   ·rename_i hbig;cases ha;obtain ⟨d1,d2,d3,d4,d5,d6⟩:=hh.del hg
    have hkeys:∀ k',k'∈(zc h k).map Prod.fst->k'∈h.map Prod.fst:=by intro k' hk';have:=(z3x hg).map Prod.fst;exact this.mem_iff.2 (by simp only [map_cons];exact mem_cons_of_mem _ hk')
    have hfp:fpA (z4f σ0 d (p++[(i,c)]) λq=>σ k q) d p i c (.ow r.s r.xs)=fpR σ k r:=by
     simp only [fpA];rw [z7r];unfold fpR;cases hs:σ k [] with
     | none=>rfl
     | some L =>simp only;rw [fpE.ren (σ:=σ) (k:=k) (p:=[]) 0 (λi' c' q=>by rw [z8g];rfl)]
    refine ⟨λq=>σ k q,?_,d1,hkeys,d6,by rw [hfp];exact d4,λb hb=>by rw [hfp] at hb;have:=d5 b hb;exact ⟨this.2,this.1⟩⟩;simp only [Ce];rw [z7r];unfold zy at d2;obtain ⟨L,hL,hLs,rfl⟩:=hv;simp only [hL] at d2 ⊢;obtain ⟨e1,e2,cur,E,e3,e4,e5⟩:=d2;refine ⟨e1,e2,by unfold hdr;rw [if_neg (by omega)],cur,E,e3,e4,?_⟩;refine CeE.ren (σ:=σ) (k:=k) (p:=[]) 0 (esz r.s) (λi' c' q=>?_) _ _ e5;rw [z8g];rfl
   ·cases ha
  ·cases ha
 ·rename_i k q off len;split at ha
  ·rename_i hpo;obtain ⟨rfl,rfl⟩:=hpo;split at ha
   ·rename_i r hg;split at ha
    ·rename_i hle;cases ha;obtain ⟨d1,d2,d3,d4,d5,d6⟩:=hh.del hg
     have hkeys:∀ k',k'∈(zc h k).map Prod.fst->k'∈h.map Prod.fst:=by intro k' hk';have:=(z3x hg).map Prod.fst;exact this.mem_iff.2 (by simp only [map_cons];exact mem_cons_of_mem _ hk')
     refine ⟨λq=>σ k q,?_,d1,hkeys,d6,?_,?_⟩
     ·simp only [Ce];rw [z7r];unfold zy at d2;simp only [Va] at hv;cases hs:σ k [] with
      | none =>simp only [hs] at d2 hv ⊢;rw [d2.1];exact ⟨by simp,d2.2,hv.2.2⟩
      | some L =>
       simp only [hs] at d2 hv ⊢;obtain ⟨e1,e2,cur,E,e3,e4,e5⟩:=d2;by_cases hm:r.s<MB
       ·have hlen:(r.xs.take len).length=len:=by rw [length_take];omega
        rw [if_pos (by rw [e1];exact hm)] at hv;obtain ⟨A,c',rfl,f1,f2,f3⟩:=hv;have hA:=f3 (.inr trivial);subst hA;refine ⟨e1,λ_=>by omega,by unfold hdr;rw [if_pos (by rw [e1];exact hm),hlen,Nat.zero_mul,show c'=L.cap by omega],cur,E,e3,by rw [zaf hm] at e4 ⊢;exact e4,?_⟩;refine CeE.ren (σ:=σ) (k:=k) (p:=[]) 0 (esz r.s) (λi' c' q=>?_) _ _ (CeE.take r.xs 0 _ len e5);rw [z8g];rfl
       ·rw [if_neg (by rw [e1];exact hm)] at hv;exact hv.elim
     ·have hfp:(fpA (z4f σ0 d (p++[(i,c)]) λq=>σ k q) d p i c (.ow r.s (r.xs.take len))).Sublist (fpR σ k r):=by
       simp only [fpA];rw [z7r];unfold fpR;cases hs:σ k [] with
       | none=>simp
       | some L =>simp only;refine List.Sublist.cons_cons _ ?_;rw [fpE.ren (σ:=σ) (k:=k) (p:=[]) 0 (λi' c' q=>by rw [z8g];rfl)];exact z70 _ _ _
      exact hfp.nodup d4
     ·have hfp:(fpA (z4f σ0 d (p++[(i,c)]) λq=>σ k q) d p i c (.ow r.s (r.xs.take len))).Sublist (fpR σ k r):=by
       simp only [fpA];rw [z7r];unfold fpR;cases hs:σ k [] with
       | none=>simp
       | some L =>simp only;refine List.Sublist.cons_cons _ ?_;rw [fpE.ren (σ:=σ) (k:=k) (p:=[]) 0 (λi' c' q=>by rw [z8g];rfl)];exact z70 _ _ _
      intro b hb;have:=d5 b (hfp.subset hb);exact ⟨this.2,this.1⟩
    ·cases ha
   ·cases ha
  ·cases ha
 ·cases ha
theorem z68:∀ (vs:List AV) (h:H) (cs:List Value) (vs':List AV) (h':H) (σ0:Pl) (d:Nat) (p:Path) (i c:Nat),zk I σ h w->VaC I σ (bl w) vs cs->z3s h vs=some (vs',h')->d∉h.map Prod.fst ->
  ∃ σ',(∀ k q,k≠d->σ' k q=σ0 k q)/\(∀ q,(∀ c',c<=c'->c'<c+vs.length->¬ p++[(i,c')] <+: q)->σ' d q=σ0 d q)/\CeC I σ' (bl w) d p i c vs' cs/\zk I σ h' w/\(∀ k,k∈h'.map Prod.fst->k∈h.map Prod.fst) /\
   (∀ b∈fpH σ h',b∈fpH σ h)/\(fpC σ' d p i c vs').Nodup/\(∀ b∈fpC σ' d p i c vs',b∈fpH σ h/\b∉fpH σ h')/\vs'.length=vs.length
 | [],h,cs,vs',h',σ0,d,p,i,c,hh,hv,ha,hd=>by simp only [z3s,Option.some.injEq,Prod.mk.injEq] at ha;obtain ⟨rfl,rfl⟩:=ha;exact ⟨σ0,λ_ _ _=>rfl,λ_ _=>rfl,hv,hh,λk hk=>hk,λb hb=>hb,by simp [fpC],by simp [fpC],rfl⟩
 | x::vs,h,cs,vs',h',σ0,d,p,i,c,hh,hv,ha,hd=>by
  unfold z3s at ha;split at ha
  ·rename_i x' h1 hx;split at ha
   ·rename_i vs1 h2 hvs;cases ha;obtain ⟨v,cs',rfl,_,hv1,hv2⟩:=hv;obtain ⟨τ0,_,q2,q3,q4,_,q6⟩:=zil hh hv1 hx d p i c hd σ0;obtain ⟨σ1,s1,s2,s3,s4,s5,s6,s7,s8,s9⟩:=z68 vs h1 cs' vs1 _ σ0 d p i (c+1) q2 hv2 hvs (λhm=>hd (q3 d hm));obtain ⟨τ,t1,t2,t3,t4,t5,t6⟩:=zil hh hv1 hx d p i c hd σ1
    have hoff:∀ c' q,c+1<=c'->z4f σ1 d (p++[(i,c)]) τ d (p++(i,c')::q)=σ1 d (p++(i,c')::q):=λc' q hc=>zmd (λhp=>by have:=zep.1 hp;simp only [Prod.mk.injEq,true_and] at this;omega)
    have hC:∀ (l:List AV) (c1:Nat) (us:List Value),c+1<=c1->CeC I σ1 (bl w) d p i c1 l us->CeC I (z4f σ1 d (p++[(i,c)]) τ) (bl w) d p i c1 l us:=by
     intro l
     induction l with
     | nil=>intro _ _ _ h;exact h
     | cons y l ih =>intro c1 us hc1 h;obtain ⟨v,us',rfl,h1,h2⟩:=h;exact ⟨v,us',rfl,Ce.ren (λq=>hoff c1 q hc1) y v h1,ih (c1+1) us' (by omega) h2⟩
    have hF:∀ (l:List AV) (c1:Nat),c+1<=c1->fpC (z4f σ1 d (p++[(i,c)]) τ) d p i c1 l=fpC σ1 d p i c1 l:=by
     intro l
     induction l with
     | nil=>intro _ _;rfl
     | cons y l ih=>intro c1 hc1;simp only [fpC];rw [fpA.ren (λq=>hoff c1 q hc1) y,ih (c1+1) (by omega)]
    refine ⟨z4f σ1 d (p++[(i,c)]) τ,?_,?_,⟨v,cs',rfl,t1,hC _ _ _ (by omega) s3⟩,s4,λk hk=>q3 k (s5 k hk),λb hb=>q4 b (s6 b hb),?_,?_,by simp [s9]⟩
    ·intro k q hk;rw [zqy hk,s1 k q hk]
    ·intro q hq;rw [zmd (hq c (by omega) (by simp)),s2 q (λc' g1 g2=>hq c' (by omega) (by simp only [length_cons];omega))]
    ·simp only [fpC];rw [hF _ _ (by omega),nodup_append];refine ⟨t5,s7,λb hb b' hb' e=>?_⟩;subst e;exact (t6 b hb).2 (s8 b hb').1
    ·intro b hb;simp only [fpC,mem_append] at hb;rw [hF _ _ (by omega)] at hb;rcases hb with hb | hb
     ·exact ⟨(t6 b hb).1,λhm=>(t6 b hb).2 (s6 b hm)⟩
     ·exact ⟨q4 b (s8 b hb).1,(s8 b hb).2⟩
   ·cases ha
  ·cases ha
end
def z4n:H->Els->Option (Els×H)
 | h,[]=>some ([],h)
 | h,x::xs =>
  match z3s h x with
  | some (x',h1) =>
   match z4n h1 xs with
   | some (xs',h2)=>some (x'::xs',h2)
   | none=>none
  | none=>none
def upd (e:Env)(d:Nat)(x:AV):Env:=λt=>if t=d then x else e t
def z1e (bad:Nat->Path->Bool)(e:Env):Env:=λt=>kill bad (e t)
section
variable {P:Program}{I:Nat->Prop}{N:Nat}[Dfs N]{σ σ' σ0:Pl}{B:zm}{w w':World}{h h':H}{e:Env}{a:Act}
theorem y6p {p q:Path}{i c i' c':Nat}(hne:i≠i'):¬ p++[(i,c)] <+: p++(i',c')::q:=λh=>by have:=zep.1 h;simp only [Prod.mk.injEq] at this;exact hne this.1
theorem zin {s:Nat}:∀ (xs:Els) (h:H) (cs:List Value) (xs':Els) (h':H) (σ0:Pl) (d:Nat) (p:Path) (i:Nat),zk I σ h w->VaC I σ (bl w) xs.flatten cs->(∀ x∈xs,x.length=s)->z4n h xs=some (xs',h')->d∉h.map Prod.fst ->
  ∃ σ',(∀ k q,k≠d->σ' k q=σ0 k q)/\(∀ q,(∀ i' c',i<=i'->¬ p++[(i',c')] <+: q)->σ' d q=σ0 d q)/\CeE I σ' (bl w) d p i s xs' cs/\zk I σ h' w/\(∀ k,k∈h'.map Prod.fst->k∈h.map Prod.fst) /\
   (∀ b∈fpH σ h',b∈fpH σ h)/\(fpE σ' d p i xs').Nodup/\(∀ b∈fpE σ' d p i xs',b∈fpH σ h/\b∉fpH σ h')/\xs'.length=xs.length
 | [],h,cs,xs',h',σ0,d,p,i,hh,hv,_,ha,hd=>by simp only [z4n,Option.some.injEq,Prod.mk.injEq] at ha;obtain ⟨rfl,rfl⟩:=ha;exact ⟨σ0,λ_ _ _=>rfl,λ_ _=>rfl,trivial,hh,λk hk=>hk,λb hb=>hb,by simp [fpE],by simp [fpE],rfl⟩
 | x::xs,h,cs,xs',h',σ0,d,p,i,hh,hv,hs,ha,hd=>by
  unfold z4n at ha;split at ha
  ·rename_i x' h1 hx;split at ha
   ·rename_i xs1 h2 hxs;cases ha;have hxl:=hs x (by simp);rw [flatten_cons] at hv;have hv1:=VaC.part _ _ 0 s hv;have hv2:=VaC.part _ _ s (x.length+xs.flatten.length) hv;have hl:=VaC.length _ _ hv;rw [length_append] at hl;simp only [drop_zero] at hv1;rw [take_append_of_le_length (by omega),take_of_length_le (by omega)] at hv1;rw [List.drop_append_of_le_length (by omega),List.drop_of_length_le (by omega),nil_append,take_of_length_le (by omega),take_of_length_le (by rw [length_drop];omega)] at hv2;obtain ⟨σa,_,_,_,q4,q5,q6,_,q8,q9⟩:=z68 x h (cs.take s) x' h1 σ0 d p i 0 hh hv1 hx hd;obtain ⟨σ1,s1,s2,s3,s4,s5,s6,s7,s8,s9⟩:=zin xs h1 (cs.drop s) xs1 _ σ0 d p (i+1) q4 hv2 (λy hy=>hs y (by simp [hy])) hxs (λhm=>hd (q5 d hm));obtain ⟨σ2,t1,t2,t3,t4,t5,t6,t7,t8,t9⟩:=z68 x h (cs.take s) x' h1 σ1 d p i 0 hh hv1 hx hd;have hoff:∀ i' c' q,i+1<=i'->σ2 d (p++(i',c')::q)=σ1 d (p++(i',c')::q):=λi' c' q hi=>t2 _ (λc'' _ _=>y6p (by omega))
    have hE:∀ (l:Els) (i1:Nat) (us:List Value),i+1<=i1->CeE I σ1 (bl w) d p i1 s l us->CeE I σ2 (bl w) d p i1 s l us:=by
     intro l
     induction l with
     | nil=>intro _ _ _ _;trivial
     | cons y l ih=>intro i1 us hi1 h;exact ⟨h.1,CeC.ren 0 (λc' q=>hoff i1 c' q hi1) y _ h.2.1,ih (i1+1) _ (by omega) h.2.2⟩
    have hF:∀ (l:Els) (i1:Nat),i+1<=i1->fpE σ2 d p i1 l=fpE σ1 d p i1 l:=by
     intro l
     induction l with
     | nil=>intro _ _;rfl
     | cons y l ih=>intro i1 hi1;simp only [fpE];rw [fpC.ren 0 (λc' q=>hoff i1 c' q hi1) y,ih (i1+1) (by omega)]
    refine ⟨σ2,?_,?_,⟨by omega,t3,hE _ _ _ (by omega) s3⟩,s4,λk hk=>q5 k (s5 k hk),λb hb=>q6 b (s6 b hb),?_,?_,by simp [s9]⟩
    ·intro k q hk;rw [t1 k q hk,s1 k q hk]
    ·intro q hq;rw [t2 q (λc' _ _=>hq i c' (by omega)),s2 q (λi' c' hi=>hq i' c' (by omega))]
    ·simp only [fpE];rw [hF _ _ (by omega),nodup_append];refine ⟨t7,s7,λb hb b' hb' e=>?_⟩;subst e;exact (t8 b hb).2 (s8 b hb').1
    ·intro b hb;simp only [fpE,mem_append] at hb;rw [hF _ _ (by omega)] at hb;rcases hb with hb | hb
     ·exact ⟨(t8 b hb).1,λhm=>(t8 b hb).2 (s6 b hm)⟩
     ·exact ⟨q6 b (s8 b hb).1,(s8 b hb).2⟩
   ·cases ha
  ·cases ha
theorem z4d (hh:zk I σ h w)(d:Nat):zk I σ (zc h d) w/\d∉(zc h d).map Prod.fst/\(∀ b∈fpH σ (zc h d),b∈fpH σ h)/\(∀ k∈(zc h d).map Prod.fst,k∈h.map Prod.fst):=by
 cases hg:z6 h d with
 | some r =>
  obtain ⟨d1,_,d3,_,_,d6⟩:=hh.del hg
  exact ⟨d1,d3,d6,λk' hk'=>by have:=(z3x hg).map Prod.fst;exact this.mem_iff.2 (by simp only [map_cons];exact mem_cons_of_mem _ hk')⟩
 | none =>
  have:∀ (h:H),z6 h d=none->zc h d=h/\d∉h.map Prod.fst:=by
   intro h
   induction h with
   | nil=>intro _;exact ⟨rfl,by simp⟩
   | cons x h ih =>
    obtain ⟨k',r'⟩:=x;intro hg;simp only [z6] at hg;by_cases e:k'=d
    ·rw [if_pos e] at hg;cases hg
    ·rw [if_neg e] at hg;obtain ⟨h1,h2⟩:=ih hg;refine ⟨by simp [zc,e,h1],?_⟩;simp only [map_cons,mem_cons,not_or];exact ⟨λh=>e h.symm,h2⟩
  obtain ⟨h1,h2⟩:=this h hg;rw [h1];exact ⟨hh,h2,λb hb=>hb,λk hk=>hk⟩
theorem Act.getD_put {a:Act}{d t:Nat}{v:Value}(hd:d<a.tmps.size):(a.put (some d) v).tmps.getD t undef=if t=d then v else a.tmps.getD t undef:=by
 simp only [Act.put];by_cases h:t=d
 ·subst h;simp [hd]
 ·rw [if_neg h];simp only [Array.getD_eq_getD_getElem?];rw [Array.getElem?_setIfInBounds_ne (Ne.symm h)]
theorem Act.size_put {a:Act}{d:Option Nat}{v:Value}:(a.put d v).tmps.size=a.tmps.size:=by cases d<;>simp [Act.put]
theorem Act.defers_put {a:Act}{d:Option Nat}{v:Value}:(a.put d v).defers=a.defers:=by cases d<;>simp [Act.put]
theorem Rel.put (hh:zk I σ' h' w')(hs:N<=a.tmps.size)(hv:∀ t,Va I σ' (bl w') (e t) (a.tmps.getD t undef))(hd:a.defers=Dfs.ds N){d:Nat}(hdN:d<N){x:AV}{v:Value}(hx:Va I σ' (bl w') x v) :
  Rel I N σ' (upd e d x) h' (a.put (some d) v) w':=by
 refine ⟨hh,by rw [Act.size_put];exact hs,λt=>?_,by rw [Act.defers_put];exact hd⟩;rw [Act.getD_put (by omega)];unfold upd;split
 ·exact hx
 ·exact hv t
theorem z4o (w:World)(o:Obj)(b:Nat)(hb:b<w.heap.size):bl (w.alloc o) b=bl w b:=heap_alloc_old w o b hb
theorem zjw (R:Rel I N σ e h a w){d:Nat}(hdN:d<N){s cap:Nat}(hsm:s<MB){xs xs':Els}{cur:Array Value}{E:TypeId}(w1:World)(hw1:w1.heap=w.heap)(hv:VaC I σ (bl w) xs.flatten (cur.toList.take (xs.length * s)))(hs:∀ x∈xs,x.length=s)(hcap:cur.size=cap * s)(hle:xs.length<=cap)
  (ha:z4n (zc h d) xs=some (xs',h')) (fr:Nat×Nat:=(0,0)) (hfr:fr.1=fr.2\/cur.size<=fr.1:=by exact .inl rfl) :
  ∃ σ',zk I σ' ((d,⟨s,xs'⟩)::h') (w1.alloc (.cells cur E fr))/\(∀ t,Va I σ' (bl (w1.alloc (.cells cur E fr))) (z1e (λk _=>k==d) e t) (a.tmps.getD t undef))/\σ' d []=some ⟨w.heap.size,cap,s⟩/\xs'.length=xs.length /\
   (∀ k p,k≠d->σ' k p=σ k p)/\(∀ b,b∈fpH σ' ((d,⟨s,xs'⟩)::h')->b∈fpH σ h\/b=w.heap.size):=by
 obtain ⟨q1,q2,q3,q4⟩:=z4d R.heap d
 have hB:∀ b,b<w.heap.size->bl (w1.alloc (.cells cur E fr)) b=bl w b:=λb hb=>by rw [z4o _ _ _ (by rw [hw1];exact hb)];unfold bl;rw [hw1]
 have hI:∀ b,I b->bl (w1.alloc (.cells cur E fr)) b=bl w b:=λb hb=>hB b (R.heap.low b hb);obtain ⟨σ1,s1,s2,s3,s4,s5,s6,s7,s8,s9⟩:=zin (s:=s) xs (zc h d) _ xs' h' (λk p=>if k=d/\p=[] then some ⟨w.heap.size,cap,s⟩ else σ k p) d [] 0 q1 hv hs ha q2
 have hd0:σ1 d []=some ⟨w.heap.size,cap,s⟩:=by rw [s2 [] (λi' c' _ h=>by simp at h)];simp
 have hne:∀ k p,k≠d->σ1 k p=σ k p:=λk p hk=>by rw [s1 k p hk];simp [hk]
 have hnew:bl (w1.alloc (.cells cur E fr)) w.heap.size=some (.cells cur E fr):=by have:=heap_alloc_new w1 (.cells cur E fr);rw [hw1] at this;exact this
 have hsz:(w1.alloc (.cells cur E fr)).heap.size=w.heap.size+1:=by rw [World.size_alloc,hw1]
 refine ⟨σ1,?_,?_,hd0,s9,hne,?_⟩
 ·refine zk.add (σ:=σ) (w:=w) s4 (λhm=>q2 (s5 d hm)) (λk hk q=>hne k q hk) (λb hb _=>hB b hb) (by omega) ?_ ?_ ?_
  ·unfold zy;simp only [hd0];refine ⟨trivial,λ_=>by omega,cur,EF.mk' hsm E fr hfr,hnew,by rw [zaf hsm,z95 hsm];exact hcap,?_⟩;rw [z95 hsm]
   have h1:CeE I σ1 (bl (w1.alloc (.cells cur E fr))) d [] 0 s xs' (cur.toList.take (xs.length * s)) :=
    CeE.mono hI d [] 0 s xs' _ (λb hb=>hB b (q1.apart b (s8 b hb).1).2) s3
   have ext:∀ (l:Els) (i:Nat) (us vs:List Value),CeE I σ1 (bl (w1.alloc (.cells cur E fr))) d [] i s l us->us <+: vs->CeE I σ1 (bl (w1.alloc (.cells cur E fr))) d [] i s l vs:=by
    intro l
    induction l with
    | nil=>intro _ _ _ _ _;trivial
    | cons y l ih =>
     rintro i us vs h ⟨ws,rfl⟩;have hlen:=CeC.length y 0 _ h.2.1;have:s<=us.length:=by rw [length_take,h.1] at hlen;omega
     refine ⟨h.1,?_,ih (i+1) _ _ h.2.2 ⟨ws,?_⟩⟩
     ·rw [take_append_of_le_length this];exact h.2.1
     ·rw [List.drop_append_of_le_length this]
   exact ext _ _ _ _ h1 (List.take_prefix _ _)
  ·unfold fpR;simp only [hd0,nodup_cons];refine ⟨λhm=>?_,s7⟩;have:=(q1.apart _ (s8 _ hm).1).2;omega
  ·intro b hb;unfold fpR at hb;simp only [hd0,mem_cons] at hb;rcases hb with rfl | hb
   ·refine ⟨λhm=>?_,λhI'=>?_,by omega⟩
    ·have:=(s4.apart _ hm).2;omega
    ·have:=R.heap.low _ hI';omega
   ·have:=s8 b hb;exact ⟨this.2,(q1.apart b this.1).1,by have:=(q1.apart b this.1).2;omega⟩
 ·intro t;have:=Va.kill (σ':=σ1) (bad:=λk _=>k==d) (λk p hb=>hne k p (by simpa using hb)) (e t) _ (R.vals t);exact Va.mono hI _ _ this
 ·intro b hb;rw [z1o,mem_append] at hb;rcases hb with hb | hb
  ·unfold fpR at hb;simp only [hd0,mem_cons] at hb;rcases hb with rfl | hb
   ·exact .inr rfl
   ·exact .inl (q3 b (s8 b hb).1)
  ·rw [fpH.ren h' (λk hk q=>hne k q (λe=>q2 (e ▸ s5 k hk)))] at hb;exact .inl (q3 b (s6 b hb))
theorem Le.alloc (w:World)(o:Obj):Le w (w.alloc o):=⟨by rw [World.size_alloc];omega,rfl,rfl,rfl⟩
theorem Le.drewAlloc (w:World)(o:Obj):Le w (w.drew.alloc o):=⟨by rw [World.size_alloc];exact Nat.le_succ _,rfl,rfl,rfl⟩
end
section
variable {P:Program}{I:Nat->Prop}{N:Nat}[Dfs N]{σ:Pl}{w:World}{h h':H}{e:Env}{a:Act}
theorem yjw (R:Rel I N σ e h a w){d s:Nat}(hdN:d<N)(hsm:¬ s<MB) :
  ∃ σ',zk I σ' ((d,⟨s,[]⟩)::zc h d) (w.alloc (.map #[] 0))/\(∀ t,Va I σ' (bl (w.alloc (.map #[] 0))) (z1e (λk _=>k==d) e t) (a.tmps.getD t undef))/\σ' d []=some ⟨w.heap.size,0,s⟩ /\
   (∀ k p,k≠d->σ' k p=σ k p)/\(∀ b,b∈fpH σ' ((d,⟨s,[]⟩)::zc h d)->b∈fpH σ h\/b=w.heap.size):=by
 obtain ⟨q1,q2,q3,q4⟩:=z4d R.heap d;have hB:∀ b,b<w.heap.size->bl (w.alloc (.map #[] 0)) b=bl w b:=λb hb=>z4o _ _ _ hb;have hI:∀ b,I b->bl (w.alloc (.map #[] 0)) b=bl w b:=λb hb=>hB b (R.heap.low b hb);have hnew:bl (w.alloc (.map #[] 0)) w.heap.size=some (.map #[] 0):=heap_alloc_new w _
 let σ':Pl:=λk p=>if k=d then (if p=[] then some ⟨w.heap.size,0,s⟩ else none) else σ k p
 have hd0:σ' d []=some ⟨w.heap.size,0,s⟩:=by simp [σ']
 have hne:∀ k p,k≠d->σ' k p=σ k p:=λk p hk=>by simp [σ',hk]
 have hfpR:fpR σ' d ⟨s,[]⟩=[w.heap.size]:=by unfold fpR;simp only [hd0];rfl
 refine ⟨σ',?_,?_,hd0,hne,?_⟩
 ·refine zk.add (σ:=σ) (w:=w) q1 q2 (λk hk q=>hne k q hk) (λb hb _=>hB b hb) (by rw [World.size_alloc];omega) ?_ ?_ ?_
  ·unfold zy;simp only [hd0];refine ⟨trivial,λ_=>by simp,#[],⟨.map #[] 0,?_⟩,hnew,?_,trivial⟩
   ·rw [if_neg hsm];exact ⟨⟨#[],0,[],rfl,rfl,by simp,rfl⟩⟩
   ·unfold zb7;rw [if_neg hsm];simp
  ·rw [hfpR];simp
  ·intro b hb;rw [hfpR] at hb;simp only [List.mem_singleton] at hb;subst hb;refine ⟨λhm=>?_,λhI'=>?_,by rw [World.size_alloc];omega⟩
   ·have:=(q1.apart _ hm).2;omega
   ·have:=R.heap.low _ hI';omega
 ·intro t;have:=Va.kill (σ':=σ') (bad:=λk _=>k==d) (λk p hb=>hne k p (by simpa using hb)) (e t) _ (R.vals t);exact Va.mono hI _ _ this
 ·intro b hb;rw [z1o,mem_append] at hb;rcases hb with hb | hb
  ·rw [hfpR] at hb;exact .inr (by simpa using hb)
  ·rw [fpH.ren _ (λk hk q=>hne k q (λe=>q2 (by subst e;exact hk)))] at hb;exact .inl (q3 b hb)
theorem ybe (t:TypeId):(Instr.makeMap t none).run P w = .ok (.map (some w.heap.size)) (w.alloc (.map #[] 0)):=by simp [Instr.makeMap,Result.andThen]
end
def z4b (s:Nat):Nat->List AV->Els
 | 0,_=>[]
 | n+1,l=>l.take s::z4b s n (l.drop s)
def z8c:AV->Bool
 | .sc u=>u.oneCell'
 | .zs=>true
 | _=>false
def z3e (e:Operand->AV)(h:H)(d:Nat):IB->Option (AV×H)
 | .box s x =>
  match cellsOf (e x) with
  | some cs =>
   if cs.length=s then
    match z4n (zc h d) [cs] with
    | some (xs',h')=>some (.pt d [] 0 0,(d,⟨s,xs'⟩)::h')
    | none=>none
   else none
  | none=>none
 | .bsl s len zero parts =>
  match z5a (replicate len (zero.map cval)).flatten (parts.map λ(i,x)=>(i * s,s,e x)) with
  | some cs =>
   match z4n (zc h d) (z4b s len cs) with
   | some (xs',h')=>some (.sl d [] 0 len,(d,⟨s,xs'⟩)::h')
   | none=>none
  | none=>none
 | .mks s bytes zero l =>
  match e l with
  | .sc (.int _ n)=>if 0<=n/\n * bytes<=140737488355328 then some (.sl d [] 0 n.toNat,(d,⟨s,replicate n.toNat (zero.map cval)⟩)::zc h d) else none
  | _=>none
 | .mkm s=>if s<MB then none else some (.pp (.mr d []),(d,⟨s,[]⟩)::zc h d)
 | _=>none
def zix (P:Program)(o:Oper):Option IB :=
 match o.op with
 | .makeMap t none=>match zi6 P t with | some (ks,nv,_,_)=>some (.mkm (z4h ks.length nv)) | none=>none
 | .box t x=>match szT P t with | some n=>if n<MB then some (.box n x) else none | none=>none
 | .alloc t=>match szT P t,(P.info? t).bind (·.zero) with | some n,some z=>if n<MB then some (.box n (.const z)) else none | _,_=>none
 | .buildSlice t len parts =>
  match P.underlying t with
  | some (.slice el) =>
   match szT P el,(P.info? el).bind (·.zero) with
   | some n,some z=>if len * n<=2 ^ 24/\z.cells.size=n/\n<MB/\0<n/\z.cells.toList.all Value.oneCell'=true then some (.bsl n len z.cells.toList parts.toList) else none
   | _,_=>none
  | _=>none
 | .makeSlice t (.tmp l) (.tmp c) =>
  match P.underlying t with
  | some (.slice el) =>
   match P.info? el with
   | some i =>
    match i.zero with
    | some z=>if l=c/\z.cells.size=i.size/\i.size<MB/\0<i.size/\0<i.bytes/\z.cells.toList.all Value.oneCell'=true/\(z.cells.toList.map cval).all z8c=true then some (.mks i.size i.bytes z.cells.toList (.tmp l)) else none
    | none=>none
   | none=>none
  | _=>none
 | .makeSlice t (.const (.int .i64 l)) (.const (.int .i64 c)) =>
  match P.underlying t with
  | some (.slice el) =>
   match P.info? el with
   | some i =>
    match i.zero with
    | some z=>if l=c/\z.cells.size=i.size/\i.size<MB/\0<i.size/\0<i.bytes/\z.cells.toList.all Value.oneCell'=true/\(z.cells.toList.map cval).all z8c=true then some (.mks i.size i.bytes z.cells.toList (.const (.int .i64 l))) else none
    | none=>none
   | none=>none
  | _=>none
 | _=>none
section
variable {P:Program}{I:Nat->Prop}{N:Nat}[Dfs N]{σ:Pl}{w:World}{h h':H}{e:Env}{a:Act}
structure y4l (P:Program) (I:Nat->Prop) (N:Nat) [Dfs N] (σ:Pl) (e:Env) (h:H) (a:Act) (w:World) (o:Oper) (d:Nat) (av:AV) (h':H):Prop where
 run:∃ v w' σ',(execOp a.eval o).run P w = .ok (.value v) w'/\Rel I N σ' (upd (z1e (λk _=>k==d) e) d av) h' (a.put (some d) v) w'/\Le w w' /\
  (∀ b,b<w.heap.size->bl w' b=bl w b)/\(∀ b∈fpH σ' h',b∈fpH σ h\/w.heap.size<=b)/\(∀ k p,k≠d->σ' k p=σ k p)
theorem zhc {s:Nat}:∀ (n:Nat) (l:List AV),(z4b s n l).flatten=l.take (n * s)
 | 0,l=>by simp [z4b]
 | n+1,l=>by rw [z4b,flatten_cons,zhc n,show (n+1) * s=s+n * s by rw [Nat.add_mul,Nat.one_mul,Nat.add_comm],take_add]
theorem ziw {s:Nat}:∀ (n:Nat) (l:List AV),n * s<=l.length->∀ x∈z4b s n l,x.length=s
 | 0,_,_,x,hx=>by simp [z4b] at hx
 | n+1,l,h,x,hx=>by
  rw [show (n+1) * s=s+n * s by rw [Nat.add_mul,Nat.one_mul,Nat.add_comm]] at h;simp only [z4b,mem_cons] at hx;rcases hx with rfl | hx
  ·rw [length_take];omega
  ·exact ziw n _ (by rw [length_drop];omega) x hx
theorem z9g {s:Nat}:∀ (n:Nat) (l:List AV),(z4b s n l).length=n
 | 0,_=>rfl
 | n+1,l=>by simp [z4b,z9g n]
theorem ya3 (t:TypeId)(v:Value):(Instr.box t v).run P w = .ok (.pointer (some ⟨w.heap.size,0,none⟩)) (w.alloc (.cells v.cells t)):=by rfl
theorem zno (R:Rel I N σ e h a w){o:Oper}{d:Nat}(hd:d<N){t:TypeId}{v:Value}{x:AV}(hv:Va I σ (bl w) x v){cs:List AV}(hcs:cellsOf x=some cs)(hsm:cs.length<MB){xs':Els}
  (ha:z4n (zc h d) [cs]=some (xs',h')) (hex:(execOp a.eval o).run P w = .ok (.value (.pointer (some ⟨w.heap.size,0,none⟩))) (w.alloc (.cells v.cells t))) :
  y4l P I N σ e h a w o d (.pt d [] 0 0) ((d,⟨cs.length,xs'⟩)::h'):=by
 have hva:=zdn hcs hv;have hlen:=VaC.length _ _ hva;simp only [Array.length_toList] at hlen
 obtain ⟨σ',q1,q2,q3,q4,q5,q6⟩:=zjw (s:=cs.length) (cap:=1) (xs:=[cs]) (cur:=v.cells) (E:=t) R hd hsm w rfl (by simp only [flatten_cons,List.flatten_nil,append_nil,List.length_singleton,Nat.one_mul];rw [take_of_length_le (by simp;omega)];exact hva) (by simp) (by omega) (by simp) ha
 refine ⟨_,_,σ',hex,Rel.put q1 R.size q2 R.defers hd ⟨_,q3,by simp⟩,Le.alloc _ _,λb hb=>z4o _ _ _ hb,λb hb=>?_,q5⟩;rcases q6 b hb with hb | hb
 ·exact .inl hb
 ·exact .inr (by omega)
theorem zvi {x:AV}(hc:z8c x=true)(h:H):z41 h x=some (x,h):=by cases x<;>simp_all [z8c,z41]
theorem zio:∀ (l:List AV) (h:H),l.all z8c=true->z3s h l=some (l,h)
 | [],h,_=>rfl
 | x::l,h,hc=>by simp only [all_cons,and_eq_true] at hc;unfold z3s;rw [zvi hc.1 h];simp only;rw [zio l h hc.2]
theorem zim (l:List AV)(hc:l.all z8c=true):∀ (n:Nat) (h:H),z4n h (replicate n l)=some (replicate n l,h)
 | 0,h=>rfl
 | n+1,h=>by rw [List.replicate_succ];unfold z4n;rw [zio l h hc];simp only;rw [zim l hc n h]
theorem zeq (z:Array Value)(s:Nat)(hz:z.size=s):∀ (n:Nat),((Array.range (n * s)).map (z[· % z.size]!)).toList=(replicate n z.toList).flatten:=by
 intro n;rw [Array.toList_map,Array.toList_range]
 induction n with
 | zero=>simp
 | succ n ih =>
  rw [show (n+1) * s=n * s+s by rw [Nat.add_mul,Nat.one_mul],List.range_add,map_append,ih,List.replicate_succ',List.flatten_append];congr 1;simp only [flatten_cons,List.flatten_nil,append_nil,map_map];apply ext_getElem?;intro j;rw [getElem?_map];rcases Nat.lt_or_ge j s with hj | hj
  ·rw [List.getElem?_range hj];simp only [map_some,Function.comp_apply,hz];rw [Nat.add_comm,Nat.add_mul_mod_self_right,Nat.mod_eq_of_lt hj,Array.getElem?_toList,getElem!_pos z j (by omega),getElem?_pos z j (by omega)]
  ·rw [getElem?_eq_none (by simpa using hj),getElem?_eq_none (by simp;omega)];rfl
theorem VaC.rep (z:List Value)(hz:z.all Value.oneCell'=true):∀ (n:Nat),VaC I σ (bl w) (replicate n (z.map cval)).flatten (replicate n z).flatten
 | 0=>by simp [VaC]
 | n+1=>by rw [List.replicate_succ,List.replicate_succ,flatten_cons,flatten_cons];exact VaC.append _ _ _ _ (VaC.consts z (λv hv=>all_eq_true.1 hz v hv)) (VaC.rep z hz n)
theorem zpp (R:Rel I N σ e h a w){o:Oper}{d:Nat}(hd:d<N){t el:TypeId}{l c:Operand}{i:TypeInfo}{z:Value}(ho:o.op = .makeSlice t l c)(hlc:l=c)(hu:P.underlying t=some (.slice el))(hi:P.info? el=some i)(hz:i.zero=some z)
  (hzs:z.cells.size=i.size) (hsm:i.size<MB) (h0:0<i.size) (hb:0<i.bytes) (hz1:z.cells.toList.all Value.oneCell'=true) (hz2:(z.cells.toList.map cval).all z8c=true) {k:IntKind} {n:Int} (hn:ev e l = .sc (.int k n)) (hn0:0<=n) (hn1:n * i.bytes<=140737488355328) :
  y4l P I N σ e h a w o d (.sl d [] 0 n.toNat) ((d,⟨i.size,replicate n.toNat (z.cells.toList.map cval)⟩)::zc h d):=by
 subst hlc;have hv:=zw R l;rw [hn] at hv
 have hlt:n<9223372036854775808:=by have h1:n * 1<=n * (i.bytes:Int):=Int.mul_le_mul_of_nonneg_left (by omega) hn0;omega
 have hw:i64.wrap n=n:=by have:=IntWalk.i64_in n ⟨by omega,by omega⟩;exact this
 obtain ⟨σ',q1,q2,q3,q4,q5,q6⟩:=zjw (s:=i.size) (cap:=n.toNat) (xs:=replicate n.toNat (z.cells.toList.map cval)) (cur:=(Array.range (n.toNat * i.size)).map (z.cells[· % z.cells.size]!)) (E:=el) R hd hsm w rfl (by
  rw [zeq z.cells i.size hzs,take_of_length_le]
  ·exact VaC.rep _ hz1 _
  ·rw [<- zeq z.cells i.size hzs];simp) (by
   intro x hx;rw [List.mem_replicate] at hx;rw [hx.2,length_map,Array.length_toList,hzs]) (by simp) (by simp) (zim _ hz2 _ _)
 have hrun:(Instr.makeSlice t (a.eval l) (a.eval l)).run P w = .ok (.slice (some ⟨w.heap.size,0,none⟩) n.toNat n.toNat) (w.alloc (.cells ((Array.range (n.toNat * i.size)).map (z.cells[· % z.cells.size]!)) el)):=by
  rw [z86 hv];have hzr:(zeroValue el).run P w = .ok z w:=zbc (by simp [hi,hz]);simp only [Instr.makeSlice,Sem.run_bind,run_underlying hu,Result.andThen_ok,asInt,asIntOf,Sem.run_pure,typeInfo,run_program,hi,hw,run_askRoom,Go.sizeOf]
  have hbig:¬ ((decide (n<0)||decide ((i.bytes:Int) * n > 2 ^ 48))=true):=by simp only [Bool.or_eq_true,decide_eq_true_eq,not_or];refine ⟨by omega,?_⟩;rw [Int.mul_comm];omega
  have hb1:(decide (n<0)||decide ((i.bytes:Int) * n > 2 ^ 48))=false:=by simpa using hbig
  have hb2:decide (n<0)=false:=by simp;omega
  have hb3:decide (2 ^ 48<(i.bytes:Int) * n)=false:=by simp only [decide_eq_false_iff_not];rw [Int.mul_comm];omega
  simp only [hb2,hb3,Bool.false_or,Bool.or_false,gt_iff_lt,Int.lt_irrefl,decide_false,false_eq_true,if_false,Sem.run_bind,run_askRoom,run_program,hi,Sem.run_pure,Result.andThen_ok,Sem.run_ite];by_cases hl0:n.toNat * i.size=0
  ·have hl0':n.toNat=0:=by
    rcases Nat.mul_eq_zero.1 hl0 with h | h
    ·exact h
    ·omega
   rw [if_pos hl0];simp only [hl0',Nat.zero_mul,Sem.run_pure,Result.andThen_ok];have e2:(Array.range 0).map (λx=>(#[]:Array Value)[x % (#[]:Array Value).size]!)=(Array.range 0).map (z.cells[· % z.cells.size]!):=by simp
   rw [e2];rfl
  ·rw [if_neg hl0];simp only [Sem.run_bind,hzr,Result.andThen_ok,Sem.run_pure];rfl
 refine ⟨.slice (some ⟨w.heap.size,0,none⟩) n.toNat n.toNat,_,σ',by simp only [execOp,ho,Sem.run_bind,hrun,Result.andThen_ok,Sem.run_pure],Rel.put q1 R.size q2 R.defers hd ?_,Le.alloc _ _,λb hb=>z4o _ _ _ hb,λb hb=>?_,q5⟩
 ·simp only [Va,q3,if_pos hsm];exact ⟨_,n.toNat,rfl,by omega,Nat.le_refl _,λ_=>by rw [Nat.zero_mul]⟩
 ·rcases q6 b hb with hb | hb
  ·exact .inl hb
  ·exact .inr (by omega)
theorem zpo (R:Rel I N σ e h a w){o:Oper}{ib:IB}{d:Nat}(hd:d<N)(hc:zix P o=some ib){av:AV}(hr:z3e (ev e) h d ib=some (av,h')):y4l P I N σ e h a w o d av h':=by
 unfold zix at hc;split at hc
 ·
  rename_i t ho;split at hc
  ·cases hc;simp only [z3e] at hr;split at hr
   ·cases hr
   ·rename_i hsm;cases hr;obtain ⟨σ',q1,q2,q3,q4,q5⟩:=yjw R hd hsm;refine ⟨_,_,σ',?_,Rel.put q1 R.size q2 R.defers hd ⟨_,q3,Nat.le_of_not_lt hsm,rfl⟩,Le.alloc _ _,λb hb=>z4o _ _ _ hb,λb hb=>?_,q4⟩
    ·simp only [execOp,ho,map_none,Sem.run_bind,ybe,Result.andThen_ok,Sem.run_pure]
    ·rcases q5 b hb with hb | hb
     ·exact .inl hb
     ·exact .inr (by omega)
  ·cases hc
 ·
  rename_i t x ho;split at hc
  ·rename_i n hn;split at hc
   case isFalse=>cases hc
   rename_i hsm;cases hc;simp only [z3e] at hr;split at hr
   ·rename_i cs hcs;split at hr
    ·rename_i hl;split at hr
     ·rename_i xs' h1 ha;cases hr;subst hl;refine zno (t:=t) (v:=a.eval x) R hd (zw R x) hcs hsm ha ?_;simp only [execOp,ho,Sem.run_bind,ya3,Result.andThen_ok,Sem.run_pure]
     ·cases hr
    ·cases hr
   ·cases hr
  ·cases hc
 ·
  rename_i t ho;split at hc
  ·rename_i n z hn hz;split at hc
   case isFalse=>cases hc
   rename_i hsm;cases hc;simp only [z3e,ev] at hr;split at hr
   ·rename_i cs hcs;split at hr
    ·rename_i hl;split at hr
     ·rename_i xs' h1 ha;cases hr;subst hl;refine zno (t:=t) (v:=z) R hd (zgl z) hcs hsm ha ?_
      have:(Instr.alloc t true (.tuple #[])).run P w = .ok (.pointer (some ⟨w.heap.size,0,none⟩)) (w.alloc (.cells z.cells t)):=by simp only [Instr.alloc,Sem.run_bind,zbc hz,Result.andThen_ok];rfl
      simp only [execOp,ho,Sem.run_bind,this,Result.andThen_ok,Sem.run_pure]
     ·cases hr
    ·cases hr
   ·cases hr
  ·cases hc
 ·
  rename_i t len parts ho;split at hc
  ·rename_i el hu;split at hc
   ·rename_i n z hn hz;split at hc
    ·rename_i hcond;obtain ⟨h24,hzs,hsm,h0,hz1⟩:=hcond;cases hc;simp only [z3e] at hr;split at hr
     ·rename_i cs hcs;split at hr
      ·rename_i xs' h1 ha;cases hr
       have hzv:VaC I σ (bl w) (replicate len (z.cells.toList.map cval)).flatten ((Array.range (len * n)).map (z.cells[· % z.cells.size]!)).toList:=by rw [zeq z.cells n hzs];exact VaC.rep _ hz1 len
       have hfill:=zdy (w:=w) (λi=>some (i * n,n)) a.eval (ev e) (λx=>zw R x) parts.toList (parts.toList.map λ(i,x)=>(i * n,n,x)) _ ((Array.range (len * n)).map (z.cells[· % z.cells.size]!)) cs (by simp) (λj q q' hq hq'=>by simp only [getElem?_map,hq,map_some,Option.some.injEq] at hq';subst hq';exact ⟨rfl,rfl⟩) hzv (by rw [map_map];exact hcs)
       obtain ⟨cells',f1,f2⟩:=hfill
       have hfs:∀ (l:List (Nat×Nat×AV)) (X X':List AV),z5a X l=some X'->X'.length=X.length:=by
        intro l
        induction l with
        | nil=>intro X X' h;simp only [z5a,Option.some.injEq] at h;rw [h]
        | cons q l ih =>
         intro X X' h;obtain ⟨o1,o2,o3⟩:=q;unfold z5a at h;split at h
         ·split at h
          ·rename_i hcc;rw [ih _ _ h];simp only [length_append,length_take,length_drop];omega
          ·cases h
         ·cases h
       have hcl:cs.length=len * n:=by rw [hfs _ _ _ hcs];have:=VaC.length _ _ hzv;rw [<- this];simp
       have hsz:cells'.size=len * n:=by have:=VaC.length _ _ f2;simp only [Array.length_toList] at this;omega
       obtain ⟨σ',q1,q2,q3,q4,q5,q6⟩:=zjw (s:=n) (cap:=len) (xs:=z4b n len cs) (cur:=cells') (E:=el) R hd hsm w rfl (by rw [zhc,z9g,take_of_length_le (by omega),take_of_length_le (by simp;omega)];exact f2) (ziw len cs (by omega)) hsz (by rw [z9g];exact Nat.le_refl _) ha
       have hrun:(Instr.buildSlice t len (parts.map λ(i,x)=>(i,a.eval x))).run P w = .ok (.slice (some ⟨w.heap.size,0,none⟩) len len) (w.alloc (.cells cells' el)):=by
        have e1:(parts.map λ(x:Nat×Operand)=>(x.1,a.eval x.2)).toList=parts.toList.map λ(x:Nat×Operand)=>(x.1,a.eval x.2):=by simp
        simp only [Instr.buildSlice,Sem.run_bind,run_underlying hu,Result.andThen_ok,z25 hn,Sem.run_ite];rw [if_neg (by omega)];by_cases hl0:len * n=0
        ·have hl0':len=0:=by
          rcases Nat.mul_eq_zero.1 hl0 with h | h
          ·exact h
          ·omega
         subst hl0';rw [if_pos (by omega)];simp only [Sem.run_pure,Result.andThen_ok,e1];simp only [Nat.zero_mul] at f1 ⊢;have e2:(Array.range 0).map (λx=>(#[]:Array Value)[x % (#[]:Array Value).size]!)=(Array.range 0).map (z.cells[· % z.cells.size]!):=by simp
         rw [e2,f1];rfl
        ·rw [if_neg hl0];simp only [Sem.run_bind,zbc hz,Result.andThen_ok,Sem.run_pure,e1,f1];rfl
       refine ⟨.slice (some ⟨w.heap.size,0,none⟩) len len,w.alloc (.cells cells' el),σ',by simp only [execOp,ho,Sem.run_bind,hrun,Result.andThen_ok,Sem.run_pure],Rel.put q1 R.size q2 R.defers hd ?_,Le.alloc _ _,λb hb=>z4o _ _ _ hb,λb hb=>?_,q5⟩
       ·simp only [Va,q3,if_pos hsm];exact ⟨_,len,rfl,by omega,Nat.le_refl _,λ_=>by rw [Nat.zero_mul]⟩
       ·rcases q6 b hb with hb | hb
        ·exact .inl hb
        ·exact .inr (by omega)
      ·cases hr
     ·cases hr
    ·cases hc
   ·cases hc
  ·cases hc
 ·rename_i t l c ho;split at hc
  ·rename_i el hu;split at hc
   ·rename_i i hi;split at hc
    ·rename_i z hz;split at hc
     ·rename_i hcond;obtain ⟨c1,c2,csm,c3,c4,c5,c6⟩:=hcond;cases hc;simp only [z3e] at hr;split at hr
      ·rename_i k n hn;split at hr
       ·rename_i hb;cases hr;exact zpp R hd ho (by rw [c1]) hu hi hz c2 csm c3 c4 c5 c6 hn hb.1 hb.2
       ·cases hr
      ·cases hr
     ·cases hc
    ·cases hc
   ·cases hc
  ·cases hc
 ·rename_i t l c ho;split at hc
  ·rename_i el hu;split at hc
   ·rename_i i hi;split at hc
    ·rename_i z hz;split at hc
     ·rename_i hcond;obtain ⟨c1,c2,csm,c3,c4,c5,c6⟩:=hcond;cases hc;simp only [z3e] at hr;split at hr
      ·rename_i k n hn;split at hr
       ·rename_i hb;cases hr;exact zpp R hd ho (by rw [c1]) hu hi hz c2 csm c3 c4 c5 c6 hn hb.1 hb.2
       ·cases hr
      ·cases hr
     ·cases hc
    ·cases hc
   ·cases hc
  ·cases hc
 ·cases hc
end
section
variable {P:Program}{w:World}
theorem y4s {t t2 ty el:TypeId}{d2:TypeDesc}{i:TypeInfo}{z:Value}(ht:P.underlying t=some (.slice el))(h2:P.underlying t2=some d2)(hd2:d2 = .slice el\/d2 = .string)(hi:P.info? el=some i)(hz:i.zero=some z)
  {A:Option Addr} {len cap m:Nat} {src:Value} {olds news:List Value} (hlen:(Builtin.lenOf src).run P w = .ok m w) (hold:(Builtin.firstCells i.size len (.slice A len cap)).run P w.drew = .ok olds.toArray w.drew) (hnew:(Builtin.firstCells i.size m src).run P w.drew = .ok news.toArray w.drew)
  (hb:(len+m) * i.bytes<=140737488355328) (hb0:0<i.bytes) (hgt:cap<len+m) :
  (Builtin.append_ #[t,t2] ty #[.slice A len cap,src]).run P w = .ok (.slice (some ⟨w.heap.size,0,none⟩) (len+m) (grownCap w (len+m) cap el))
   (w.drew.alloc (.cells (olds.toArray++news.toArray++Builtin.zeroCells z.cells (grownCap w (len+m) cap el - (len+m))) el)):=by
 have hfit:=growslice_fits (need:=len+m) (old:=cap) hgt hb
 have h63:((len+m:Nat):Int)<=i64.max:=by have h1:(len+m) * 1<=(len+m) * i.bytes:=Nat.mul_le_mul_left _ hb0;have:i64.max=9223372036854775807:=rfl;rw [this];omega
 have n1:¬ len+m<=cap:=by omega
 have n2:¬ (281474976710656<Builtin.nextslicecap (len+m) cap * i.bytes):=by omega
 have n3:¬ (9223372036854775807<(len:Int)+(m:Int)):=by have:i64.max=9223372036854775807:=rfl;rw [this] at h63;push_cast at h63;omega
 have n4:¬ (i.bytes=0):=by omega
 rcases hd2 with rfl | rfl <;>
 ·simp [Builtin.append_,run_underlying ht,run_underlying h2,Go.sizeOf,typeInfo,hi,hlen,n1,n2,n3,n4,hold,hnew,zeroValue,hz,Question.forced,newRow];refine ⟨rfl,?_⟩;congr 2;apply Array.ext';simp [grownCap]
theorem z6j (g o:Nat)(t:TypeId)(fr:Nat×Nat):∀ (vs:List Value) (i:Nat) (cur:Array Value) (w:World),(fr.1=fr.2\/cur.size<=fr.1)->w.heap[g]?=some (.cells cur t fr)->o+i+vs.length<=cur.size->(∀ v∈vs,v.oneCell'=true) ->
  (storeCells ⟨g,o,none⟩ vs i).run P w = .ok () (w.setRow g (cur.toList.take (o+i)++vs++cur.toList.drop (o+i+vs.length)).toArray)
 | [],i,cur,w,_,hg,_,_=>by simp only [storeCells,append_nil,List.length_nil,Nat.add_zero,take_append_drop,Array.toArray_toList];rw [setRow_self w g cur t fr hg];rfl
 | v::rest,i,cur,w,hf,hg,hl,h1=>by
  have hi:o+i<cur.size:=by simp at hl;omega
  have hcell:w.cell? ⟨g,o+i,none⟩=some cur[o+i]:=by simp [World.cell?,hg,hi]
  have hfro:w.frozen? ⟨g,o+i,none⟩=false:=by
   simp only [World.frozen?,hg,Bool.and_eq_false_iff,decide_eq_false_iff_not];rcases hf with hf | hf
   ·by_cases q:fr.1<=o+i
    ·exact .inr (by omega)
    ·exact .inl q
   ·exact .inl (by omega)
  have hst:(store ((⟨g,o,none⟩:Addr).add i) v).run P w = .ok () (w.setRow g (cur.setIfInBounds (o+i) v)):=by rw [z2h,run_store P w _ v _ (h1 v (by simp)),hcell];simp [hfro,setCell_eq_setRow w g (o+i) cur t fr v hg]
  have ih:=z6j g o t fr rest (i+1) (cur.setIfInBounds (o+i) v) (w.setRow g (cur.setIfInBounds (o+i) v)) (by simpa using hf) (setRow_heap w g cur _ t _ hg) (by simp at hl ⊢;omega) (λx hx=>h1 x (by simp [hx]));simp only [storeCells,Sem.run_bind,hst,Result.andThen_ok,ih,setRow_setRow];congr 3;have e:=list_seg_step cur.toList (o+i) v rest (by simp at hl ⊢;omega);simpa [Array.toList_setIfInBounds,Nat.add_assoc] using e
theorem y4u {t t2 ty el:TypeId}{d2:TypeDesc}{i:TypeInfo}(ht:P.underlying t=some (.slice el))(h2:P.underlying t2=some d2)(hd2:d2 = .slice el\/d2 = .string)(hi:P.info? el=some i)
  {b len cap m:Nat} {src:Value} {news:List Value} {cur:Array Value} {E:TypeId} (hlen:(Builtin.lenOf src).run P w = .ok m w) (hnew:(Builtin.firstCells i.size m src).run P w = .ok news.toArray w)
  (hle:len+m<=cap) {fr:Nat×Nat} (hfr:fr.1=fr.2\/cur.size<=fr.1) (hB:w.heap[b]?=some (.cells cur E fr)) (hnl:news.length=m * i.size) (hsz:cur.size=cap * i.size) (h1:∀ v∈news,v.oneCell'=true) :
  (Builtin.append_ #[t,t2] ty #[.slice (some ⟨b,0,none⟩) len cap,src]).run P w = .ok (.slice (some ⟨b,0,none⟩) (len+m) cap)
   (w.setRow b (cur.toList.take (len * i.size)++news++cur.toList.drop (len * i.size+news.length)).toArray):=by
 have hfit:len * i.size+news.length<=cur.size:=by rw [hnl,hsz,<- Nat.add_mul];exact Nat.mul_le_mul_right _ hle
 have hst:=z6j (P:=P) b (len * i.size) E fr news 0 cur w hfr hB (by simpa using hfit) h1;simp only [Nat.add_zero] at hst;rcases hd2 with rfl | rfl<;>simp [Builtin.append_,run_underlying ht,run_underlying h2,Go.sizeOf,typeInfo,hi,hlen,hle,hnew,z2h,hst]
theorem y4t {t t2 ty el:TypeId}{d2:TypeDesc}{i:TypeInfo}(ht:P.underlying t=some (.slice el))(h2:P.underlying t2=some d2)(hd2:d2 = .slice el\/d2 = .string)(hi:P.info? el=some i)
  {A:Option Addr} {src:Value} (hlen:(Builtin.lenOf src).run P w = .ok 0 w) (hnew:(Builtin.firstCells i.size 0 src).run P w = .ok #[] w) :
  (Builtin.append_ #[t,t2] ty #[.slice A 0 0,src]).run P w = .ok (.slice A 0 0) w:=by
 rcases hd2 with rfl | rfl<;>cases A<;>simp [Builtin.append_,run_underlying ht,run_underlying h2,Go.sizeOf,typeInfo,hi,hlen,hnew,storeCells]
end
section
variable {P:Program}{I:Nat->Prop}{N:Nat}[Dfs N]{σ σ':Pl}{B B':zm}{w:World}{h h':H}{e:Env}{a:Act}{k k':Nat}
theorem CeE.cells {p:Path}{s:Nat}:∀ (xs:Els) (i:Nat) (cs:List Value),CeE I σ B k p i s xs cs->xs.length * s<=cs.length
 | [],_,_,_=>by simp
 | x::xs,i,cs,h=>by have h1:=CeC.length x 0 _ h.2.1;have h2:=CeE.cells xs (i+1) _ h.2.2;rw [length_take,h.1] at h1;rw [length_drop] at h2;rw [length_cons,Nat.add_mul,Nat.one_mul];omega
theorem CeE.same {p:Path}{s:Nat}:∀ (xs:Els) (i:Nat) (cs cs':List Value),CeE I σ B k p i s xs cs->cs'.take (xs.length * s)=cs.take (xs.length * s)->CeE I σ B k p i s xs cs'
 | [],_,_,_,_,_=>trivial
 | x::xs,i,cs,cs',h,he=>by
  have hl:(x::xs).length * s=s+xs.length * s:=by rw [length_cons,Nat.add_mul,Nat.one_mul,Nat.add_comm]
  rw [hl,take_add,take_add] at he;have hc:=CeE.cells (x::xs) i cs h;rw [hl] at hc;have hlen:(cs'.take (s+xs.length * s)).length=s+xs.length * s:=by rw [take_add,he,<- take_add,length_take];omega
  have hc':s+xs.length * s<=cs'.length:=by rw [length_take] at hlen;omega
  have e1:cs'.take s=cs.take s:=List.append_inj_left he (by rw [length_take,length_take];omega);have e2:=List.append_inj_right he (by rw [length_take,length_take];omega);exact ⟨h.1,by rw [e1];exact h.2.1,CeE.same xs (i+1) _ _ h.2.2 e2⟩
theorem CeE.app {p:Path}{s:Nat}:∀ (xs ys:Els) (i:Nat) (c1 c2:List Value),CeE I σ B k p i s xs c1->c1.length=xs.length * s->CeE I σ B k p (i+xs.length) s ys c2->CeE I σ B k p i s (xs++ys) (c1++c2)
 | [],ys,i,c1,c2,_,hl,h2=>by simp only [List.length_nil,Nat.zero_mul] at hl;rw [List.eq_nil_of_length_eq_zero hl];simpa using h2
 | x::xs,ys,i,c1,c2,h1,hl,h2=>by
  rw [length_cons,Nat.add_mul,Nat.one_mul] at hl;refine ⟨h1.1,?_,?_⟩
  ·rw [take_append_of_le_length (by omega)];exact h1.2.1
  ·rw [List.drop_append_of_le_length (by omega)];exact CeE.app xs ys (i+1) _ c2 h1.2.2 (by rw [length_drop];omega) (by rw [length_cons] at h2;rwa [show i+1+xs.length=i+(xs.length+1) by omega])
theorem zkt {p:Path}:∀ (xs ys:Els) (i:Nat),fpE σ k p i (xs++ys)=fpE σ k p i xs++fpE σ k p (i+xs.length) ys
 | [],ys,i=>by simp [fpE]
 | x::xs,ys,i=>by rw [cons_append,fpE,fpE,zkt xs ys (i+1),append_assoc,length_cons,show i+1+xs.length=i+(xs.length+1) by omega]
theorem CeE.shift {p p':Path}(s n:Nat)(hσ:∀ i' c' q,σ' k' (p'++(i'+n,c')::q)=σ k (p++(i',c')::q)):∀ (l:Els) (i:Nat) (cs:List Value),CeE I σ B k p i s l cs->CeE I σ' B k' p' (i+n) s l cs:=by
 have hA:∀ (i c:Nat) (x:AV) (v:Value),Ce I σ B k p i c x v->Ce I σ' B k' p' (i+n) c x v:=by
  intro i c x v h;cases x with
  | ow s1 xs =>
   simp only [Ce] at h ⊢;have h0:=hσ i c [];rw [show p'++[(i+n,c)]=p'++(i+n,c)::[] by rfl,h0];cases hs:σ k (p++[(i,c)]) with
   | none=>simpa only [hs] using h
   | some L =>simp only [hs] at h ⊢;obtain ⟨h1,h2,h3,cur,E,h4,h5,h6⟩:=h;exact ⟨h1,h2,h3,cur,E,h4,h5,CeE.ren (p:=p++[(i,c)]) (p':=p'++[(i+n,c)]) 0 (esz s1) (λi' c' q=>by simpa using hσ i c ((i',c')::q)) xs _ h6⟩
  | sc _=>exact h
  | zs=>exact h
  | im _ _=>exact h
  | un=>exact h
  | sl _ _ _ _=>exact h.elim
  | pt _ _ _ _=>exact h.elim
  | ip _ _ _ _=>exact h.elim
  | ag _=>exact h.elim
  | tu _=>exact h.elim
  | fn _ _=>exact h.elim
  | pp _=>exact h.elim
 have hC:∀ (i:Nat) (l:List AV) (c:Nat) (cs:List Value),CeC I σ B k p i c l cs->CeC I σ' B k' p' (i+n) c l cs:=by
  intro i l
  induction l with
  | nil=>intro _ _ h;exact h
  | cons x l ih =>intro c cs h;obtain ⟨v,cs',rfl,h1,h2⟩:=h;exact ⟨v,cs',rfl,hA i c x v h1,ih (c+1) cs' h2⟩
 intro l
 induction l with
 | nil=>intro _ _ _;trivial
 | cons x l ih =>intro i cs h;exact ⟨h.1,hC i x 0 _ h.2.1,by have:=ih (i+1) _ h.2.2;rwa [show i+1+n=i+n+1 by omega] at this⟩
theorem fpE.shift {p p':Path}(n:Nat)(hσ:∀ i' c' q,σ' k' (p'++(i'+n,c')::q)=σ k (p++(i',c')::q)):∀ (l:Els) (i:Nat),fpE σ' k' p' (i+n) l=fpE σ k p i l:=by
 have hA:∀ (i c:Nat) (x:AV),fpA σ' k' p' (i+n) c x=fpA σ k p i c x:=by
  intro i c x;cases x with
  | ow s1 xs =>
   simp only [fpA];have h0:=hσ i c [];rw [show p'++[(i+n,c)]=p'++(i+n,c)::[] by rfl,h0];cases hs:σ k (p++[(i,c)]) with
   | none=>rfl
   | some L=>simp only;rw [fpE.ren (p:=p++[(i,c)]) (p':=p'++[(i+n,c)]) 0 (λi' c' q=>by simpa using hσ i c ((i',c')::q)) xs]
  | _=>rfl
 have hC:∀ (i:Nat) (l:List AV) (c:Nat),fpC σ' k' p' (i+n) c l=fpC σ k p i c l:=by
  intro i l
  induction l with | nil=>intro _;rfl | cons x l ih=>intro c;simp only [fpC];rw [hA,ih]
 intro l
 induction l with
 | nil=>intro _;rfl
 | cons x l ih =>intro i;simp only [fpE];rw [hC,show i+n+1=i+1+n by omega,ih]
theorem zqb {key s b cap:Nat}(hsm:s<MB){xs:Els}{h1:H}{w':World}{cur:Array Value}{E:EFc cur}(hh:zk I σ h1 w)(hkey:key∉h1.map Prod.fst)(hfp:∀ b∈fpE σ key [] 0 xs,b∉fpH σ h1/\¬ I b/\b<w.heap.size)(hnd:(fpE σ key [] 0 xs).Nodup)
  (hb1:b∉fpH σ h1) (hb2:¬ I b) (hb3:b<w'.heap.size) (hb4:b∉fpE σ key [] 0 xs) (hsz:w.heap.size<=w'.heap.size) (hB:∀ b',b'<w.heap.size->b'≠b->bl w' b'=bl w b') (hnew:bl w' b=some (.cells cur E.t E.fr)) (hcs:cur.size=cap * s) (hle:xs.length<=cap)
  (hE:CeE I σ (bl w) key [] 0 s xs cur.toList) :
  zk I (λk q=>if k=key/\q=[] then some ⟨b,cap,s⟩ else σ k q) ((key,⟨s,xs⟩)::h1) w'/\(∀ b'∈fpH (λk q=>if k=key/\q=[] then some ⟨b,cap,s⟩ else σ k q) ((key,⟨s,xs⟩)::h1),b'∈fpH σ h1\/b'∈fpE σ key [] 0 xs\/b'=b):=by
 have hσ:∀ k',k'≠key->∀ q,(if k'=key/\q=[] then some (⟨b,cap,s⟩:Loc) else σ k' q)=σ k' q:=λk' hk q=>if_neg (λe=>hk e.1);have hσ2:∀ i' c' q,(if key=key/\([]:Path)++(i',c')::q=[] then some (⟨b,cap,s⟩:Loc) else σ key ([]++(i',c')::q))=σ key ([]++(i',c')::q):=λi' c' q=>if_neg (λe=>by simp at e);have hfpE:fpE (λk q=>if k=key/\q=[] then some (⟨b,cap,s⟩:Loc) else σ k q) key [] 0 xs=fpE σ key [] 0 xs:=fpE.ren (p:=[]) (p':=[]) 0 hσ2 xs
 have hfpR:fpR (λk q=>if k=key/\q=[] then some (⟨b,cap,s⟩:Loc) else σ k q) key ⟨s,xs⟩=b::fpE σ key [] 0 xs:=by unfold fpR;simp only [and_self,if_true,hfpE]
 refine ⟨zk.add (σ:=σ) (w:=w) hh hkey hσ (λb' hb' hm=>hB b' hb' (λe=>by subst e;exact hm.elim hb2 hb1)) hsz ?_ ?_ ?_,?_⟩
 ·unfold zy;simp only [and_self,if_true];refine ⟨trivial,λ_=>hle,cur,EF.mk' hsm E.t E.fr E.ok,hnew,by rw [zaf hsm,z95 hsm];exact hcs,?_⟩;rw [z95 hsm];refine (CeE.ren (σ:=σ) (k:=key) (p:=[]) 0 s hσ2 xs _ (CeE.mono ?_ key [] 0 s xs _ ?_ hE))
  ·intro b' hb';exact hB b' (hh.low b' hb') (λe=>hb2 (e ▸ hb'))
  ·intro b' hb';exact hB b' (hfp b' hb').2.2 (λe=>hb4 (e ▸ hb'))
 ·rw [hfpR,nodup_cons];exact ⟨hb4,hnd⟩
 ·intro b' hb';rw [hfpR,mem_cons] at hb';rcases hb' with rfl | hb'
  ·exact ⟨hb1,hb2,hb3⟩
  ·have:=hfp b' hb';exact ⟨this.1,this.2.1,by omega⟩
 ·intro b' hb';rw [z1o,hfpR,fpH.ren h1 (λk hk q=>hσ k (λe=>hkey (e ▸ hk)) q),mem_append,mem_cons] at hb';rcases hb' with (rfl | hb') | hb'
  ·exact .inr (.inr rfl)
  ·exact .inr (.inl hb')
  ·exact .inl hb'
theorem y4r {t t2 ty el:TypeId}{d2:TypeDesc}{i:TypeInfo}{z:Value}(ht:P.underlying t=some (.slice el))(h2:P.underlying t2=some d2)(hd2:d2 = .slice el\/d2 = .string)(hi:P.info? el=some i)(hz:i.zero=some z)(hzs:z.cells.size=i.size)(hsm:i.size<MB)
  (hb0:0<i.bytes) (tb:Option Nat) {key:Nat} {old srcs:Els} {h1:H} {V src:Value} {news:List Value}
  (hh:zk I σ h1 w) (hkey:key∉h1.map Prod.fst)
  (htgt:(tb=none/\old=[]/\∃ A,V = .slice A 0 0)\/(∃ (b cap:Nat) (cur:Array Value) (E:EFc cur),tb=some b/\V = .slice (some ⟨b,0,none⟩) old.length cap/\bl w b=some (.cells cur E.t E.fr)/\cur.size=cap * i.size/\old.length<=cap/\CeE I σ (bl w) key [] 0 i.size old cur.toList /\
   b∉fpH σ h1/\¬ I b/\b<w.heap.size/\b∉fpE σ key [] 0 (old++srcs)))
  (hfp:∀ b∈fpE σ key [] 0 (old++srcs),b∉fpH σ h1/\¬ I b/\b<w.heap.size) (hnd:(fpE σ key [] 0 (old++srcs)).Nodup)
  (hlen:(Builtin.lenOf src).run P w = .ok srcs.length w) (hnew:∀ w',w'.heap=w.heap->(Builtin.firstCells i.size srcs.length src).run P w' = .ok news.toArray w') (hsrc:CeE I σ (bl w) key [] old.length i.size srcs news) (hnl:news.length=srcs.length * i.size)
  (hone:∀ v∈news,v.oneCell'=true) (hb:(old.length+srcs.length) * i.bytes<=140737488355328) (hnone:tb=none->srcs=[]->σ key []=none) :
  ∃ v' w' σ',(Builtin.append_ #[t,t2] ty #[V,src]).run P w = .ok v' w'/\zk I σ' ((key,⟨i.size,old++srcs⟩)::h1) w'/\Va I σ' (bl w') (.sl key [] 0 (old.length+srcs.length)) v'/\(∀ k q,(k,q)≠(key,[])->σ' k q=σ k q)/\Le w w' /\
   (∀ b,b<w.heap.size->some b≠tb->bl w' b=bl w b)/\(∀ b∈fpH σ' ((key,⟨i.size,old++srcs⟩)::h1),b∈fpH σ h1\/b∈fpE σ key [] 0 (old++srcs)\/w.heap.size<=b\/tb=some b):=by
 have grow:∀ (A:Option Addr) (cap:Nat) (olds:List Value),V = .slice A old.length cap->cap<old.length+srcs.length->(∀ w',w'.heap=w.heap->(Builtin.firstCells i.size old.length V).run P w' = .ok olds.toArray w')->CeE I σ (bl w) key [] 0 i.size old olds->olds.length=old.length * i.size ->
   ∃ v' w' σ',(Builtin.append_ #[t,t2] ty #[V,src]).run P w = .ok v' w'/\zk I σ' ((key,⟨i.size,old++srcs⟩)::h1) w'/\Va I σ' (bl w') (.sl key [] 0 (old.length+srcs.length)) v'/\(∀ k q,(k,q)≠(key,[])->σ' k q=σ k q)/\Le w w' /\
   (∀ b,b<w.heap.size->some b≠tb->bl w' b=bl w b)/\(∀ b∈fpH σ' ((key,⟨i.size,old++srcs⟩)::h1),b∈fpH σ h1\/b∈fpE σ key [] 0 (old++srcs)\/w.heap.size<=b\/tb=some b):=by
  intro A cap olds hV hgt hold hE hol;subst hV;have hrun:=y4s (P:=P) (w:=w) (ty:=ty) ht h2 hd2 hi hz hlen (hold w.drew rfl) (hnew w.drew rfl) hb hb0 hgt;have hge:=grownCap_ge w (old.length+srcs.length) cap el;have hsz:w.heap.size<=(w.drew.alloc (.cells (olds.toArray++news.toArray++Builtin.zeroCells z.cells (grownCap w (old.length+srcs.length) cap el - (old.length+srcs.length))) el)).heap.size:=by simp
  have hBlk:∀ b',b'<w.heap.size->bl (w.drew.alloc (.cells (olds.toArray++news.toArray++Builtin.zeroCells z.cells (grownCap w (old.length+srcs.length) cap el - (old.length+srcs.length))) el)) b'=bl w b':=λb' hb'=>z4o w.drew _ b' hb'
  have hcur:(olds.toArray++news.toArray++Builtin.zeroCells z.cells (grownCap w (old.length+srcs.length) cap el - (old.length+srcs.length))).size=grownCap w (old.length+srcs.length) cap el * i.size:=by rw [Array.size_append,Array.size_append,size_toArray,size_toArray,size_zeroCells,hzs,hol,hnl,<- Nat.add_mul,<- Nat.add_mul];congr 1;omega
  obtain ⟨q1,q2⟩:=zqb hsm (w':=w.drew.alloc (.cells (olds.toArray++news.toArray++Builtin.zeroCells z.cells (grownCap w (old.length+srcs.length) cap el - (old.length+srcs.length))) el)) (b:=w.heap.size) (cap:=grownCap w (old.length+srcs.length) cap el) (s:=i.size)
   hh hkey hfp hnd (λhm=>by have:=(hh.apart _ hm).2;omega) (λhm=>by have:=hh.low _ hm;omega) (by simp) (λhm=>by have:=(hfp _ hm).2.2;omega) hsz (λb' hb' _=>hBlk b' hb') (E:=⟨el,(0,0),.inl rfl⟩) (heap_alloc_new w.drew _) hcur (by rw [length_append];exact hge) (by rw [Array.toList_append,Array.toList_append];refine CeE.same (old++srcs) 0 (olds++news) _ (CeE.app old srcs 0 olds news hE hol (by rwa [Nat.zero_add])) ?_;rw [take_append_of_le_length (by simp [hol,hnl,Nat.add_mul])])
  refine ⟨_,_,_,hrun,q1,?_,λk q hkq=>if_neg (λe=>hkq (by rw [e.1,e.2])),Le.drewAlloc _ _,λb' hb' _=>hBlk b' hb',λb' hb'=>?_⟩
  ·simp only [Va,and_self,if_true,if_pos hsm];exact ⟨_,_,rfl,by omega,hge,λ_=>by simp⟩
  ·rcases q2 b' hb' with h | h | h
   ·exact .inl h
   ·exact .inr (.inl h)
   ·exact .inr (.inr (.inl (by omega)))
 rcases htgt with ⟨rfl,rfl,A,rfl⟩ | ⟨b,cap,cur,E,rfl,rfl,hB,hcs,hle,hE,hb1,hb2,hb3,hb4⟩
 ·by_cases hs:srcs=[]
  ·subst hs;have hn:news=[]:=List.eq_nil_of_length_eq_zero (by simpa using hnl);subst hn;have hrun:=y4t (P:=P) (w:=w) (ty:=ty) (A:=A) ht h2 hd2 hi hlen (hnew w rfl);have hno:=hnone rfl rfl;refine ⟨_,w,σ,hrun,?_,?_,λ_ _ _=>rfl,Le.refl _,λ_ _ _=>rfl,λb hb=>.inl ?_⟩
   ·refine zk.add (σ:=σ) (w:=w) hh hkey (λ_ _ _=>rfl) (λ_ _ _=>rfl) (Nat.le_refl _) ?_ ?_ ?_
    ·unfold zy;simp only [hno];exact ⟨rfl,hsm⟩
    ·unfold fpR;simp only [hno];exact nodup_nil
    ·unfold fpR;simp only [hno];intro b hb;cases hb
   ·simp only [Va,hno];exact ⟨rfl,trivial,A,rfl⟩
   ·rw [z1o] at hb;unfold fpR at hb;simpa only [hno,nil_append] using hb
  ·have hpos:0<srcs.length:=List.length_pos_iff.2 hs;refine grow A 0 [] rfl (by simpa using hpos) (λw' _=>?_) trivial (by simp);cases A with | none=>simp [Builtin.firstCells] | some A=>simp [Builtin.firstCells,loadCells,loadCellsFrom]
 ·have hcells:=CeE.cells old 0 _ hE;have hcl:cur.toList.length=cur.size:=Array.length_toList;by_cases hroom:old.length+srcs.length<=cap
  ·have hrun:=y4u (P:=P) (w:=w) (ty:=ty) ht h2 hd2 hi hlen (hnew w rfl) hroom E.ok hB hnl hcs hone;have hfit:old.length * i.size+news.length<=cur.size:=by rw [hnl,hcs,<- Nat.add_mul];exact Nat.mul_le_mul_right _ hroom
   have hBlk:∀ b',b'≠b->bl (w.setRow b (cur.toList.take (old.length * i.size)++news++cur.toList.drop (old.length * i.size+news.length)).toArray) b'=bl w b':=λb' hb'=>setRow_other w b b' _ hb'
   obtain ⟨q1,q2⟩:=zqb hsm (w':=w.setRow b (cur.toList.take (old.length * i.size)++news++cur.toList.drop (old.length * i.size+news.length)).toArray) (b:=b) (cap:=cap) (s:=i.size) (xs:=old++srcs)
    hh hkey hfp hnd hb1 hb2 (by rw [size_setRow];exact hb3) hb4 (by rw [size_setRow];exact Nat.le_refl _) (λb' _ hb'=>hBlk b' hb') (E:=⟨E.t,E.fr,by rw [size_toArray,length_append,length_append,length_take,length_drop,show min (old.length * i.size) cur.toList.length+news.length+(cur.toList.length - (old.length * i.size+news.length))=cur.size by omega];exact E.ok⟩) (setRow_heap w b cur _ E.t _ hB) (by
     rw [size_toArray,length_append,length_append,length_take,length_drop];omega) (by rw [length_append];exact hroom) (by
     refine CeE.same (old++srcs) 0 (cur.toList.take (old.length * i.size)++news) _ (CeE.app old srcs 0 _ news (CeE.same old 0 _ _ hE (by rw [take_take,Nat.min_self])) (by rw [length_take];omega) (by rwa [Nat.zero_add])) ?_
     rw [take_append_of_le_length (by rw [length_append,length_append,length_take,hnl,Nat.add_mul];omega)])
   refine ⟨_,_,_,hrun,q1,?_,λk q hkq=>if_neg (λe=>hkq (by rw [e.1,e.2])),⟨by rw [size_setRow];exact Nat.le_refl _,rfl,rfl,rfl⟩,λb' _ hb'=>hBlk b' (λe=>hb' (by rw [e])),λb' hb'=>?_⟩
   ·simp only [Va,and_self,if_true,if_pos hsm];exact ⟨_,_,rfl,by omega,hroom,λ_=>by simp⟩
   ·rcases q2 b' hb' with h | h | h
    ·exact .inl h
    ·exact .inr (.inl h)
    ·exact .inr (.inr (.inr (by rw [h])))
  ·refine grow (some ⟨b,0,none⟩) cap (cur.toList.take (old.length * i.size)) rfl (by omega) (λw' hw'=>?_) (CeE.same old 0 _ _ hE (by rw [take_take,Nat.min_self])) (by rw [length_take];omega);refine run_firstCells_some w' i.size old.length ⟨b,0,none⟩ old.length cap _ (by rw [length_take];omega) (λj u hj=>?_);rw [z2h,cell_of_row w' b (0+j) cur E.t E.fr (by rw [hw'];exact hB),Nat.zero_add];rw [getElem?_take] at hj;split at hj
   ·simpa using hj
   ·cases hj
end
def zfo:AV->Bool
 | .sc u=>u.oneCell'
 | .zs | .im _ _ | .un=>true
 | _=>false
def zbq (xs:Els):Bool:=xs.all (·.all zfo)
def bytesOf (s:ByteArray):List Int:=s.data.toList.map λb=>(b.toNat:Int)
def z47 (h:H)(s:Nat):AV->Option (Els×Option Nat)
 | .zs=>some ([],none)
 | .sc (.string b)=>if s=1 then some ((bytesOf b).map λn=>[.sc (.int .u8 n)],none) else none
 | .im s' ys=>if s'=s then some (ys,none) else none
 | .sl k p off len =>
  match res h k p with
  | some (s',ys) =>
   if s'=s/\off+len<=ys.length then
    if zbq ((ys.drop off).take len) then some ((ys.drop off).take len,none)
    else if p=[]/\off=0 then some (ys.take len,some k) else none
   else none
  | none=>none
 | _=>none
def z24 (h:H):Option Nat->H
 | none=>h
 | some k=>zc h k
def zc9 (e:Operand->AV)(h:H)(d s bytes:Nat)(x y:Operand):Option (AV×H×Nat) :=
 match z47 h s (e y) with
 | some (zs,mv) =>
  match e x with
  | .zs=>if zs.length * bytes<=140737488355328 then some (.sl d [] 0 zs.length,(d,⟨s,zs⟩)::zc (z24 h mv) d,d) else none
  | .sl k p off len =>
   if p=[]/\off=0 then
    match z6 (z24 h mv) k with
    | some r=>if r.s=s/\len<=r.xs.length/\(len+zs.length) * bytes<=140737488355328 then some (.sl k [] 0 (len+zs.length),(k,⟨s,r.xs.take len++zs⟩)::zc (z24 h mv) k,k) else none
    | none=>none
   else none
  | _=>none
 | none=>none
section
variable {P:Program}{I:Nat->Prop}{N:Nat}[Dfs N]{σ σ':Pl}{B B':zm}{w:World}{h h':H}{e:Env}{a:Act}{k k':Nat}
theorem Im.ce {p:Path}{i c:Nat}:∀ (x:AV) (v:Value),Im I B x v->Ce I σ B k p i c x v/\fpA σ k p i c x=[]
 | .sc _,_,h=>⟨h,rfl⟩
 | .zs,_,h=>⟨h,rfl⟩
 | .un,_,h=>⟨h,rfl⟩
 | .im _ _,_,h=>⟨h,rfl⟩
 | .ag _,_,h=>h.elim
 | .tu _,_,h=>h.elim
 | .ip _ _ _ _,_,h=>h.elim
 | .sl _ _ _ _,_,h=>h.elim
 | .pt _ _ _ _,_,h=>h.elim
 | .fn _ _,_,h=>h.elim
 | .ow _ _,_,h=>h.elim
 | .pp _,_,h=>h.elim
theorem ImC.ce {p:Path}{i:Nat}:∀ (l:List AV) (c:Nat) (cs:List Value),ImC I B l cs->CeC I σ B k p i c l cs/\fpC σ k p i c l=[]
 | [],_,_,h=>⟨h,rfl⟩
 | x::l,c,_,h=>by obtain ⟨v,cs',rfl,h1,h2⟩:=h;have h3:=Im.ce (σ:=σ) (k:=k) (p:=p) (i:=i) (c:=c) x v h1;have h4:=ImC.ce (p:=p) (i:=i) l (c+1) cs' h2;exact ⟨⟨v,cs',rfl,h3.1,h4.1⟩,by simp only [fpC,h3.2,h4.2];rfl⟩
theorem ImE.ce {p:Path}{s:Nat}:∀ (l:Els) (i:Nat) (cs:List Value),ImE I B s l cs->CeE I σ B k p i s l cs/\fpE σ k p i l=[]
 | [],_,_,_=>⟨trivial,rfl⟩
 | x::l,i,cs,h=>by have h3:=ImC.ce (σ:=σ) (k:=k) (p:=p) (i:=i) x 0 _ h.2.1;have h4:=ImE.ce (p:=p) l (i+1) _ h.2.2;exact ⟨⟨h.1,h3.1,h4.1⟩,by simp only [fpE,h3.2,h4.2];rfl⟩
theorem Ce.flat {p p':Path}{i i' c c':Nat}:∀ (x:AV) (v:Value),zfo x=true->Ce I σ B k p i c x v->Ce I σ' B k' p' i' c' x v/\fpA σ' k' p' i' c' x=[]
 | .sc _,_,_,h=>⟨h,rfl⟩
 | .zs,_,_,h=>⟨h,rfl⟩
 | .im _ _,_,_,h=>⟨h,rfl⟩
 | .un,_,_,h=>⟨h,rfl⟩
 | .ag _,_,_,h=>h.elim
 | .tu _,_,_,h=>h.elim
 | .ip _ _ _ _,_,_,h=>h.elim
 | .sl _ _ _ _,_,_,h=>h.elim
 | .pt _ _ _ _,_,_,h=>h.elim
 | .fn _ _,_,_,h=>h.elim
 | .pp _,_,_,h=>h.elim
 | .ow _ _,_,h,_=>by cases h
theorem CeC.flat {p p':Path}{i i':Nat}:∀ (l:List AV) (c c':Nat) (cs:List Value),l.all zfo=true->CeC I σ B k p i c l cs->CeC I σ' B k' p' i' c' l cs/\fpC σ' k' p' i' c' l=[]
 | [],_,_,_,_,h=>⟨h,rfl⟩
 | x::l,c,c',_,hf,h=>by simp only [all_cons,and_eq_true] at hf;obtain ⟨v,cs',rfl,h1,h2⟩:=h;have h3:=Ce.flat (σ':=σ') (k':=k') (p':=p') (i':=i') (c':=c') x v hf.1 h1;have h4:=CeC.flat (p':=p') (i':=i') l (c+1) (c'+1) cs' hf.2 h2;exact ⟨⟨v,cs',rfl,h3.1,h4.1⟩,by simp only [fpC,h3.2,h4.2];rfl⟩
theorem CeE.flat {p p':Path}{s:Nat}:∀ (l:Els) (i i':Nat) (cs:List Value),zbq l=true->CeE I σ B k p i s l cs->CeE I σ' B k' p' i' s l cs/\fpE σ' k' p' i' l=[]
 | [],_,_,_,_,_=>⟨trivial,rfl⟩
 | x::l,i,i',cs,hf,h=>by simp only [zbq,all_cons,and_eq_true] at hf;have h3:=CeC.flat (σ':=σ') (k':=k') (p':=p') (i':=i') x 0 0 _ hf.1 h.2.1;have h4:=CeE.flat (p':=p') l (i+1) (i'+1) _ hf.2 h.2.2;exact ⟨⟨h.1,h3.1,h4.1⟩,by simp only [fpE,h3.2,h4.2];rfl⟩
theorem CeC.one {p:Path}{i:Nat}:∀ (l:List AV) (c:Nat) (cs:List Value),CeC I σ B k p i c l cs->∀ v∈cs,v.oneCell'=true
 | [],_,_,h=>by simp only [CeC] at h;simp [h]
 | a::as,c,_,h=>by
  obtain ⟨v,cs',rfl,h1,h2⟩:=h;intro u hu;rcases mem_cons.1 hu with rfl | hu
  ·exact (Ce.va a u h1).2
  ·exact CeC.one as (c+1) cs' h2 u hu
theorem CeE.one {p:Path}{s:Nat}:∀ (xs:Els) (i:Nat) (cs:List Value),CeE I σ B k p i s xs cs->∀ v∈cs.take (xs.length * s),v.oneCell'=true
 | [],_,_,_=>by simp
 | x::xs,i,cs,h=>by
  intro v hv;rw [length_cons,Nat.add_mul,Nat.one_mul,Nat.add_comm,take_add,mem_append] at hv;rcases hv with hv | hv
  ·exact CeC.one x 0 _ h.2.1 v hv
  ·exact CeE.one xs (i+1) _ h.2.2 v hv
def ykt (I:Nat->Prop)(σ:Pl)(w:World)(h:H)(s:Nat)(zs:Els)(news:List Value):Option Nat->Prop
 | none=>∀ (σ':Pl) key i,CeE I σ' (bl w) key [] i s zs news/\fpE σ' key [] i zs=[]
 | some k2=>∃ r,z6 h k2=some r/\CeE I σ (bl w) k2 [] 0 s zs news/\(fpE σ k2 [] 0 zs).Sublist (fpR σ k2 r)
theorem y4a (R:Rel I N σ e h a w){s:Nat}{y:Operand}{zs:Els}{mv:Option Nat}(hs:z47 h s (ev e y)=some (zs,mv)) :
  ∃ (news:List Value),(∀ w':World,(Builtin.lenOf (a.eval y)).run P w' = .ok zs.length w')/\news.length=zs.length * s/\(∀ w':World,w'.heap=w.heap->(Builtin.firstCells s zs.length (a.eval y)).run P w' = .ok news.toArray w')/\(∀ v∈news,v.oneCell'=true) /\
   ykt I σ w h s zs news mv:=by
 have hy:=zw R y
 have nil:∀ (A:Option Addr),a.eval y = .slice A 0 0->∃ (news:List Value),(∀ w':World,(Builtin.lenOf (a.eval y)).run P w' = .ok ([]:Els).length w')/\news.length=([]:Els).length * s/\(∀ w':World,w'.heap=w.heap->(Builtin.firstCells s ([]:Els).length (a.eval y)).run P w' = .ok news.toArray w')/\(∀ v∈news,v.oneCell'=true) /\
   (∀ (σ':Pl) key i,CeE I σ' (bl w) key [] i s [] news/\fpE σ' key [] i []=[]):=by
  intro A hA;refine ⟨[],λ_=>by rw [hA];rfl,by simp,λw' _=>?_,by simp,λ_ _ _=>⟨trivial,rfl⟩⟩;rw [hA];cases A with | none=>simp [Builtin.firstCells] | some A=>simp [Builtin.firstCells,loadCells,loadCellsFrom]
 cases hk:ev e y with
 | zs =>rw [hk] at hy;simp only [hk,z47,Option.some.injEq,Prod.mk.injEq] at hs;obtain ⟨rfl,rfl⟩:=hs;obtain ⟨A,hA⟩:=hy;exact nil A hA
 | im s' ys =>
  rw [hk] at hy;simp only [hk,z47] at hs;by_cases hss:s'=s
  ·rw [if_pos hss] at hs;subst hss;simp only [Option.some.injEq,Prod.mk.injEq] at hs;obtain ⟨rfl,rfl⟩:=hs;obtain ⟨A0,c,hv,hc,hne⟩:=hy;by_cases hz:ys=[]
   ·subst hz;refine ⟨[],λ_=>by rw [hv];rfl,by simp,λw' _=>?_,by simp,λ_ _ _=>⟨trivial,rfl⟩⟩;rw [hv];cases A0 with | none=>simp [Builtin.firstCells] | some A=>simp [Builtin.firstCells,loadCells,loadCellsFrom]
   ·obtain ⟨A,cur,E,fr,rfl,hsp,hI,hB,hE⟩:=hne hz;have hce:=ImE.ce (σ:=σ) (k:=0) (p:=[]) ys 0 _ hE;have hcells:=CeE.cells ys 0 _ hce.1;refine ⟨(cur.toList.drop A.off).take (ys.length * s'),λ_=>by rw [hv];rfl,by rw [length_take];omega,λw' hw'=>?_,CeE.one ys 0 _ hce.1,fun σ' key i=>?_⟩
    ·rw [hv];refine run_firstCells_some w' s' ys.length A ys.length c _ (by rw [length_take];omega) (λj u hj=>?_);obtain ⟨b,o,sp⟩:=A;simp only at hsp hB hj;subst hsp;rw [z2h,cell_of_row w' b (o+j) cur E fr (by rw [hw'];exact hB)];rw [getElem?_take] at hj;split at hj
     ·rw [getElem?_drop] at hj;simpa using hj
     ·cases hj
    ·have hce':=ImE.ce (σ:=σ') (k:=key) (p:=[]) ys i _ hE;exact ⟨CeE.same ys i _ _ hce'.1 (by rw [take_take,Nat.min_self]),hce'.2⟩
  ·rw [if_neg hss] at hs;cases hs
 | sl k p off len =>
  rw [hk] at hy;simp only [hk,z47] at hs;cases hres:res h k p with
  | none=>simp only [hres] at hs;cases hs
  | some sy =>
   obtain ⟨s',ys⟩:=sy;simp only [hres] at hs;by_cases hcond:s'=s/\off+len<=ys.length
   ·rw [if_pos hcond] at hs;obtain ⟨rfl,hle⟩:=hcond;obtain ⟨hp,hpf⟩:=R.heap.place hres;unfold z2f at hp;simp only [Va] at hy;cases hL:σ k p with
    | none =>simp only [hL] at hp hy;subst hp;obtain ⟨rfl,rfl,A,hA⟩:=hy;simp only [List.drop_nil,List.take_nil,zbq,List.all_nil,if_true,Option.some.injEq,Prod.mk.injEq] at hs;obtain ⟨rfl,rfl⟩:=hs;exact nil A hA
    | some L =>
     simp only [hL] at hp hy;obtain ⟨q1,q2,cur,E,q3,q4,q5⟩:=hp;rw [if_pos (by rw [q1];exact (z83 hres).2)] at hy;obtain ⟨A,c,hv,f1,f2,f3⟩:=hy;have hlen:((ys.drop off).take len).length=len:=by rw [length_take,length_drop];omega
     have hE:CeE I σ (bl w) k p (0+off) s' ((ys.drop off).take len) (cur.toList.drop (off * s')):=CeE.take _ _ _ len (CeE.drop ys 0 _ off q5);have hcells:=CeE.cells _ _ _ hE;rw [hlen] at hcells
     have hfirst:∀ w':World,w'.heap=w.heap->(Builtin.firstCells s' len (a.eval y)).run P w' = .ok ((cur.toList.drop (off * s')).take (len * s')).toArray w':=by
      intro w' hw';rw [hv];by_cases hl0:len=0
      ·subst hl0;simp [Builtin.firstCells,loadCells,loadCellsFrom]
      ·have:=f3 (.inl (by omega));subst this;refine run_firstCells_some w' s' len ⟨L.b,off * L.s,none⟩ len c _ (by rw [length_take];omega) (λj u hj=>?_);rw [z2h,cell_of_row w' L.b (off * L.s+j) cur E.t E.fr (by rw [hw'];exact q3),q1];rw [getElem?_take] at hj;split at hj
       ·rw [getElem?_drop] at hj;simpa using hj
       ·cases hj
     have hone:=CeE.one _ _ _ hE;rw [hlen] at hone;by_cases hf:zbq ((ys.drop off).take len)=true
     ·rw [if_pos hf] at hs;simp only [Option.some.injEq,Prod.mk.injEq] at hs;obtain ⟨h1,rfl⟩:=hs;subst h1;refine ⟨(cur.toList.drop (off * s')).take (len * s'),λ_=>by rw [hlen,hv];rfl,by rw [hlen,length_take];omega,by rw [hlen];exact hfirst,hone,fun σ' key i=>?_⟩;have:=CeE.flat (σ':=σ') (k':=key) (p':=[]) _ _ i _ hf hE;exact ⟨CeE.same _ i _ _ this.1 (by rw [hlen,take_take,Nat.min_self]),this.2⟩
     ·rw [if_neg hf] at hs;by_cases hpo:p=[]/\off=0
      ·rw [if_pos hpo] at hs;obtain ⟨rfl,rfl⟩:=hpo;simp only [Option.some.injEq,Prod.mk.injEq] at hs;obtain ⟨h1,rfl⟩:=hs;subst h1;simp only [drop_zero,Nat.zero_add,Nat.zero_mul] at hlen hE hcells hfirst hone;refine ⟨cur.toList.take (len * s'),λ_=>by rw [hlen,hv];rfl,by rw [hlen,length_take];omega,by rw [hlen];exact hfirst,hone,?_⟩
       replace hres:=(z83 hres).1
       unfold z1j at hres;split at hres
       ·rename_i r hg;simp only [zp,Option.some.injEq,Prod.mk.injEq] at hres;obtain ⟨hr1,hr2⟩:=hres;refine ⟨r,hg,CeE.same _ 0 _ _ hE (by rw [hlen,take_take,Nat.min_self]),?_⟩;unfold fpR;simp only [hL,hr2];exact List.Sublist.trans (z70 _ _ _) (List.sublist_cons_self _ _)
       ·cases hres
      ·rw [if_neg hpo] at hs;cases hs
   ·rw [if_neg hcond] at hs;cases hs
 | un=>simp only [hk,z47] at hs;cases hs
 | sc u =>
  cases u with
  | string b =>
   rw [hk] at hy;simp only [hk,z47] at hs;by_cases h1:s=1
   ·rw [if_pos h1] at hs;subst h1;simp only [Option.some.injEq,Prod.mk.injEq] at hs;obtain ⟨rfl,rfl⟩:=hs;have hyv:a.eval y = .string b:=hy;have hl:((bytesOf b).map λn=>[AV.sc (.int .u8 n)]).length=b.size:=by simp only [bytesOf,length_map,Array.length_toList];rfl
    refine ⟨(bytesOf b).map (Value.int .u8),λ_=>by rw [hl,hyv];rfl,by simp,λw' _=>?_,λv hv=>?_,fun σ' key i=>?_⟩
    ·rw [hl,hyv];simp only [Builtin.firstCells,Sem.run_pure];congr 1;apply Array.ext'
     have e:b.extract 0 b.size=b:=by apply ByteArray.ext;rw [ByteArray.data_extract];exact Array.extract_size
     rw [e];simp [bytesOf]
    ·obtain ⟨n,_,rfl⟩:=List.mem_map.1 hv;rfl
    ·have key:∀ (l:List Int) (i:Nat),CeE I σ' (bl w) key [] i 1 (l.map λn=>[AV.sc (.int .u8 n)]) (l.map (Value.int .u8))/\fpE σ' key [] i (l.map λn=>[AV.sc (.int .u8 n)])=[]:=by
      intro l
      induction l with
      | nil=>exact λ_=>⟨trivial,rfl⟩
      | cons x l ih =>intro i;obtain ⟨q1,q2⟩:=ih (i+1);exact ⟨⟨rfl,⟨_,_,rfl,⟨rfl,rfl⟩,rfl⟩,q1⟩,by simp only [map_cons,fpE,q2];rfl⟩
     exact key _ _
   ·rw [if_neg h1] at hs;cases hs
  | _=>simp only [hk,z47] at hs;cases hs
 | ag _=>simp only [hk,z47] at hs;cases hs
 | tu _=>simp only [hk,z47] at hs;cases hs
 | ip _ _ _ _=>simp only [hk,z47] at hs;cases hs
 | pt _ _ _ _=>simp only [hk,z47] at hs;cases hs
 | fn _ _=>simp only [hk,z47] at hs;cases hs
 | ow _ _=>simp only [hk,z47] at hs;cases hs
 | pp _=>simp only [hk,z47] at hs;cases hs
end
def zpc (el:TypeId):TypeDesc->Bool
 | .slice el2=>el2==el
 | _=>false
def zpd:TypeDesc->Bool
 | .string=>true
 | _=>false
theorem yby {el:TypeId}{d2:TypeDesc}(h:(zpc el d2||zpd d2)=true):d2 = .slice el\/d2 = .string:=by cases d2<;>simp_all [zpc,zpd]
def zkm (P:Program)(o:Oper):Option IB :=
 match o.op with
 | .call { callee:=.builtin .append,args,argTypes } =>
  match args.toList,argTypes.toList with
  | [x,y],[t,t2] =>
   match P.underlying t,P.underlying t2 with
   | some (.slice el),some d2 =>
    match P.info? el with
    | some i =>
     match i.zero with
     | some z=>if (zpc el d2||zpd d2)=true/\z.cells.size=i.size/\i.size<MB/\0<i.size/\0<i.bytes then some (.app i.size i.bytes x y) else none
     | none=>none
    | none=>none
   | _,_=>none
  | _,_=>none
 | _=>none
section
variable {P:Program}{I:Nat->Prop}{N:Nat}[Dfs N]{σ σ':Pl}{B B':zm}{w:World}{h h':H}{e:Env}{a:Act}{k k':Nat}
structure znf (P:Program) (I:Nat->Prop) (N:Nat) [Dfs N] (key:Option Nat) (σ:Pl) (e':Env) (h:H) (a:Act) (w:World) (o:Oper) (h':H):Prop where
 run:∃ n w' σ' a',(execOp a.eval o).run P w = .ok n w'/\(match n with | .value v=>a'=a.put o.dst v | .skip=>a'=a.put o.dst undef | _=>False)/\Rel I N σ' e' h' a' w'/\Le w w' /\
  (∀ b,b<w.heap.size->b∉fpH σ h->bl w' b=bl w b)/\(∀ b∈fpH σ' h',b∈fpH σ h\/w.heap.size<=b)/\(∀ k,some k≠key->σ' k []=σ k [])
theorem zr3 (hh:zk I σ h w)(mv:Option Nat):zk I σ (z24 h mv) w/\(∀ b∈fpH σ (z24 h mv),b∈fpH σ h)/\(∀ k∈(z24 h mv).map Prod.fst,k∈h.map Prod.fst)/\(∀ k2,mv=some k2->k2∉(z24 h mv).map Prod.fst/\∀ r,z6 h k2=some r->∀ b∈fpR σ k2 r,b∉fpH σ (z24 h mv)):=by
 cases mv with
 | none=>exact ⟨hh,λb hb=>hb,λk hk=>hk,λk2 h=>by cases h⟩
 | some k2 =>obtain ⟨q1,q2,q3,q4⟩:=z4d hh k2;refine ⟨q1,q3,q4,λk hk=>?_⟩;cases hk;refine ⟨q2,λr hg b hb=>?_⟩;exact ((hh.del hg).2.2.2.2.1 b hb).1
theorem z9w:∀ (h:H) {r:Row},z6 h k=some r->k∈h.map Prod.fst
 | [],r,h=>by cases h
 | (k',r')::h,r,hg=>by
  simp only [z6] at hg;by_cases e:k'=k
  ·simp [e]
  ·rw [if_neg e] at hg;have:=z9w h hg;simp [this]
theorem zxq (R:Rel I N σ e h a w){o:Oper}{d s bytes:Nat}{x y:Operand}(hdst:o.dst=some d)(hd:d<N)(hc:zkm P o=some (.app s bytes x y)){av:AV}{key:Nat}(hr:zc9 (ev e) h d s bytes x y=some (av,h',key)) :
  znf P I N (some key) σ (upd (z1e (λk _=>k==key) e) d av) h a w o h':=by
 unfold zkm at hc;split at hc
 ·rename_i args ts ho;split at hc
  ·rename_i x' y' t t2 hx ht;split at hc
   ·rename_i el d2 hu hu2;split at hc
    ·rename_i i hi;split at hc
     ·rename_i z hz;split at hc
      ·rename_i hcond;obtain ⟨hd2,hzs,hsm,hs0,hb0⟩:=hcond;simp only [Option.some.injEq,IB.app.injEq] at hc;obtain ⟨rfl,rfl,rfl,rfl⟩:=hc;have e1:args = #[x',y']:=by apply Array.ext';simpa using hx
       have e2:ts = #[t,t2]:=by apply Array.ext';simpa using ht
       subst e1 e2
       have hex:∀ v w',(Builtin.append_ #[t,t2] o.type #[a.eval x',a.eval y']).run P w = .ok v w'->(execOp a.eval o).run P w = .ok (.value v) w':=by intro v w' hrun;simp only [execOp,ho,resolve,invoke,builtin,Sem.run_bind,Sem.run_pure,Result.andThen_ok,List.map_toArray,map_cons,map_nil,hrun]
       unfold zc9 at hr;split at hr
       ·rename_i zs mv hsrc;obtain ⟨news,s1,s2,s3,s4,s5⟩:=y4a (P:=P) R hsrc;obtain ⟨t1,t2',t3,t4⟩:=zr3 R.heap mv;have hlen:(Builtin.lenOf (a.eval y')).run P w = .ok zs.length w:=s1 w;have hxv:=zw R x'
        have fin:∀ (key:Nat) (old:Els) (h2:H) (tb:Option Nat) (z2y:Option Loc),zk I σ h2 w->key∉h2.map Prod.fst->(∀ k∈h2.map Prod.fst,k∈(z24 h mv).map Prod.fst)->(∀ b∈fpH σ h2,b∈fpH σ (z24 h mv)) ->
          (∀ k2,mv=some k2->k2≠key\/old=[]) ->
          (∀ b,tb=some b->b∈fpH σ h)->(tb=none->z2y=none) ->
          ((tb=none/\old=[]/\∃ A,a.eval x' = .slice A 0 0)\/(∃ (b cap:Nat) (cur:Array Value) (E:EFc cur),tb=some b/\a.eval x' = .slice (some ⟨b,0,none⟩) old.length cap/\bl w b=some (.cells cur E.t E.fr)/\cur.size=cap * i.size/\old.length<=cap/\CeE I σ (bl w) key [] 0 i.size old cur.toList /\
           b∉fpH σ h2/\¬ I b/\b<w.heap.size/\b∉fpE σ key [] 0 old/\(∀ k2 r,mv=some k2->z6 h k2=some r->b∉fpR σ k2 r))) ->
          (fpE σ key [] 0 old).Nodup->(∀ b∈fpE σ key [] 0 old,b∉fpH σ h2/\¬ I b/\b<w.heap.size/\b∈fpH σ h/\∀ k2 r,mv=some k2->z6 h k2=some r->b∉fpR σ k2 r) ->
          (old.length+zs.length) * i.bytes<=140737488355328 ->
          znf P I N (some key) σ (upd (z1e (λk _=>k==key) e) d (.sl key [] 0 (old.length+zs.length))) h a w o ((key,⟨i.size,old++zs⟩)::h2):=by
         intro key old h2 tb z2y g1 g2 g3 g4 g5 g6 g7 g8 g9 g10 g11
         let σa:Pl:=λk q=>if k=key then (match q with
          | []=>z2y
          | (j,c)::q'=>match mv with
           | none=>σ key ((j,c)::q')
           | some k2=>if old.length<=j then σ k2 ((j - old.length,c)::q') else σ key ((j,c)::q')) else σ k q
         have ha1:∀ k,k≠key->∀ q,σa k q=σ k q:=λk hk q=>if_neg hk
         have hrel:zk I σa h2 w:=by have hk:∀ k∈h2.map Prod.fst,∀ q,σa k q=σ k q:=λk hk q=>ha1 k (λe=>g2 (e ▸ hk)) q;exact ⟨zr.ren h2 hk g1.ok,g1.keys,by rw [fpH.ren h2 hk];exact g1.nodup,by rw [fpH.ren h2 hk];exact g1.apart,g1.low⟩
         have hfpH:fpH σa h2=fpH σ h2:=fpH.ren h2 (λk hk q=>ha1 k (λe=>g2 (e ▸ hk)) q)
         have hold:∀ (n:Nat) (l:Els) (us:List Value),n+l.length<=old.length->(CeE I σ (bl w) key [] n i.size l us->CeE I σa (bl w) key [] n i.size l us)/\fpE σa key [] n l=fpE σ key [] n l:=by
          have hpl:∀ j c q,j<old.length->σa key ([]++(j,c)::q)=σ key ([]++(j,c)::q):=by intro j c q hj;show (if key=key then _ else _)=_;rw [if_pos rfl];cases mv with | none=>rfl | some k2=>exact if_neg (by omega)
          intro n l
          induction l generalizing n with
          | nil=>intro us _;exact ⟨λ_=>trivial,rfl⟩
          | cons x l ih =>intro us hn;rw [length_cons] at hn;obtain ⟨_,i2⟩:=ih (n+1) [] (by omega);refine ⟨λh=>⟨h.1,CeC.ren 0 (λc q=>hpl n c q (by omega)) x _ h.2.1,(ih (n+1) _ (by omega)).1 h.2.2⟩,?_⟩;simp only [fpE];rw [i2,fpC.ren 0 (λc q=>hpl n c q (by omega)) x]
         have hsrcs:CeE I σa (bl w) key [] old.length i.size zs news/\(fpE σa key [] old.length zs).Nodup/\∀ b∈fpE σa key [] old.length zs,∃ k2 r,mv=some k2/\z6 h k2=some r/\b∈fpR σ k2 r:=by
          cases mv with
          | none =>have:=s5 σa key old.length;rw [this.2];exact ⟨this.1,nodup_nil,λb hb=>by cases hb⟩
          | some k2 =>
           obtain ⟨r,r1,r2,r3⟩:=s5
           have hpl:∀ j c q,σa key ([]++(j+old.length,c)::q)=σ k2 ([]++(j,c)::q):=by intro j c q;show (if key=key then _ else _)=_;rw [if_pos rfl];show (if old.length<=j+old.length then σ k2 ((j+old.length - old.length,c)::q) else _)=_;rw [if_pos (by omega),Nat.add_sub_cancel];rfl
           have h1:=CeE.shift (σ:=σ) (σ':=σa) (B:=bl w) (I:=I) (k:=k2) (k':=key) (p:=[]) (p':=[]) i.size old.length hpl zs 0 _ r2;have h2:=fpE.shift (σ:=σ) (σ':=σa) (k:=k2) (k':=key) (p:=[]) (p':=[]) old.length hpl zs 0;rw [Nat.zero_add] at h1 h2;rw [h2];exact ⟨h1,r3.nodup (R.heap.row r1).2.2,λb hb=>⟨k2,r,rfl,r1,r3.subset hb⟩⟩
         obtain ⟨u1,u2,u3⟩:=hsrcs;have ho1:=(hold 0 old [] (by omega)).2;have hfpE:fpE σa key [] 0 (old++zs)=fpE σ key [] 0 old++fpE σa key [] old.length zs:=by rw [zkt,ho1,Nat.zero_add]
         have hsrcb:∀ b∈fpE σa key [] old.length zs,b∉fpH σ h2/\¬ I b/\b<w.heap.size/\b∈fpH σ h:=by intro b hb;obtain ⟨k2,r,rfl,r2,r3⟩:=u3 b hb;have hm:=(R.heap.row r2).2.1 b r3;exact ⟨λhx=>((t4 k2 rfl).2 r r2 b r3) (g4 b hx),(R.heap.apart b hm).1,(R.heap.apart b hm).2,hm⟩
         obtain ⟨v',w',σ',c1,c2,c3,c4,c5,c6,c7⟩:=y4r (P:=P) (σ:=σa) (ty:=o.type) hu hu2 (yby hd2) hi hz hzs hsm hb0 tb (key:=key) (old:=old) (srcs:=zs) (h1:=h2) (V:=a.eval x') (src:=a.eval y') (news:=news) hrel g2
          (by
           rcases g8 with g8 | ⟨b,cap,cur,E,k1,k2,k3,k4,k5,k6,k7,k8,k9,k10,k11⟩
           ·exact .inl g8
           ·refine .inr ⟨b,cap,cur,E,k1,k2,k3,k4,k5,(hold 0 old _ (by omega)).1 k6,by rw [hfpH];exact k7,k8,k9,?_⟩;rw [hfpE,mem_append];rintro (hb | hb)
            ·exact k10 hb
            ·obtain ⟨k2',r,r1,r2,r3⟩:=u3 b hb;exact k11 k2' r r1 r2 r3)
          (by
           intro b hb;rw [hfpE,mem_append] at hb;rw [hfpH];rcases hb with hb | hb
           ·have:=g10 b hb;exact ⟨this.1,this.2.1,this.2.2.1⟩
           ·have:=hsrcb b hb;exact ⟨this.1,this.2.1,this.2.2.1⟩)
          (by rw [hfpE,nodup_append];refine ⟨g9,u2,λb hb b' hb' e=>?_⟩;subst e;obtain ⟨k2',r,r1,r2,r3⟩:=u3 b hb';exact (g10 b hb).2.2.2.2 k2' r r1 r2 r3)
          hlen s3 u1 s2 s4 g11 (λhtb _=>by show (if key=key then _ else _)=_;rw [if_pos rfl];exact g7 htb)
         have hσ':∀ k q,k≠key->σ' k q=σ k q:=λk q hk=>by rw [c4 k q (λe=>hk (by simp only [Prod.mk.injEq] at e;exact e.1)),ha1 k hk]
         have hIb:∀ b,I b->bl w' b=bl w b:=λb hb=>c6 b (R.heap.low b hb) (λhtb=>(R.heap.apart b (g6 b htb.symm)).1 hb);refine ⟨_,w',σ',_,hex v' w' c1,rfl,?_,c5,λb hb hnb=>c6 b hb (λhtb=>hnb (g6 b htb.symm)),λb hb=>?_,λk hk=>hσ' k [] (λe=>hk (by rw [e]))⟩
         ·rw [hdst];refine Rel.put c2 R.size (λt=>?_) R.defers hd c3;exact Va.mono hIb _ _ (Va.kill (σ':=σ') (bad:=λk _=>k==key) (λk p hb=>hσ' k p (by simpa using hb)) (e t) _ (R.vals t))
         ·rcases c7 b hb with h | h | h | h
          ·rw [hfpH] at h;exact .inl (t2' b (g4 b h))
          ·rw [hfpE,mem_append] at h;rcases h with h | h
           ·exact .inl (g10 b h).2.2.2.1
           ·exact .inl (hsrcb b h).2.2.2
          ·exact .inr h
          ·exact .inl (g6 b h)
        split at hr
        ·rename_i hxk;rw [hxk] at hxv;split at hr
         ·rename_i hbytes;cases hr;obtain ⟨q1,q2,q3,q4⟩:=z4d t1 d;have:=fin d [] (zc (z24 h mv) d) none none q1 q2 q4 q3 (λ_ _=>.inr rfl) (λb hb=>by cases hb) (λ_=>rfl) (.inl ⟨rfl,rfl,hxv⟩) nodup_nil (λb hb=>by cases hb) (by simpa using hbytes);simpa using this
         ·cases hr
        ·rename_i k p off len hxk;rw [hxk] at hxv;split at hr
         ·rename_i hpo;obtain ⟨rfl,rfl⟩:=hpo;split at hr
          ·rename_i r hg;split at hr
           ·rename_i hcond;obtain ⟨hrs,hle,hbytes⟩:=hcond;simp only [Option.some.injEq,Prod.mk.injEq] at hr;obtain ⟨rfl,rfl,rfl⟩:=hr;obtain ⟨d1,d2,d3,d4,d5,d6⟩:=t1.del hg;have hlen':(r.xs.take len).length=len:=by rw [length_take];omega
            have hkeys:∀ k'∈(zc (z24 h mv) k).map Prod.fst,k'∈(z24 h mv).map Prod.fst:=by intro k' hk';exact ((z3x hg).map Prod.fst).mem_iff.2 (by simp only [map_cons];exact mem_cons_of_mem _ hk')
            have hkk:∀ k2,mv=some k2->k2≠k:=λk2 hm e=>(t4 k2 hm).1 (e ▸ z9w _ hg);have d2:=d2.C (by rw [hrs];exact hsm);unfold z2f at d2;unfold fpR at d4 d5;simp only [Va] at hxv;cases hL:σ k [] with
            | none =>simp only [hL] at d2 hxv;obtain ⟨rfl,_,A,hA⟩:=hxv;have:=fin k [] (zc (z24 h mv) k) none none d1 d3 hkeys d6 (λk2 hm=>.inl (hkk k2 hm)) (λb hb=>by cases hb) (λ_=>rfl) (.inl ⟨rfl,rfl,A,hA⟩) nodup_nil (λb hb=>by cases hb) (by simpa using hbytes);rw [take_zero];simpa using this
            | some L =>
             simp only [hL] at d2 d4 d5 hxv;obtain ⟨f1,f2,cur,E,f3,f4,f5⟩:=d2;rw [if_pos (by rw [f1,hrs];exact hsm)] at hxv;obtain ⟨A,c',hv,g1,g2,g3⟩:=hxv;have hA:=g3 (.inr trivial);subst hA;have hsub:=z70 (σ:=σ) (k:=k) (p:=[]) r.xs 0 len;have hLm:L.b∈fpH σ (z24 h mv):=(d5 L.b (by simp)).2
             have:=fin k (r.xs.take len) (zc (z24 h mv) k) (some L.b) (some L) d1 d3 hkeys d6 (λk2 hm=>.inl (hkk k2 hm)) (λb hb=>by cases hb;exact t2' _ hLm) (λhn=>by cases hn)
              (.inr ⟨L.b,L.cap,cur,E,rfl,by rw [hv,hlen',Nat.zero_mul,show c'=L.cap by omega],f3,by rw [f4,hrs],by rw [hlen'];omega,by rw [<- hrs];exact CeE.take _ _ _ len f5,(d5 L.b (by simp)).1,(t1.apart _ hLm).1,(t1.apart _ hLm).2,λhm=>(nodup_cons.1 d4).1 (hsub.subset hm),λk2 r2 hm hg2 hb=>(t4 k2 hm).2 r2 hg2 _ hb hLm⟩)
              (hsub.nodup (nodup_cons.1 d4).2) (λb hb=>by have hb':b∈L.b::fpE σ k [] 0 r.xs:=mem_cons_of_mem _ (hsub.subset hb);have hm:=d5 b hb';exact ⟨hm.1,(t1.apart _ hm.2).1,(t1.apart _ hm.2).2,t2' _ hm.2,λk2 r2 hmv hg2 hbb=>(t4 k2 hmv).2 r2 hg2 _ hbb hm.2⟩)
              (by rw [hlen'];exact hbytes)
             rw [hlen'] at this;exact this
           ·cases hr
          ·cases hr
         ·cases hr
        ·cases hr
       ·cases hr
      ·cases hc
     ·cases hc
    ·cases hc
   ·cases hc
  ·cases hc
 ·cases hc
end
section
variable {P:Program}{I:Nat->Prop}{N:Nat}[Dfs N]{σ σ':Pl}{B B':zm}{w w':World}{h h1:H}{e:Env}{a:Act}{k:Nat}
theorem zr4 (f:Els->Els):∀ (p:Path) (xs:Els),(p=[]->(f xs).length=xs.length)->(z1l xs p f).length=xs.length
 | [],xs,h=>h rfl
 | (i,c)::p,xs,_=>by
  simp only [z1l];split
  ·rfl
  ·split<;>simp
theorem zk.updPlace {r:Row}{p:Path}{s:Nat}{ys:Els}(hh:zk I σ h w)(hg:z6 h k=some r)(hr:zp r.s r.xs p=some (s,ys))(f:Els->Els)(hlen:s<MB->(f ys).length=ys.length)
  (hh1:zk I σ h1 w) (hk1:k∉h1.map Prod.fst) (hf1:∀ b∈fpH σ h1,b∈fpH σ (zc h k)) (hsz:w.heap.size<=w'.heap.size)
  (hpl:z39 I σ' (bl w') k p s (f ys)) (hσp:σ' k p=σ k p) (hσ:∀ k' q,¬ (k'=k/\∃ r,r≠[]/\q=p++r)->σ' k' q=σ k' q)
  (hB:∀ b,b<w.heap.size->b∉fpP σ k p ys->bl w' b=bl w b) (hnd:(fpP σ' k p (f ys)).Nodup)
  (hfp:∀ b∈fpP σ' k p (f ys),b∈fpP σ k p ys\/(b∈fpH σ (zc h k)/\b∉fpH σ h1)) :
  zk I σ' ((k,⟨r.s,z1l r.xs p f⟩)::h1) w'/\(∀ b∈fpH σ' ((k,⟨r.s,z1l r.xs p f⟩)::h1),b∈fpH σ h)/\∃ l1 l2,fpR σ k r=l1++fpP σ k p ys++l2/\fpR σ' k ⟨r.s,z1l r.xs p f⟩=l1++fpP σ' k p (f ys)++l2:=by
 obtain ⟨d1,d2,d3,d4,d5,d6⟩:=hh.del hg;have hσk:∀ k',k'≠k->∀ q,σ' k' q=σ k' q:=λk' hk q=>hσ k' q (λe=>hk e.1);have hfpH1:fpH σ' h1=fpH σ h1:=fpH.ren h1 (λk' hk' q=>hσk k' (λe=>hk1 (e ▸ hk')) q)
 have key:zy I σ' (bl w') k ⟨r.s,z1l r.xs p f⟩/\∃ l1 l2,fpR σ k r=l1++fpP σ k p ys++l2/\fpR σ' k ⟨r.s,z1l r.xs p f⟩=l1++fpP σ' k p (f ys)++l2:=by
  by_cases hp:p=[]
  ·subst hp;simp only [zp,Option.some.injEq,Prod.mk.injEq] at hr;obtain ⟨rfl,rfl⟩:=hr;exact ⟨hpl,[],[],by simp [zyg],by simp [zyg,z1l]⟩
  ·have hσ0:σ' k []=σ k []:=hσ k [] (λ⟨_,r',h1,h2⟩=>by have:=h2.symm;rw [List.append_eq_nil_iff] at this;exact hp this.1)
   have hσq:∀ q,¬ (∃ r',r'≠[]/\q=[]++p++r')->σ' k q=σ k q:=λq hq=>hσ k q (λ⟨_,r',h1,h2⟩=>hq ⟨r',h1,by simpa using h2⟩);unfold zy at d2 ⊢;unfold fpR at d4 d5 ⊢;rw [hσ0];cases hL:σ k [] with
   | none =>simp only [hL] at d2;rw [d2.1] at hr;cases p with | nil=>exact absurd rfl hp | cons q p=>obtain ⟨i',c'⟩:=q;simp [zp] at hr
   | some L =>
    simp only [hL] at d2 d4 d5 ⊢;obtain ⟨f1,f2,cur,E,f3,f4,f5⟩:=d2;obtain ⟨hnL,hnE⟩:=nodup_cons.1 d4;have hr':zp (esz r.s) r.xs p=some (s,ys):=(z3z hp).symm.trans hr;have hsub:=(z5e p [] (esz r.s) r.xs _ s ys f5 hp hr').2;rw [nil_append] at hsub
    have hE:=CeE.updAt (I:=I) (σ:=σ) (σ':=σ') (B:=bl w) (B':=bl w') (k:=k) (λb hb=>hB b (hh.low b hb) (λhm=>((hh.apart b (d5 b (mem_cons_of_mem _ (hsub.subset hm))).2).1 hb))) f p [] (esz r.s) r.xs _ s ys f5 hnE hp hr' hlen (by simpa using hpl) hσq
     (λb hb hbm=>hB b ((hh.apart b (d5 b (mem_cons_of_mem _ hbm)).2).2) (by simpa using hb))
    obtain ⟨l1,l2,g1,g2⟩:=fpE.updAt (I:=I) (σ:=σ) (σ':=σ') (B:=bl w) (k:=k) f p [] (esz r.s) r.xs _ s ys f5 hp hr' hσq;rw [nil_append] at g1 g2;have hul:=zr4 f p r.xs (λe=>absurd e hp);refine ⟨⟨f1,by rw [hul];exact f2,cur,E,?_,by rw [z76 hul];exact f4,hE⟩,L.b::l1,l2,by rw [g1];simp,by rw [g2];simp⟩;rw [hB L.b (hh.apart L.b (d5 L.b (by simp)).2).2 (λhm=>hnL (hsub.subset hm))];exact f3
 obtain ⟨k1,l1,l2,k2,k3⟩:=key
 have hall:∀ b∈fpR σ' k ⟨r.s,z1l r.xs p f⟩,(b∈fpR σ k r\/(b∈fpH σ (zc h k)/\b∉fpH σ h1)):=by
  intro b hb;rw [k3] at hb;simp only [mem_append] at hb;rcases hb with (hb | hb) | hb
  ·left;rw [k2];simp [hb]
  ·rcases hfp b hb with h | h
   ·left;rw [k2];simp [h]
   ·exact .inr h
  ·left;rw [k2];simp [hb]
 have hnd':(fpR σ' k ⟨r.s,z1l r.xs p f⟩).Nodup:=by
  rw [k3];rw [k2] at d4;have hd4:=d4;rw [nodup_append,nodup_append] at d4;rw [nodup_append,nodup_append];obtain ⟨⟨n1,n2,n3⟩,n4,n5⟩:=d4
  have out:∀ b,b∈l1\/b∈l2->∀ b'∈fpP σ' k p (f ys),b≠b':=by
   rintro b hb b' hb' rfl;have hbr:b∈fpR σ k r:=by rw [k2];rcases hb with hb | hb<;>simp [hb]
   rcases hfp b hb' with h | h
   ·rcases hb with hb | hb
    ·exact n3 b hb b h rfl
    ·exact n5 b (by simp [h]) b hb rfl
   ·exact (d5 b hbr).1 h.1
  refine ⟨⟨n1,hnd,λb hb b' hb'=>out b (.inl hb) b' hb'⟩,n4,λb hb b' hb' e=>?_⟩;rcases mem_append.1 hb with hb | hb
  ·exact n5 b (by simp [hb]) b' hb' e
  ·exact out b' (.inr hb') b hb e.symm
 refine ⟨zk.add (σ:=σ) (w:=w) hh1 hk1 hσk (λb hb hm=>hB b hb (λhx=>?_)) hsz k1 hnd' (λb hb=>?_),λb hb=>?_,l1,l2,k2,k3⟩
 ·have hbr:b∈fpR σ k r:=by rw [k2];simp [hx]
  rcases hm with hm | hm
  ·exact (hh.apart b (d5 b hbr).2).1 hm
  ·exact (d5 b hbr).1 (hf1 b hm)
 ·rcases hall b hb with h | h
  ·have:=d5 b h;exact ⟨λhm=>this.1 (hf1 b hm),(hh.apart b this.2).1,by have:=(hh.apart b this.2).2;omega⟩
  ·have:=d6 b h.1;exact ⟨h.2,(hh.apart b this).1,by have:=(hh.apart b this).2;omega⟩
 ·rw [z1o,hfpH1,mem_append] at hb;rcases hb with hb | hb
  ·rcases hall b hb with h | h
   ·exact (d5 b h).2
   ·exact d6 b h.1
  ·exact d6 b (hf1 b hb)
end
def under (k:Nat)(p:Path)(c n:Nat)(k':Nat)(q:Path):Bool :=
 k'==k&&(q.take p.length).map Prod.snd==p.map Prod.snd&&match q.drop p.length with
  | (_,c')::_=>decide (c<=c')&&decide (c'<c+n)
  | []=>false
def z18 (i c n:Nat)(vs:List AV)(ys:Els):Els :=
 match ys[i]? with
 | some x0=>ys.set i (x0.take c++vs++x0.drop (c+n))
 | none=>ys
def z9k (e:Operand->AV)(h:H)(n:Nat)(a x:Operand):Option (H×(Nat->Path->Bool)) :=
 match e a with
 | .pt k p i c =>
  match z6 h k with
  | some r =>
   match zp r.s r.xs p with
   | some (s,ys) =>
    match ys[i]? with
    | some x0 =>
     if c+n<=x0.length/\s<MB then
      match cellsOf (e x) with
      | some vs =>
       if vs.length=n then
        match z3s (zc h k) vs with
        | some (vs',h1)=>some ((k,⟨r.s,z1l r.xs p (z18 i c n vs')⟩)::h1,under k p c n)
        | none=>none
       else none
      | none=>none
     else none
    | none=>none
   | none=>none
  | none=>none
 | _=>none
section
variable {P:Program}{I:Nat->Prop}{N:Nat}[Dfs N]{σ σ':Pl}{B B':zm}{w w':World}{h h1:H}{e:Env}{a:Act}{k:Nat}
theorem CeC.app {p:Path}{i:Nat}:∀ (l1 l2:List AV) (c:Nat) (u1 u2:List Value),CeC I σ B k p i c l1 u1->CeC I σ B k p i (c+l1.length) l2 u2->CeC I σ B k p i c (l1++l2) (u1++u2)
 | [],l2,c,u1,u2,h1,h2=>by simp only [CeC] at h1;subst h1;simpa using h2
 | x::l1,l2,c,_,u2,h1,h2=>by obtain ⟨v,cs',rfl,h3,h4⟩:=h1;exact ⟨v,cs'++u2,rfl,h3,CeC.app l1 l2 (c+1) cs' u2 h4 (by rw [length_cons] at h2;rwa [show c+1+l1.length=c+(l1.length+1) by omega])⟩
theorem z8d {p:Path}{i:Nat}:∀ (l1 l2:List AV) (c:Nat),fpC σ k p i c (l1++l2)=fpC σ k p i c l1++fpC σ k p i (c+l1.length) l2
 | [],l2,c=>by simp [fpC]
 | x::l1,l2,c=>by rw [cons_append,fpC,fpC,z8d l1 l2 (c+1),append_assoc,length_cons,show c+1+l1.length=c+(l1.length+1) by omega]
theorem CeC.still {p:Path}{i:Nat}(hI:∀ b,I b->B' b=B b):∀ (l:List AV) (c:Nat) (cs:List Value),(∀ c' q,c<=c'->c'<c+l.length->σ' k (p++(i,c')::q)=σ k (p++(i,c')::q))->(∀ b∈fpC σ k p i c l,B' b=B b) ->
  CeC I σ B k p i c l cs->CeC I σ' B' k p i c l cs/\fpC σ' k p i c l=fpC σ k p i c l
 | [],_,_,_,_,h=>⟨h,rfl⟩
 | x::l,c,_,hσ,hb,h=>by obtain ⟨v,cs',rfl,h1,h2⟩:=h;simp only [fpC,mem_append] at hb;have h3:=Ce.still hI (λq=>hσ c q (by omega) (by simp)) x v (λb hbb=>hb b (.inl hbb)) h1;have h4:=CeC.still hI l (c+1) cs' (λc' q g1 g2=>hσ c' q (by omega) (by simp only [length_cons];omega)) (λb hbb=>hb b (.inr hbb)) h2;exact ⟨⟨v,cs',rfl,h3,h4.1⟩,by simp only [fpC];rw [fpA.ren (λq=>hσ c q (by omega) (by simp)) x,h4.2]⟩
theorem zjz {m1 A O C m2 V:List Nat}(h:(m1++(A++O++C)++m2).Nodup)(hV:V.Nodup)(hd:∀ b∈V,b∉m1++(A++O++C)++m2):(m1++(A++V++C)++m2).Nodup:=by
 have hp:(m1++(A++V++C)++m2).Perm (V++(m1++(A++C)++m2)):=by
  have e1:m1++(A++V++C)++m2=(m1++A)++(V++(C++m2)):=by simp
  have e2:V++(m1++(A++C)++m2)=V++((m1++A)++(C++m2)):=by simp
  rw [e1,e2];have e3:(m1++A)++(V++(C++m2))=((m1++A)++V)++(C++m2):=by simp
  have e4:V++((m1++A)++(C++m2))=(V++(m1++A))++(C++m2):=by simp
  rw [e3,e4];exact List.perm_append_comm.append_right _
 have hs:(m1++(A++C)++m2).Sublist (m1++(A++O++C)++m2):=by refine List.Sublist.append (List.Sublist.append (List.Sublist.refl _) (List.Sublist.append ?_ (List.Sublist.refl _))) (List.Sublist.refl _);exact List.sublist_append_left _ _
 rw [hp.nodup_iff,nodup_append];exact ⟨hV,hs.nodup h,λb hb b' hb' e=>hd b hb (hs.subset (e ▸ hb'))⟩
theorem zql {t:TypeId}{n b o:Nat}{v:Value}{cur:Array Value}{E:EFc cur}(hs:szT P t=some n)(hB:w.heap[b]?=some (.cells cur E.t E.fr))(hv:v.cells.size=n)(hle:o+n<=cur.size)(h1:∀ u∈v.cells.toList,u.oneCell'=true) :
  (storeVar t ⟨b,o,none⟩ v).run P w = .ok () (w.setRow b (cur.toList.take o++v.cells.toList++cur.toList.drop (o+n)).toArray):=by
 have hst:=z6j (P:=P) b o E.t E.fr v.cells.toList 0 cur w E.ok hB (by simp only [Nat.add_zero,Array.length_toList];omega) h1;simp only [Nat.add_zero,Array.length_toList,hv] at hst;simp only [storeVar,Sem.run_bind,z25 hs,Result.andThen_ok,Sem.run_ite];rw [if_neg (by omega)];exact hst
theorem zr2 (R:Rel I N σ e h a w){o:Oper}{t:TypeId}{ad x:Operand}{n:Nat}(ho:o.op = .store t ad x)(hn:szT P t=some n)(hdst:o.dst=none){h':H}{bad:Nat->Path->Bool}(hr:z9k (ev e) h n ad x=some (h',bad)) :
  znf P I N none σ (z1e bad e) h a w o h':=by
 have hav:=zw R ad;have hxv:=zw R x;unfold z9k at hr;split at hr
 ·rename_i k p i c hk;rw [hk] at hav;split at hr
  ·rename_i r hg;split at hr
   ·rename_i s ys hres;split at hr
    ·rename_i x0 hx0;split at hr
     ·rename_i hcn;obtain ⟨hcn,hsm⟩:=hcn;split at hr
      ·rename_i vs hvs;split at hr
       ·rename_i hvl;split at hr
        ·rename_i vs' h1 habs;simp only [Option.some.injEq,Prod.mk.injEq] at hr;obtain ⟨rfl,rfl⟩:=hr;obtain ⟨L,hL,hadr⟩:=hav;have hva:=zdn hvs hxv;have hvlen:=VaC.length _ _ hva;simp only [Array.length_toList] at hvlen;have hone:=VaC.one _ _ hva;obtain ⟨d1,d2,d3,d4,d5,d6⟩:=R.heap.del hg;obtain ⟨σ',s1,s2,s3,s4,s5,s6,s7,s8,s9⟩:=z68 vs (zc h k) _ vs' h1 σ k p i c d1 hva habs d3;obtain ⟨hp,hpf⟩:=R.heap.place (k:=k) (p:=p) (s:=s) (ys:=ys) (zd6 (by unfold z1j;rw [hg];exact hres) hsm)
         have hpnd:(fpP σ k p ys).Nodup:=by
          by_cases hp0:p=[]
          ·subst hp0;simp only [zp,Option.some.injEq,Prod.mk.injEq] at hres;obtain ⟨rfl,rfl⟩:=hres;exact d4
          ·unfold zy at d2;unfold fpR at d4;cases hs:σ k [] with
           | none =>simp only [hs] at d2;rw [d2.1] at hres;cases p with | nil=>exact absurd rfl hp0 | cons q p=>obtain ⟨i',c'⟩:=q;simp [zp] at hres
           | some L0 =>simp only [hs] at d2 d4;obtain ⟨_,_,cur,E,_,_,f5⟩:=d2;have:=(z5e p [] (esz r.s) r.xs _ s ys f5 hp0 ((z3z hp0).symm.trans hres)).2;rw [nil_append] at this;exact this.nodup (nodup_cons.1 d4).2
         unfold z2f at hp;unfold fpP at hpnd hpf;simp only [hL] at hp hpnd hpf;obtain ⟨f1,f2,cur,E,f3,f4,f5⟩:=hp;obtain ⟨hnL,hnE⟩:=nodup_cons.1 hpnd
         have hilt:i<ys.length:=by
          rcases Nat.lt_or_ge i ys.length with h' | h'
          ·exact h'
          ·rw [getElem?_eq_none h'] at hx0;cases hx0
         obtain ⟨hxl,hxC⟩:=CeE.get ys 0 _ f5 i x0 hx0;rw [Nat.zero_add] at hxC;have hcur:(i+1) * s<=cur.size:=by rw [f4];exact Nat.mul_le_mul_right _ (by omega)
         rw [Nat.add_mul,Nat.one_mul] at hcur;have hcl:cur.toList.length=cur.size:=Array.length_toList;have hrun:=zql (P:=P) (o:=i * s+c) (v:=a.eval x) hn f3 (by omega) (by omega) hone;have hBo:∀ b,b≠L.b->bl (w.setRow L.b (cur.toList.take (i * s+c)++(a.eval x).cells.toList++cur.toList.drop (i * s+c+n)).toArray) b=bl w b:=λb hb=>setRow_other w L.b b _ hb;have hBn:bl (w.setRow L.b (cur.toList.take (i * s+c)++(a.eval x).cells.toList++cur.toList.drop (i * s+c+n)).toArray) L.b=some (.cells (cur.toList.take (i * s+c)++(a.eval x).cells.toList++cur.toList.drop (i * s+c+n)).toArray E.t E.fr):=setRow_heap w L.b cur _ E.t _ f3;generalize hw':w.setRow L.b (cur.toList.take (i * s+c)++(a.eval x).cells.toList++cur.toList.drop (i * s+c+n)).toArray=w' at hrun hBo hBn;have hszw:w'.heap.size=w.heap.size:=by rw [<- hw',size_setRow]
         have hlew:Le w w':=by rw [<- hw'];exact ⟨by rw [size_setRow];exact Nat.le_refl _,rfl,rfl,rfl⟩
         have hLI:∀ b,I b->b≠L.b:=λb hb e=>(R.heap.apart L.b (hpf L.b (by simp))).1 (e ▸ hb);have hI:∀ b,I b->bl w' b=bl w b:=λb hb=>hBo b (hLI b hb)
         have hσk:∀ q,(∀ c' q',q=p++(i,c')::q'->¬ (c<=c'/\c'<c+n))->σ' k q=σ k q:=λq hq=>s2 q (λc' g1 g2 hpre=>by obtain ⟨q',rfl⟩:=hpre;exact hq c' q' (by simp) ⟨g1,by omega⟩)
         have hσp:σ' k p=σ k p:=hσk p (λc' q' hq=>by have:=congrArg length hq;simp at this)
         have hnews:((cur.toList.drop (i * s)).take s).length=s:=by rw [length_take,length_drop];omega
         have hpart1:=CeC.part x0 0 _ 0 c hxC;have hpart3:=CeC.part x0 0 _ (c+n) (s - (c+n)) hxC;simp only [drop_zero,Nat.zero_add] at hpart1 hpart3;have hx3:(x0.drop (c+n)).take (s - (c+n))=x0.drop (c+n):=take_of_length_le (by rw [length_drop];omega);have hu3:(((cur.toList.drop (i * s)).take s).drop (c+n)).take (s - (c+n))=((cur.toList.drop (i * s)).take s).drop (c+n):=take_of_length_le (by rw [length_drop];omega);rw [hx3,hu3] at hpart3
         have hx0s:x0=x0.take c++(x0.drop c).take n++x0.drop (c+n):=by rw [append_assoc,<- drop_drop,take_append_drop,take_append_drop]
         have hfpx0:fpC σ k p i 0 x0=fpC σ k p i 0 (x0.take c)++fpC σ k p i c ((x0.drop c).take n)++fpC σ k p i (c+n) (x0.drop (c+n)):=by
          conv=>lhs;rw [hx0s]
          rw [z8d,z8d];simp only [length_append,length_take,length_drop,Nat.zero_add];rw [show min c x0.length=c by omega,show c+min n (x0.length - c)=c+n by omega]
         obtain ⟨m1,m2,hm,hm'⟩:=z6b (σ:=σ) (k:=k) (p:=p) ys 0 i x0 hx0;rw [Nat.zero_add] at hm hm';have hLno:∀ b∈fpE σ k p 0 ys,b≠L.b:=λb hb e=>hnL (e ▸ hb);have hin:∀ b∈fpC σ k p i 0 x0,b∈fpE σ k p 0 ys:=λb hb=>by rw [hm];simp [hb]
         have q1:=CeC.still (σ':=σ') (B':=bl w') hI (x0.take c) 0 _ (λc' q' _ g2=>hσk _ (λc'' q'' hq=>by have:=append_cancel_left hq;simp only [List.cons.injEq,Prod.mk.injEq,true_and] at this;rw [length_take] at g2;omega)) (λb hb=>hBo b (hLno b (hin b (by rw [hfpx0];simp [hb])))) hpart1
         have q3:=CeC.still (σ':=σ') (B':=bl w') hI (x0.drop (c+n)) (c+n) _ (λc' q' g1 _=>hσk _ (λc'' q'' hq=>by have:=append_cancel_left hq;simp only [List.cons.injEq,Prod.mk.injEq,true_and] at this;omega)) (λb hb=>hBo b (hLno b (hin b (by rw [hfpx0];simp [hb])))) hpart3
         have q2:CeC I σ' (bl w') k p i c vs' (a.eval x).cells.toList:=CeC.mono hI k p i c vs' _ (λb hb=>hBo b (λe=>by
          have h8:=s8 b hb
          have hbr:L.b∈fpR σ k r:=by
           by_cases hp0:p=[]
           ·subst hp0;unfold fpR;simp [hL]
           ·unfold zy at d2;unfold fpR;cases hs:σ k [] with
            | none =>simp only [hs] at d2;rw [d2.1] at hres;cases p with | nil=>exact absurd rfl hp0 | cons q p=>obtain ⟨i',c'⟩:=q;simp [zp] at hres
            | some L0 =>simp only [hs] at d2 ⊢;obtain ⟨_,_,cur',E',_,_,f5'⟩:=d2;have:=(z5e p [] (esz r.s) r.xs _ s ys f5' hp0 ((z3z hp0).symm.trans hres)).2;rw [nil_append] at this;exact mem_cons_of_mem _ (this.subset (by unfold fpP;simp [hL]))
          exact (d5 L.b hbr).1 (e ▸ h8.1))) s3
         have hel:CeC I σ' (bl w') k p i 0 (x0.take c++vs'++x0.drop (c+n)) (((cur.toList.drop (i * s)).take s).take c++(a.eval x).cells.toList++((cur.toList.drop (i * s)).take s).drop (c+n)):=by
          refine CeC.app _ _ 0 _ _ (CeC.app _ _ 0 _ _ q1.1 ?_) ?_
          ·rw [length_take,show 0+min c x0.length=c by omega];exact q2
          ·rw [length_append,length_take,s9,show 0+(min c x0.length+vs.length)=c+n by omega];exact q3.1
         have hfx1:fpC σ' k p i 0 (x0.take c++vs'++x0.drop (c+n))=fpC σ k p i 0 (x0.take c)++fpC σ' k p i c vs'++fpC σ k p i (c+n) (x0.drop (c+n)):=by rw [z8d,z8d,q1.2];simp only [length_append,length_take,s9,Nat.zero_add];rw [show min c x0.length=c by omega,show c+vs.length=c+n by omega,q3.2]
         have hput:z18 i c n vs' ys=ys.set i (x0.take c++vs'++x0.drop (c+n)):=by unfold z18;rw [hx0]
         have hσother:∀ i' c' q',i'≠i->σ' k (p++(i',c')::q')=σ k (p++(i',c')::q'):=λi' c' q' hne=>hσk _ (λc'' q'' hq=>by have:=append_cancel_left hq;simp only [List.cons.injEq,Prod.mk.injEq] at this;omega)
         have hfE:fpE σ' k p 0 (z18 i c n vs' ys)=m1++fpC σ' k p i 0 (x0.take c++vs'++x0.drop (c+n))++m2:=by rw [hput];exact hm' σ' _ (λi' c' a'' hne=>fpA.ren (λq'=>hσother i' c' q' hne) a'')
         have hE':CeE I σ' (bl w') k p 0 s (z18 i c n vs' ys) (cur.toList.take (i * s+c)++(a.eval x).cells.toList++cur.toList.drop (i * s+c+n)):=by
          rw [hput]
          have:=CeE.setAt (I:=I) (σ:=σ) (σ':=σ') (B:=bl w) (B':=bl w') ys 0 i cur.toList x0 (x0.take c++vs'++x0.drop (c+n)) (((cur.toList.drop (i * s)).take s).take c++(a.eval x).cells.toList++((cur.toList.drop (i * s)).take s).drop (c+n)) f5 hx0
           (by simp only [length_append,length_take,length_drop,s9];omega) (by simp only [length_append,length_take,length_drop,Array.length_toList];omega) (by rw [Nat.zero_add];exact hel)
           (λi' c' a'' v hne hb hce=>Ce.still hI (λq'=>hσother i' c' q' (by omega)) a'' v (λb hbb=>hBo b (hLno b (hb b hbb).1)) hce)
          refine CeE.same _ 0 _ _ this ?_;congr 1;rw [take_take,Nat.min_eq_left (by omega),drop_take,drop_drop];have e1:cur.toList.take (i * s+c)=cur.toList.take (i * s)++(cur.toList.drop (i * s)).take c:=take_add;rw [e1];simp only [append_assoc];congr 3;rw [show i * s+s=i * s+(c+n)+(s - (c+n)) by omega,<- drop_drop (i:=s - (c+n)),<- Nat.add_assoc,take_append_drop]
         obtain ⟨u1,u2,_⟩:=R.heap.updPlace (σ':=σ') (w':=w') (h1:=h1) hg hres (z18 i c n vs') (λ_=>by rw [hput,List.length_set]) s4 (λhm=>d3 (s5 k hm)) s6 (by omega)
          (by
           refine (z9n hsm).2 ?_;unfold z2f;rw [hσp];simp only [hL];refine ⟨f1,by rw [hput,List.length_set];exact f2,_,⟨E.t,E.fr,?_⟩,hBn,?_,hE'⟩
           ·have:=E.ok;simp only [size_toArray,length_append,length_take,length_drop,Array.length_toList];omega
           simp only [size_toArray,length_append,length_take,length_drop,Array.length_toList];omega) hσp
          (λk' q hq=>by
           by_cases hk':k'=k
           ·subst hk';exact hσk q (λc' q' he _=>hq ⟨rfl,(i,c')::q',by simp,he⟩)
           ·exact s1 k' q hk')
          (λb hb hnb=>hBo b (λe=>hnb (by unfold fpP;simp [hL,e])))
          (by
           unfold fpP;rw [hσp];simp only [hL]
           have hLr:L.b∈fpR σ k r:=by
            by_cases hp0:p=[]
            ·subst hp0;unfold fpR;simp [hL]
            ·unfold zy at d2;unfold fpR;cases hs:σ k [] with
             | none =>simp only [hs] at d2;rw [d2.1] at hres;cases p with | nil=>exact absurd rfl hp0 | cons q p=>obtain ⟨i',c'⟩:=q;simp [zp] at hres
             | some L0 =>simp only [hs] at d2 ⊢;obtain ⟨_,_,cur',E',_,_,f5'⟩:=d2;have:=(z5e p [] (esz r.s) r.xs _ s ys f5' hp0 ((z3z hp0).symm.trans hres)).2;rw [nil_append] at this;exact mem_cons_of_mem _ (this.subset (by unfold fpP;simp [hL]))
           have hd:∀ b∈fpC σ' k p i c vs',b∉fpR σ k r:=λb hb hbr=>(d5 b hbr).1 (s8 b hb).1
           have hrow:∀ b∈fpE σ k p 0 ys,b∈fpR σ k r:=by
            intro b hb;by_cases hp0:p=[]
            ·subst hp0;simp only [zp,Option.some.injEq,Prod.mk.injEq] at hres;unfold fpR;simp only [hL];rw [hres.2];exact mem_cons_of_mem _ hb
            ·unfold zy at d2;unfold fpR;cases hs:σ k [] with
             | none =>simp only [hs] at d2;rw [d2.1] at hres;cases p with | nil=>exact absurd rfl hp0 | cons q p=>obtain ⟨i',c'⟩:=q;simp [zp] at hres
             | some L0 =>simp only [hs] at d2 ⊢;obtain ⟨_,_,cur',E',_,_,f5'⟩:=d2;have:=(z5e p [] (esz r.s) r.xs _ s ys f5' hp0 ((z3z hp0).symm.trans hres)).2;rw [nil_append] at this;exact mem_cons_of_mem _ (this.subset (by unfold fpP;simp [hL,hb]))
           have hnE':=hnE;have hrow':=hrow;rw [hm,hfpx0] at hnE' hrow';have hsw:=zjz hnE' s7 (λb hb hm'=>hd b hb (hrow' b hm'));rw [hfE,hfx1,nodup_cons];refine ⟨λhb=>?_,hsw⟩;rw [hm,hfpx0] at hnL;simp only [mem_append] at hb hnL;rcases hb with (hb | (hb | hb) | hb) | hb
           ·exact hnL (.inl (.inl hb))
           ·exact hnL (.inl (.inr (.inl (.inl hb))))
           ·exact hd L.b hb hLr
           ·exact hnL (.inl (.inr (.inr hb)))
           ·exact hnL (.inr hb))
          (by
           unfold fpP;rw [hσp];simp only [hL];intro b hb;rw [hfE,hfx1] at hb;simp only [mem_cons,mem_append] at hb;rw [hm,hfpx0];simp only [mem_cons,mem_append];rcases hb with hb | (hb | (hb | hb) | hb) | hb
           ·exact .inl (.inl hb)
           ·exact .inl (.inr (.inl (.inl hb)))
           ·exact .inl (.inr (.inl (.inr (.inl (.inl hb)))))
           ·exact .inr (s8 b hb)
           ·exact .inl (.inr (.inl (.inr (.inr hb))))
           ·exact .inl (.inr (.inr hb)))
         refine ⟨.skip,w',σ',a.put o.dst undef,?_,rfl,?_,hlew,λb hb hnb=>hBo b (λe=>hnb (e ▸ hpf L.b (by simp))),λb hb=>.inl (u2 b hb),λk' _=>?_⟩
         ·simp only [execOp,ho,Instr.storeAt,hadr,Instr.sureAddr,Sem.run_bind,Sem.run_pure,Result.andThen_ok];rw [f1];rw [hrun];rfl
         ·rw [hdst];refine ⟨u1,R.size,λt=>?_,R.defers⟩;refine Va.mono hI _ _ (Va.kill (σ':=σ') (bad:=under k p c n) (λk' q hb=>?_) (e t) _ (R.vals t));by_cases hk':k'=k
          ·subst hk';refine hσk q (λc' q' he hc'=>?_);subst he;unfold under at hb;simp only [beq_self_eq_true,List.drop_left,List.take_left,Bool.true_and,Bool.and_eq_false_iff,decide_eq_false_iff_not] at hb;omega
          ·exact s1 k' q hk'
         ·by_cases hk':k'=k
          ·subst hk'
           exact hσk [] (λc' q' he _=>by have:=congrArg length he;simp at this)
          ·exact s1 k' [] hk'
        ·cases hr
       ·cases hr
      ·cases hr
     ·cases hr
    ·cases hr
   ·cases hr
  ·cases hr
 ·cases hr
end
end Loom
