/- Loom,an abstract machine over the kit's calculus: rows,z1n,stores,calls,regions,what they owe; and its evaluator (part 1 of 4). -/
import Derived.Orders
import Derived.Laws.AppendOwn
import Derived.Laws.Rows
import Derived.Laws.Concat
import Derived.Laws.BytesString
import Derived.Laws.StructEq
import Derived.Laws.BitsLemmas
import Derived.IntWalk
set_option linter.unusedVariables false
set_option linter.unusedSimpArgs false
set_option linter.unusedSectionVars false
namespace Loom
open Go
structure Loc where
 b:Nat
 cap:Nat
 s:Nat
inductive PV where
 | xp (b:Nat) (x:List Value) (c:Nat)
 | fs (k:Nat) (cs:List Nat)
 | fp (k:Nat) (cs:List Nat) (i:Nat)
inductive AV where
 | un
 | sc (v:Value)
 | zs
 | ag (cs:List AV)
 | tu (vs:List AV)
 | im (s:Nat) (xs:List (List AV))
 | ip (s:Nat) (xs:List (List AV)) (i c:Nat)
 | sl (k:Nat) (p:List (Nat×Nat)) (off len:Nat)
 | pt (k:Nat) (p:List (Nat×Nat)) (i c:Nat)
 | fn (f:Nat) (caps:List AV)
 | ow (s:Nat) (xs:List (List AV))
 | pp (q:PV)
abbrev Els:=List (List AV)
abbrev Path:=List (Nat×Nat)
structure Row where
 s:Nat
 xs:Els
abbrev H:=List (Nat×Row)
abbrev Env:=Nat→AV
abbrev Pl:=Nat→Path→Option Loc
abbrev zj:=Nat→Option Obj
structure EF (cur:Array Value) where
 t:TypeId
 fr:Nat×Nat
 ok:fr.1=fr.2∨cur.size≤fr.1
mutual
def Im (I:Nat→Prop) (B:zj):AV→Value→Prop
 | .sc u,v=>v=u∧u.oneCell'=true
 | .zs,v=>∃ a,v = .slice a 0 0
 | .im s xs,v=>∃ a c,v = .slice a xs.length c∧xs.length≤c ∧
   (xs ≠ []→∃ (A:Addr) (cur:Array Value) (E:TypeId) (fr:Nat×Nat),a=some A∧A.spot=none∧I A.block∧B A.block=some (.cells cur E fr)∧ImE I B s xs (cur.toList.drop A.off))
 | .un,v=>v.oneCell'=true
 | .ag _,_=>False
 | .tu _,_=>False
 | .ip _ _ _ _,_=>False
 | .sl _ _ _ _,_=>False
 | .pt _ _ _ _,_=>False
 | .fn _ _,_=>False
 | .ow _ _,_=>False
 | .pp _,_=>False
def ImC (I:Nat→Prop) (B:zj):List AV→List Value→Prop
 | [],cs=>cs=[]
 | a::as,cs=>∃ v cs',cs=v::cs'∧Im I B a v∧ImC I B as cs'
def ImE (I:Nat→Prop) (B:zj) (s:Nat):Els→List Value→Prop
 | [],_=>True
 | x::xs,cs=>x.length=s∧ImC I B x (cs.take s)∧ImE I B s xs (cs.drop s)
end
def VaP (I:Nat→Prop) (σ:Pl) (B:zj):PV→Value→Prop
 | .xp b x c,v=>v = .pointer (some ⟨b,c,none⟩)∧I b∧∃ (cur:Array Value) (E:TypeId) (fr:Nat×Nat),B b=some (.cells cur E fr)∧cur.toList.take x.length=x∧∀ u ∈ x,u.oneCell'=true
 | .fs k cs,v=>∃ L a c,σ k []=some L∧v = .slice a cs.length c∧cs.length≤c ∧
   (cs ≠ []→∃ (A:Addr) (cur:Array Value) (E:TypeId) (fr:Nat×Nat),a=some A∧A.spot=none∧I A.block∧B A.block=some (.cells cur E fr)∧(cur.toList.drop A.off).take cs.length=cs.map fun c=>Value.pointer (some ⟨L.b,c,none⟩))
 | .fp k cs i,v=>∃ (L:Loc) (A:Addr) (cur:Array Value) (E:TypeId) (fr:Nat×Nat),σ k []=some L∧v = .pointer (some ⟨A.block,A.off+i,none⟩)∧A.spot=none∧I A.block∧B A.block=some (.cells cur E fr) ∧
   (cur.toList.drop A.off).take cs.length=cs.map fun c=>Value.pointer (some ⟨L.b,c,none⟩)
mutual
def Va (I:Nat→Prop) (σ:Pl) (B:zj):AV→Value→Prop
 | .un,_=>True
 | .sc u,v=>v=u
 | .zs,v=>∃ a,v = .slice a 0 0
 | .ag cs,v=>∃ a,v = .agg a∧VaC I σ B cs a.toList
 | .tu vs,v=>∃ a,v = .tuple a∧VaL I σ B vs a.toList
 | .im s xs,v=>∃ a c,v = .slice a xs.length c∧xs.length≤c ∧
   (xs ≠ []→∃ (A:Addr) (cur:Array Value) (E:TypeId) (fr:Nat×Nat),a=some A∧A.spot=none∧I A.block∧B A.block=some (.cells cur E fr)∧ImE I B s xs (cur.toList.drop A.off))
 | .ip s xs i c,v=>∃ (A:Addr) (cur:Array Value) (E:TypeId) (fr:Nat×Nat),v = .pointer (some ⟨A.block,A.off+i * s+c,none⟩)∧A.spot=none∧I A.block∧B A.block=some (.cells cur E fr) ∧
   ImE I B s xs (cur.toList.drop A.off)
 | .sl k p off len,v =>
  match σ k p with
  | none=>len=0∧off=0∧∃ a,v = .slice a 0 0
  | some L=>∃ a c,v = .slice (some a) len c∧off+c=L.cap∧len≤c∧(0<c∨off=0→a=⟨L.b,off * L.s,none⟩)
 | .pt k p i c,v=>∃ L,σ k p=some L∧v = .pointer (some ⟨L.b,i * L.s+c,none⟩)
 | .fn f caps,v=>∃ a,v = .func (.func f) #[] a∧VaL I σ B caps a.toList
 | .ow _ _,_=>False
 | .pp q,v=>VaP I σ B q v
def VaC (I:Nat→Prop) (σ:Pl) (B:zj):List AV→List Value→Prop
 | [],cs=>cs=[]
 | a::as,cs=>∃ v cs',cs=v::cs'∧v.oneCell'=true∧Va I σ B a v∧VaC I σ B as cs'
def VaL (I:Nat→Prop) (σ:Pl) (B:zj):List AV→List Value→Prop
 | [],cs=>cs=[]
 | a::as,cs=>∃ v cs',cs=v::cs'∧Va I σ B a v∧VaL I σ B as cs'
end
mutual
def Ce (I:Nat→Prop) (σ:Pl) (B:zj) (k:Nat) (p:Path) (i c:Nat):AV→Value→Prop
 | .ow s xs,v =>
  match σ k (p++[(i,c)]) with
  | none=>xs=[]∧∃ a,v = .slice a 0 0
  | some L=>L.s=s∧xs.length≤L.cap∧v = .slice (some ⟨L.b,0,none⟩) xs.length L.cap ∧
    ∃ (cur:Array Value) (E:EF cur),B L.b=some (.cells cur E.t E.fr)∧cur.size=L.cap * s∧CeE I σ B k (p++[(i,c)]) 0 s xs cur.toList
 | .sc u,v=>v=u∧u.oneCell'=true
 | .zs,v=>Im I B .zs v
 | .im s xs,v=>Im I B (.im s xs) v
 | .un,v=>v.oneCell'=true
 | .sl _ _ _ _,_=>False
 | .pt _ _ _ _,_=>False
 | .ip _ _ _ _,_=>False
 | .ag _,_=>False
 | .tu _,_=>False
 | .fn _ _,_=>False
 | .pp _,_=>False
def CeC (I:Nat→Prop) (σ:Pl) (B:zj) (k:Nat) (p:Path) (i c:Nat):List AV→List Value→Prop
 | [],cs=>cs=[]
 | a::as,cs=>∃ v cs',cs=v::cs'∧Ce I σ B k p i c a v∧CeC I σ B k p i (c+1) as cs'
def CeE (I:Nat→Prop) (σ:Pl) (B:zj) (k:Nat) (p:Path) (i s:Nat):Els→List Value→Prop
 | [],_=>True
 | x::xs,cs=>x.length=s∧CeC I σ B k p i 0 x (cs.take s)∧CeE I σ B k p (i+1) s xs (cs.drop s)
end
mutual
def fpA (σ:Pl) (k:Nat) (p:Path) (i c:Nat):AV→List Nat
 | .ow _ xs =>
  match σ k (p++[(i,c)]) with
  | none=>[]
  | some L=>L.b::fpE σ k (p++[(i,c)]) 0 xs
 | .un | .sc _ | .zs | .ag _ | .tu _ | .im _ _ | .ip _ _ _ _ | .sl _ _ _ _ | .pt _ _ _ _ | .fn _ _ | .pp _=>[]
def fpC (σ:Pl) (k:Nat) (p:Path) (i c:Nat):List AV→List Nat
 | []=>[]
 | a::as=>fpA σ k p i c a++fpC σ k p i (c+1) as
def fpE (σ:Pl) (k:Nat) (p:Path) (i:Nat):Els→List Nat
 | []=>[]
 | x::xs=>fpC σ k p i 0 x++fpE σ k p (i+1) xs
end
def fpR (σ:Pl) (k:Nat) (r:Row):List Nat :=
 match σ k [] with
 | none=>[]
 | some L=>L.b::fpE σ k [] 0 r.xs
def fpH (σ:Pl):H→List Nat
 | []=>[]
 | (k,r)::h=>fpR σ k r++fpH σ h
def zr (I:Nat→Prop) (σ:Pl) (B:zj) (k:Nat) (r:Row):Prop :=
 match σ k [] with
 | none=>r.xs=[]
 | some L=>L.s=r.s∧r.xs.length≤L.cap∧∃ (cur:Array Value) (E:EF cur),B L.b=some (.cells cur E.t E.fr)∧cur.size=L.cap * r.s∧CeE I σ B k [] 0 r.s r.xs cur.toList
def zm (I:Nat→Prop) (σ:Pl) (B:zj):H→Prop
 | []=>True
 | (k,r)::h=>zr I σ B k r∧zm I σ B h
def bl (w:World):zj:=fun b=>w.heap[b]?
structure Le (w w':World):Prop where
 size:w.heap.size≤w'.heap.size
 os:w'.os=w.os
 tape:w'.tape=w.tape
 output:w'.output=w.output
theorem Le.refl (w:World):Le w w:=⟨Nat.le_refl _,rfl,rfl,rfl⟩
theorem Le.trans {a b c:World} (h:Le a b) (k:Le b c):Le a c:=⟨Nat.le_trans h.size k.size,k.os.trans h.os,k.tape.trans h.tape,k.output.trans h.output⟩
structure HRel (I:Nat→Prop) (σ:Pl) (h:H) (w:World):Prop where
 ok:zm I σ (bl w) h
 keys:(h.map Prod.fst).Nodup
 nodup:(fpH σ h).Nodup
 apart:∀ b ∈ fpH σ h,¬ I b∧b<w.heap.size
 low:∀ b,I b→b<w.heap.size
class Dfs (N:Nat) where
 ds:List Deferred
@[reducible] def Dfs.none (N:Nat):Dfs N:=⟨[]⟩
structure Rel (I:Nat→Prop) (N:Nat) [Dfs N] (σ:Pl) (e:Env) (h:H) (a:Act) (w:World):Prop where
 heap:HRel I σ h w
 size:N≤a.tmps.size
 vals:∀ t,Va I σ (bl w) (e t) (a.tmps.getD t undef)
 defers:a.defers=Dfs.ds N
section
variable {I:Nat→Prop} {B B':zj}
mutual
theorem Im.mono (hB:∀ b,I b→B' b=B b):∀ (a:AV) (v:Value),Im I B a v→Im I B' a v
 | .sc _,_,h=>h
 | .zs,_,h=>h
 | .un,_,h=>h
 | .im s xs,v,h=>by
  obtain ⟨a,c,rfl,hc,hx⟩:=h
  refine ⟨a,c,rfl,hc,fun hne=>?_⟩
  obtain ⟨A,cur,E,fr,e1,e2,e3,e4,e5⟩:=hx hne
  exact ⟨A,cur,E,fr,e1,e2,e3,by rw [hB _ e3]; exact e4,ImE.mono hB s xs _ e5⟩
 | .ag _,_,h=>h.elim
 | .tu _,_,h=>h.elim
 | .ip _ _ _ _,_,h=>h.elim
 | .sl _ _ _ _,_,h=>h.elim
 | .pt _ _ _ _,_,h=>h.elim
 | .fn _ _,_,h=>h.elim
 | .ow _ _,_,h=>h.elim
 | .pp _,_,h=>h.elim
theorem ImC.mono (hB:∀ b,I b→B' b=B b):∀ (l:List AV) (cs:List Value),ImC I B l cs→ImC I B' l cs
 | [],_,h=>h
 | a::as,_,h=>by
  obtain ⟨v,cs',rfl,h1,h2⟩:=h
  exact ⟨v,cs',rfl,Im.mono hB a v h1,ImC.mono hB as cs' h2⟩
theorem ImE.mono (hB:∀ b,I b→B' b=B b) (s:Nat):∀ (l:Els) (cs:List Value),ImE I B s l cs→ImE I B' s l cs
 | [],_,_=>trivial
 | x::xs,cs,h=>⟨h.1,ImC.mono hB x _ h.2.1,ImE.mono hB s xs _ h.2.2⟩
end
variable {σ σ':Pl}
theorem VaP.mono (hB:∀ b,I b→B' b=B b):∀ (q:PV) (v:Value),VaP I σ B q v→VaP I σ B' q v
 | .xp _ _ _,_,h=>by
  obtain ⟨h1,h2,cur,E,fr,h3,h4⟩:=h
  exact ⟨h1,h2,cur,E,fr,by rw [hB _ h2]; exact h3,h4⟩
 | .fs _ _,_,h=>by
  obtain ⟨L,a,c,h1,h2,h3,h4⟩:=h
  refine ⟨L,a,c,h1,h2,h3,fun hne=>?_⟩
  obtain ⟨A,cur,E,fr,e1,e2,e3,e4,e5⟩:=h4 hne
  exact ⟨A,cur,E,fr,e1,e2,e3,by rw [hB _ e3]; exact e4,e5⟩
 | .fp _ _ _,_,h=>by
  obtain ⟨L,A,cur,E,fr,h1,h2,h3,h4,h5,h6⟩:=h
  exact ⟨L,A,cur,E,fr,h1,h2,h3,h4,by rw [hB _ h4]; exact h5,h6⟩
mutual
theorem Va.mono (hB:∀ b,I b→B' b=B b):∀ (a:AV) (v:Value),Va I σ B a v→Va I σ B' a v
 | .un,_,h=>h
 | .sc _,_,h=>h
 | .zs,_,h=>h
 | .ag cs,_,h=>by obtain ⟨a,rfl,h⟩:=h; exact ⟨a,rfl,VaC.mono hB cs _ h⟩
 | .tu cs,_,h=>by obtain ⟨a,rfl,h⟩:=h; exact ⟨a,rfl,VaL.mono hB cs _ h⟩
 | .im s xs,v,h=>by
  obtain ⟨a,c,rfl,hc,hx⟩:=h
  refine ⟨a,c,rfl,hc,fun hne=>?_⟩
  obtain ⟨A,cur,E,fr,e1,e2,e3,e4,e5⟩:=hx hne
  exact ⟨A,cur,E,fr,e1,e2,e3,by rw [hB _ e3]; exact e4,ImE.mono hB s xs _ e5⟩
 | .ip s xs i c,v,h=>by
  obtain ⟨A,cur,E,fr,rfl,h1,h2,h3,h4⟩:=h
  exact ⟨A,cur,E,fr,rfl,h1,h2,by rw [hB _ h2]; exact h3,ImE.mono hB s xs _ h4⟩
 | .sl _ _ _ _,_,h=>h
 | .pt _ _ _ _,_,h=>h
 | .fn _ caps,_,h=>by obtain ⟨a,rfl,h⟩:=h; exact ⟨a,rfl,VaL.mono hB caps _ h⟩
 | .ow _ _,_,h=>h.elim
 | .pp q,v,h=>VaP.mono hB q v h
theorem VaC.mono (hB:∀ b,I b→B' b=B b):∀ (l:List AV) (cs:List Value),VaC I σ B l cs→VaC I σ B' l cs
 | [],_,h=>h
 | a::as,_,h=>by
  obtain ⟨v,cs',rfl,h0,h1,h2⟩:=h
  exact ⟨v,cs',rfl,h0,Va.mono hB a v h1,VaC.mono hB as cs' h2⟩
theorem VaL.mono (hB:∀ b,I b→B' b=B b):∀ (l:List AV) (cs:List Value),VaL I σ B l cs→VaL I σ B' l cs
 | [],_,h=>h
 | a::as,_,h=>by
  obtain ⟨v,cs',rfl,h1,h2⟩:=h
  exact ⟨v,cs',rfl,Va.mono hB a v h1,VaL.mono hB as cs' h2⟩
end
mutual
theorem Ce.mono (hI:∀ b,I b→B' b=B b) (k:Nat) (p:Path) (i c:Nat):∀ (a:AV) (v:Value),(∀ b ∈ fpA σ k p i c a,B' b=B b)→Ce I σ B k p i c a v→Ce I σ B' k p i c a v
 | .ow s xs,v,hf,h=>by
  simp only [Ce,fpA] at h hf ⊢
  cases hs:σ k (p++[(i,c)]) with
  | none=>simpa only [hs] using h
  | some L =>
   simp only [hs] at h hf ⊢
   obtain ⟨h1,h2,h3,cur,E,h4,h5,h6⟩:=h
   exact ⟨h1,h2,h3,cur,E,by rw [hf _ (by simp)]; exact h4,h5,CeE.mono hI k _ 0 s xs _ (fun b hb=>hf b (by simp [hb])) h6⟩
 | .sc _,_,_,h=>h
 | .zs,_,_,h=>h
 | .im s xs,v,_,h=>Im.mono hI (.im s xs) v h
 | .un,_,_,h=>h
 | .sl _ _ _ _,_,_,h=>h.elim
 | .pt _ _ _ _,_,_,h=>h.elim
 | .ip _ _ _ _,_,_,h=>h.elim
 | .ag _,_,_,h=>h.elim
 | .tu _,_,_,h=>h.elim
 | .fn _ _,_,_,h=>h.elim
 | .pp _,_,_,h=>h.elim
theorem CeC.mono (hI:∀ b,I b→B' b=B b) (k:Nat) (p:Path) (i c:Nat):∀ (l:List AV) (cs:List Value),(∀ b ∈ fpC σ k p i c l,B' b=B b)→CeC I σ B k p i c l cs→CeC I σ B' k p i c l cs
 | [],_,_,h=>h
 | a::as,_,hf,h=>by
  obtain ⟨v,cs',rfl,h1,h2⟩:=h
  simp only [fpC,List.mem_append] at hf
  exact ⟨v,cs',rfl,Ce.mono hI k p i c a v (fun b hb=>hf b (.inl hb)) h1,CeC.mono hI k p i (c+1) as cs' (fun b hb=>hf b (.inr hb)) h2⟩
theorem CeE.mono (hI:∀ b,I b→B' b=B b) (k:Nat) (p:Path) (i s:Nat):∀ (l:Els) (cs:List Value),(∀ b ∈ fpE σ k p i l,B' b=B b)→CeE I σ B k p i s l cs→CeE I σ B' k p i s l cs
 | [],_,_,_=>trivial
 | x::xs,cs,hf,h=>by
  simp only [fpE,List.mem_append] at hf
  exact ⟨h.1,CeC.mono hI k p i 0 x _ (fun b hb=>hf b (.inl hb)) h.2.1,CeE.mono hI k p (i+1) s xs _ (fun b hb=>hf b (.inr hb)) h.2.2⟩
end
theorem zr.mono (hI:∀ b,I b→B' b=B b) (k:Nat) (r:Row) (hf:∀ b ∈ fpR σ k r,B' b=B b) (h:zr I σ B k r):zr I σ B' k r:=by
 unfold zr fpR at *
 cases hs:σ k [] with
 | none=>simpa only [hs] using h
 | some L =>
  simp only [hs] at h hf ⊢
  obtain ⟨h1,h2,cur,E,h3,h4,h5⟩:=h
  exact ⟨h1,h2,cur,E,by rw [hf _ (by simp)]; exact h3,h4,CeE.mono hI k [] 0 r.s r.xs _ (fun b hb=>hf b (by simp [hb])) h5⟩
theorem zm.mono (hI:∀ b,I b→B' b=B b):∀ (h:H),(∀ b ∈ fpH σ h,B' b=B b)→zm I σ B h→zm I σ B' h
 | [],_,_=>trivial
 | (k,r)::h,hf,hh=>by
  simp only [fpH,List.mem_append] at hf
  exact ⟨zr.mono hI k r (fun b hb=>hf b (.inl hb)) hh.1,zm.mono hI h (fun b hb=>hf b (.inr hb)) hh.2⟩
end
def z4p (bad:Nat→Path→Bool):PV→AV
 | .xp b x c=>.pp (.xp b x c)
 | .fs k cs=>if bad k [] then .un else .pp (.fs k cs)
 | .fp k cs i=>if bad k [] then .un else .pp (.fp k cs i)
mutual
def kill (bad:Nat→Path→Bool):AV→AV
 | .sl k p off len=>if bad k p then .un else .sl k p off len
 | .pt k p i c=>if bad k p then .un else .pt k p i c
 | .ag cs=>.ag (z2n bad cs)
 | .tu cs=>.tu (z2n bad cs)
 | .fn f caps=>.fn f (z2n bad caps)
 | .un=>.un
 | .sc v=>.sc v
 | .zs=>.zs
 | .im s xs=>.im s xs
 | .ip s xs i c=>.ip s xs i c
 | .ow s xs=>.ow s xs
 | .pp q=>z4p bad q
def z2n (bad:Nat→Path→Bool):List AV→List AV
 | []=>[]
 | a::as=>kill bad a::z2n bad as
end
section
variable {I:Nat→Prop} {B:zj} {σ σ':Pl} {bad:Nat→Path→Bool}
mutual
theorem Va.kill (hσ:∀ k p,bad k p=false→σ' k p=σ k p):∀ (a:AV) (v:Value),Va I σ B a v→Va I σ' B (kill bad a) v
 | .un,_,_=>trivial
 | .sc _,_,h=>h
 | .zs,_,h=>h
 | .ag cs,_,h=>by obtain ⟨a,rfl,h⟩:=h; exact ⟨a,rfl,VaC.kill hσ cs _ h⟩
 | .tu cs,_,h=>by obtain ⟨a,rfl,h⟩:=h; exact ⟨a,rfl,VaL.kill hσ cs _ h⟩
 | .im _ _,_,h=>h
 | .ip _ _ _ _,_,h=>h
 | .sl k p off len,v,h=>by
  simp only [Loom.kill]
  cases hb:bad k p with
  | true=>exact trivial
  | false =>
   simp only [Bool.false_eq_true,if_false]
   simp only [Va,hσ k p hb] at h ⊢
   exact h
 | .pt k p i c,v,h=>by
  simp only [Loom.kill]
  cases hb:bad k p with
  | true=>exact trivial
  | false =>
   simp only [Bool.false_eq_true,if_false]
   simp only [Va,hσ k p hb] at h ⊢
   exact h
 | .fn _ caps,_,h=>by obtain ⟨a,rfl,h⟩:=h; exact ⟨a,rfl,VaL.kill hσ caps _ h⟩
 | .ow _ _,_,h=>h.elim
 | .pp q,v,h=>by
  simp only [Loom.kill]
  cases q with
  | xp b x c=>exact h
  | fs k cs =>
   simp only [z4p]
   cases hb:bad k [] with
   | true=>exact trivial
   | false =>
    simp only [Bool.false_eq_true,if_false]
    obtain ⟨L,a,c,h1,h2⟩:=h
    exact ⟨L,a,c,by rw [hσ k [] hb]; exact h1,h2⟩
  | fp k cs i =>
   simp only [z4p]
   cases hb:bad k [] with
   | true=>exact trivial
   | false =>
    simp only [Bool.false_eq_true,if_false]
    obtain ⟨L,A,cur,E,fr,h1,h2⟩:=h
    exact ⟨L,A,cur,E,fr,by rw [hσ k [] hb]; exact h1,h2⟩
theorem VaC.kill (hσ:∀ k p,bad k p=false→σ' k p=σ k p):∀ (l:List AV) (cs:List Value),VaC I σ B l cs→VaC I σ' B (z2n bad l) cs
 | [],_,h=>h
 | a::as,_,h=>by
  obtain ⟨v,cs',rfl,h0,h1,h2⟩:=h
  exact ⟨v,cs',rfl,h0,Va.kill hσ a v h1,VaC.kill hσ as cs' h2⟩
theorem VaL.kill (hσ:∀ k p,bad k p=false→σ' k p=σ k p):∀ (l:List AV) (cs:List Value),VaL I σ B l cs→VaL I σ' B (z2n bad l) cs
 | [],_,h=>h
 | a::as,_,h=>by
  obtain ⟨v,cs',rfl,h1,h2⟩:=h
  exact ⟨v,cs',rfl,Va.kill hσ a v h1,VaL.kill hσ as cs' h2⟩
end
end
def za:H→Nat→Option Row
 | [],_=>none
 | (k',r)::h,k=>if k'=k then some r else za h k
def zd:H→Nat→H
 | [],_=>[]
 | (k',r)::h,k=>if k'=k then h else (k',r)::zd h k
def setRow:H→Nat→Row→H
 | [],_,_=>[]
 | (k',r)::h,k,r'=>if k'=k then (k',r')::h else (k',r)::setRow h k r'
def resE:Nat→Els→Path→Option (Nat×Els)
 | s,xs,[]=>some (s,xs)
 | _,xs,(i,c)::p =>
  match xs[i]? with
  | none=>none
  | some x =>
   match x[c]? with
   | some (.ow s' ys)=>resE s' ys p
   | _=>none
def updE:Els→Path→(Els→Els)→Els
 | xs,[],f=>f xs
 | xs,(i,c)::p,f =>
  match xs[i]? with
  | none=>xs
  | some x =>
   match x[c]? with
   | some (.ow s' ys)=>xs.set i (x.set c (.ow s' (updE ys p f)))
   | _=>xs
def z2c (I:Nat→Prop) (σ:Pl) (B:zj) (k:Nat) (p:Path) (s:Nat) (xs:Els):Prop :=
 match σ k p with
 | none=>xs=[]
 | some L=>L.s=s∧xs.length≤L.cap∧∃ (cur:Array Value) (E:EF cur),B L.b=some (.cells cur E.t E.fr)∧cur.size=L.cap * s∧CeE I σ B k p 0 s xs cur.toList
def fpP (σ:Pl) (k:Nat) (p:Path) (xs:Els):List Nat :=
 match σ k p with
 | none=>[]
 | some L=>L.b::fpE σ k p 0 xs
theorem zua {σ:Pl} {k:Nat} {r:Row}:fpR σ k r=fpP σ k [] r.xs:=rfl
section
variable {I:Nat→Prop} {σ σ':Pl} {B B':zj} {k:Nat}
theorem CeC.get {p:Path} {i:Nat}:∀ (l:List AV) (c0:Nat) (cs:List Value),CeC I σ B k p i c0 l cs→∀ (j:Nat) (a:AV),l[j]? = some a→∃ v,cs[j]? = some v∧Ce I σ B k p i (c0+j) a v
 | [],_,_,_,_,_,h=>by simp at h
 | a::as,c0,_,h,0,a',ha=>by
  obtain ⟨v,cs',rfl,h1,_⟩:=h
  simp at ha; subst ha
  exact ⟨v,rfl,h1⟩
 | a::as,c0,_,h,j+1,a',ha=>by
  obtain ⟨v,cs',rfl,_,h2⟩:=h
  obtain ⟨v',hv,hc⟩:=CeC.get as (c0+1) cs' h2 j a' (by simpa using ha)
  exact ⟨v',by simpa using hv,by rwa [show c0+(j+1)=c0+1+j by omega]⟩
theorem CeC.length {p:Path} {i:Nat}:∀ (l:List AV) (c0:Nat) (cs:List Value),CeC I σ B k p i c0 l cs→cs.length=l.length
 | [],_,_,h=>by simp only [CeC] at h; simp [h]
 | a::as,c0,_,h=>by
  obtain ⟨v,cs',rfl,_,h2⟩:=h
  simp [CeC.length as (c0+1) cs' h2]
theorem CeE.get {p:Path} {s:Nat}:∀ (xs:Els) (i0:Nat) (cs:List Value),CeE I σ B k p i0 s xs cs→∀ (j:Nat) (x:List AV),xs[j]? = some x→x.length=s∧CeC I σ B k p (i0+j) 0 x ((cs.drop (j * s)).take s)
 | [],_,_,_,_,_,h=>by simp at h
 | x::xs,i0,cs,h,0,x',hx=>by
  simp at hx; subst hx
  simpa using ⟨h.1,h.2.1⟩
 | x::xs,i0,cs,h,j+1,x',hx=>by
  have:=CeE.get xs (i0+1) (cs.drop s) h.2.2 j x' (by simpa using hx)
  rw [List.drop_drop,show s+j * s=(j+1) * s by rw [Nat.add_mul,Nat.one_mul,Nat.add_comm]] at this
  rwa [show i0+(j+1)=i0+1+j by omega]
theorem z7k {p:Path} {i:Nat}:∀ (l:List AV) (c0 j:Nat) (a:AV),l[j]? = some a→∃ l1 l2,fpC σ k p i c0 l=l1++fpA σ k p i (c0+j) a++l2 ∧
  ∀ (σ':Pl) (a':AV),(∀ c' a'',c' ≠ c0+j→fpA σ' k p i c' a''=fpA σ k p i c' a'')→fpC σ' k p i c0 (l.set j a')=l1++fpA σ' k p i (c0+j) a'++l2
 | [],_,_,_,h=>by simp at h
 | a::as,c0,0,a',h=>by
  simp at h; subst h
  refine ⟨[],fpC σ k p i (c0+1) as,by simp [fpC],fun σ' a' hs=>?_⟩
  have:∀ (l:List AV) (c1:Nat),c0<c1→fpC σ' k p i c1 l=fpC σ k p i c1 l:=by
   intro l
   induction l with
   | nil=>intros; rfl
   | cons b l ih=>intro c1 hc; simp only [fpC]; rw [hs c1 b (by omega),ih (c1+1) (by omega)]
  simp [fpC,this as (c0+1) (by omega)]
 | b::as,c0,j+1,a',h=>by
  obtain ⟨l1,l2,h1,h2⟩:=z7k (p:=p) (i:=i) as (c0+1) j a' (by simpa using h)
  refine ⟨fpA σ k p i c0 b++l1,l2,by simp [fpC,h1,show c0+1+j=c0+(j+1) by omega],fun σ' a'' hs=>?_⟩
  have:=h2 σ' a'' (fun c' a3 hc=>hs c' a3 (by omega))
  simp [fpC,this,hs c0 b (by omega),show c0+1+j=c0+(j+1) by omega]
theorem z6p {p:Path}:∀ (xs:Els) (i0 j:Nat) (x:List AV),xs[j]? = some x→∃ l1 l2,fpE σ k p i0 xs=l1++fpC σ k p (i0+j) 0 x++l2 ∧
  ∀ (σ':Pl) (x':List AV),(∀ i' c' a'',i' ≠ i0+j→fpA σ' k p i' c' a''=fpA σ k p i' c' a'')→fpE σ' k p i0 (xs.set j x')=l1++fpC σ' k p (i0+j) 0 x'++l2
 | [],_,_,_,h=>by simp at h
 | x::xs,i0,0,x',h=>by
  simp at h; subst h
  refine ⟨[],fpE σ k p (i0+1) xs,by simp [fpE],fun σ' x' hs=>?_⟩
  have hC:∀ (l:List AV) (i1 c1:Nat),i0<i1→fpC σ' k p i1 c1 l=fpC σ k p i1 c1 l:=by
   intro l
   induction l with
   | nil=>intros; rfl
   | cons b l ih=>intro i1 c1 hc; simp only [fpC]; rw [hs i1 c1 b (by omega),ih i1 (c1+1) hc]
  have:∀ (l:Els) (i1:Nat),i0<i1→fpE σ' k p i1 l=fpE σ k p i1 l:=by
   intro l
   induction l with
   | nil=>intros; rfl
   | cons b l ih=>intro i1 hc; simp only [fpE]; rw [hC b i1 0 hc,ih (i1+1) (by omega)]
  simp [fpE,this xs (i0+1) (by omega)]
 | b::xs,i0,j+1,x',h=>by
  obtain ⟨l1,l2,h1,h2⟩:=z6p (p:=p) xs (i0+1) j x' (by simpa using h)
  refine ⟨fpC σ k p i0 0 b++l1,l2,by simp [fpE,h1,show i0+1+j=i0+(j+1) by omega],fun σ' x'' hs=>?_⟩
  have hC:∀ (l:List AV) (c1:Nat),fpC σ' k p i0 c1 l=fpC σ k p i0 c1 l:=by
   intro l
   induction l with
   | nil=>intros; rfl
   | cons b l ih=>intro c1; simp only [fpC]; rw [hs i0 c1 b (by omega),ih (c1+1)]
  have:=h2 σ' x'' (fun i' c' a3 hc=>hs i' c' a3 (by omega))
  simp [fpE,this,hC b 0,show i0+1+j=i0+(j+1) by omega]
theorem z5m:∀ (p:Path) (pre:Path) (s:Nat) (xs:Els) (cs:List Value) (s':Nat) (ys:Els),CeE I σ B k pre 0 s xs cs→p ≠ []→resE s xs p=some (s',ys) →
  z2c I σ B k (pre++p) s' ys∧(fpP σ k (pre++p) ys).Sublist (fpE σ k pre 0 xs)
 | [],_,_,_,_,_,_,_,h,_=>absurd rfl h
 | (i,c)::p,pre,s,xs,cs,s',ys,h,_,hr=>by
  simp only [resE] at hr
  cases hx:xs[i]? with
  | none=>rw [hx] at hr; cases hr
  | some x =>
   rw [hx] at hr
   simp only at hr
   obtain ⟨_,hC⟩:=CeE.get xs 0 cs h i x hx
   obtain ⟨m1,m2,hm,_⟩:=z6p (σ:=σ) (k:=k) (p:=pre) xs 0 i x hx
   cases ha:x[c]? with
   | none=>rw [ha] at hr; cases hr
   | some a =>
    rw [ha] at hr
    cases a with
    | ow s1 zs =>
     simp only at hr
     obtain ⟨v,_,hCe⟩:=CeC.get x 0 _ hC c _ ha
     obtain ⟨n1,n2,hn,_⟩:=z7k (σ:=σ) (k:=k) (p:=pre) (i:=0+i) x 0 c _ ha
     simp only [Nat.zero_add] at hCe hm hn
     have hsub:(fpA σ k pre i c (.ow s1 zs)).Sublist (fpE σ k pre 0 xs):=by
      rw [hm,hn]
      exact ((List.sublist_append_right n1 _).trans (List.sublist_append_left _ n2)).trans ((List.sublist_append_right m1 _).trans (List.sublist_append_left _ m2))
     have hplace:z2c I σ B k (pre++[(i,c)]) s1 zs:=by
      simp only [Ce,z2c] at hCe ⊢
      cases hs:σ k (pre++[(i,c)]) with
      | none=>simp only [hs] at hCe ⊢; exact hCe.1
      | some L=>simp only [hs] at hCe ⊢; exact ⟨hCe.1,hCe.2.1,hCe.2.2.2⟩
     have hfp:fpA σ k pre i c (.ow s1 zs)=fpP σ k (pre++[(i,c)]) zs:=by
      simp only [fpA,fpP]
      all_goals (cases σ k (pre++[(i,c)]) <;> rfl)
     rw [hfp] at hsub
     by_cases hp:p=[]
     ·subst hp
      simp only [resE,Option.some.injEq,Prod.mk.injEq] at hr
      obtain ⟨rfl,rfl⟩:=hr
      exact ⟨hplace,hsub⟩
     ·unfold z2c at hplace
      cases hs:σ k (pre++[(i,c)]) with
      | none =>
       simp only [hs] at hplace
       subst hplace
       cases p with
       | nil=>exact absurd rfl hp
       | cons q p=>obtain ⟨i',c'⟩:=q; simp [resE] at hr
      | some L =>
       simp only [hs] at hplace
       obtain ⟨_,_,cur,E,_,_,hE⟩:=hplace
       have:=z5m p (pre++[(i,c)]) s1 zs _ s' ys hE hp hr
       simp only [List.append_assoc,List.singleton_append] at this
       refine ⟨this.1,this.2.trans (List.Sublist.trans ?_ hsub)⟩
       simp only [fpP,hs]
       exact List.sublist_cons_self _ _
    | _=>cases hr
end
section
variable {I:Nat→Prop} {σ σ':Pl} {B B':zj} {k k':Nat}
mutual
theorem Ce.ren {p p':Path} {i c:Nat} (hσ:∀ q,σ' k' (p'++(i,c)::q)=σ k (p++(i,c)::q)):∀ (a:AV) (v:Value),Ce I σ B k p i c a v→Ce I σ' B k' p' i c a v
 | .ow s xs,v,h=>by
  simp only [Ce] at h ⊢
  have h0:=hσ []
  rw [show p'++[(i,c)]=p'++(i,c)::[] by rfl,h0]
  cases hs:σ k (p++[(i,c)]) with
  | none=>simpa only [hs] using h
  | some L =>
   simp only [hs] at h ⊢
   obtain ⟨h1,h2,h3,cur,E,h4,h5,h6⟩:=h
   exact ⟨h1,h2,h3,cur,E,h4,h5,CeE.ren (p:=p++[(i,c)]) (p':=p'++[(i,c)]) 0 s (fun i' c' q=>by simpa using hσ ((i',c')::q)) xs _ h6⟩
 | .sc _,_,h=>h
 | .zs,_,h=>h
 | .im _ _,_,h=>h
 | .un,_,h=>h
 | .sl _ _ _ _,_,h=>h.elim
 | .pt _ _ _ _,_,h=>h.elim
 | .ip _ _ _ _,_,h=>h.elim
 | .ag _,_,h=>h.elim
 | .tu _,_,h=>h.elim
 | .fn _ _,_,h=>h.elim
theorem CeC.ren {p p':Path} {i:Nat} (c:Nat) (hσ:∀ c' q,σ' k' (p'++(i,c')::q)=σ k (p++(i,c')::q)):∀ (l:List AV) (cs:List Value),CeC I σ B k p i c l cs→CeC I σ' B k' p' i c l cs
 | [],_,h=>h
 | a::as,_,h=>by
  obtain ⟨v,cs',rfl,h1,h2⟩:=h
  exact ⟨v,cs',rfl,Ce.ren (fun q=>hσ c q) a v h1,CeC.ren (c+1) hσ as cs' h2⟩
theorem CeE.ren {p p':Path} (i s:Nat) (hσ:∀ i' c' q,σ' k' (p'++(i',c')::q)=σ k (p++(i',c')::q)):∀ (l:Els) (cs:List Value),CeE I σ B k p i s l cs→CeE I σ' B k' p' i s l cs
 | [],_,_=>trivial
 | x::xs,cs,h=>⟨h.1,CeC.ren 0 (fun c' q=>hσ i c' q) x _ h.2.1,CeE.ren (i+1) s hσ xs _ h.2.2⟩
end
mutual
theorem fpA.ren {p p':Path} {i c:Nat} (hσ:∀ q,σ' k' (p'++(i,c)::q)=σ k (p++(i,c)::q)):∀ (a:AV),fpA σ' k' p' i c a=fpA σ k p i c a
 | .ow s xs=>by
  simp only [fpA]
  have h0:=hσ []
  rw [show p'++[(i,c)]=p'++(i,c)::[] by rfl,h0]
  cases hs:σ k (p++[(i,c)]) with
  | none=>rfl
  | some L=>simp only; rw [fpE.ren (p:=p++[(i,c)]) (p':=p'++[(i,c)]) 0 (fun i' c' q=>by simpa using hσ ((i',c')::q)) xs]
 | .sc _=>rfl
 | .zs=>rfl
 | .im _ _=>rfl
 | .un=>rfl
 | .sl _ _ _ _=>rfl
 | .pt _ _ _ _=>rfl
 | .ip _ _ _ _=>rfl
 | .ag _=>rfl
 | .tu _=>rfl
 | .fn _ _=>rfl
 | .pp _=>rfl
theorem fpC.ren {p p':Path} {i:Nat} (c:Nat) (hσ:∀ c' q,σ' k' (p'++(i,c')::q)=σ k (p++(i,c')::q)):∀ (l:List AV),fpC σ' k' p' i c l=fpC σ k p i c l
 | []=>rfl
 | a::as=>by simp only [fpC]; rw [fpA.ren (fun q=>hσ c q) a,fpC.ren (c+1) hσ as]
theorem fpE.ren {p p':Path} (i:Nat) (hσ:∀ i' c' q,σ' k' (p'++(i',c')::q)=σ k (p++(i',c')::q)):∀ (l:Els),fpE σ' k' p' i l=fpE σ k p i l
 | []=>rfl
 | x::xs=>by simp only [fpE]; rw [fpC.ren 0 (fun c' q=>hσ i c' q) x,fpE.ren (i+1) hσ xs]
end
theorem CeC.setAt {p:Path} {i:Nat}:∀ (l:List AV) (c0 j:Nat) (cs:List Value) (a:AV) (a':AV) (v':Value),CeC I σ B k p i c0 l cs→l[j]? = some a→Ce I σ' B' k p i (c0+j) a' v' →
  (∀ c' a'' v,c' ≠ c0+j→(∀ b ∈ fpA σ k p i c' a'',b ∈ fpC σ k p i c0 l∧(((fpC σ k p i c0 l).Nodup)→b ∉ fpA σ k p i (c0+j) a))→Ce I σ B k p i c' a'' v→Ce I σ' B' k p i c' a'' v) →
  CeC I σ' B' k p i c0 (l.set j a') (cs.set j v')
 | [],_,_,_,_,_,_,_,h,_,_=>by simp at h
 | x::as,c0,0,cs,a,a',v',h,ha,hc,T=>by
  obtain ⟨v,cs',rfl,h1,h2⟩:=h
  simp at ha; subst ha
  refine ⟨v',cs',rfl,by simpa using hc,?_⟩
  have aux:∀ (l:List AV) (c1:Nat) (cs:List Value),c0<c1→(∃ pre,fpC σ k p i c0 (x::as)=fpA σ k p i c0 x++pre++fpC σ k p i c1 l)→CeC I σ B k p i c1 l cs→CeC I σ' B' k p i c1 l cs:=by
   intro l
   induction l with
   | nil=>intro _ _ _ _ h; exact h
   | cons y l ih =>
    intro c1 cs hlt ⟨pre,hpre⟩ h
    obtain ⟨v,cs',rfl,h1,h2⟩:=h
    refine ⟨v,cs',rfl,T c1 y v (by omega) (fun b hb=>?_) h1,ih (c1+1) cs' (by omega) ⟨pre++fpA σ k p i c1 y,by rw [hpre]; simp [fpC]⟩ h2⟩
    rw [hpre]
    refine ⟨by simp [fpC,hb],fun hn hx=>?_⟩
    rw [List.append_assoc,List.nodup_append] at hn
    exact hn.2.2 b (by simpa using hx) b (by simp [fpC,hb]) rfl
  exact aux as (c0+1) cs' (by omega) ⟨[],by simp [fpC]⟩ h2
 | x::as,c0,j+1,cs,a,a',v',h,ha,hc,T=>by
  obtain ⟨v,cs',rfl,h1,h2⟩:=h
  obtain ⟨l1,l2,hl,_⟩:=z7k (σ:=σ) (k:=k) (p:=p) (i:=i) as (c0+1) j a (by simpa using ha)
  rw [show c0+1+j=c0+(j+1) by omega] at hl
  refine ⟨v,cs'.set j v',rfl,T c0 x v (by omega) (fun b hb=>⟨by simp [fpC,hb],fun hn hx=>?_⟩) h1,?_⟩
  ·simp only [fpC] at hn
   rw [List.nodup_append] at hn
   exact hn.2.2 b hb b (by rw [hl]; simp [hx]) rfl
  ·refine CeC.setAt as (c0+1) j cs' a a' v' h2 (by simpa using ha) (by rwa [show c0+1+j=c0+(j+1) by omega]) (fun c' a'' v hne hb hce=>T c' a'' v (by omega) (fun b hbb=>?_) hce)
   obtain ⟨q1,q2⟩:=hb b hbb
   refine ⟨by simp [fpC,q1],fun hn=>?_⟩
   rw [show c0+(j+1)=c0+1+j by omega]
   simp only [fpC] at hn
   exact q2 (List.nodup_append.1 hn).2.1
theorem CeC.map {p:Path} {i:Nat}:∀ (l:List AV) (c0:Nat) (cs:List Value),
  (∀ c' a v,(∀ b ∈ fpA σ k p i c' a,b ∈ fpC σ k p i c0 l)→Ce I σ B k p i c' a v→Ce I σ' B' k p i c' a v)→CeC I σ B k p i c0 l cs→CeC I σ' B' k p i c0 l cs
 | [],_,_,_,h=>h
 | x::as,c0,cs,T,h=>by
  obtain ⟨v,cs',rfl,h1,h2⟩:=h
  exact ⟨v,cs',rfl,T c0 x v (fun b hb=>by simp [fpC,hb]) h1,CeC.map as (c0+1) cs' (fun c' a v hb=>T c' a v (fun b hbb=>by simp [fpC,hb b hbb])) h2⟩
theorem CeE.map {p:Path} {s:Nat}:∀ (xs:Els) (i0:Nat) (cs:List Value),
  (∀ i' c' a v,i0≤i'→(∀ b ∈ fpA σ k p i' c' a,b ∈ fpE σ k p i0 xs)→Ce I σ B k p i' c' a v→Ce I σ' B' k p i' c' a v)→CeE I σ B k p i0 s xs cs→CeE I σ' B' k p i0 s xs cs
 | [],_,_,_,_=>trivial
 | x::xs,i0,cs,T,h=>⟨h.1,CeC.map x 0 _ (fun c' a v hb=>T i0 c' a v (Nat.le_refl _) (fun b hbb=>by simp [fpE,hb b hbb])) h.2.1,
   CeE.map xs (i0+1) _ (fun i' c' a v hle hb=>T i' c' a v (by omega) (fun b hbb=>by simp [fpE,hb b hbb])) h.2.2⟩
theorem CeE.setAt {p:Path} {s:Nat}:∀ (xs:Els) (i0 j:Nat) (cs:List Value) (x x':List AV) (news:List Value),CeE I σ B k p i0 s xs cs→xs[j]? = some x→x'.length=s→news.length=s →
  CeC I σ' B' k p (i0+j) 0 x' news →
  (∀ i' c' a v,i' ≠ i0+j→(∀ b ∈ fpA σ k p i' c' a,b ∈ fpE σ k p i0 xs∧((fpE σ k p i0 xs).Nodup→b ∉ fpC σ k p (i0+j) 0 x))→Ce I σ B k p i' c' a v→Ce I σ' B' k p i' c' a v) →
  CeE I σ' B' k p i0 s (xs.set j x') (cs.take (j * s)++news++cs.drop (j * s+s))
 | [],_,_,_,_,_,_,_,h,_,_,_,_=>by simp at h
 | y::xs,i0,0,cs,x,x',news,h,hx,hl,hn,hc,T=>by
  simp at hx; subst hx
  refine ⟨hl,?_,?_⟩
  ·simp only [Nat.zero_mul,List.take_zero,List.nil_append,Nat.zero_add]
   rw [List.take_append_of_le_length (by omega),List.take_of_length_le (by omega)]
   simpa using hc
  ·simp only [Nat.zero_mul,List.take_zero,List.nil_append,Nat.zero_add]
   rw [List.drop_append_of_le_length (by omega),List.drop_of_length_le (by omega),List.nil_append]
   refine CeE.map xs (i0+1) _ (fun i' c' a v hle hb hce=>T i' c' a v (by omega) (fun b hbb=>?_) hce) h.2.2
   refine ⟨by simp [fpE,hb b hbb],fun hnd hxx=>?_⟩
   simp only [fpE] at hnd
   rw [List.nodup_append] at hnd
   exact hnd.2.2 b (by simpa using hxx) b (hb b hbb) rfl
 | y::xs,i0,j+1,cs,x,x',news,h,hx,hl,hn,hc,T=>by
  obtain ⟨l1,l2,hfl,_⟩:=z6p (σ:=σ) (k:=k) (p:=p) xs (i0+1) j x (by simpa using hx)
  rw [show i0+1+j=i0+(j+1) by omega] at hfl
  have hylen:(cs.take s).length=s:=by rw [CeC.length y 0 _ h.2.1]; exact h.1
  have hcs:s≤cs.length:=by rw [List.length_take] at hylen; omega
  have hjs:(j+1) * s=s+j * s:=by rw [Nat.add_mul,Nat.one_mul,Nat.add_comm]
  refine ⟨h.1,?_,?_⟩
  ·have e:(cs.take ((j+1) * s)++news++cs.drop ((j+1) * s+s)).take s=cs.take s:=by
    rw [List.append_assoc,List.take_append_of_le_length (by rw [List.length_take]; omega),List.take_take,Nat.min_eq_left (by omega)]
   rw [e]
   refine CeC.map y 0 _ (fun c' a v hb hce=>T i0 c' a v (by omega) (fun b hbb=>?_) hce) h.2.1
   refine ⟨by simp [fpE,hb b hbb],fun hnd hxx=>?_⟩
   simp only [fpE] at hnd
   rw [List.nodup_append] at hnd
   exact hnd.2.2 b (hb b hbb) b (by rw [hfl]; simp [hxx]) rfl
  ·have e:(cs.take ((j+1) * s)++news++cs.drop ((j+1) * s+s)).drop s=(cs.drop s).take (j * s)++news++(cs.drop s).drop (j * s+s):=by
    rw [List.append_assoc,List.drop_append_of_le_length (by rw [List.length_take]; omega),hjs,List.drop_take,List.drop_drop,Nat.add_sub_cancel_left,Nat.add_assoc,List.append_assoc]
   rw [e]
   refine CeE.setAt xs (i0+1) j (cs.drop s) x x' news h.2.2 (by simpa using hx) hl hn (by rwa [show i0+1+j=i0+(j+1) by omega]) (fun i' c' a v hne hb hce=>T i' c' a v (by omega) (fun b hbb=>?_) hce)
   obtain ⟨q1,q2⟩:=hb b hbb
   refine ⟨by simp [fpE,q1],fun hnd=>?_⟩
   rw [show i0+(j+1)=i0+1+j by omega]
   simp only [fpE] at hnd
   exact q2 (List.nodup_append.1 hnd).2.1
end
section
variable {I:Nat→Prop} {σ σ':Pl} {B B':zj} {k:Nat}
theorem Ce.still {p:Path} {i c:Nat} (hI:∀ b,I b→B' b=B b) (hσ:∀ q,σ' k (p++(i,c)::q)=σ k (p++(i,c)::q)) (a:AV) (v:Value)
  (hb:∀ b ∈ fpA σ k p i c a,B' b=B b) (h:Ce I σ B k p i c a v):Ce I σ' B' k p i c a v :=
 Ce.ren hσ a v (Ce.mono hI k p i c a v hb h)
theorem zgm (cs:List Value) (a s:Nat):cs.take a++(cs.drop a).take s++cs.drop (a+s)=cs:=by
 rw [List.append_assoc,← List.drop_drop,List.take_append_drop,List.take_append_drop]
theorem CeE.updAt (hI:∀ b,I b→B' b=B b) (f:Els→Els):∀ (p pre:Path) (s:Nat) (xs:Els) (cs:List Value) (s':Nat) (ys:Els),
  CeE I σ B k pre 0 s xs cs→(fpE σ k pre 0 xs).Nodup→p ≠ []→resE s xs p=some (s',ys)→(f ys).length=ys.length →
  z2c I σ' B' k (pre++p) s' (f ys)→(∀ q,¬ (∃ r,r ≠ []∧q=pre++p++r)→σ' k q=σ k q)→(∀ b,b ∉ fpP σ k (pre++p) ys→b ∈ fpE σ k pre 0 xs→B' b=B b) →
  CeE I σ' B' k pre 0 s (updE xs p f) cs
 | [],_,_,_,_,_,_,_,_,h,_,_,_,_,_=>absurd rfl h
 | (i,c)::p,pre,s,xs,cs,s',ys,h,hnd,_,hr,hlen,hpl,hσ,hB=>by
  have hr0:=hr
  simp only [resE] at hr
  simp only [updE]
  cases hx:xs[i]? with
  | none=>rw [hx] at hr; cases hr
  | some x =>
   rw [hx] at hr
   simp only at hr
   cases ha:x[c]? with
   | none=>rw [ha] at hr; cases hr
   | some a =>
    rw [ha] at hr
    cases a with
    | ow s1 zs =>
     simp only at hr
     simp only [ha]
     obtain ⟨hxl,hC⟩:=CeE.get xs 0 cs h i x hx
     obtain ⟨m1,m2,hm,_⟩:=z6p (σ:=σ) (k:=k) (p:=pre) xs 0 i x hx
     obtain ⟨n1,n2,hn,_⟩:=z7k (σ:=σ) (k:=k) (p:=pre) (i:=i) x 0 c _ ha
     simp only [Nat.zero_add] at hC hm hn
     obtain ⟨v,hv,hCe⟩:=CeC.get x 0 _ hC c _ ha
     simp only [Nat.zero_add] at hCe
     have hres:=z5m ((i,c)::p) pre s xs cs s' ys h (by simp) hr0
     have hin:∀ b ∈ fpP σ k (pre++(i,c)::p) ys,b ∈ fpA σ k pre i c (.ow s1 zs):=by
      intro b hb
      simp only [fpA]
      by_cases hp:p=[]
      ·subst hp
       simp only [resE,Option.some.injEq,Prod.mk.injEq] at hr
       obtain ⟨rfl,rfl⟩:=hr
       unfold fpP at hb
       cases hs:σ k (pre++[(i,c)]) with
       | none=>simp [hs] at hb
       | some L=>simp only [hs] at hb ⊢; exact hb
      ·simp only [Ce] at hCe
       cases hs:σ k (pre++[(i,c)]) with
       | none =>
        simp only [hs] at hCe
        obtain ⟨rfl,_⟩:=hCe
        cases p with
        | nil=>exact absurd rfl hp
        | cons q p=>obtain ⟨i',c'⟩:=q; simp [resE] at hr
       | some L =>
        simp only [hs] at hCe ⊢
        obtain ⟨_,_,_,cur,E,_,_,hE⟩:=hCe
        have:=(z5m p (pre++[(i,c)]) s1 zs _ s' ys hE hp hr).2
        simp only [List.append_assoc,List.singleton_append] at this
        exact List.mem_cons_of_mem _ (this.subset hb)
     have hcells:(cs.drop (i * s)).take s=((cs.drop (i * s)).take s).set c v:=by
      apply List.ext_getElem?
      intro j
      rw [List.getElem?_set]
      by_cases hj:c=j
      ·subst hj
       rw [if_pos rfl,hv]
       have:c<((cs.drop (i * s)).take s).length:=by
        rcases Nat.lt_or_ge c ((cs.drop (i * s)).take s).length with h' | h'
        ·exact h'
        ·rw [List.getElem?_eq_none h'] at hv; cases hv
       rw [if_pos this]
      ·rw [if_neg hj]
     have hnews:((cs.drop (i * s)).take s).length=s:=by rw [CeC.length x 0 _ hC]; exact hxl
     have hndx:(fpC σ k pre i 0 x).Nodup:=by
      rw [hm] at hnd
      exact (List.nodup_append.1 (List.nodup_append.1 hnd).1).2.1
     have noP:∀ (x:Nat×Nat) (q:Path),x ≠ (i,c)→¬ ∃ r,r ≠ []∧pre++x::q=pre++(i,c)::p++r:=by
      rintro x q hx ⟨r,_,h2⟩
      rw [List.append_assoc] at h2
      have h3:=List.append_cancel_left h2
      rw [List.cons_append,List.cons.injEq] at h3
      exact hx h3.1
     have noS:¬ ∃ r,r ≠ []∧pre++[(i,c)]=pre++(i,c)::p++r:=by
      rintro ⟨r,hr1,h2⟩
      rw [List.append_assoc] at h2
      have h3:=List.append_cancel_left h2
      rw [List.cons_append,List.cons.injEq] at h3
      have h4:=h3.2.symm
      rw [List.append_eq_nil_iff] at h4
      exact hr1 h4.2
     rw [← zgm cs (i * s) s]
     refine CeE.setAt (σ:=σ) (B:=B) xs 0 i cs x _ _ h hx (by simpa using hxl) hnews ?_ ?_
     ·rw [Nat.zero_add,hcells]
      refine CeC.setAt (σ:=σ) (B:=B) x 0 c _ (.ow s1 zs) _ v hC ha ?_ ?_
      ·rw [Nat.zero_add]
       simp only [Ce] at hCe ⊢
       have hσ1:σ' k (pre++[(i,c)])=σ k (pre++[(i,c)]):=hσ _ noS
       rw [hσ1]
       by_cases hp:p=[]
       ·subst hp
        simp only [resE,Option.some.injEq,Prod.mk.injEq] at hr
        obtain ⟨rfl,rfl⟩:=hr
        simp only [updE]
        simp only [z2c,hσ1] at hpl
        cases hs:σ k (pre++[(i,c)]) with
        | none=>simp only [hs] at hCe hpl ⊢; exact ⟨hpl,hCe.2⟩
        | some L =>
         simp only [hs] at hCe hpl ⊢
         obtain ⟨q1,q2,q3,q4⟩:=hCe
         exact ⟨hpl.1,hpl.2.1,by rw [hlen]; exact q3,hpl.2.2⟩
       ·cases hs:σ k (pre++[(i,c)]) with
        | none =>
         simp only [hs] at hCe
         obtain ⟨rfl,_⟩:=hCe
         cases p with
         | nil=>exact absurd rfl hp
         | cons q p=>obtain ⟨i',c'⟩:=q; simp [resE] at hr
        | some L =>
         simp only [hs] at hCe ⊢
         obtain ⟨q1,q2,q3,cur,E,q4,q5,q6⟩:=hCe
         have hfa:fpA σ k pre i c (.ow s1 zs)=L.b::fpE σ k (pre++[(i,c)]) 0 zs:=by simp only [fpA,hs]
         have hnda:(L.b::fpE σ k (pre++[(i,c)]) 0 zs).Nodup:=by
          rw [hn,hfa] at hndx
          exact (List.nodup_append.1 (List.nodup_append.1 hndx).1).2.1
         have hsub:=(z5m p (pre++[(i,c)]) s1 zs _ s' ys q6 hp hr).2
         simp only [List.append_assoc,List.singleton_append] at hsub
         have hmem:∀ b ∈ L.b::fpE σ k (pre++[(i,c)]) 0 zs,b ∈ fpE σ k pre 0 xs:=by
          intro b hb
          rw [hm,hn,hfa]
          simp only [List.mem_append]
          exact .inl (.inr (.inl (.inr hb)))
         have hlen':(updE zs p f).length=zs.length:=by
          cases p with
          | nil=>exact absurd rfl hp
          | cons q p =>
           obtain ⟨i',c'⟩:=q
           simp only [updE]
           split
           ·rfl
           ·split <;> simp
         refine ⟨q1,by rw [hlen']; exact q2,by rw [hlen']; exact q3,cur,E,?_,q5,?_⟩
         ·rw [hB L.b (fun hb=>?_) (hmem _ (by simp))]
          ·exact q4
          ·rw [List.nodup_cons] at hnda
           exact hnda.1 (hsub.subset hb)
         ·refine CeE.updAt hI f p (pre++[(i,c)]) s1 zs _ s' ys q6 (List.nodup_cons.1 hnda).2 hp hr hlen (by simpa using hpl) (fun q hq=>hσ q (by simpa using hq)) (fun b hb hbm=>hB b (by simpa using hb) (hmem b (by simp [hbm])))
      ·intro c' a'' w hne hb hce
       refine Ce.still hI (fun q=>hσ _ (noP _ _ (fun e=>hne (by simp only [Prod.mk.injEq] at e; omega)))) a'' w (fun b hbb=>?_) hce
       refine hB b (fun hbp=>?_) ?_
       ·have h2:=(hb b hbb).2 hndx
        rw [Nat.zero_add] at h2
        exact h2 (hin b hbp)
       ·rw [hm]
        simp only [List.mem_append]
        exact .inl (.inr (hb b hbb).1)
     ·intro i' c' a'' w hne hb hce
      refine Ce.still hI (fun q=>hσ _ (noP _ _ (fun e=>hne (by simp only [Prod.mk.injEq] at e; omega)))) a'' w (fun b hbb=>?_) hce
      refine hB b (fun hbp=>?_) (hb b hbb).1
      have h2:=(hb b hbb).2 hnd
      rw [Nat.zero_add] at h2
      refine h2 ?_
      rw [hn]
      simp only [List.mem_append]
      exact .inl (.inr (hin b hbp))
    | _=>cases hr
theorem fpE.updAt (f:Els→Els):∀ (p pre:Path) (s:Nat) (xs:Els) (cs:List Value) (s':Nat) (ys:Els),
  CeE I σ B k pre 0 s xs cs→p ≠ []→resE s xs p=some (s',ys)→(∀ q,¬ (∃ r,r ≠ []∧q=pre++p++r)→σ' k q=σ k q) →
  ∃ l1 l2,fpE σ k pre 0 xs=l1++fpP σ k (pre++p) ys++l2∧fpE σ' k pre 0 (updE xs p f)=l1++fpP σ' k (pre++p) (f ys)++l2
 | [],_,_,_,_,_,_,_,h,_,_=>absurd rfl h
 | (i,c)::p,pre,s,xs,cs,s',ys,h,_,hr,hσ=>by
  have hr0:=hr
  simp only [resE] at hr
  simp only [updE]
  cases hx:xs[i]? with
  | none=>rw [hx] at hr; cases hr
  | some x =>
   rw [hx] at hr
   simp only at hr
   cases ha:x[c]? with
   | none=>rw [ha] at hr; cases hr
   | some a =>
    rw [ha] at hr
    cases a with
    | ow s1 zs =>
     simp only at hr
     simp only [ha]
     obtain ⟨hxl,hC⟩:=CeE.get xs 0 cs h i x hx
     obtain ⟨m1,m2,hm,hm'⟩:=z6p (σ:=σ) (k:=k) (p:=pre) xs 0 i x hx
     obtain ⟨n1,n2,hn,hn'⟩:=z7k (σ:=σ) (k:=k) (p:=pre) (i:=i) x 0 c _ ha
     simp only [Nat.zero_add] at hC hm hn hm' hn'
     obtain ⟨v,hv,hCe⟩:=CeC.get x 0 _ hC c _ ha
     simp only [Nat.zero_add] at hCe
     have noP:∀ (x:Nat×Nat) (q:Path),x ≠ (i,c)→¬ ∃ r,r ≠ []∧pre++x::q=pre++(i,c)::p++r:=by
      rintro x q hx ⟨r,_,h2⟩
      rw [List.append_assoc] at h2
      have h3:=List.append_cancel_left h2
      rw [List.cons_append,List.cons.injEq] at h3
      exact hx h3.1
     have noS:¬ ∃ r,r ≠ []∧pre++[(i,c)]=pre++(i,c)::p++r:=by
      rintro ⟨r,hr1,h2⟩
      rw [List.append_assoc] at h2
      have h3:=List.append_cancel_left h2
      rw [List.cons_append,List.cons.injEq] at h3
      have h4:=h3.2.symm
      rw [List.append_eq_nil_iff] at h4
      exact hr1 h4.2
     have hσ1:σ' k (pre++[(i,c)])=σ k (pre++[(i,c)]):=hσ _ noS
     have e1:=hm' σ' (x.set c (.ow s1 (updE zs p f))) (fun i' c' a'' hne=>fpA.ren (fun q=>hσ _ (noP _ _ (fun e=>hne (by simp only [Prod.mk.injEq] at e; omega)))) a'')
     have e2:=hn' σ' (.ow s1 (updE zs p f)) (fun c' a'' hne=>fpA.ren (fun q=>hσ _ (noP _ _ (fun e=>hne (by simp only [Prod.mk.injEq] at e; omega)))) a'')
     simp only [Ce] at hCe
     have key:∃ l1 l2,fpA σ k pre i c (.ow s1 zs)=l1++fpP σ k (pre++(i,c)::p) ys++l2∧fpA σ' k pre i c (.ow s1 (updE zs p f))=l1++fpP σ' k (pre++(i,c)::p) (f ys)++l2:=by
      simp only [fpA,hσ1]
      by_cases hp:p=[]
      ·subst hp
       simp only [resE,Option.some.injEq,Prod.mk.injEq] at hr
       obtain ⟨rfl,rfl⟩:=hr
       refine ⟨[],[],?_,?_⟩
       ·simp only [fpP,List.nil_append,List.append_nil]
        all_goals (cases σ k (pre++[(i,c)]) <;> rfl)
       ·simp only [fpP,List.nil_append,List.append_nil,updE,hσ1]
        all_goals (cases σ k (pre++[(i,c)]) <;> rfl)
      ·cases hs:σ k (pre++[(i,c)]) with
       | none =>
        simp only [hs] at hCe
        obtain ⟨rfl,_⟩:=hCe
        cases p with
        | nil=>exact absurd rfl hp
        | cons q p=>obtain ⟨i',c'⟩:=q; simp [resE] at hr
       | some L =>
        simp only [hs] at hCe ⊢
        obtain ⟨q1,q2,q3,cur,E,q4,q5,q6⟩:=hCe
        obtain ⟨l1,l2,h1,h2⟩:=fpE.updAt f p (pre++[(i,c)]) s1 zs _ s' ys q6 hp hr (fun q hq=>hσ q (by simpa using hq))
        simp only [List.append_assoc,List.singleton_append] at h1 h2
        exact ⟨L.b::l1,l2,by rw [h1]; simp,by rw [h2]; simp⟩
     obtain ⟨l1,l2,h1,h2⟩:=key
     refine ⟨m1++n1++l1,l2++n2++m2,?_,?_⟩
     ·rw [hm,hn,h1]; simp
     ·rw [e1,e2,h2]; simp
    | _=>cases hr
end
section
variable {I:Nat→Prop} {σ σ':Pl} {B B':zj} {k:Nat} {h:H} {r r':Row}
theorem z9m:∀ (h:H),za h k=some r→∃ h1 h2,h=h1++(k,r)::h2∧(∀ r',setRow h k r'=h1++(k,r')::h2)∧zd h k=h1++h2
 | [],h=>by cases h
 | (k',r1)::h,hg=>by
  simp only [za] at hg
  by_cases e:k'=k
  ·subst e
   rw [if_pos rfl] at hg
   cases hg
   exact ⟨[],h,rfl,fun r'=>by simp [setRow],by simp [zd]⟩
  ·rw [if_neg e] at hg
   obtain ⟨h1,h2,e1,e2,e3⟩:=z9m h hg
   exact ⟨(k',r1)::h1,h2,by rw [e1]; rfl,fun r'=>by simp [setRow,e,e2],by simp [zd,e,e3]⟩
theorem zm.append:∀ {h1 h2:H},zm I σ B (h1++h2)↔zm I σ B h1∧zm I σ B h2
 | [],h2=>by simp [zm]
 | (k,r)::h1,h2=>by simp [zm,zm.append (h1:=h1),and_assoc]
theorem z2q:∀ {h1 h2:H},fpH σ (h1++h2)=fpH σ h1++fpH σ h2
 | [],h2=>by simp [fpH]
 | (k,r)::h1,h2=>by simp [fpH,z2q (h1:=h1)]
theorem zm.cons {k:Nat} {r:Row} {h:H}:zm I σ B ((k,r)::h)↔zr I σ B k r∧zm I σ B h:=Iff.rfl
theorem z1h {k:Nat} {r:Row} {h:H}:fpH σ ((k,r)::h)=fpR σ k r++fpH σ h:=rfl
theorem zr.ren (k:Nat) (r:Row) (hσ:∀ q,σ' k q=σ k q) (h:zr I σ B k r):zr I σ' B k r:=by
 unfold zr at *
 rw [hσ []]
 cases hs:σ k [] with
 | none=>simpa only [hs] using h
 | some L =>
  simp only [hs] at h ⊢
  obtain ⟨h1,h2,cur,E,h3,h4,h5⟩:=h
  exact ⟨h1,h2,cur,E,h3,h4,CeE.ren 0 r.s (fun i' c' q=>hσ _) r.xs _ h5⟩
theorem fpR.ren (k:Nat) (r:Row) (hσ:∀ q,σ' k q=σ k q):fpR σ' k r=fpR σ k r:=by
 unfold fpR
 rw [hσ []]
 cases σ k [] with
 | none=>rfl
 | some L=>simp only; rw [fpE.ren 0 (fun i' c' q=>hσ _) r.xs]
theorem zm.ren:∀ (h:H),(∀ k ∈ h.map Prod.fst,∀ q,σ' k q=σ k q)→zm I σ B h→zm I σ' B h
 | [],_,_=>trivial
 | (k,r)::h,hσ,hh=>⟨zr.ren k r (hσ k (by simp)) hh.1,zm.ren h (fun k hk=>hσ k (by simp [hk])) hh.2⟩
theorem fpH.ren:∀ (h:H),(∀ k ∈ h.map Prod.fst,∀ q,σ' k q=σ k q)→fpH σ' h=fpH σ h
 | [],_=>rfl
 | (k,r)::h,hσ=>by simp only [fpH]; rw [fpR.ren k r (hσ k (by simp)),fpH.ren h (fun k hk=>hσ k (by simp [hk]))]
theorem HRel.del {w:World} (hh:HRel I σ h w) (hg:za h k=some r):HRel I σ (zd h k) w∧zr I σ (bl w) k r∧k ∉ (zd h k).map Prod.fst ∧
  (fpR σ k r).Nodup∧(∀ b ∈ fpR σ k r,b ∉ fpH σ (zd h k)∧b ∈ fpH σ h)∧(∀ b ∈ fpH σ (zd h k),b ∈ fpH σ h):=by
 obtain ⟨h1,h2,e1,_,e3⟩:=z9m h hg
 obtain ⟨ok,keys,nd,ap,low⟩:=hh
 rw [e3]
 rw [e1,zm.append,zm.cons] at ok
 rw [e1,List.map_append,List.map_cons] at keys
 rw [e1,z2q,z1h] at nd
 have hsub:(fpH σ (h1++h2)).Sublist (fpH σ h):=by
  rw [e1,z2q,z2q,z1h]
  exact List.Sublist.append (List.Sublist.refl _) (List.sublist_append_right _ _)
 have hk:k ∉ (h1++h2).map Prod.fst:=by
  rw [List.map_append]
  rw [List.nodup_append,List.nodup_cons] at keys
  intro hm
  rcases List.mem_append.1 hm with hm | hm
  ·exact keys.2.2 k hm k (by simp) rfl
  ·exact keys.2.1.1 hm
 refine ⟨⟨zm.append.2 ⟨ok.1,ok.2.2⟩,?_,?_,fun b hb=>ap b (hsub.subset hb),low⟩,ok.2.1,hk,?_,?_,fun b hb=>hsub.subset hb⟩
 ·rw [List.map_append]
  rw [List.nodup_append,List.nodup_cons] at keys
  rw [List.nodup_append]
  exact ⟨keys.1,keys.2.1.2,fun a ha b hb=>keys.2.2 a ha b (by simp [hb])⟩
 ·rw [z2q]
  rw [List.nodup_append,List.nodup_append] at nd
  rw [List.nodup_append]
  exact ⟨nd.1,nd.2.1.2.1,fun a ha b hb=>nd.2.2 a ha b (by simp [hb])⟩
 ·rw [List.nodup_append,List.nodup_append] at nd
  exact nd.2.1.1
 ·intro b hb
  refine ⟨fun hm=>?_,by rw [e1,z2q,z1h]; simp [hb]⟩
  rw [z2q] at hm
  rw [List.nodup_append,List.nodup_append] at nd
  rcases List.mem_append.1 hm with hm | hm
  ·exact nd.2.2 b hm b (by simp [hb]) rfl
  ·exact nd.2.1.2.2 b hb b hm rfl
theorem HRel.add {w w':World} (hh:HRel I σ h w) (hk:k ∉ h.map Prod.fst) (hσ:∀ k',k' ≠ k→∀ q,σ' k' q=σ k' q)
  (hB:∀ b,b<w.heap.size→(I b∨b ∈ fpH σ h)→bl w' b=bl w b) (hsz:w.heap.size≤w'.heap.size)
  (hr:zr I σ' (bl w') k r) (hnd:(fpR σ' k r).Nodup) (hfp:∀ b ∈ fpR σ' k r,b ∉ fpH σ h∧¬ I b∧b<w'.heap.size):HRel I σ' ((k,r)::h) w':=by
 obtain ⟨ok,keys,nd,ap,low⟩:=hh
 have hne:∀ k' ∈ h.map Prod.fst,∀ q,σ' k' q=σ k' q:=fun k' hk'=>hσ k' (fun e=>hk (e ▸ hk'))
 have hI:∀ b,I b→bl w' b=bl w b:=fun b hb=>hB b (low b hb) (.inl hb)
 refine ⟨⟨hr,zm.ren h hne (zm.mono hI h (fun b hb=>hB b (ap b hb).2 (.inr hb)) ok)⟩,?_,?_,?_,fun b hb=>Nat.lt_of_lt_of_le (low b hb) hsz⟩
 ·simp only [List.map_cons,List.nodup_cons]
  exact ⟨hk,keys⟩
 ·rw [z1h,fpH.ren h hne,List.nodup_append]
  exact ⟨hnd,nd,fun a ha b hb e=>(hfp a ha).1 (e ▸ hb)⟩
 ·intro b hb
  rw [z1h,fpH.ren h hne] at hb
  rcases List.mem_append.1 hb with hb | hb
  ·exact (hfp b hb).2
  ·exact ⟨(ap b hb).1,Nat.lt_of_lt_of_le (ap b hb).2 hsz⟩
theorem zm.perm {h1 h2:H} (p:h1.Perm h2):zm I σ B h1↔zm I σ B h2:=by
 induction p with
 | nil=>rfl
 | cons x p ih=>obtain ⟨k,r⟩:=x; simp only [zm,ih]
 | swap x y l=>obtain ⟨k,r⟩:=x; obtain ⟨k',r'⟩:=y; simp only [zm]; exact ⟨fun ⟨a,b,c⟩=>⟨b,a,c⟩,fun ⟨a,b,c⟩=>⟨b,a,c⟩⟩
 | trans _ _ ih1 ih2=>exact ih1.trans ih2
theorem fpH.perm {h1 h2:H} (p:h1.Perm h2):(fpH σ h1).Perm (fpH σ h2):=by
 induction p with
 | nil=>exact .refl _
 | cons x p ih=>obtain ⟨k,r⟩:=x; exact .append_left _ ih
 | swap x y l =>
  obtain ⟨k,r⟩:=x; obtain ⟨k',r'⟩:=y
  simp only [fpH]
  rw [← List.append_assoc,← List.append_assoc]
  exact .append_right _ List.perm_append_comm
 | trans _ _ ih1 ih2=>exact ih1.trans ih2
theorem HRel.perm {h1 h2:H} {w:World} (p:h1.Perm h2) (hh:HRel I σ h1 w):HRel I σ h2 w :=
 ⟨(zm.perm p).1 hh.ok,((p.map Prod.fst).nodup_iff).1 hh.keys,((fpH.perm p).nodup_iff).1 hh.nodup,fun b hb=>hh.apart b ((fpH.perm p).mem_iff.2 hb),hh.low⟩
theorem z3z {r:Row} (hg:za h k=some r):h.Perm ((k,r)::zd h k):=by
 obtain ⟨h1,h2,e1,_,e3⟩:=z9m h hg
 rw [e3]
 subst e1
 exact List.perm_middle
end
inductive IB where
 | mov (x:Operand)
 | pick (c a b:Operand)
 | bin (op:BinOp) (x y:Operand)
 | beq (neg:Bool) (x y:Operand)
 | eqs (neg:Bool) (n:Nat) (plan:List (Nat×Nat)) (x y:Operand)
 | un1 (op:UnOp) (x:Operand)
 | cvt (k:IntKind) (x:Operand)
 | fad (off:Nat) (x:Operand)
 | iad (s:Nat) (x i:Operand)
 | aad (len n:Nat) (x i:Operand)
 | load (agg:Bool) (n:Nat) (x:Operand)
 | fld (agg:Bool) (off n:Nat) (x:Operand)
 | ida (agg:Bool) (len n:Nat) (x i:Operand)
 | ids (x i:Operand)
 | len (x:Operand)
 | lens (x:Operand)
 | b2s (x:Operand)
 | ext (n:Nat) (x:Operand)
 | nchk (x:Operand)
 | slc (s:Nat) (x:Operand) (lo hi:Option Operand)
 | slc0 (x:Operand)
 | sls (x:Operand) (lo hi:Option Operand)
 | build (zero:List Value) (parts:List (Nat×Nat×Operand))
 | mkf (f:Nat) (caps:List Operand)
 | mm (isMax:Bool) (x y:Operand)
 | box (s:Nat) (x:Operand)
 | bsl (s len:Nat) (zero:List Value) (parts:List (Nat×Operand))
 | mks (s bytes:Nat) (zero:List Value) (l:Operand)
 | app (s bytes:Nat) (x y:Operand)
 | store (n:Nat) (a x:Operand)
 | call (f:Nat) (args:List Operand)
 | callv (x:Operand) (args:List Operand)
def cval:Value→AV
 | .slice none 0 0=>.zs
 | .agg cs=>if cs.toList.all Value.oneCell' then .ag (cs.toList.map fun | .slice none 0 0=>AV.zs | v=>AV.sc v) else .un
 | v=>.sc v
def ev (e:Env):Operand→AV
 | .tmp t=>e t
 | .const v=>cval v
 | .func f=>.fn f []
 | .global _=>.un
def sbin (op:BinOp):Value→Value→Option Value
 | .int k a,.int k' b =>
  match op with
  | .shl=>if 0≤b then some (.int k (k.wrap (a * 2 ^ min b.toNat k.bits))) else none
  | .shr=>if 0≤b then some (.int k (a.fdiv (2 ^ min b.toNat k.bits))) else none
  | .add=>if k=k' then some (.int k (k.wrap (a+b))) else none
  | .sub=>if k=k' then some (.int k (k.wrap (a - b))) else none
  | .mul=>if k=k' then some (.int k (k.wrap (a * b))) else none
  | .quo=>if k=k'∧b ≠ 0 then some (.int k (k.wrap (a.tdiv b))) else none
  | .rem=>if k=k'∧b ≠ 0 then some (.int k (a.tmod b)) else none
  | .and=>if k=k' then some (.int k (k.wrap (BitVec.ofInt k.bits a &&& BitVec.ofInt k.bits b).toNat)) else none
  | .or=>if k=k' then some (.int k (k.wrap (BitVec.ofInt k.bits a ||| BitVec.ofInt k.bits b).toNat)) else none
  | .xor=>if k=k' then some (.int k (k.wrap (BitVec.ofInt k.bits a ^^^ BitVec.ofInt k.bits b).toNat)) else none
  | .andNot=>if k=k' then some (.int k (k.wrap (BitVec.ofInt k.bits a &&& ~~~BitVec.ofInt k.bits b).toNat)) else none
  | .eql=>if k=k' then some (.bool (a==b)) else none
  | .neq=>if k=k' then some (.bool (a != b)) else none
  | .lss=>if k=k' then some (.bool (decide (a<b))) else none
  | .leq=>if k=k' then some (.bool (decide (a≤b))) else none
  | .gtr=>if k=k' then some (.bool (decide (a > b))) else none
  | .geq=>if k=k' then some (.bool (decide (a≥b))) else none
 | .string a,.string b =>
  match op with
  | .eql=>some (.bool (a==b))
  | .neq=>some (.bool (!(a==b)))
  | .add=>if a.size+b.size≤9223372036854775807 then some (.string (a++b)) else none
  | _=>none
 | _,_=>none
theorem y0k {P:Program} {op:BinOp} {x y v:Value} (h:sbin op x y=some v) (t:TypeId) (X Y:Operand) (w:World) :
  (do eqGuard op t X Y x y; binOp op t x y:Sem Value).run P w = .ok v w:=by
 unfold sbin at h
 split at h
 ·rename_i k a k' b
  have hg:(eqGuard op t X Y (.int k a) (.int k' b)).run P w = .ok () w:=by cases op <;> simp [eqGuard]
  simp only [Sem.run_bind,hg,Result.andThen_ok]
  split at h
  case h_1=>split at h <;> simp_all [binOp,Op.shift]; intro hh; omega
  case h_2=>split at h <;> simp_all [binOp,Op.shift]; intro hh; omega
  all_goals (split at h <;> simp_all [binOp,Op.intArith,Op.intDiv,Op.intBits,Op.intCmp])
 ·rename_i a b
  have hg:(eqGuard op t X Y (.string a) (.string b)).run P w = .ok () w:=by cases op <;> simp [eqGuard]
  simp only [Sem.run_bind,hg,Result.andThen_ok]
  split at h
  ·simp_all [binOp,Op.stringOp,beq_toListBytes]
  ·simp_all [binOp,Op.stringOp,beq_toListBytes]
  ·split at h
   ·rename_i hc
    cases h
    exact run_string_add_sum w a b hc
   ·cases h
  ·cases h
 ·cases h
def scEq:Nat→Value→Value→Option Bool
 | 0,.int k a,.int k' b=>if k=k' then some (a==b) else none
 | 1,.bool a,.bool b=>some (a==b)
 | 2,.string a,.string b=>some (a==b)
 | _,_,_=>none
def z32 (xs ys:List AV):List (Nat×Nat)→Option Bool
 | []=>some true
 | (i,q)::is =>
  match xs[i]?,ys[i]? with
  | some (.sc a),some (.sc b) =>
   match scEq q a b,z32 xs ys is with
   | some r,some r'=>some (r && r')
   | _,_=>none
  | _,_=>none
def view (k:Nat) (p:Path) (i c:Nat):AV→AV
 | .ow _ xs=>.sl k (p++[(i,c)]) 0 xs.length
 | a=>a
def zfm (k:Nat) (p:Path) (i:Nat):Nat→List AV→List AV
 | _,[]=>[]
 | c,a::as=>view k p i c a::zfm k p i (c+1) as
def z4x (xs:Els) (i c n:Nat):Option (List AV) :=
 match xs[i]? with
 | some x=>if c+n≤x.length then some ((x.drop c).take n) else none
 | none=>none
def z49:Bool→List AV→Option AV
 | true,cs=>some (.ag cs)
 | false,[a]=>some a
 | false,_=>none
def nn:AV→Option AV
 | .un=>none
 | a=>some a
def nat? : AV→Option Int
 | .sc (.int _ n)=>some n
 | _=>none
def z65 (len:Nat) (lo hi:Option AV):Option (Nat×Nat) :=
 match (match hi with | none=>some (len:Int) | some h=>nat? h),(match lo with | none=>some 0 | some l=>nat? l) with
 | some h,some l=>if 0≤l∧l≤h∧h≤len then some (l.toNat,h.toNat) else none
 | _,_=>none
def zcx:AV→Bool
 | .sc u=>u.oneCell'
 | .zs | .im _ _ | .ip _ _ _ _ | .sl _ _ _ _ | .pt _ _ _ _ | .fn _ _ | .pp _=>true
 | _=>false
def cellsOf:AV→Option (List AV)
 | .ag cs=>some cs
 | a=>if zcx a then some [a] else none
def z4u (cells:List AV):List (Nat×Nat×AV)→Option (List AV)
 | []=>some cells
 | (off,size,v)::rest =>
  match cellsOf v with
  | some cs=>if cs.length=size∧off+size≤cells.length then z4u (cells.take off++cs++cells.drop (off+size)) rest else none
  | none=>none
def z3m:Els→Option (List Int)
 | []=>some []
 | [.sc (.int .u8 n)]::l=>match z3m l with | some ns=>some (n::ns) | none=>none
 | _=>none
def zv (ns:List Int):ByteArray:=ns.foldl (fun r n=>r.push (UInt8.ofNat n.toNat)) ByteArray.empty
def cmpl (k:IntKind) (n:Int):Int:=k.wrap (BitVec.ofInt k.bits (if k.signed then -1 else k.max) ^^^ BitVec.ofInt k.bits n).toNat
def rdop (e:Operand→AV) (res:Nat→Path→Option (Nat×Els)):IB→Option AV
 | .mov x=>nn (e x)
 | .pick c a b =>
  match e c with
  | .sc (.bool t)=>if t then nn (e a) else nn (e b)
  | _=>none
 | .bin op x y =>
  match e x,e y with
  | .sc a,.sc b=>match sbin op a b with | some v=>some (.sc v) | none=>none
  | _,_=>none
 | .beq neg x y =>
  match e x,e y with
  | .sc (.bool a),.sc (.bool b)=>some (.sc (.bool (if neg then a != b else a==b)))
  | _,_=>none
 | .eqs neg n plan x y =>
  match e x,e y with
  | .ag xs,.ag ys =>
   if xs.length=n∧ys.length=n then match z32 xs ys plan with | some r=>some (.sc (.bool (if neg then !r else r))) | none=>none
   else none
  | _,_=>none
 | .un1 op x =>
  match op,e x with
  | .not,.sc (.bool b)=>some (.sc (.bool (!b)))
  | .neg,.sc (.int k n)=>some (.sc (.int k (k.wrap (0 - n))))
  | .xor,.sc (.int k n)=>some (.sc (.int k (cmpl k n)))
  | _,_=>none
 | .cvt k x =>
  match e x with
  | .sc (.int _ n)=>some (.sc (.int k (k.wrap n)))
  | _=>none
 | .fad off x =>
  match e x with
  | .pt k p i c=>some (.pt k p i (c+off))
  | .ip s xs i c=>some (.ip s xs i (c+off))
  | .pp (.xp b x c)=>some (.pp (.xp b x (c+off)))
  | _=>none
 | .iad s x i =>
  match e x,e i with
  | .sl k p off len,.sc (.int _ n) =>
   if 0≤n∧n<len then
    match res k p with
    | some (s',_)=>if s'=s then some (.pt k p (off+n.toNat) 0) else none
    | none=>none
   else none
  | .im s' xs,.sc (.int _ n)=>if s'=s∧0≤n∧n<xs.length then some (.ip s xs n.toNat 0) else none
  | .pp (.fs k cs),.sc (.int _ n)=>if s=1∧0≤n∧n<cs.length then some (.pp (.fp k cs n.toNat)) else none
  | _,_=>none
 | .aad len n x i =>
  match e x,e i with
  | .pt k p o c,.sc (.int _ m)=>if 0≤m∧m<len then some (.pt k p o (c+m.toNat * n)) else none
  | _,_=>none
 | .load agg n x =>
  match e x with
  | .pt k p i c =>
   match res k p with
   | some (_,ys)=>match z4x ys i c n with | some cs=>z49 agg (zfm k p i c cs) | none=>none
   | none=>none
  | .ip _ xs i c=>match z4x xs i c n with | some cs=>z49 agg cs | none=>none
  | .pp (.xp _ x c)=>if c+n≤x.length then z49 agg (((x.drop c).take n).map AV.sc) else none
  | .pp (.fp k cs i)=>match cs[i]? with | some c=>if n=1∧agg=false then some (.pt k [] 0 c) else none | none=>none
  | _=>none
 | .fld agg off n x =>
  match e x with
  | .ag cs=>if off+n≤cs.length then z49 agg ((cs.drop off).take n) else none
  | _=>none
 | .ida agg len n x i =>
  match e x,e i with
  | .ag cs,.sc (.int _ m)=>if 0≤m∧m<len∧m.toNat * n+n≤cs.length then z49 agg ((cs.drop (m.toNat * n)).take n) else none
  | _,_=>none
 | .ids x i =>
  match e x,e i with
  | .sc (.string s),.sc (.int _ m)=>if 0≤m∧m<s.size then some (.sc (.int .u8 (s.data.toList.getD m.toNat 0).toNat)) else none
  | _,_=>none
 | .len x =>
  match e x with
  | .sl _ _ _ len=>some (.sc (.int .i64 len))
  | .im _ xs=>some (.sc (.int .i64 xs.length))
  | .pp (.fs _ cs)=>some (.sc (.int .i64 cs.length))
  | .zs=>some (.sc (.int .i64 0))
  | _=>none
 | .lens x =>
  match e x with
  | .sc (.string s)=>some (.sc (.int .i64 s.size))
  | _=>none
 | .b2s x =>
  match e x with
  | .sl k p off len =>
   match res k p with
   | some (s,ys)=>if s=1∧off+len≤ys.length then match z3m ((ys.drop off).take len) with | some ns=>some (.sc (.string (zv ns))) | none=>none else none
   | none=>none
  | .im s xs=>if s=1 then match z3m xs with | some ns=>some (.sc (.string (zv ns))) | none=>none else none
  | .zs=>some (.sc (.string (zv [])))
  | _=>none
 | .ext n x =>
  match e x with
  | .tu vs=>match vs[n]? with | some a=>nn a | none=>none
  | _=>none
 | .nchk x =>
  match e x with
  | .pt k p i c=>some (.pt k p i c)
  | .ip s xs i c=>some (.ip s xs i c)
  | .pp (.xp b x c)=>some (.pp (.xp b x c))
  | .fn f caps=>some (.fn f caps)
  | _=>none
 | .slc s x lo hi =>
  match e x with
  | .sl k p off len =>
   match res k p with
   | some (s',_)=>if s'=s then match z65 len (lo.map e) (hi.map e) with | some (l,h)=>some (.sl k p (off+l) (h - l)) | none=>none else none
   | none=>none
  | .im s' xs=>if s'=s then match z65 xs.length (lo.map e) (hi.map e) with | some (l,h)=>some (.im s ((xs.take h).drop l)) | none=>none else none
  | .zs=>match z65 0 (lo.map e) (hi.map e) with | some _=>some .zs | none=>none
  | _=>none
 | .slc0 x =>
  match e x with
  | .sl _ _ _ _=>some .zs
  | .im _ _=>some .zs
  | .zs=>some .zs
  | _=>none
 | .sls x lo hi =>
  match e x with
  | .sc (.string s)=>match z65 s.size (lo.map e) (hi.map e) with | some (l,h)=>some (.sc (.string (s.extract l h))) | none=>none
  | _=>none
 | .build zero parts =>
  match z4u (zero.map cval) (parts.map fun (o,n,x)=>(o,n,e x)) with
  | some cs=>some (.ag cs)
  | none=>none
 | .mkf f caps=>if caps.all (fun x=>(nn (e x)).isSome) then some (.fn f (caps.map e)) else none
 | .mm isMax x y =>
  match e x,e y with
  | .sc (.int k a),.sc (.int k' b)=>if k=k' then some (.sc (.int k (if isMax then (if b > a then b else a) else (if b<a then b else a)))) else none
  | _,_=>none
 | _=>none
section
variable {I:Nat→Prop} {σ:Pl} {B:zj} {k:Nat}
theorem ImC.length:∀ (l:List AV) (cs:List Value),ImC I B l cs→cs.length=l.length
 | [],_,h=>by simp only [ImC] at h; simp [h]
 | a::as,_,h=>by
  obtain ⟨v,cs',rfl,_,h2⟩:=h
  simp [ImC.length as cs' h2]
theorem ImE.get {s:Nat}:∀ (xs:Els) (cs:List Value),ImE I B s xs cs→∀ (j:Nat) (x:List AV),xs[j]? = some x→x.length=s∧ImC I B x ((cs.drop (j * s)).take s)
 | [],_,_,_,_,h=>by simp at h
 | x::xs,cs,h,0,x',hx=>by
  simp at hx; subst hx
  simpa using ⟨h.1,h.2.1⟩
 | x::xs,cs,h,j+1,x',hx=>by
  have:=ImE.get xs (cs.drop s) h.2.2 j x' (by simpa using hx)
  rwa [List.drop_drop,show s+j * s=(j+1) * s by rw [Nat.add_mul,Nat.one_mul,Nat.add_comm]] at this
theorem Im.va:∀ (a:AV) (v:Value),Im I B a v→Va I σ B a v∧v.oneCell'=true
 | .sc _,_,h=>by obtain ⟨rfl,h⟩:=h; exact ⟨rfl,h⟩
 | .zs,_,h=>by obtain ⟨a,rfl⟩:=h; exact ⟨⟨a,rfl⟩,rfl⟩
 | .un,_,h=>⟨trivial,h⟩
 | .im s xs,v,h=>by
  have h':=h
  obtain ⟨a,c,rfl,_⟩:=h'
  exact ⟨h,rfl⟩
 | .ag _,_,h=>h.elim
 | .tu _,_,h=>h.elim
 | .ip _ _ _ _,_,h=>h.elim
 | .sl _ _ _ _,_,h=>h.elim
 | .pt _ _ _ _,_,h=>h.elim
 | .fn _ _,_,h=>h.elim
 | .ow _ _,_,h=>h.elim
theorem Ce.va {p:Path} {i c:Nat}:∀ (a:AV) (v:Value),Ce I σ B k p i c a v→Va I σ B (view k p i c a) v∧v.oneCell'=true
 | .sc _,_,h=>by obtain ⟨rfl,h⟩:=h; exact ⟨rfl,h⟩
 | .zs,_,h=>by obtain ⟨a,rfl⟩:=h; exact ⟨⟨a,rfl⟩,rfl⟩
 | .un,_,h=>⟨trivial,h⟩
 | .im s xs,v,h=>by
  have h':Im I B (.im s xs) v:=h
  have h'':=h'
  obtain ⟨a,c,rfl,_⟩:=h''
  exact ⟨h',rfl⟩
 | .ow s xs,v,h=>by
  simp only [Ce] at h
  simp only [view,Va]
  cases hs:σ k (p++[(i,c)]) with
  | none =>
   simp only [hs] at h
   obtain ⟨rfl,a,rfl⟩:=h
   exact ⟨⟨rfl,trivial,a,rfl⟩,rfl⟩
  | some L =>
   simp only [hs] at h
   obtain ⟨h1,h2,rfl,_⟩:=h
   exact ⟨⟨_,_,rfl,by omega,h2,fun _=>by simp⟩,rfl⟩
 | .ag _,_,h=>h.elim
 | .tu _,_,h=>h.elim
 | .ip _ _ _ _,_,h=>h.elim
 | .sl _ _ _ _,_,h=>h.elim
 | .pt _ _ _ _,_,h=>h.elim
 | .fn _ _,_,h=>h.elim
theorem CeC.va {p:Path} {i:Nat}:∀ (l:List AV) (c:Nat) (cs:List Value),CeC I σ B k p i c l cs→VaC I σ B (zfm k p i c l) cs
 | [],_,_,h=>h
 | a::as,c,_,h=>by
  obtain ⟨v,cs',rfl,h1,h2⟩:=h
  exact ⟨v,cs',rfl,(Ce.va a v h1).2,(Ce.va a v h1).1,CeC.va as (c+1) cs' h2⟩
theorem ImC.va:∀ (l:List AV) (cs:List Value),ImC I B l cs→VaC I σ B l cs
 | [],_,h=>h
 | a::as,_,h=>by
  obtain ⟨v,cs',rfl,h1,h2⟩:=h
  exact ⟨v,cs',rfl,(Im.va (σ:=σ) a v h1).2,(Im.va a v h1).1,ImC.va as cs' h2⟩
theorem CeC.part {p:Path} {i:Nat}:∀ (l:List AV) (c0:Nat) (cs:List Value) (c n:Nat),CeC I σ B k p i c0 l cs→CeC I σ B k p i (c0+c) ((l.drop c).take n) ((cs.drop c).take n)
 | [],c0,cs,c,n,h=>by simp only [CeC] at h; subst h; simp [CeC]
 | a::as,c0,_,0,n,h=>by
  obtain ⟨v,cs',rfl,h1,h2⟩:=h
  cases n with
  | zero=>simp [CeC]
  | succ n =>
   refine ⟨v,cs'.take n,by simp,h1,?_⟩
   have:=CeC.part as (c0+1) cs' 0 n h2
   simpa using this
 | a::as,c0,_,c+1,n,h=>by
  obtain ⟨v,cs',rfl,h1,h2⟩:=h
  have:=CeC.part as (c0+1) cs' c n h2
  rw [show c0+(c+1)=c0+1+c by omega]
  simpa using this
theorem ImC.part:∀ (l:List AV) (cs:List Value) (c n:Nat),ImC I B l cs→ImC I B ((l.drop c).take n) ((cs.drop c).take n)
 | [],cs,c,n,h=>by simp only [ImC] at h; subst h; simp [ImC]
 | a::as,_,0,n,h=>by
  obtain ⟨v,cs',rfl,h1,h2⟩:=h
  cases n with
  | zero=>simp [ImC]
  | succ n =>
   refine ⟨v,cs'.take n,by simp,h1,?_⟩
   have:=ImC.part as cs' 0 n h2
   simpa using this
 | a::as,_,c+1,n,h=>by
  obtain ⟨v,cs',rfl,h1,h2⟩:=h
  have:=ImC.part as cs' c n h2
  simpa using this
theorem VaC.part:∀ (l:List AV) (cs:List Value) (c n:Nat),VaC I σ B l cs→VaC I σ B ((l.drop c).take n) ((cs.drop c).take n)
 | [],cs,c,n,h=>by simp only [VaC] at h; subst h; simp [VaC]
 | a::as,_,0,n,h=>by
  obtain ⟨v,cs',rfl,h0,h1,h2⟩:=h
  cases n with
  | zero=>simp [VaC]
  | succ n =>
   refine ⟨v,cs'.take n,by simp,h0,h1,?_⟩
   have:=VaC.part as cs' 0 n h2
   simpa using this
 | a::as,_,c+1,n,h=>by
  obtain ⟨v,cs',rfl,h0,h1,h2⟩:=h
  have:=VaC.part as cs' c n h2
  simpa using this
theorem VaC.length:∀ (l:List AV) (cs:List Value),VaC I σ B l cs→cs.length=l.length
 | [],_,h=>by simp only [VaC] at h; simp [h]
 | a::as,_,h=>by
  obtain ⟨v,cs',rfl,_,_,h2⟩:=h
  simp [VaC.length as cs' h2]
theorem VaC.one:∀ (l:List AV) (cs:List Value),VaC I σ B l cs→∀ v ∈ cs,v.oneCell'=true
 | [],_,h=>by simp only [VaC] at h; simp [h]
 | a::as,_,h=>by
  obtain ⟨v,cs',rfl,h0,_,h2⟩:=h
  intro u hu
  rcases List.mem_cons.1 hu with rfl | hu
  ·exact h0
  ·exact VaC.one as cs' h2 u hu
theorem VaC.get:∀ (l:List AV) (cs:List Value),VaC I σ B l cs→∀ (j:Nat) (a:AV),l[j]? = some a→∃ v,cs[j]? = some v∧v.oneCell'=true∧Va I σ B a v
 | [],_,_,_,_,h=>by simp at h
 | a::as,_,h,0,a',ha=>by
  obtain ⟨v,cs',rfl,h0,h1,_⟩:=h
  simp at ha; subst ha
  exact ⟨v,rfl,h0,h1⟩
 | a::as,_,h,j+1,a',ha=>by
  obtain ⟨v,cs',rfl,_,_,h2⟩:=h
  obtain ⟨v',hv,hc⟩:=VaC.get as cs' h2 j a' (by simpa using ha)
  exact ⟨v',by simpa using hv,hc⟩
theorem VaL.get:∀ (l:List AV) (cs:List Value),VaL I σ B l cs→∀ (j:Nat) (a:AV),l[j]? = some a→∃ v,cs[j]? = some v∧Va I σ B a v
 | [],_,_,_,_,h=>by simp at h
 | a::as,_,h,0,a',ha=>by
  obtain ⟨v,cs',rfl,h1,_⟩:=h
  simp at ha; subst ha
  exact ⟨v,rfl,h1⟩
 | a::as,_,h,j+1,a',ha=>by
  obtain ⟨v,cs',rfl,_,h2⟩:=h
  obtain ⟨v',hv,hc⟩:=VaL.get as cs' h2 j a' (by simpa using ha)
  exact ⟨v',by simpa using hv,hc⟩
theorem VaL.map {ρ:Operand→Value} {f:Operand→AV} (hf:∀ x,Va I σ B (f x) (ρ x)):∀ (l:List Operand),VaL I σ B (l.map f) (l.map ρ)
 | []=>by simp [VaL]
 | x::l=>⟨ρ x,l.map ρ,by simp,hf x,VaL.map hf l⟩
theorem zj0 (v:Value):Va I σ B (cval v) v:=by
 unfold cval
 split
 ·exact ⟨none,rfl⟩
 ·rename_i cs
  split
  ·rename_i ha
   refine ⟨cs,rfl,?_⟩
   generalize cs.toList=l at ha
   clear cs
   induction l with
   | nil=>rfl
   | cons v l ih =>
    simp only [List.all_cons,Bool.and_eq_true] at ha
    refine ⟨v,l,rfl,ha.1,?_,ih ha.2⟩
    dsimp only
    split
    ·exact ⟨none,rfl⟩
    ·rfl
  ·trivial
 ·rfl
end
def z3s (P:Program) (t:TypeId):Option Bool :=
 match P.underlying t with
 | some (.struct _) | some (.array _ _)=>some true
 | some _=>some false
 | none=>none
def szT (P:Program) (t:TypeId):Option Nat:=(P.info? t).map (·.size)
def z76 (P:Program) (t:TypeId):Option Nat :=
 match P.underlying t with
 | some (.int _)=>some 0
 | some .bool=>some 1
 | some .string=>some 2
 | _=>none
def zb7 (P:Program) (plan:TypeId→Nat→Option (List (Nat×Nat))) (n off:Nat):List Field→Option (List (Nat×Nat))
 | []=>some []
 | f::fs =>
  if f.name = "_" then none
  else match szT P f.type,z3s P f.type,plan f.type (off+f.offset),zb7 P plan n off fs with
   | some m,some b,some x,some y=>if f.offset+m≤n∧0<m∧b=(z76 P f.type).isNone then some (x++y) else none
   | _,_,_,_=>none
def z9k (P:Program):Nat→TypeId→Nat→Option (List (Nat×Nat))
 | 0,_,_=>none
 | d+1,t,off =>
  match z76 P t with
  | some q=>some [(off,q)]
  | none =>
   match P.underlying t with
   | some (.struct fs)=>if P.stoodInHeld t then none else match szT P t with | some n=>zb7 P (z9k P d) n off fs.toList | none=>none
   | _=>none
def z9c (P:Program) (fs:Array Field):List (Nat×Operand)→Option (List (Nat×Nat×Operand))
 | []=>some []
 | (i,x)::l =>
  match fs[i]?,z9c P fs l with
  | some f,some r=>match szT P f.type with | some n=>some ((f.offset,n,x)::r) | none=>none
  | _,_=>none
def zh8 (P:Program) (o:Oper):Option IB :=
 match o.op with
 | .move x | .assign x=>some (.mov x)
 | .pick c a b=>some (.pick c a b)
 | .binOp op t x y _ =>
  match P.underlying t with
  | some (.int _) | some .string=>some (.bin op x y)
  | some .bool=>match op with | .eql=>some (.beq false x y) | .neq=>some (.beq true x y) | _=>none
  | some (.struct _) =>
   if P.eqGuardType P.depth t then none
   else match z9k P 9 t 0,szT P t,op with
    | some pl,some n,.eql=>some (.eqs false n pl x y)
    | some pl,some n,.neq=>some (.eqs true n pl x y)
    | _,_,_=>none
  | _=>none
 | .unOp op _ x=>some (.un1 op x)
 | .convert src dst x =>
  match P.underlying src,P.underlying dst with
  | some (.int _),some (.int k)=>some (.cvt k x)
  | some (.slice el),some .string=>match P.underlying el with | some (.int .u8)=>some (.b2s x) | _=>none
  | _,_=>none
 | .fieldAddr s x f =>
  match P.underlying s with
  | some (.struct fs)=>match fs[f]? with
   | some fd=>match szT P fd.type with
    | some n=>if n=0 then none else some (.fad fd.offset x)
    | none=>none
   | none=>none
  | _=>none
 | .indexAddr t x i =>
  match P.underlying t with
  | some (.slice e)=>match szT P e with | some n=>some (.iad n x i) | none=>none
  | some (.array len e)=>match szT P e with | some n=>some (.aad len n x i) | none=>none
  | _=>none
 | .load t x=>match z3s P t,szT P t with | some b,some n=>some (.load b n x) | _,_=>none
 | .field t x f =>
  match P.underlying t with
  | some (.struct fs)=>match fs[f]? with
   | some fd=>match z3s P fd.type,szT P fd.type with | some b,some n=>some (.fld b fd.offset n x) | _,_=>none
   | none=>none
  | _=>none
 | .index t x i =>
  match P.underlying t with
  | some .string=>some (.ids x i)
  | some (.array len e)=>match z3s P e,szT P e with | some b,some n=>some (.ida b len n x i) | _,_=>none
  | _=>none
 | .call { callee:=.builtin .len,args,argTypes } =>
  match args.toList,argTypes.toList with
  | [x],[t]=>match P.underlying t with
   | some (.slice _)=>some (.len x)
   | some .string=>some (.lens x)
   | _=>none
  | _,_=>none
 | .call { callee:=.builtin .max,args,argTypes } =>
  match args.toList with
  | [x,y]=>some (.mm true x y)
  | _=>none
 | .call { callee:=.builtin .min,args,argTypes } =>
  match args.toList with
  | [x,y]=>some (.mm false x y)
  | _=>none
 | .extract x n=>some (.ext n x)
 | .nilCheck x=>some (.nchk x)
 | .slice t x lo hi mx =>
  match P.underlying t,mx with
  | some (.slice e),none=>match szT P e with | some n=>some (.slc n x lo hi) | none=>none
  | some (.slice e),some (.const (.int .i64 0))=>match lo,hi,szT P e with
   | none,some (.const (.int .i64 0)),some _=>some (.slc0 x)
   | _,_,_=>none
  | some .string,none=>some (.sls x lo hi)
  | _,_=>none
 | .build t parts =>
  match P.underlying t,(P.info? t).bind (·.zero) with
  | some (.struct fs),some z =>
   match z9c P fs parts.toList with
   | some l=>some (.build z.cells.toList l)
   | none=>none
  | some (.array _ e),some z =>
   match szT P e with
   | some n=>some (.build z.cells.toList (parts.toList.map fun (i,x)=>(i * n,n,x)))
   | none=>none
  | _,_=>none
 | .makeFunc (.func f) first caps=>if first.size=0 then some (.mkf f caps.toList) else none
 | _=>none
section
variable {P:Program} {I:Nat→Prop} {σ:Pl} {w:World}
theorem z6u {t:TypeId} {b:Bool} (h:z3s P t=some b):(isAgg t).run P w = .ok b w:=by
 unfold z3s at h
 unfold isAgg
 cases hu:P.underlying t with
 | none=>simp [hu] at h
 | some d =>
  simp only [hu] at h
  cases d <;> simp_all [run_underlying hu]
theorem z1y {t:TypeId} {n:Nat} (h:szT P t=some n):(Go.sizeOf t).run P w = .ok n w:=by
 unfold szT at h
 cases hi:P.info? t with
 | none=>simp [hi] at h
 | some i=>simp [hi] at h; simp [Go.sizeOf,typeInfo,hi,h]
theorem z2e (b o n:Nat):(⟨b,o,none⟩:Addr).add n=⟨b,o+n,none⟩:=by
 unfold Addr.add
 split
 ·subst n; simp
 ·rfl
theorem z7b {t:TypeId} {agg:Bool} {n:Nat} (ha:z3s P t=some agg) (hs:szT P t=some n) {b o:Nat} {cur:Array Value} {E:TypeId} {fr:Nat×Nat}
  (hb:w.heap[b]? = some (.cells cur E fr)) {us:List Value} (hu:(cur.toList.drop o).take n=us) (hl:us.length=n) {cs:List AV} (hv:VaC I σ (bl w) cs us) {av:AV} (hm:z49 agg cs=some av) :
  ∃ v,(loadVar t ⟨b,o,none⟩).run P w = .ok v w∧Va I σ (bl w) av v:=by
 have hcell:∀ j u,us[j]? = some u→w.cell? ((⟨b,o,none⟩:Addr).add j)=some u:=by
  intro j u hj
  rw [z2e,cell_of_row w b (o+j) cur E fr hb]
  subst hu
  rw [List.getElem?_take] at hj
  split at hj
  ·rw [List.getElem?_drop] at hj
   simpa using hj
  ·cases hj
 cases agg with
 | true =>
  simp only [z49,Option.some.injEq] at hm
  subst hm
  refine ⟨.agg us.toArray,?_,us.toArray,rfl,by simpa using hv⟩
  have:=run_loadCells_list (P:=P) w ⟨b,o,none⟩ us hcell
  simp only [loadVar,Sem.run_bind,z6u ha,Result.andThen_ok,if_true,z1y hs]
  rw [hl] at this
  simp [this]
 | false =>
  have hone:∃ a,cs=[a]∧av=a:=by
   unfold z49 at hm
   split at hm
   ·simp_all
   ·cases hm; exact ⟨_,rfl,rfl⟩
   ·cases hm
  obtain ⟨a,rfl,rfl⟩:=hone
  obtain ⟨v,cs',rfl,_,h1,h2⟩:=hv
  have h0:=hcell 0 v rfl
  rw [z2e] at h0
  simp only [Nat.add_zero] at h0
  refine ⟨v,?_,h1⟩
  simp only [loadVar,Sem.run_bind,z6u ha,Result.andThen_ok,Bool.false_eq_true,if_false,run_load,h0]
theorem zl0 {t:TypeId} {agg:Bool} {n:Nat} (ha:z3s P t=some agg) (hs:szT P t=some n) {cur:Array Value} {o:Nat} {us:List Value} (hu:(cur.toList.drop o).take n=us) (hl:us.length=n)
  {cs:List AV} (hv:VaC I σ (bl w) cs us) {av:AV} (hm:z49 agg cs=some av):∃ v,(part t cur o).run P w = .ok v w∧Va I σ (bl w) av v:=by
 cases agg with
 | true =>
  simp only [z49,Option.some.injEq] at hm
  subst hm
  refine ⟨.agg (cur.extract o (o+n)),?_,_,rfl,?_⟩
  ·simp only [part,Sem.run_bind,z6u ha,Result.andThen_ok,if_true,z1y hs]
   rfl
  ·rw [Array.toList_extract,List.extract_eq_take_drop,Nat.add_sub_cancel_left,hu]
   exact hv
 | false =>
  have hone:∃ a,cs=[a]∧av=a:=by
   unfold z49 at hm
   split at hm
   ·simp_all
   ·cases hm; exact ⟨_,rfl,rfl⟩
   ·cases hm
  obtain ⟨a,rfl,rfl⟩:=hone
  obtain ⟨v,cs',rfl,_,h1,h2⟩:=hv
  have h0:cur[o]? = some v:=by
   have:((cur.toList.drop o).take n)[0]? = some v:=by rw [hu]; rfl
   rw [List.getElem?_take] at this
   split at this
   ·simpa using this
   ·cases this
  refine ⟨v,?_,h1⟩
  simp only [part,Sem.run_bind,z6u ha,Result.andThen_ok,Bool.false_eq_true,if_false,h0]
  rfl
end
def res (h:H) (k:Nat) (p:Path):Option (Nat×Els) :=
 match za h k with
 | some r=>resE r.s r.xs p
 | none=>none
section
variable {P:Program} {I:Nat→Prop} {N:Nat} [Dfs N] {σ:Pl} {w:World} {h:H} {e:Env} {a:Act}
theorem HRel.row {k:Nat} {r:Row} (hh:HRel I σ h w) (hg:za h k=some r):zr I σ (bl w) k r∧(∀ b ∈ fpR σ k r,b ∈ fpH σ h)∧(fpR σ k r).Nodup:=by
 obtain ⟨_,h1,_,h3,h4,_⟩:=hh.del hg
 exact ⟨h1,fun b hb=>(h4 b hb).2,h3⟩
theorem HRel.place {k:Nat} {p:Path} {s:Nat} {ys:Els} (hh:HRel I σ h w) (hr:res h k p=some (s,ys)):z2c I σ (bl w) k p s ys∧(∀ b ∈ fpP σ k p ys,b ∈ fpH σ h):=by
 unfold res at hr
 split at hr
 ·rename_i r hg
  obtain ⟨h1,h2,_⟩:=hh.row hg
  by_cases hp:p=[]
  ·subst hp
   simp only [resE,Option.some.injEq,Prod.mk.injEq] at hr
   obtain ⟨rfl,rfl⟩:=hr
   exact ⟨h1,h2⟩
  ·unfold zr at h1
   unfold fpR at h2
   cases hs:σ k [] with
   | none =>
    simp only [hs] at h1
    rw [h1] at hr
    cases p with
    | nil=>exact absurd rfl hp
    | cons q p=>obtain ⟨i',c'⟩:=q; simp [resE] at hr
   | some L =>
    simp only [hs] at h1 h2
    obtain ⟨_,_,cur,E,_,_,hE⟩:=h1
    have:=z5m p [] r.s r.xs _ s ys hE hp hr
    rw [List.nil_append] at this
    exact ⟨this.1,fun b hb=>h2 b (List.mem_cons_of_mem _ (this.2.subset hb))⟩
 ·cases hr
theorem zt (R:Rel I N σ e h a w) (x:Operand):Va I σ (bl w) (ev e x) (a.eval x):=by
 cases x with
 | tmp t=>exact R.vals t
 | const v=>exact zj0 v
 | global g=>trivial
 | func f=>exact ⟨#[],rfl,rfl⟩
theorem zbo {x y:AV} (h:nn x=some y):x=y:=by
 unfold nn at h
 split at h
 ·cases h
 ·exact Option.some.inj h
theorem zig (cur:List Value) (i s c n:Nat) (h:c+n≤s):(((cur.drop (i * s)).take s).drop c).take n=(cur.drop (i * s+c)).take n:=by
 rw [List.drop_take,List.drop_drop,List.take_take,Nat.min_eq_left (by omega)]
theorem ztp {k:Nat} {p:Path} {s:Nat} {ys:Els} {i c n:Nat} {cs:List AV} {cur:Array Value} (hE:CeE I σ (bl w) k p 0 s ys cur.toList) (hc:z4x ys i c n=some cs) :
  CeC I σ (bl w) k p i c cs ((cur.toList.drop (i * s+c)).take n)∧cs.length=n:=by
 unfold z4x at hc
 split at hc
 ·rename_i x hx
  split at hc
  ·rename_i hle
   simp only [Option.some.injEq] at hc
   subst hc
   obtain ⟨hl,hC⟩:=CeE.get ys 0 _ hE i x hx
   have:=CeC.part x 0 _ c n hC
   rw [zig _ _ _ _ _ (by omega)] at this
   simp only [Nat.zero_add] at this
   exact ⟨this,by rw [List.length_take,List.length_drop]; omega⟩
  ·cases hc
 ·cases hc
theorem zzh {s:Nat} {ys:Els} {i c n o:Nat} {cs:List AV} {cur:Array Value} (hE:ImE I (bl w) s ys (cur.toList.drop o)) (hc:z4x ys i c n=some cs) :
  ImC I (bl w) cs ((cur.toList.drop (o+i * s+c)).take n)∧cs.length=n:=by
 unfold z4x at hc
 split at hc
 ·rename_i x hx
  split at hc
  ·rename_i hle
   simp only [Option.some.injEq] at hc
   subst hc
   obtain ⟨hl,hC⟩:=ImE.get ys _ hE i x hx
   have:=ImC.part x _ c n hC
   rw [zig _ _ _ _ _ (by omega),List.drop_drop,← Nat.add_assoc] at this
   exact ⟨this,by rw [List.length_take,List.length_drop]; omega⟩
  ·cases hc
 ·cases hc
theorem y08 {t:TypeId} {q:Nat} {x y:Value} {r:Bool} (d:Nat) (ht:z76 P t=some q) (h:scEq q x y=some r):(Op.equalIn (d+1) t x y).run P w = .ok r w:=by
 unfold z76 at ht
 unfold scEq at h
 split at h
 ·split at h
  ·rename_i k a k' b hk
   subst hk; cases h
   split at ht
   ·rename_i q hq; exact run_equalIn_int w d t k q a b hq
   ·cases ht
   ·cases ht
   ·cases ht
  ·cases h
 ·rename_i a b
  cases h
  split at ht
  ·cases ht
  ·rename_i hq; exact run_equalIn_bool' w d t a b hq
  ·cases ht
  ·cases ht
 ·rename_i a b
  cases h
  split at ht
  ·cases ht
  ·cases ht
  ·rename_i hq; rw [run_equalIn_string w d t a b hq,← beq_toListBytes]
  ·cases ht
 ·cases h
def z6z (P:Program) (t:TypeId) (xs:List Value) (off:Nat) (v:Value):Prop :=
 match z76 P t with
 | some _=>xs[off]? = some v
 | none=>∃ cs:Array Value,v = .agg cs∧∀ n,szT P t=some n→∀ j,j<n→cs[j]? = xs[off+j]?
theorem zb6 (X Y:List AV):∀ (p q:List (Nat×Nat)) (r:Bool),z32 X Y (p++q)=some r→∃ r1 r2,z32 X Y p=some r1∧z32 X Y q=some r2∧r=(r1 && r2)
 | [],q,r,h=>⟨true,r,rfl,h,by simp⟩
 | (i,k)::p,q,r,h=>by
  rw [List.cons_append] at h
  unfold z32 at h
  split at h
  ·rename_i a b ha hb
   split at h
   ·rename_i r0 r' h0 h'
    obtain ⟨r1,r2,h1,h2,rfl⟩:=zb6 X Y p q _ h'
    refine ⟨r0 && r1,r2,?_,h2,?_⟩
    ·unfold z32
     simp only [ha,hb,h0,h1]
    ·simp only [Option.some.injEq] at h
     rw [← h,Bool.and_assoc]
   ·cases h
  ·cases h
theorem zkx {t:TypeId} {cs:Array Value} {o:Nat} {xs:List Value} {off n m:Nat} {b:Bool} (hcs:∀ j,j<n→cs[j]? = xs[off+j]?) (hm:szT P t=some m) (hb:z3s P t=some b) (hle:o+m≤n) (h0:0<m)
  (hl:b=(z76 P t).isNone) (hx:∀ j,j<m→∃ u,xs[off+o+j]? = some u):∃ v,(part t cs o).run P w = .ok v w∧z6z P t xs (off+o) v:=by
 unfold z6z
 cases hq:z76 P t with
 | some q =>
  rw [hq] at hl
  simp only [Option.isNone_some] at hl
  subst hl
  obtain ⟨u,hu⟩:=hx 0 h0
  rw [Nat.add_zero] at hu
  have:=hcs o (by omega)
  rw [hu] at this
  refine ⟨u,?_,hu⟩
  simp only [part,Sem.run_bind,z6u hb,Result.andThen_ok,Bool.false_eq_true,if_false,this]
  rfl
 | none =>
  rw [hq] at hl
  simp only [Option.isNone_none] at hl
  subst hl
  refine ⟨.agg (cs.extract o (o+m)),?_,_,rfl,?_⟩
  ·simp only [part,Sem.run_bind,z6u hb,Result.andThen_ok,if_true,z1y hm]
   rfl
  ·intro n' hn' j hj
   rw [hm] at hn'
   cases hn'
   rw [Array.getElem?_extract]
   have:o+j<cs.size:=by
    have h1:=hcs (o+j) (by omega)
    obtain ⟨u,hu⟩:=hx j hj
    rw [← Nat.add_assoc,hu] at h1
    rcases Nat.lt_or_ge (o+j) cs.size with h' | h'
    ·exact h'
    ·rw [Array.getElem?_eq_none h'] at h1; cases h1
   rw [if_pos (by have h1:o+j<min (o+m) cs.size:=Nat.lt_min.2 ⟨by omega,this⟩; omega),hcs (o+j) (by omega),Nat.add_assoc]
theorem zfv (X Y:List AV) (xs ys:List Value) (D:Nat) (plan:TypeId→Nat→Option (List (Nat×Nat)))
  (hplan:∀ (t:TypeId) (off:Nat) (pl:List (Nat×Nat)) (vx vy:Value) (r:Bool) (m:Nat),plan t off=some pl→szT P t=some m→z6z P t xs off vx→z6z P t ys off vy →
   (∀ j,j<m→∃ u,xs[off+j]? = some u)→(∀ j,j<m→∃ u,ys[off+j]? = some u)→z32 X Y pl=some r→(Op.equalIn D t vx vy).run P w = .ok r w) (n off:Nat) :
  ∀ (fs:List Field) (pl:List (Nat×Nat)) (cx cy:Array Value) (r:Bool),zb7 P plan n off fs=some pl→(∀ j,j<n→cx[j]? = xs[off+j]?)→(∀ j,j<n→cy[j]? = ys[off+j]?) →
   (∀ j,j<n→∃ u,xs[off+j]? = some u)→(∀ j,j<n→∃ u,ys[off+j]? = some u)→z32 X Y pl=some r→(Op.eqFields D cx cy fs).run P w = .ok r w
 | [],pl,cx,cy,r,h,_,_,_,_,hr=>by
  simp only [zb7,Option.some.injEq] at h; subst h; simp only [z32,Option.some.injEq] at hr; subst hr; simp [Op.eqFields]
 | f::fs,pl,cx,cy,r,h,hx,hy,ex,ey,hr=>by
  unfold zb7 at h
  split at h
  ·cases h
  ·rename_i hname
   split at h
   ·rename_i m b x y hm hb hx' hy'
    split at h
    ·rename_i hc
     obtain ⟨hle,h0,hl⟩:=hc
     simp only [Option.some.injEq] at h
     subst h
     obtain ⟨r1,r2,h1,h2,rfl⟩:=zb6 X Y x y r hr
     obtain ⟨v,hv,lv⟩:=zkx (P:=P) (w:=w) hx hm hb hle h0 hl (fun j hj=>by rw [Nat.add_assoc]; exact ex _ (by omega))
     obtain ⟨u,hu,lu⟩:=zkx (P:=P) (w:=w) hy hm hb hle h0 hl (fun j hj=>by rw [Nat.add_assoc]; exact ey _ (by omega))
     have ih:=hplan f.type (off+f.offset) x v u r1 m hx' hm lv lu (fun j hj=>by rw [Nat.add_assoc]; exact ex _ (by omega)) (fun j hj=>by rw [Nat.add_assoc]; exact ey _ (by omega)) h1
     have ihF:=zfv X Y xs ys D plan hplan n off fs y cx cy r2 hy' hx hy ex ey h2
     simp only [Op.eqFields,ne_eq,hname,not_false_eq_true,if_true,Sem.run_bind,hv,hu,Result.andThen_ok,ih,Sem.run_ite]
     cases r1 with
     | false=>simp
     | true=>simp [ihF]
    ·cases h
   ·cases h
theorem zhc (X Y:List AV) (xs ys:List Value) (hX:∀ (i:Nat) (a:Value),X[i]? = some (.sc a)→xs[i]? = some a) (hY:∀ (i:Nat) (a:Value),Y[i]? = some (.sc a)→ys[i]? = some a) :
  ∀ (d:Nat) (t:TypeId) (off:Nat) (pl:List (Nat×Nat)) (D:Nat) (vx vy:Value) (r:Bool) (m:Nat),z9k P d t off=some pl→szT P t=some m→z6z P t xs off vx→z6z P t ys off vy →
   (∀ j,j<m→∃ u,xs[off+j]? = some u)→(∀ j,j<m→∃ u,ys[off+j]? = some u)→z32 X Y pl=some r→(Op.equalIn (D+d) t vx vy).run P w = .ok r w
 | 0,_,_,_,_,_,_,_,_,h,_,_,_,_,_,_=>by simp [z9k] at h
 | d+1,t,off,pl,D,vx,vy,r,m,h,hm,lx,ly,ex,ey,hr=>by
  unfold z9k at h
  unfold z6z at lx ly
  cases hq:z76 P t with
  | some q =>
   simp only [hq,Option.some.injEq] at h lx ly
   subst h
   unfold z32 at hr
   split at hr
   ·rename_i a b ha hb
    split at hr
    ·rename_i r0 r1 h0 h1
     simp only [z32,Option.some.injEq] at h1
     subst h1
     simp only [Bool.and_true,Option.some.injEq] at hr
     subst hr
     have e1:=hX _ _ ha
     have e2:=hY _ _ hb
     rw [lx] at e1; rw [ly] at e2
     cases e1; cases e2
     exact y08 (D+d) hq h0
    ·cases hr
   ·cases hr
  | none =>
   simp only [hq] at h lx ly
   split at h
   ·rename_i fs hu
    split at h
    ·cases h
    ·rename_i hp
     simp only [hm] at h
     obtain ⟨cx,rfl,hcx⟩:=lx
     obtain ⟨cy,rfl,hcy⟩:=ly
     have hfs:P.fieldsOf t=fs:=by simp [Program.fieldsOf,hu]
     rw [show D+(d+1)=D+d+1 by omega,run_equalIn_struct w (D+d) t cx cy (by rw [hu,hfs]) (by simpa using hp),hfs]
     exact zfv X Y xs ys (D+d) (z9k P d) (fun t off pl vx vy r m h1 h2 h3 h4 h5 h6 h7=>zhc X Y xs ys hX hY d t off pl D vx vy r m h1 h2 h3 h4 h5 h6 h7) m off fs.toList pl cx cy r h (hcx m hm) (hcy m hm) ex ey hr
   ·cases h
end
section
variable {P:Program} {I:Nat→Prop} {N:Nat} [Dfs N] {σ:Pl} {w:World} {h:H} {e:Env} {a:Act}
theorem z60 {u v:Value} (h:Va I σ (bl w) (.sc u) v):v=u:=h
theorem VaC.sc (l:List AV) (cs:List Value) (h:VaC I σ (bl w) l cs) (i:Nat) (u:Value) (hi:l[i]? = some (.sc u)):cs[i]? = some u:=by
 obtain ⟨v,hv,_,h1⟩:=VaC.get l cs h i _ hi
 rw [hv,z60 h1]
theorem zh1 {isSlice:Bool} {len cap:Nat} {lo hi:Option Operand} {l hh:Nat} (hb:z65 len (lo.map (ev e)) (hi.map (ev e))=some (l,hh)) (hcap:len≤cap) (R:∀ x,Va I σ (bl w) (ev e x) (a.eval x)) (hm:isSlice=true∨cap=len) :
  (Instr.sliceBounds isSlice len cap (lo.map a.eval) (hi.map a.eval) none).run P w = .ok (l,hh,cap) w∧l≤hh∧hh≤len:=by
 unfold z65 at hb
 have key:∀ (x:Operand) (n:Int),nat? (ev e x)=some n→∃ k,a.eval x = .int k n:=by
  intro x n hn
  have:=R x
  unfold nat? at hn
  split at hn
  ·rename_i k m hx
   cases hn
   rw [hx] at this
   exact ⟨k,this⟩
  ·cases hn
 split at hb
 ·rename_i h' l' e1 e2
  split at hb
  ·rename_i hc
   simp only [Option.some.injEq,Prod.mk.injEq] at hb
   obtain ⟨rfl,rfl⟩:=hb
   refine ⟨?_,by omega,by omega⟩
   have hlo:∀ (y:Nat) (code:BoundsCode),l'≤y→∀ x,lo=some x→(Instr.sliceBound (a.eval x) y code).run P w = .ok l'.toNat w:=by
    intro y code hy x hx
    subst hx
    simp only [Option.map_some] at e2
    obtain ⟨k,hk⟩:=key x l' e2
    simp only [Instr.sliceBound,hk,asIntOf,Sem.run_bind,Sem.run_pure,Result.andThen_ok,Sem.run_ite]
    rw [if_pos ⟨by omega,hy⟩]
   have hhi:∀ (y:Nat) (code:BoundsCode),h'≤y→∀ x,hi=some x→(Instr.sliceBound (a.eval x) y code).run P w = .ok h'.toNat w:=by
    intro y code hy x hx
    subst hx
    simp only [Option.map_some] at e1
    obtain ⟨k,hk⟩:=key x h' e1
    simp only [Instr.sliceBound,hk,asIntOf,Sem.run_bind,Sem.run_pure,Result.andThen_ok,Sem.run_ite]
    rw [if_pos ⟨by omega,hy⟩]
   have hlen:(h'.toNat:Int)=h':=by omega
   cases hi with
   | none =>
    simp only [Option.map_none,Option.some.injEq] at e1
    subst e1
    cases lo with
    | none =>
     simp only [Option.map_none,Option.some.injEq] at e2
     subst e2
     simp [Instr.sliceBounds]
    | some x =>
     have:=hlo len .sliceB (by omega) x rfl
     simp [Instr.sliceBounds,this]
   | some y =>
    have h1:∀ code,(Instr.sliceBound (a.eval y) cap code).run P w = .ok h'.toNat w:=fun code=>hhi cap code (by omega) y rfl
    cases lo with
    | none =>
     simp only [Option.map_none,Option.some.injEq] at e2
     subst e2
     simp [Instr.sliceBounds,h1]
    | some x =>
     have:=hlo h'.toNat .sliceB (by omega) x rfl
     simp [Instr.sliceBounds,h1,this]
  ·cases hb
 ·cases hb
theorem zr4 {s:Nat}:∀ (xs:Els) (cs:List Value) (n:Nat),ImE I (bl w) s xs cs→ImE I (bl w) s (xs.take n) cs
 | [],_,n,_=>by simp [ImE]
 | x::xs,cs,0,_=>by simp [ImE]
 | x::xs,cs,n+1,h=>⟨h.1,h.2.1,zr4 xs _ n h.2.2⟩
theorem zr3 {s:Nat}:∀ (xs:Els) (cs:List Value) (n:Nat),ImE I (bl w) s xs cs→ImE I (bl w) s (xs.drop n) (cs.drop (n * s))
 | [],_,n,_=>by simp [ImE]
 | x::xs,cs,0,h=>by simpa using h
 | x::xs,cs,n+1,h=>by
  have:=zr3 xs _ n h.2.2
  rw [List.drop_drop,show s+n * s=(n+1) * s by rw [Nat.add_mul,Nat.one_mul,Nat.add_comm]] at this
  exact this
theorem VaC.consts:∀ (z:List Value),(∀ v ∈ z,v.oneCell'=true)→VaC I σ (bl w) (z.map cval) z
 | [],_=>rfl
 | v::z,h=>⟨v,z,rfl,h v (by simp),zj0 v,VaC.consts z (fun u hu=>h u (by simp [hu]))⟩
theorem VaC.append:∀ (l1 l2:List AV) (c1 c2:List Value),VaC I σ (bl w) l1 c1→VaC I σ (bl w) l2 c2→VaC I σ (bl w) (l1++l2) (c1++c2)
 | [],l2,c1,c2,h1,h2=>by simp only [VaC] at h1; subst h1; simpa using h2
 | a::l1,l2,_,c2,h1,h2=>by
  obtain ⟨v,cs',rfl,h3,h4,h5⟩:=h1
  exact ⟨v,cs'++c2,rfl,h3,h4,VaC.append l1 l2 cs' c2 h5 h2⟩
theorem zu8 (cells:Array Value) (off size:Nat) (v:Value) (hs:v.cells.size=size) (hle:off+size≤cells.size) :
  (v.cells.zipIdx.foldl (fun cs (x:Value×Nat)=>cs.setIfInBounds (off+x.2) x.1) cells).toList=cells.toList.take off++v.cells.toList++cells.toList.drop (off+size):=by
 have aux:∀ (l:List Value) (k:Nat) (cs:Array Value),off+k+l.length≤cs.size →
   ((l.zipIdx k).foldl (fun cs (x:Value×Nat)=>cs.setIfInBounds (off+x.2) x.1) cs).toList=cs.toList.take (off+k)++l++cs.toList.drop (off+k+l.length):=by
  intro l
  induction l with
  | nil=>intro k cs _; simp
  | cons v l ih =>
   intro k cs hle
   simp only [List.length_cons] at hle
   rw [List.zipIdx_cons,List.foldl_cons,ih (k+1) _ (by simp; omega)]
   simp only [Array.toList_setIfInBounds,List.length_cons]
   have:=list_seg_step cs.toList (off+k) v l (by simp; omega)
   rw [show off+(k+1)=off+k+1 by omega,this]
 have:=aux v.cells.toList 0 cells (by simpa [hs] using hle)
 rw [Nat.add_zero] at this
 rw [← Array.foldl_toList,Array.toList_zipIdx,this]
 simp [hs]
theorem Va.one:∀ (x:AV) (v:Value),zcx x=true→Va I σ (bl w) x v→v.oneCell'=true
 | .sc u,v,h1,h2=>by cases h2; exact h1
 | .zs,_,_,h=>by obtain ⟨a,rfl⟩:=h; rfl
 | .im _ _,_,_,h=>by obtain ⟨a,c,rfl,_⟩:=h; rfl
 | .ip _ _ _ _,_,_,h=>by obtain ⟨A,cur,E,fr,rfl,_⟩:=h; rfl
 | .sl k p off len,v,_,h=>by
  simp only [Va] at h
  split at h
  ·obtain ⟨_,_,a,rfl⟩:=h; rfl
  ·obtain ⟨a,c,rfl,_⟩:=h; rfl
 | .pp (.xp _ _ _),_,_,h=>by obtain ⟨rfl,_⟩:=h; rfl
 | .pp (.fs _ _),_,_,h=>by obtain ⟨L,a,c,_,rfl,_⟩:=h; rfl
 | .pp (.fp _ _ _),_,_,h=>by obtain ⟨L,A,cur,E,fr,_,rfl,_⟩:=h; rfl
 | .pt _ _ _ _,_,_,h=>by obtain ⟨L,_,rfl⟩:=h; rfl
 | .fn _ _,_,_,h=>by obtain ⟨a,rfl,_⟩:=h; rfl
 | .un,_,h,_=>by cases h
 | .ag _,_,h,_=>by cases h
 | .tu _,_,h,_=>by cases h
 | .ow _ _,_,h,_=>by cases h
theorem zto {v:Value} (h:v.oneCell'=true):v.cells = #[v]:=by
 unfold Value.cells
 split
 ·cases h
 ·rfl
theorem zc2 {x:AV} {v:Value} {cs:List AV} (hc:cellsOf x=some cs) (h:Va I σ (bl w) x v):VaC I σ (bl w) cs v.cells.toList:=by
 unfold cellsOf at hc
 split at hc
 ·rename_i l
  cases hc
  obtain ⟨a,rfl,h⟩:=h
  exact h
 ·split at hc
  ·rename_i h1
   cases hc
   have h2:=Va.one x v h1 h
   rw [zto h2]
   exact ⟨v,[],rfl,h2,h,rfl⟩
  ·cases hc
theorem zcc (place:Nat→Option (Nat×Nat)) (ρ:Operand→Value) (f:Operand→AV) (hf:∀ x,Va I σ (bl w) (f x) (ρ x)):∀ (parts:List (Nat×Operand)) (l:List (Nat×Nat×Operand)) (X:List AV) (cells:Array Value) (X':List AV),
  parts.length=l.length→(∀ (j:Nat) (q:Nat×Operand) (q':Nat×Nat×Operand),parts[j]? = some q→l[j]? = some q'→place q.1=some (q'.1,q'.2.1)∧q.2=q'.2.2) →
  VaC I σ (bl w) X cells.toList→z4u X (l.map fun (o,n,x)=>(o,n,f x))=some X'→∃ cells',Instr.fill place cells (parts.map fun (i,x)=>(i,ρ x))=some cells'∧VaC I σ (bl w) X' cells'.toList
 | [],l,X,cells,X',hl,_,hv,h=>by
  cases l with
  | nil=>simp only [List.map_nil,z4u,Option.some.injEq] at h; subst h; exact ⟨cells,rfl,hv⟩
  | cons _ _=>simp at hl
 | (i,x)::parts,l,X,cells,X',hl,hp,hv,h=>by
  cases l with
  | nil=>simp at hl
  | cons q l =>
   obtain ⟨o,n,x'⟩:=q
   obtain ⟨h1,h2⟩:=hp 0 (i,x) (o,n,x') rfl rfl
   simp only at h1 h2
   subst h2
   simp only [List.map_cons] at h ⊢
   unfold z4u at h
   split at h
   ·rename_i cs hcs
    split at h
    ·rename_i hc
     have hva:=zc2 hcs (hf x)
     have hlen:=VaC.length _ _ hva
     have hX:=VaC.length _ _ hv
     simp only [Array.length_toList] at hlen hX
     unfold Instr.fill
     simp only [h1]
     rw [if_neg (by simp only [Bool.or_eq_true,decide_eq_true_eq]; omega)]
     have hstep:=zu8 cells o n (ρ x) (by omega) (by omega)
     refine zcc place ρ f hf parts l _ _ X' (by simpa using hl) (fun j q q' hq hq'=>hp (j+1) q q' (by simpa using hq) (by simpa using hq')) ?_ h
     rw [hstep]
     have t1:=VaC.part X cells.toList 0 o hv
     simp only [List.drop_zero] at t1
     have t2:=VaC.part X cells.toList (o+n) (X.length) hv
     rw [List.take_of_length_le (by simp),List.take_of_length_le (by simp; omega)] at t2
     exact VaC.append _ _ _ _ (VaC.append _ _ _ _ t1 hva) t2
    ·cases h
   ·cases h
end
section
variable {P:Program} {I:Nat→Prop} {N:Nat} [Dfs N] {σ:Pl} {w:World} {h:H} {e:Env} {a:Act}
theorem z7d {k:IntKind} {n:Int} {v:Value} (h:Va I σ (bl w) (.sc (.int k n)) v):v = .int k n:=h
theorem VaC.scs:∀ (l:List Value),(∀ u ∈ l,u.oneCell'=true)→VaC I σ (bl w) (l.map AV.sc) l
 | [],_=>rfl
 | u::l,h=>⟨u,l,rfl,h u (by simp),rfl,VaC.scs l fun v hv=>h v (by simp [hv])⟩
theorem zi7 (R:Rel I N σ e h a w) {t:TypeId} {x:Operand} {agg:Bool} {n:Nat} (ha:z3s P t=some agg) (hs:szT P t=some n) {av:AV} (hr:rdop (ev e) (res h) (.load agg n x)=some av) :
  ∃ v,(Instr.loadAt t (a.eval x)).run P w = .ok v w∧Va I σ (bl w) av v:=by
 have hx:=zt R x
 simp only [rdop] at hr
 split at hr
 ·rename_i k p i c hk
  rw [hk] at hx
  obtain ⟨L,hL,hv⟩:=hx
  split at hr
  ·rename_i s ys hres
   split at hr
   ·rename_i cs hcs
    obtain ⟨hp,_⟩:=R.heap.place hres
    unfold z2c at hp
    simp only [hL] at hp
    obtain ⟨hLs,hle,cur,E,hB,hsz,hE⟩:=hp
    obtain ⟨h1,h2⟩:=ztp hE hcs
    rw [hv]
    simp only [Instr.loadAt,Instr.sureAddr,Sem.run_bind,Sem.run_pure,Result.andThen_ok]
    refine z7b ha hs hB rfl ?_ ?_ hr
    ·have:=CeC.length cs c _ h1
     rw [hLs]; omega
    ·have h3:=CeC.va cs c _ h1
     rw [hLs]
     exact h3
   ·cases hr
  ·cases hr
 ·rename_i s xs i c hk
  rw [hk] at hx
  obtain ⟨A,cur,E,fr,hv,hsp,hI,hB,hE⟩:=hx
  split at hr
  ·rename_i cs hcs
   obtain ⟨h1,h2⟩:=zzh hE hcs
   rw [hv]
   simp only [Instr.loadAt,Instr.sureAddr,Sem.run_bind,Sem.run_pure,Result.andThen_ok]
   refine z7b ha hs hB rfl ?_ (ImC.va cs _ h1) hr
   have:=ImC.length cs _ h1
   omega
  ·cases hr
 ·rename_i b x' c hk
  rw [hk] at hx
  obtain ⟨hv,hI,cur,E,fr,hB,hcur,hone⟩:=hx
  split at hr
  ·rename_i hle
   have hp:(cur.toList.drop c).take n=(x'.drop c).take n:=by
    rw [← hcur,List.drop_take,List.take_take,Nat.min_eq_left (by omega)]
   have hlen:x'.length≤cur.toList.length:=by rw [← hcur]; exact List.length_take_le' _ _
   rw [hv]
   simp only [Instr.loadAt,Instr.sureAddr,Sem.run_bind,Sem.run_pure,Result.andThen_ok]
   refine z7b ha hs hB rfl ?_ ?_ hr
   ·rw [List.length_take,List.length_drop]; omega
   ·rw [hp]
    exact VaC.scs _ fun u hu=>hone u (List.mem_of_mem_drop (List.mem_of_mem_take hu))
  ·cases hr
 ·rename_i k cs i hk
  rw [hk] at hx
  obtain ⟨L,A,cur,E,fr,hL,hv,hsp,hI,hB,hcs⟩:=hx
  split at hr
  ·rename_i c hc
   split at hr
   ·rename_i hn
    obtain ⟨rfl,rfl⟩:=hn
    simp only [Option.some.injEq] at hr
    subst hr
    obtain ⟨b,o,sp⟩:=A
    simp only at hsp hv hB hcs
    subst hsp
    have hi:i<cs.length:=(List.getElem?_eq_some_iff.1 hc).1
    have hcell:(cur.toList.drop (o+i)).take 1=[Value.pointer (some ⟨L.b,c,none⟩)]:=by
     have h1:((cur.toList.drop o).take cs.length)[i]? = some (Value.pointer (some ⟨L.b,c,none⟩)):=by rw [hcs,List.getElem?_map,hc]; rfl
     rw [List.getElem?_take,if_pos hi,List.getElem?_drop] at h1
     obtain ⟨hl,he⟩:=List.getElem?_eq_some_iff.1 h1
     rw [List.drop_eq_getElem_cons hl,he]
     rfl
    rw [hv]
    simp only [Instr.loadAt,Instr.sureAddr,Sem.run_bind,Sem.run_pure,Result.andThen_ok]
    refine z7b (cs:=[.pt k [] 0 c]) ha hs hB rfl ?_ ?_ rfl
    ·have:=congrArg List.length hcell
     simpa using this
    ·rw [hcell]
     exact ⟨_,_,rfl,rfl,⟨L,hL,by simp⟩,rfl⟩
   ·cases hr
  ·cases hr
 ·cases hr
theorem zu7 (R:Rel I N σ e h a w) {s:TypeId} {x:Operand} {f:Nat} {fs:Array Field} {fd:Field} {n:Nat} (hs:P.underlying s=some (.struct fs)) (hf:fs[f]? = some fd) (hn:szT P fd.type=some n) (h0:n ≠ 0)
  {av:AV} (hr:rdop (ev e) (res h) (.fad fd.offset x)=some av):∃ v,(Instr.fieldAt s (a.eval x) f).run P w = .ok v w∧Va I σ (bl w) av v:=by
 have hx:=zt R x
 have key:∀ b o,(Instr.fieldAt s (.pointer (some ⟨b,o,none⟩)) f).run P w = .ok (.pointer (some ⟨b,o+fd.offset,none⟩)) w:=by
  intro b o
  simp only [Instr.fieldAt,Sem.run_bind,run_underlying hs,Result.andThen_ok,hf,Instr.sureAddr,Sem.run_pure,fieldPlace,z1y hn,if_neg h0,z2e,Sem.run_ite]
 simp only [rdop] at hr
 split at hr
 ·rename_i k p i c hk
  rw [hk] at hx
  obtain ⟨L,hL,hv⟩:=hx
  simp only [Option.some.injEq] at hr
  subst hr
  exact ⟨_,by rw [hv]; exact key _ _,L,hL,by rw [Nat.add_assoc]⟩
 ·rename_i s' xs i c hk
  rw [hk] at hx
  obtain ⟨A,cur,E,fr,hv,hsp,hI,hB,hE⟩:=hx
  simp only [Option.some.injEq] at hr
  subst hr
  exact ⟨_,by rw [hv]; exact key _ _,A,cur,E,fr,by rw [Nat.add_assoc (A.off+i * s')],hsp,hI,hB,hE⟩
 ·rename_i b x' c hk
  rw [hk] at hx
  obtain ⟨hv,hx⟩:=hx
  simp only [Option.some.injEq] at hr
  subst hr
  exact ⟨_,by rw [hv]; exact key _ _,rfl,hx⟩
 ·cases hr
theorem zy0 (R:Rel I N σ e h a w) {t el:TypeId} {x i:Operand} {n:Nat} (ht:P.underlying t=some (.slice el)) (hn:szT P el=some n) {av:AV} (hr:rdop (ev e) (res h) (.iad n x i)=some av) :
  ∃ v,(Instr.indexAt t (a.eval x) (a.eval i)).run P w = .ok v w∧Va I σ (bl w) av v:=by
 have hx:=zt R x
 have hi:=zt R i
 have key:∀ (A:Addr) (len c:Nat) (k:IntKind) (m:Int),0≤m→m<len→(Instr.indexAt t (.slice (some A) len c) (.int k m)).run P w = .ok (.pointer (some (A.add (m.toNat * n)))) w:=by
  intro A len c k m h0 h1
  simp only [Instr.indexAt,asIntOf,Sem.run_bind,Sem.run_pure,Result.andThen_ok,run_underlying ht,Sem.run_ite]
  rw [if_pos ⟨h0,h1⟩]
  simp only [Sem.run_bind,z1y hn,Result.andThen_ok,Sem.run_pure]
 simp only [rdop] at hr
 split at hr
 ·rename_i k p off len k' m hk hm
  rw [hk] at hx
  rw [hm] at hi
  split at hr
  ·rename_i hb
   split at hr
   ·rename_i s' ys hres
    split at hr
    ·rename_i hs
     simp only [Option.some.injEq] at hr
     subst hr hs
     obtain ⟨hp,_⟩:=R.heap.place hres
     simp only [Va] at hx
     unfold z2c at hp
     cases hL:σ k p with
     | none=>simp only [hL] at hx; omega
     | some L =>
      simp only [hL] at hx hp
      obtain ⟨A,c,hv,hc1,hc2,hA⟩:=hx
      have:=hA (.inl (by omega))
      subst this
      refine ⟨_,by rw [hv,z7d hi]; exact key _ _ _ _ _ hb.1 hb.2,L,hL,?_⟩
      rw [z2e,hp.1,Nat.add_mul,Nat.add_zero]
    ·cases hr
   ·cases hr
  ·cases hr
 ·rename_i s' xs k' m hk hm
  rw [hk] at hx
  rw [hm] at hi
  split at hr
  ·rename_i hb
   simp only [Option.some.injEq] at hr
   subst hr
   obtain ⟨rfl,hb⟩:=hb
   obtain ⟨A0,c,hv,hc,hne⟩:=hx
   obtain ⟨A,cur,E,fr,rfl,hsp,hI,hB,hE⟩:=hne (by rintro rfl; simp at hb; omega)
   refine ⟨_,by rw [hv,z7d hi]; exact key _ _ _ _ _ hb.1 hb.2,A,cur,E,fr,?_,hsp,hI,hB,hE⟩
   obtain ⟨b,o,sp⟩:=A
   simp only at hsp
   subst hsp
   rw [z2e,Nat.add_zero]
  ·cases hr
 ·rename_i k cs k' m hk hm
  rw [hk] at hx
  rw [hm] at hi
  split at hr
  ·rename_i hb
   simp only [Option.some.injEq] at hr
   subst hr
   obtain ⟨rfl,hb⟩:=hb
   obtain ⟨L,A0,c,hL,hv,hc,hne⟩:=hx
   obtain ⟨A,cur,E,fr,rfl,hsp,hI,hB,hE⟩:=hne (by rintro rfl; simp at hb; omega)
   refine ⟨_,by rw [hv,z7d hi]; exact key _ _ _ _ _ hb.1 hb.2,L,A,cur,E,fr,hL,?_,hsp,hI,hB,hE⟩
   obtain ⟨b,o,sp⟩:=A
   simp only at hsp
   subst hsp
   rw [z2e,Nat.mul_one]
  ·cases hr
 ·cases hr
theorem ztd (R:Rel I N σ e h a w) {t el:TypeId} {x i:Operand} {len n:Nat} (ht:P.underlying t=some (.array len el)) (hn:szT P el=some n) {av:AV} (hr:rdop (ev e) (res h) (.aad len n x i)=some av) :
  ∃ v,(Instr.indexAt t (a.eval x) (a.eval i)).run P w = .ok v w∧Va I σ (bl w) av v:=by
 have hx:=zt R x
 have hi:=zt R i
 simp only [rdop] at hr
 split at hr
 ·rename_i k p o c k' m hk hm
  rw [hk] at hx
  rw [hm] at hi
  split at hr
  ·rename_i hb
   simp only [Option.some.injEq] at hr
   subst hr
   obtain ⟨L,hL,hv⟩:=hx
   refine ⟨.pointer (some ⟨L.b,o * L.s+c+m.toNat * n,none⟩),?_,L,hL,by rw [Nat.add_assoc]⟩
   rw [hv,z7d hi]
   simp only [Instr.indexAt,asIntOf,Sem.run_bind,Sem.run_pure,Result.andThen_ok,run_underlying ht,Instr.sureAddr,Sem.run_ite]
   rw [if_pos hb]
   simp only [Sem.run_bind,z1y hn,Result.andThen_ok,Sem.run_pure,z2e]
  ·cases hr
 ·cases hr
theorem zys (R:Rel I N σ e h a w) {t el:TypeId} {x:Operand} {lo hi:Option Operand} {n:Nat} (ht:P.underlying t=some (.slice el)) (hn:szT P el=some n) {av:AV} (hr:rdop (ev e) (res h) (.slc n x lo hi)=some av) :
  ∃ v,(Instr.sliceAt t (a.eval x) (lo.map a.eval) (hi.map a.eval) none).run P w = .ok v w∧Va I σ (bl w) av v:=by
 have hx:=zt R x
 have key:∀ (A:Option Addr) (len c l hh:Nat),z65 len (lo.map (ev e)) (hi.map (ev e))=some (l,hh)→len≤c →
   (Instr.sliceAt t (.slice A len c) (lo.map a.eval) (hi.map a.eval) none).run P w = .ok (.slice (if c=l then A else A.map (·.add (l * n))) (hh - l) (c - l)) w∧l≤hh∧hh≤len:=by
  intro A len c l hh hb hle
  obtain ⟨h1,h2,h3⟩:=zh1 (P:=P) (isSlice:=true) hb hle (fun x=>zt R x) (.inl rfl)
  refine ⟨?_,h2,h3⟩
  simp only [Instr.sliceAt,Instr.slice,Sem.run_bind,run_underlying ht,Result.andThen_ok,h1,z1y hn,Sem.run_pure]
 simp only [rdop] at hr
 split at hr
 ·rename_i k p off len hk
  rw [hk] at hx
  split at hr
  ·rename_i s' ys hres
   split at hr
   ·rename_i hs
    subst hs
    split at hr
    ·rename_i l hh hb
     simp only [Option.some.injEq] at hr
     subst hr
     obtain ⟨hp,_⟩:=R.heap.place hres
     simp only [Va] at hx ⊢
     unfold z2c at hp
     cases hL:σ k p with
     | none =>
      simp only [hL] at hx ⊢
      obtain ⟨rfl,rfl,A,hv⟩:=hx
      obtain ⟨h1,h2,h3⟩:=key A 0 0 l hh hb (Nat.le_refl _)
      rw [hv,h1]
      exact ⟨_,rfl,by omega,by omega,_,by rw [show hh - l=0 by omega,show 0 - l=0 by omega]⟩
     | some L =>
      simp only [hL] at hx hp ⊢
      obtain ⟨A,c,hv,hc1,hc2,hA⟩:=hx
      obtain ⟨h1,h2,h3⟩:=key (some A) len c l hh hb hc2
      rw [hv,h1]
      by_cases hcl:c=l
      ·rw [if_pos hcl]
       refine ⟨_,rfl,A,c - l,rfl,by omega,by omega,fun hor=>?_⟩
       rcases hor with h' | h'
       ·omega
       ·have h0:off=0:=by omega
        have hl0:l=0:=by omega
        subst h0 hl0
        exact hA (.inr rfl)
      ·rw [if_neg hcl]
       have:=hA (.inl (by omega))
       subst this
       refine ⟨_,rfl,_,c - l,rfl,by omega,by omega,fun _=>?_⟩
       show (⟨L.b,off * L.s,none⟩:Addr).add (l * s')=_
       rw [z2e,hp.1,Nat.add_mul]
    ·cases hr
   ·cases hr
  ·cases hr
 ·rename_i s' xs hk
  rw [hk] at hx
  split at hr
  ·rename_i hs
   subst hs
   split at hr
   ·rename_i l hh hb
    simp only [Option.some.injEq] at hr
    subst hr
    obtain ⟨A0,c,hv,hc,hne⟩:=hx
    obtain ⟨h1,h2,h3⟩:=key A0 xs.length c l hh hb hc
    have hlen:((xs.take hh).drop l).length=hh - l:=by rw [List.length_drop,List.length_take]; omega
    rw [hv,h1]
    refine ⟨_,rfl,_,c - l,by rw [hlen],by omega,fun hn0=>?_⟩
    have hne':xs ≠ []:=by rintro rfl; simp at hn0
    have hlt:l<hh:=by
     rcases Nat.lt_or_ge l hh with h' | h'
     ·exact h'
     ·exact absurd (List.eq_nil_of_length_eq_zero (by omega)) hn0
    obtain ⟨A,cur,E,fr,rfl,hsp,hI,hB,hE⟩:=hne hne'
    rw [if_neg (by omega)]
    obtain ⟨b,o,sp⟩:=A
    simp only at hsp
    subst hsp
    refine ⟨⟨b,o+l * s',none⟩,cur,E,fr,by rw [Option.map_some,z2e],rfl,hI,hB,?_⟩
    have:=zr3 (xs.take hh) _ l (zr4 xs _ hh hE)
    rw [List.drop_drop] at this
    exact this
   ·cases hr
  ·cases hr
 ·rename_i hk
  rw [hk] at hx
  split at hr
  ·rename_i x' hb
   obtain ⟨l,hh⟩:=x'
   simp only [Option.some.injEq] at hr
   subst hr
   obtain ⟨A,hv⟩:=hx
   obtain ⟨h1,h2,h3⟩:=key A 0 0 l hh hb (Nat.le_refl _)
   rw [hv,h1]
   exact ⟨_,rfl,_,by rw [show hh - l=0 by omega,show 0 - l=0 by omega]⟩
  ·cases hr
 ·cases hr
end
section
variable {P:Program} {I:Nat→Prop} {N:Nat} [Dfs N] {σ:Pl} {w:World} {h:H} {e:Env} {a:Act}
theorem zjn (R:Rel I N σ e h a w) {op:BinOp} {t:TypeId} {x y:Operand} {av:AV} (hr:rdop (ev e) (res h) (.bin op x y)=some av) :
  ∃ v,(do eqGuard op t x y (a.eval x) (a.eval y); binOp op t (a.eval x) (a.eval y):Sem Value).run P w = .ok v w∧Va I σ (bl w) av v:=by
 have hx:=zt R x
 have hy:=zt R y
 simp only [rdop] at hr
 split at hr
 ·rename_i u v hu hv
  rw [hu] at hx; rw [hv] at hy
  split at hr
  ·rename_i z hz
   cases hr
   rw [z60 hx,z60 hy]
   exact ⟨z,y0k hz t x y w,rfl⟩
  ·cases hr
 ·cases hr
theorem zjm (R:Rel I N σ e h a w) {neg:Bool} {t:TypeId} {x y:Operand} (ht:P.underlying t=some .bool) {av:AV} (hr:rdop (ev e) (res h) (.beq neg x y)=some av) :
  ∃ v,(do eqGuard (if neg then .neq else .eql) t x y (a.eval x) (a.eval y); binOp (if neg then .neq else .eql) t (a.eval x) (a.eval y):Sem Value).run P w = .ok v w∧Va I σ (bl w) av v:=by
 have hx:=zt R x
 have hy:=zt R y
 simp only [rdop] at hr
 split at hr
 ·rename_i u v hu hv
  rw [hu] at hx; rw [hv] at hy
  cases hr
  rw [z60 hx,z60 hy]
  refine ⟨_,?_,rfl⟩
  cases neg
  ·simp [eqGuard,binOp,Op.equal,Op.maxDepth,run_equalIn_bool' w 9999 t u v ht]
  ·simp [eqGuard,binOp,Op.equal,Op.maxDepth,run_equalIn_bool' w 9999 t u v ht]
   cases u <;> cases v <;> rfl
 ·cases hr
theorem zjt (R:Rel I N σ e h a w) {neg:Bool} {t:TypeId} {x y:Operand} {n:Nat} {pl:List (Nat×Nat)} (hg:P.eqGuardType P.depth t=false) (hp:z9k P 9 t 0=some pl) (hl:z76 P t=none) (hn:szT P t=some n)
  {av:AV} (hr:rdop (ev e) (res h) (.eqs neg n pl x y)=some av) :
  ∃ v,(do eqGuard (if neg then .neq else .eql) t x y (a.eval x) (a.eval y); binOp (if neg then .neq else .eql) t (a.eval x) (a.eval y):Sem Value).run P w = .ok v w∧Va I σ (bl w) av v:=by
 have hx:=zt R x
 have hy:=zt R y
 simp only [rdop] at hr
 split at hr
 ·rename_i X Y hu hv
  rw [hu] at hx; rw [hv] at hy
  split at hr
  ·rename_i hlen
   split at hr
   ·rename_i r hc
    cases hr
    obtain ⟨cx,hcx,vx⟩:=hx
    obtain ⟨cy,hcy,vy⟩:=hy
    have lx:=VaC.length _ _ vx
    have ly:=VaC.length _ _ vy
    have:=zhc (P:=P) (w:=w) X Y cx.toList cy.toList (fun i u hi=>VaC.sc X _ vx i u hi) (fun i u hi=>VaC.sc Y _ vy i u hi) 9 t 0 pl 9991 (.agg cx) (.agg cy) r n hp hn
     (by unfold z6z; rw [hl]; exact ⟨cx,rfl,fun n' hn' j _=>by simp⟩) (by unfold z6z; rw [hl]; exact ⟨cy,rfl,fun n' hn' j _=>by simp⟩)
     (fun j hj=>by rw [Nat.zero_add]; exact ⟨_,List.getElem?_eq_getElem (by omega)⟩) (fun j hj=>by rw [Nat.zero_add]; exact ⟨_,List.getElem?_eq_getElem (by omega)⟩) hc
    rw [hcx,hcy]
    refine ⟨_,?_,rfl⟩
    cases neg
    ·simp only [Bool.false_eq_true,if_false,Sem.run_bind,run_eqGuard_agg w _ t x y cx cy hg,Result.andThen_ok,run_eql_struct]
     rw [this]
     rfl
    ·simp only [if_true,Sem.run_bind,run_eqGuard_agg w _ t x y cx cy hg,Result.andThen_ok,run_neq_struct]
     rw [this]
     rfl
   ·cases hr
  ·cases hr
 ·cases hr
theorem zu9 (R:Rel I N σ e h a w) {t:TypeId} {x:Operand} {f:Nat} {fs:Array Field} {fd:Field} {n:Nat} {agg:Bool} (ht:P.underlying t=some (.struct fs)) (hf:fs[f]? = some fd) (hn:szT P fd.type=some n)
  (hb:z3s P fd.type=some agg) {av:AV} (hr:rdop (ev e) (res h) (.fld agg fd.offset n x)=some av):∃ v,(Instr.field t (a.eval x) f).run P w = .ok v w∧Va I σ (bl w) av v:=by
 have hx:=zt R x
 simp only [rdop] at hr
 split at hr
 ·rename_i cs hk
  rw [hk] at hx
  split at hr
  ·rename_i hle
   obtain ⟨c,hv,hc⟩:=hx
   have hp:=VaC.part cs _ fd.offset n hc
   obtain ⟨v,h1,h2⟩:=zl0 (P:=P) (w:=w) hb hn rfl (by rw [VaC.length _ _ hp,List.length_take,List.length_drop]; omega) hp hr
   refine ⟨v,?_,h2⟩
   rw [hv]
   simp only [Instr.field,Sem.run_bind,run_underlying ht,Result.andThen_ok,hf,asAgg,Sem.run_pure,h1]
  ·cases hr
 ·cases hr
theorem zy1 (R:Rel I N σ e h a w) {t el:TypeId} {x i:Operand} {len n:Nat} {agg:Bool} (ht:P.underlying t=some (.array len el)) (hn:szT P el=some n) (hb:z3s P el=some agg)
  {av:AV} (hr:rdop (ev e) (res h) (.ida agg len n x i)=some av):∃ v,(Instr.index t (a.eval x) (a.eval i)).run P w = .ok v w∧Va I σ (bl w) av v:=by
 have hx:=zt R x
 have hi:=zt R i
 simp only [rdop] at hr
 split at hr
 ·rename_i cs k m hk hm
  rw [hk] at hx; rw [hm] at hi
  split at hr
  ·rename_i hle
   obtain ⟨c,hv,hc⟩:=hx
   have hp:=VaC.part cs _ (m.toNat * n) n hc
   obtain ⟨v,h1,h2⟩:=zl0 (P:=P) (w:=w) hb hn rfl (by rw [VaC.length _ _ hp,List.length_take,List.length_drop]; omega) hp hr
   refine ⟨v,?_,h2⟩
   rw [hv,z7d hi]
   simp only [Instr.index,asIntOf,Sem.run_bind,Sem.run_pure,run_underlying ht,Result.andThen_ok,Sem.run_ite]
   rw [if_pos ⟨hle.1,hle.2.1⟩]
   simp only [Sem.run_bind,z1y hn,Result.andThen_ok,h1]
  ·cases hr
 ·cases hr
theorem zy2 (R:Rel I N σ e h a w) {t:TypeId} {x i:Operand} (ht:P.underlying t=some .string) {av:AV} (hr:rdop (ev e) (res h) (.ids x i)=some av) :
  ∃ v,(Instr.index t (a.eval x) (a.eval i)).run P w = .ok v w∧Va I σ (bl w) av v:=by
 have hx:=zt R x
 have hi:=zt R i
 simp only [rdop] at hr
 split at hr
 ·rename_i s k m hk hm
  rw [hk] at hx; rw [hm] at hi
  split at hr
  ·rename_i hle
   cases hr
   rw [z60 hx,z7d hi]
   have hlt:m.toNat<s.size:=by omega
   refine ⟨_,?_,rfl⟩
   simp only [Instr.index,asIntOf,Sem.run_bind,Sem.run_pure,run_underlying ht,Result.andThen_ok]
   rw [if_pos hle.1,getElem?_pos s m.toNat hlt]
   simp only [Sem.run_pure]
   congr 4
   obtain ⟨⟨l⟩⟩:=s
   simp only [List.getD_eq_getElem?_getD]
   have hlt':m.toNat<l.length:=hlt
   have:l[m.toNat]? = some l[m.toNat]:=List.getElem?_eq_getElem hlt'
   rw [this]
   rfl
  ·cases hr
 ·cases hr
theorem zy7 (R:Rel I N σ e h a w) {t el ty:TypeId} {x:Operand} (ht:P.underlying t=some (.slice el)) {av:AV} (hr:rdop (ev e) (res h) (.len x)=some av) :
  ∃ v,(Builtin.len_ #[t] ty #[a.eval x]).run P w = .ok v w∧Va I σ (bl w) av v:=by
 have hx:=zt R x
 have key:∀ A n c,(Builtin.len_ #[t] ty #[.slice A n c]).run P w = .ok (.int .i64 n) w:=by
  intro A n c
  simp [Builtin.len_,run_underlying ht,goInt]
 simp only [rdop] at hr
 split at hr
 ·rename_i k p off len hk
  rw [hk] at hx
  cases hr
  simp only [Va] at hx
  split at hx
  ·obtain ⟨rfl,_,A,hv⟩:=hx
   rw [hv]; exact ⟨_,key _ _ _,rfl⟩
  ·obtain ⟨A,c,hv,_⟩:=hx
   rw [hv]; exact ⟨_,key _ _ _,rfl⟩
 ·rename_i s xs hk
  rw [hk] at hx
  cases hr
  obtain ⟨A,c,hv,_⟩:=hx
  rw [hv]; exact ⟨_,key _ _ _,rfl⟩
 ·rename_i k cs hk
  rw [hk] at hx
  cases hr
  obtain ⟨L,A,c,hL,hv,_⟩:=hx
  rw [hv]; exact ⟨_,key _ _ _,rfl⟩
 ·rename_i hk
  rw [hk] at hx
  cases hr
  obtain ⟨A,hv⟩:=hx
  rw [hv]; exact ⟨_,key _ _ _,rfl⟩
 ·cases hr
theorem zso (R:Rel I N σ e h a w) {t ty:TypeId} {x:Operand} (ht:P.underlying t=some .string) {av:AV} (hr:rdop (ev e) (res h) (.lens x)=some av) :
  ∃ v,(Builtin.len_ #[t] ty #[a.eval x]).run P w = .ok v w∧Va I σ (bl w) av v:=by
 have hx:=zt R x
 simp only [rdop] at hr
 split at hr
 ·rename_i s hk
  rw [hk] at hx
  cases hr
  rw [z60 hx]
  exact ⟨_,by simp [Builtin.len_,run_underlying ht,goInt],rfl⟩
 ·cases hr
theorem CeE.drop {k:Nat} {p:Path} {s:Nat}:∀ (xs:Els) (i:Nat) (cs:List Value) (n:Nat),CeE I σ (bl w) k p i s xs cs→CeE I σ (bl w) k p (i+n) s (xs.drop n) (cs.drop (n * s))
 | [],_,_,n,_=>by simp [CeE]
 | x::xs,i,cs,0,h=>by simpa using h
 | x::xs,i,cs,n+1,h=>by
  have:=CeE.drop xs (i+1) _ n h.2.2
  rw [List.drop_drop,show s+n * s=(n+1) * s by rw [Nat.add_mul,Nat.one_mul,Nat.add_comm],show i+1+n=i+(n+1) by omega] at this
  exact this
theorem CeE.take {k:Nat} {p:Path} {s:Nat}:∀ (xs:Els) (i0:Nat) (cs:List Value) (n:Nat),CeE I σ (bl w) k p i0 s xs cs→CeE I σ (bl w) k p i0 s (xs.take n) cs
 | [],_,_,n,_=>by simp [CeE]
 | x::xs,_,_,0,_=>by simp [CeE]
 | x::xs,i0,cs,n+1,h=>⟨h.1,h.2.1,CeE.take xs (i0+1) _ n h.2.2⟩
theorem zh3 {s:Nat}:∀ (xs:Els) (ns:List Int) (cs:List Value),z3m xs=some ns→ImE I (bl w) 1 xs cs→ns.length=xs.length∧cs.take xs.length=ns.map (Value.int .u8)
 | [],_,cs,h,_=>by cases h; simp
 | x::xs,ns,cs,h,hE=>by
  unfold z3m at h
  split at h
  ·rename_i h0; cases h0
  ·rename_i n l h0
   cases h0
   split at h
   ·rename_i ms hm
    cases h
    obtain ⟨_,⟨v,cs',h1,⟨h2,_⟩,h3⟩,h4⟩:=hE
    obtain ⟨q1,q2⟩:=zh3 (s:=s) xs ms (cs.drop 1) hm h4
    subst h2
    cases cs with
    | nil=>simp at h1
    | cons c cs =>
     simp only [List.take_succ_cons,List.take_zero,List.cons.injEq] at h1
     obtain ⟨rfl,_⟩:=h1
     simp only [List.drop_succ_cons,List.drop_zero] at q2
     exact ⟨by simp [q1],by simp [q2]⟩
   ·cases h
  ·cases h
theorem zh2 {k s:Nat} {p:Path}:∀ (xs:Els) (ns:List Int) (i:Nat) (cs:List Value),z3m xs=some ns→CeE I σ (bl w) k p i 1 xs cs→ns.length=xs.length∧cs.take xs.length=ns.map (Value.int .u8)
 | [],_,_,cs,h,_=>by cases h; simp
 | x::xs,ns,i,cs,h,hE=>by
  unfold z3m at h
  split at h
  ·rename_i h0; cases h0
  ·rename_i n l h0
   cases h0
   split at h
   ·rename_i ms hm
    cases h
    obtain ⟨_,⟨v,cs',h1,⟨h2,_⟩,h3⟩,h4⟩:=hE
    obtain ⟨q1,q2⟩:=zh2 (s:=s) xs ms (i+1) (cs.drop 1) hm h4
    subst h2
    cases cs with
    | nil=>simp at h1
    | cons c cs =>
     simp only [List.take_succ_cons,List.take_zero,List.cons.injEq] at h1
     obtain ⟨rfl,_⟩:=h1
     simp only [List.drop_succ_cons,List.drop_zero] at q2
     exact ⟨by simp [q1],by simp [q2]⟩
   ·cases h
  ·cases h
theorem zth (R:Rel I N σ e h a w) {src dst el:TypeId} {x:Operand} (hs:P.underlying src=some (.slice el)) (hel:P.underlying el=some (.int .u8)) (hd:P.underlying dst=some .string) {av:AV} (hr:rdop (ev e) (res h) (.b2s x)=some av) :
  ∃ v,(convert src dst (a.eval x)).run P w = .ok v w∧Va I σ (bl w) av v:=by
 have hx:=zt R x
 have none_:∀ c,(Conv.bytesToString (.slice none 0 c)).run P w = .ok (.string (zv [])) w:=fun c=>rfl
 have zero:∀ A,a.eval x = .slice A 0 0→∃ v,(convert src dst (a.eval x)).run P w = .ok v w∧Va I σ (bl w) (.sc (.string (zv []))) v:=fun A hA=>by
  rw [hA,run_convert_bytes_string w src dst el A 0 0 hs hel hd]
  cases A with
  | none=>exact ⟨_,none_ 0,rfl⟩
  | some A =>
   refine ⟨_,run_bytesToString w A 0 0 [] ?_,rfl⟩
   simp [loadCells,loadCellsFrom]
 have some_:∀ (A:Addr) (len c:Nat) (ns:List Int),a.eval x = .slice (some A) len c→ns.length=len→(∀ j u,(ns.map (Value.int .u8))[j]? = some u→w.cell? (A.add j)=some u)→∃ v,(convert src dst (a.eval x)).run P w = .ok v w∧Va I σ (bl w) (.sc (.string (zv ns))) v:=fun A len c ns hA hl hc=>by
  rw [hA,run_convert_bytes_string w src dst el (some A) len c hs hel hd]
  have:=run_loadCells_list (P:=P) w A (ns.map (Value.int .u8)) hc
  rw [List.length_map,hl] at this
  exact ⟨_,run_bytesToString w A len c ns this,rfl⟩
 simp only [rdop] at hr
 split at hr
 ·rename_i k p off len hk
  rw [hk] at hx
  split at hr
  ·rename_i s ys hres
   split at hr
   ·rename_i hcond
    obtain ⟨rfl,hle⟩:=hcond
    split at hr
    ·rename_i ns hns
     cases hr
     obtain ⟨hp,_⟩:=R.heap.place hres
     unfold z2c at hp
     simp only [Va] at hx
     cases hL:σ k p with
     | none =>
      simp only [hL] at hp hx
      subst hp
      obtain ⟨rfl,rfl,A,hA⟩:=hx
      simp only [List.drop_nil,List.take_nil,z3m,Option.some.injEq] at hns
      subst hns
      exact zero A hA
     | some L =>
      simp only [hL] at hp hx
      obtain ⟨q1,q2,cur,E,q3,q4,q5⟩:=hp
      obtain ⟨A,c,hv,f1,f2,f3⟩:=hx
      have hlen:((ys.drop off).take len).length=len:=by rw [List.length_take,List.length_drop]; omega
      have hE:=CeE.take _ _ _ len (CeE.drop ys 0 _ off q5)
      obtain ⟨b1,b2⟩:=zh2 (s:=1) _ _ _ _ hns hE
      rw [hlen] at b1 b2
      by_cases h0:len=0
      ·subst h0
       have:ns=[]:=List.eq_nil_of_length_eq_zero b1
       subst this
       rw [hv]
       rw [run_convert_bytes_string w src dst el (some A) 0 c hs hel hd]
       refine ⟨_,run_bytesToString w A 0 c [] ?_,rfl⟩
       simp [loadCells,loadCellsFrom]
      ·have:=f3 (.inl (by omega))
       subst this
       refine some_ _ len c ns hv b1 fun j u hj=>?_
       rw [z2e,cell_of_row w L.b (off * L.s+j) cur E.t E.fr q3,q1,Nat.mul_one]
       rw [← b2,List.getElem?_take] at hj
       split at hj
       ·rw [List.getElem?_drop] at hj; simpa using hj
       ·cases hj
    ·cases hr
   ·cases hr
  ·cases hr
 ·rename_i s xs hk
  rw [hk] at hx
  split at hr
  ·rename_i hs1
   subst hs1
   split at hr
   ·rename_i ns hns
    cases hr
    obtain ⟨A0,c,hv,hc,hne⟩:=hx
    by_cases hz:xs=[]
    ·subst hz
     cases hns
     rw [hv,run_convert_bytes_string w src dst el A0 _ c hs hel hd]
     cases A0 with
     | none=>exact ⟨_,none_ c,rfl⟩
     | some A =>
      refine ⟨_,run_bytesToString w A 0 c [] ?_,rfl⟩
      simp [loadCells,loadCellsFrom]
    ·obtain ⟨A,cur,E,fr,rfl,hsp,hI,hB,hE⟩:=hne hz
     obtain ⟨b1,b2⟩:=zh3 (s:=1) _ _ _ hns hE
     obtain ⟨b,o,sp⟩:=A
     simp only at hsp hB hE b2
     subst hsp
     refine some_ _ xs.length c ns hv b1 fun j u hj=>?_
     rw [z2e,cell_of_row w b (o+j) cur E fr hB]
     rw [← b2,List.getElem?_take] at hj
     split at hj
     ·rw [List.getElem?_drop] at hj; simpa using hj
     ·cases hj
   ·cases hr
  ·cases hr
 ·rename_i hk
  rw [hk] at hx
  cases hr
  obtain ⟨A,hA⟩:=hx
  exact zero A hA
 ·cases hr
theorem zyu (R:Rel I N σ e h a w) {t:TypeId} {x:Operand} {lo hi:Option Operand} (ht:P.underlying t=some .string) {av:AV} (hr:rdop (ev e) (res h) (.sls x lo hi)=some av) :
  ∃ v,(Instr.sliceAt t (a.eval x) (lo.map a.eval) (hi.map a.eval) none).run P w = .ok v w∧Va I σ (bl w) av v:=by
 have hx:=zt R x
 simp only [rdop] at hr
 split at hr
 ·rename_i s hk
  rw [hk] at hx
  split at hr
  ·rename_i l hh hb
   cases hr
   obtain ⟨h1,h2,h3⟩:=zh1 (P:=P) (w:=w) (isSlice:=false) hb (Nat.le_refl _) (fun x=>zt R x) (.inr rfl)
   rw [z60 hx]
   refine ⟨_,?_,rfl⟩
   simp [Instr.sliceAt,Instr.slice,run_underlying ht,h1]
  ·cases hr
 ·cases hr
theorem zt0 (R:Rel I N σ e h a w) {t el:TypeId} {x:Operand} (ht:P.underlying t=some (.slice el)) {n:Nat} (hn:szT P el=some n) {av:AV} (hr:rdop (ev e) (res h) (.slc0 x)=some av) :
  ∃ v,(Instr.sliceAt t (a.eval x) none (some (.int .i64 0)) (some (.int .i64 0))).run P w = .ok v w∧Va I σ (bl w) av v:=by
 have hx:=zt R x
 have key:∀ A m c,(Instr.sliceAt t (.slice A m c) none (some (.int .i64 0)) (some (.int .i64 0))).run P w = .ok (.slice A 0 0) w:=by
  intro A m c
  simp [Instr.sliceAt,Instr.slice,run_underlying ht,Instr.sliceBounds,Instr.sliceBound,asIntOf,z1y hn]
 simp only [rdop] at hr
 split at hr
 ·rename_i k p off len hk
  rw [hk] at hx
  cases hr
  simp only [Va] at hx
  split at hx
  ·obtain ⟨_,_,A,hv⟩:=hx
   rw [hv]; exact ⟨_,key _ _ _,_,rfl⟩
  ·obtain ⟨A,c,hv,_⟩:=hx
   rw [hv]; exact ⟨_,key _ _ _,_,rfl⟩
 ·rename_i s xs hk
  rw [hk] at hx
  cases hr
  obtain ⟨A,c,hv,_⟩:=hx
  rw [hv]; exact ⟨_,key _ _ _,_,rfl⟩
 ·rename_i hk
  rw [hk] at hx
  cases hr
  obtain ⟨A,hv⟩:=hx
  rw [hv]; exact ⟨_,key _ _ _,_,rfl⟩
 ·cases hr
theorem znu (R:Rel I N σ e h a w) {isMax:Bool} {x y:Operand} {av:AV} (hr:rdop (ev e) (res h) (.mm isMax x y)=some av) (ts:Array TypeId) (ty:TypeId) :
  ∃ v,(if isMax then Builtin.max_ ts ty #[a.eval x,a.eval y] else Builtin.min_ ts ty #[a.eval x,a.eval y]).run P w = .ok v w∧Va I σ (bl w) av v:=by
 have hx:=zt R x
 have hy:=zt R y
 simp only [rdop] at hr
 split at hr
 ·rename_i k m k' n hu hv
  rw [hu] at hx; rw [hv] at hy
  split at hr
  ·rename_i hk
   subst hk
   cases hr
   rw [z7d hx,z7d hy]
   refine ⟨_,?_,rfl⟩
   cases isMax
   ·simp [Builtin.min_,Builtin.min2]
   ·simp [Builtin.max_,Builtin.max2]
  ·cases hr
 ·cases hr
end
section
variable {P:Program} {I:Nat→Prop} {N:Nat} [Dfs N] {σ:Pl} {w:World} {h:H} {e:Env} {a:Act}
theorem zdz {fs:Array Field}:∀ (ps:List (Nat×Operand)) (l:List (Nat×Nat×Operand)),z9c P fs ps=some l→ps.length=l.length ∧
  ∀ (j:Nat) (q:Nat×Operand) (q':Nat×Nat×Operand),ps[j]? = some q→l[j]? = some q'→(∃ f,fs[q.1]? = some f∧f.offset=q'.1∧szT P f.type=some q'.2.1)∧q.2=q'.2.2
 | [],l,h=>by simp only [z9c,Option.some.injEq] at h; subst h; exact ⟨rfl,fun j q q' h=>by simp at h⟩
 | (i,x)::ps,l,h=>by
  unfold z9c at h
  split at h
  ·rename_i f r hf hr
   split at h
   ·rename_i n hn
    cases h
    obtain ⟨h1,h2⟩:=zdz ps r hr
    refine ⟨by simp [h1],fun j q q' hq hq'=>?_⟩
    cases j with
    | zero =>
     simp only [List.getElem?_cons_zero,Option.some.injEq] at hq hq'
     subst hq hq'
     exact ⟨⟨f,hf,rfl,hn⟩,rfl⟩
    | succ j=>exact h2 j q q' (by simpa using hq) (by simpa using hq')
   ·cases h
  ·cases h
theorem zos {t:TypeId} {z:Value} (hz:z.cells.toList.all Value.oneCell'=true):VaC I σ (bl w) (z.cells.toList.map cval) z.cells.toList :=
 VaC.consts _ (fun v hv=>List.all_eq_true.1 hz v hv)
theorem za4 {t:TypeId} {z:Value} (h:(P.info? t).bind (·.zero)=some z):(zeroValue t).run P w = .ok z w:=by
 cases hi:P.info? t with
 | none=>simp [hi] at h
 | some i =>
  simp only [hi,Option.bind_some] at h
  simp [zeroValue,typeInfo,hi,h]
theorem zsv (fs:Array Field) (hsz:∀ f ∈ fs,∃ n,szT P f.type=some n):(fs.mapM fun f=>do pure (f.offset,← Go.sizeOf f.type):Sem (Array (Nat×Nat))).run P w = .ok (fs.map fun f=>(f.offset,P.cellsOf f.type)) w:=by
 rw [Array.mapM_eq_mapM_toList]
 have:∀ (l:List Field),(∀ f ∈ l,∃ n,szT P f.type=some n)→(l.mapM fun f=>do pure (f.offset,← Go.sizeOf f.type):Sem (List (Nat×Nat))).run P w = .ok (l.map fun f=>(f.offset,P.cellsOf f.type)) w:=by
  intro l
  induction l with
  | nil=>intro _; simp
  | cons f l ih =>
   intro hl
   obtain ⟨n,hn⟩:=hl f (by simp)
   have hn':P.cellsOf f.type=n:=by
    unfold szT at hn
    simp [Program.cellsOf,hn]
   simp only [List.mapM_cons,Sem.run_bind,z1y hn,Result.andThen_ok,Sem.run_pure,ih (fun f hf=>hl f (by simp [hf])),List.map_cons,hn']
 simp only [Sem.run_map,this fs.toList (fun f hf=>hsz f (by simpa using hf)),Result.andThen_ok]
 congr 1
 apply Array.ext'
 simp
theorem zm4 (R:Rel I N σ e h a w) {t:TypeId} {fs:Array Field} {parts:Array (Nat×Operand)} {z:Value} {l:List (Nat×Nat×Operand)} (ht:P.underlying t=some (.struct fs)) (hz:(P.info? t).bind (·.zero)=some z)
  (h1:z.cells.toList.all Value.oneCell'=true) (hsz:∀ f ∈ fs,∃ n,szT P f.type=some n) (hl:z9c P fs parts.toList=some l) {av:AV} (hr:rdop (ev e) (res h) (.build z.cells.toList l)=some av) :
  ∃ v,(Instr.build t (parts.map fun (i,x)=>(i,a.eval x))).run P w = .ok v w∧Va I σ (bl w) av v:=by
 simp only [rdop] at hr
 split at hr
 ·rename_i cs hc
  cases hr
  obtain ⟨hlen,hp⟩:=zdz _ _ hl
  obtain ⟨cells',q1,q2⟩:=zcc (w:=w) (fun i=>(fs.map fun f=>(f.offset,P.cellsOf f.type))[i]?) a.eval (ev e) (fun x=>zt R x) parts.toList l (z.cells.toList.map cval) z.cells cs hlen (fun j q q' hq hq'=>by
   obtain ⟨⟨f,hf,ho,hn⟩,hx⟩:=hp j q q' hq hq'
   refine ⟨?_,hx⟩
   have:P.cellsOf f.type=q'.2.1:=by unfold szT at hn; simp [Program.cellsOf,hn]
   simp [hf,ho,this]) (zos (t:=t) h1) hc
  refine ⟨.agg cells',?_,cells',rfl,q2⟩
  have e1:(parts.map fun (x:Nat×Operand)=>(x.1,a.eval x.2)).toList=parts.toList.map fun (x:Nat×Operand)=>(x.1,a.eval x.2):=by simp
  simp only [Instr.build,Sem.run_bind,za4 hz,run_underlying ht,Result.andThen_ok,zsv fs hsz,e1,q1,Sem.run_pure]
 ·cases hr
theorem zow (R:Rel I N σ e h a w) {t el:TypeId} {n len:Nat} {parts:Array (Nat×Operand)} {z:Value} (ht:P.underlying t=some (.array len el)) (hn:szT P el=some n) (hz:(P.info? t).bind (·.zero)=some z)
  (h1:z.cells.toList.all Value.oneCell'=true) {av:AV} (hr:rdop (ev e) (res h) (.build z.cells.toList (parts.toList.map fun (i,x)=>(i * n,n,x)))=some av) :
  ∃ v,(Instr.build t (parts.map fun (i,x)=>(i,a.eval x))).run P w = .ok v w∧Va I σ (bl w) av v:=by
 simp only [rdop] at hr
 split at hr
 ·rename_i cs hc
  cases hr
  obtain ⟨cells',q1,q2⟩:=zcc (w:=w) (fun i=>some (i * n,n)) a.eval (ev e) (fun x=>zt R x) parts.toList (parts.toList.map fun (i,x)=>(i * n,n,x)) (z.cells.toList.map cval) z.cells cs (by simp) (fun j q q' hq hq'=>by
   simp only [List.getElem?_map,hq,Option.map_some,Option.some.injEq] at hq'
   subst hq'
   exact ⟨rfl,rfl⟩) (zos (t:=t) h1) hc
  refine ⟨.agg cells',?_,cells',rfl,q2⟩
  have e1:(parts.map fun (x:Nat×Operand)=>(x.1,a.eval x.2)).toList=parts.toList.map fun (x:Nat×Operand)=>(x.1,a.eval x.2):=by simp
  simp only [Instr.build,Sem.run_bind,za4 hz,run_underlying ht,Result.andThen_ok,z1y hn,e1,q1,Sem.run_pure]
 ·cases hr
def zye (P:Program) (t:TypeId):Bool :=
 match P.underlying t,(P.info? t).bind (·.zero) with
 | some (.struct fs),some z=>z.cells.toList.all Value.oneCell' && fs.toList.all fun f=>(szT P f.type).isSome
 | some (.array _ _),some z=>z.cells.toList.all Value.oneCell'
 | _,_=>false
def zll (P:Program) (o:Oper):Option IB :=
 match o.op with
 | .build t _=>if zye P t then zh8 P o else none
 | _=>zh8 P o
theorem zgk (R:Rel I N σ e h a w) {o:Oper} {ib:IB} (hc:zll P o=some ib) {av:AV} (hr:rdop (ev e) (res h) ib=some av):∃ v,(execOp a.eval o).run P w = .ok (.value v) w∧Va I σ (bl w) av v:=by
 have fin:∀ {s:Sem Value},(∃ v,s.run P w = .ok v w∧Va I σ (bl w) av v)→∃ v,(do pure (Next.value (← s)):Sem Next).run P w = .ok (.value v) w∧Va I σ (bl w) av v:=by
  rintro s ⟨v,h1,h2⟩
  exact ⟨v,by simp only [Sem.run_bind,h1,Result.andThen_ok,Sem.run_pure],h2⟩
 unfold zll at hc
 split at hc
 ·
  rename_i t ps ho
  split at hc
  ·rename_i hok
   unfold zh8 at hc
   simp only [ho] at hc
   unfold zye at hok
   simp only [execOp,ho]
   apply fin
   split at hc
   ·rename_i fs z hu hz
    simp only [hu,hz,Bool.and_eq_true] at hok
    split at hc
    ·rename_i l hl
     cases hc
     exact zm4 R hu hz hok.1 (fun f hf=>by
      have:=List.all_eq_true.1 hok.2 f (by simpa using hf)
      exact Option.isSome_iff_exists.1 this) hl hr
    ·cases hc
   ·rename_i len el z hu hz
    simp only [hu,hz] at hok
    split at hc
    ·rename_i n hn
     cases hc
     exact zow R hu hn hz hok hr
    ·cases hc
   ·cases hc
  ·cases hc
 ·rename_i hno
  unfold zh8 at hc
  split at hc
  ·rename_i x ho; cases hc
   simp only [execOp,ho]
   have:=zt R x
   simp only [rdop] at hr
   rw [zbo hr] at this
   exact ⟨_,rfl,this⟩
  ·rename_i x ho; cases hc
   simp only [execOp,ho]
   have:=zt R x
   simp only [rdop] at hr
   rw [zbo hr] at this
   exact ⟨_,rfl,this⟩
  ·rename_i c x y ho; cases hc
   simp only [execOp,ho]
   have hc:=zt R c
   simp only [rdop] at hr
   split at hr
   ·rename_i t ht
    rw [ht] at hc
    rw [z60 hc]
    simp only [asBool,Sem.run_bind,Sem.run_pure,Result.andThen_ok]
    cases t
    ·have:=zt R y
     simp only [Bool.false_eq_true,if_false] at hr ⊢
     rw [zbo hr] at this
     exact ⟨_,rfl,this⟩
    ·have:=zt R x
     simp only [if_true] at hr ⊢
     rw [zbo hr] at this
     exact ⟨_,rfl,this⟩
   ·cases hr
  ·rename_i op t x y t' ho
   simp only [execOp,ho]
   apply fin
   split at hc
   ·cases hc; exact zjn R hr
   ·cases hc; exact zjn R hr
   ·rename_i hu
    split at hc
    ·cases hc; exact zjm (neg:=false) R hu hr
    ·cases hc; exact zjm (neg:=true) R hu hr
    ·cases hc
   ·rename_i fs hu
    have hl:z76 P t=none:=by simp [z76,hu]
    split at hc
    ·cases hc
    ·rename_i hg
     split at hc
     ·rename_i pl n hp hn; cases hc; exact zjt (neg:=false) R (by simpa using hg) hp hl hn hr
     ·rename_i pl n hp hn; cases hc; exact zjt (neg:=true) R (by simpa using hg) hp hl hn hr
     ·cases hc
   ·cases hc
  ·rename_i op t x ho; cases hc
   simp only [execOp,ho]
   apply fin
   have hx:=zt R x
   simp only [rdop] at hr
   split at hr
   ·rename_i b hb
    rw [hb] at hx; cases hr
    rw [z60 hx]
    exact ⟨_,rfl,rfl⟩
   ·rename_i k n hb
    rw [hb] at hx; cases hr
    rw [z60 hx]
    exact ⟨_,rfl,rfl⟩
   ·rename_i k n hb
    rw [hb] at hx; cases hr
    rw [z60 hx]
    exact ⟨_,rfl,rfl⟩
   ·cases hr
  ·rename_i src dst x ho
   simp only [execOp,ho]
   apply fin
   split at hc
   ·rename_i k1 k2 hu1 hu2
    cases hc
    have hx:=zt R x
    simp only [rdop] at hr
    split at hr
    ·rename_i k n hb
     rw [hb] at hx; cases hr
     rw [z60 hx]
     refine ⟨_,?_,rfl⟩
     simp [convert,run_underlying hu1,run_underlying hu2,Conv.intToInt]
    ·cases hr
   ·rename_i el hu1 hu2
    split at hc
    ·rename_i hel; cases hc; exact zth R hu1 hel hu2 hr
    ·cases hc
   ·cases hc
  ·rename_i s x f ho
   simp only [execOp,ho]
   apply fin
   split at hc
   ·rename_i fs hu
    split at hc
    ·rename_i fd hf
     split at hc
     ·rename_i n hn
      split at hc
      ·cases hc
      ·rename_i h0; cases hc; exact zu7 R hu hf hn h0 hr
     ·cases hc
    ·cases hc
   ·cases hc
  ·rename_i t x i ho
   simp only [execOp,ho]
   apply fin
   split at hc
   ·rename_i el hu
    split at hc
    ·rename_i n hn; cases hc; exact zy0 R hu hn hr
    ·cases hc
   ·rename_i len el hu
    split at hc
    ·rename_i n hn; cases hc; exact ztd R hu hn hr
    ·cases hc
   ·cases hc
  ·rename_i t x ho
   simp only [execOp,ho]
   apply fin
   split at hc
   ·rename_i b n hb hn; cases hc; exact zi7 R hb hn hr
   ·cases hc
  ·rename_i t x f ho
   simp only [execOp,ho]
   apply fin
   split at hc
   ·rename_i fs hu
    split at hc
    ·rename_i fd hf
     split at hc
     ·rename_i b n hb hn; cases hc; exact zu9 R hu hf hn hb hr
     ·cases hc
    ·cases hc
   ·cases hc
  ·rename_i t x i ho
   simp only [execOp,ho]
   apply fin
   split at hc
   ·rename_i hu; cases hc; exact zy2 R hu hr
   ·rename_i len el hu
    split at hc
    ·rename_i b n hb hn; cases hc; exact zy1 R hu hn hb hr
    ·cases hc
   ·cases hc
  ·rename_i args ts ho
   split at hc
   ·rename_i x t hx ht
    have e1:args = #[x]:=by apply Array.ext'; simpa using hx
    have e2:ts = #[t]:=by apply Array.ext'; simpa using ht
    subst e1 e2
    simp only [execOp,ho,resolve,invoke,builtin,Sem.run_bind,Sem.run_pure,Result.andThen_ok]
    have fin2:∀ {s:Sem Value},(∃ v,s.run P w = .ok v w∧Va I σ (bl w) av v)→∃ v,(s.run P w).andThen (fun a w'=>Result.ok (Next.value a) w') = .ok (.value v) w∧Va I σ (bl w) av v:=by
     rintro s ⟨v,h1,h2⟩
     exact ⟨v,by rw [h1]; rfl,h2⟩
    split at hc
    ·rename_i el hu; cases hc
     exact fin2 (by simpa using zy7 (ty:=o.type) R hu hr)
    ·rename_i hu; cases hc
     exact fin2 (by simpa using zso (ty:=o.type) R hu hr)
    ·cases hc
   ·cases hc
  ·rename_i args ts ho
   split at hc
   ·rename_i x y hx
    cases hc
    have e1:args = #[x,y]:=by apply Array.ext'; simpa using hx
    subst e1
    simp only [execOp,ho,resolve,invoke,builtin,Sem.run_bind,Sem.run_pure,Result.andThen_ok]
    obtain ⟨v,h1,h2⟩:=znu R hr ts o.type
    exact ⟨v,by simp at h1 ⊢; rw [h1]; rfl,h2⟩
   ·cases hc
  ·rename_i args ts ho
   split at hc
   ·rename_i x y hx
    cases hc
    have e1:args = #[x,y]:=by apply Array.ext'; simpa using hx
    subst e1
    simp only [execOp,ho,resolve,invoke,builtin,Sem.run_bind,Sem.run_pure,Result.andThen_ok]
    obtain ⟨v,h1,h2⟩:=znu R hr ts o.type
    exact ⟨v,by simp at h1 ⊢; rw [h1]; rfl,h2⟩
   ·cases hc
  ·rename_i x n ho; cases hc
   simp only [execOp,ho]
   apply fin
   have hx:=zt R x
   simp only [rdop] at hr
   split at hr
   ·rename_i vs hv
    rw [hv] at hx
    split at hr
    ·rename_i y hy
     obtain ⟨t,ht,hl⟩:=hx
     obtain ⟨v,h1,h2⟩:=VaL.get vs _ hl n y hy
     rw [zbo hr] at h2
     refine ⟨v,?_,h2⟩
     rw [ht]
     simp only [Array.getElem?_toList] at h1
     simp [Instr.extract,h1]
    ·cases hr
   ·cases hr
  ·rename_i x ho; cases hc
   simp only [execOp,ho]
   have hx:=zt R x
   simp only [rdop] at hr
   split at hr
   ·rename_i k p i c hk
    rw [hk] at hx; cases hr
    have hx':=hx
    obtain ⟨L,_,hv⟩:=hx'
    exact ⟨_,by rw [hv]; rfl,hv ▸ hx⟩
   ·rename_i s xs i c hk
    rw [hk] at hx; cases hr
    have hx':=hx
    obtain ⟨A,cur,E,fr,hv,_⟩:=hx'
    exact ⟨_,by rw [hv]; rfl,hv ▸ hx⟩
   ·rename_i b x c hk
    rw [hk] at hx; cases hr
    have hx':=hx
    obtain ⟨hv,_⟩:=hx'
    exact ⟨_,by rw [hv]; rfl,hv ▸ hx⟩
   ·rename_i f caps hk
    rw [hk] at hx; cases hr
    have hx':=hx
    obtain ⟨c,hv,_⟩:=hx'
    exact ⟨_,by rw [hv]; rfl,hv ▸ hx⟩
   ·cases hr
  ·rename_i t x lo hi mx ho
   simp only [execOp,ho]
   apply fin
   split at hc
   ·rename_i el hu
    split at hc
    ·rename_i n hn; cases hc; exact zys R hu hn hr
    ·cases hc
   ·rename_i el hu
    split at hc
    ·rename_i n hn; cases hc; exact zt0 R hu hn hr
    ·cases hc
   ·rename_i hu; cases hc; exact zyu R hu hr
   ·cases hc
  ·rename_i t ps ho; exact (hno _ _ ho).elim
  ·rename_i f first caps ho
   split at hc
   ·rename_i h0
    cases hc
    simp only [execOp,ho]
    apply fin
    simp only [rdop] at hr
    split at hr
    case isFalse=>cases hr
    cases hr
    refine ⟨_,rfl,caps.map a.eval,?_,?_⟩
    ·congr 1
     apply Array.ext'
     have:first = #[]:=Array.eq_empty_of_size_eq_zero h0
     simp [this]
    ·have:=VaL.map (I:=I) (σ:=σ) (B:=bl w) (ρ:=a.eval) (f:=ev e) (fun x=>zt R x) caps.toList
     simpa using this
   ·cases hc
  ·cases hc
end
def absC (h:H):AV→Option (AV×H)
 | .sc u=>if u.oneCell' then some (.sc u,h) else none
 | .zs=>some (.zs,h)
 | .im s xs=>some (.im s xs,h)
 | .pp (.xp b _ c)=>some (.sc (.pointer (some ⟨b,c,none⟩)),h)
 | .sl k p off len =>
  if p=[]∧off=0 then
   match za h k with
   | some r=>if len≤r.xs.length then some (.ow r.s (r.xs.take len),zd h k) else none
   | none=>none
  else none
 | _=>none
def absL:H→List AV→Option (List AV×H)
 | h,[]=>some ([],h)
 | h,a::as =>
  match absC h a with
  | some (a',h1) =>
   match absL h1 as with
   | some (as',h2)=>some (a'::as',h2)
   | none=>none
  | none=>none
def z43 (σ0:Pl) (d:Nat) (p0:Path) (τ:Path→Option Loc):Pl:=fun key q=>if key=d∧p0.isPrefixOf q=true then τ (q.drop p0.length) else σ0 key q
section
variable {P:Program} {I:Nat→Prop} {σ σ0:Pl} {B:zj} {w:World} {h:H} {e:Env} {a:Act}
theorem zck {d:Nat} {p0 q:Path} {τ:Path→Option Loc}:z43 σ0 d p0 τ d (p0++q)=τ q:=by
 unfold z43
 rw [if_pos ⟨rfl,List.isPrefixOf_iff_prefix.2 (List.prefix_append p0 q)⟩,List.drop_left]
theorem zcl {d:Nat} {p0:Path} {τ:Path→Option Loc}:z43 σ0 d p0 τ d p0=τ []:=by
 have:=zck (σ0:=σ0) (d:=d) (p0:=p0) (q:=[]) (τ:=τ)
 rwa [List.append_nil] at this
theorem zoz {d k:Nat} {p0 q:Path} {τ:Path→Option Loc} (h:k ≠ d):z43 σ0 d p0 τ k q=σ0 k q:=by
 unfold z43
 rw [if_neg (fun e=>h e.1)]
theorem zkn {d k:Nat} {p0 q:Path} {τ:Path→Option Loc} (h:¬ p0 <+: q):z43 σ0 d p0 τ k q=σ0 k q:=by
 unfold z43
 rw [if_neg (fun e=>h (List.isPrefixOf_iff_prefix.1 e.2))]
theorem zo3 {p q:Path} {i c i' c':Nat}:p++[(i,c)] <+: p++(i',c')::q↔(i,c)=(i',c'):=by
 constructor
 ·rintro ⟨t,ht⟩
  rw [List.append_assoc] at ht
  have:=List.append_cancel_left ht
  rw [List.singleton_append,List.cons.injEq] at this
  exact this.1
 ·rintro ⟨rfl,rfl⟩
  exact ⟨q,by simp⟩
theorem z6k {k:Nat} {p:Path}:∀ (xs:Els) (i0 n:Nat),(fpE σ k p i0 (xs.take n)).Sublist (fpE σ k p i0 xs)
 | [],_,n=>by simp
 | x::xs,_,0=>by simp [fpE]
 | x::xs,i0,n+1=>by
  simp only [List.take_succ_cons,fpE]
  exact List.Sublist.append (List.Sublist.refl _) (z6k xs (i0+1) n)
theorem zgv (hh:HRel I σ h w) {x x':AV} {v:Value} {h':H} (hv:Va I σ (bl w) x v) (ha:absC h x=some (x',h')) (d:Nat) (p:Path) (i c:Nat) (hd:d ∉ h.map Prod.fst) (σ0:Pl) :
  ∃ τ,Ce I (z43 σ0 d (p++[(i,c)]) τ) (bl w) d p i c x' v∧HRel I σ h' w∧(∀ k,k ∈ h'.map Prod.fst→k ∈ h.map Prod.fst)∧(∀ b ∈ fpH σ h',b ∈ fpH σ h) ∧
   (fpA (z43 σ0 d (p++[(i,c)]) τ) d p i c x').Nodup∧∀ b ∈ fpA (z43 σ0 d (p++[(i,c)]) τ) d p i c x',b ∈ fpH σ h∧b ∉ fpH σ h':=by
 unfold absC at ha
 split at ha
 ·rename_i u
  split at ha
  ·rename_i hu
   cases ha
   exact ⟨fun _=>none,⟨hv,hu⟩,hh,fun k hk=>hk,fun b hb=>hb,by simp [fpA],by simp [fpA]⟩
  ·cases ha
 ·cases ha
  exact ⟨fun _=>none,hv,hh,fun k hk=>hk,fun b hb=>hb,by simp [fpA],by simp [fpA]⟩
 ·cases ha
  exact ⟨fun _=>none,hv,hh,fun k hk=>hk,fun b hb=>hb,by simp [fpA],by simp [fpA]⟩
 ·cases ha
  exact ⟨fun _=>none,⟨hv.1,rfl⟩,hh,fun k hk=>hk,fun b hb=>hb,by simp [fpA],by simp [fpA]⟩
 ·rename_i k q off len
  split at ha
  ·rename_i hpo
   obtain ⟨rfl,rfl⟩:=hpo
   split at ha
   ·rename_i r hg
    split at ha
    ·rename_i hle
     cases ha
     obtain ⟨d1,d2,d3,d4,d5,d6⟩:=hh.del hg
     have hkeys:∀ k',k' ∈ (zd h k).map Prod.fst→k' ∈ h.map Prod.fst:=by
      intro k' hk'
      have:=(z3z hg).map Prod.fst
      exact this.mem_iff.2 (by simp only [List.map_cons]; exact List.mem_cons_of_mem _ hk')
     refine ⟨fun q=>σ k q,?_,d1,hkeys,d6,?_,?_⟩
     ·simp only [Ce]
      rw [zcl]
      unfold zr at d2
      simp only [Va] at hv
      cases hs:σ k [] with
      | none =>
       simp only [hs] at d2 hv ⊢
       rw [d2]
       exact ⟨by simp,hv.2.2⟩
      | some L =>
       simp only [hs] at d2 hv ⊢
       obtain ⟨e1,e2,cur,E,e3,e4,e5⟩:=d2
       obtain ⟨A,c',rfl,f1,f2,f3⟩:=hv
       have hA:=f3 (.inr trivial)
       subst hA
       have hlen:(r.xs.take len).length=len:=by rw [List.length_take]; omega
       refine ⟨e1,by omega,by rw [hlen,Nat.zero_mul,show c'=L.cap by omega],cur,E,e3,e4,?_⟩
       refine CeE.ren (σ:=σ) (k:=k) (p:=[]) 0 r.s (fun i' c' q=>?_) _ _ (CeE.take r.xs 0 _ len e5)
       rw [zck]; rfl
     ·have hfp:(fpA (z43 σ0 d (p++[(i,c)]) fun q=>σ k q) d p i c (.ow r.s (r.xs.take len))).Sublist (fpR σ k r):=by
       simp only [fpA]
       rw [zcl]
       unfold fpR
       cases hs:σ k [] with
       | none=>simp
       | some L =>
        simp only
        refine List.Sublist.cons_cons _ ?_
        rw [fpE.ren (σ:=σ) (k:=k) (p:=[]) 0 (fun i' c' q=>by rw [zck]; rfl)]
        exact z6k _ _ _
      exact hfp.nodup d4
     ·have hfp:(fpA (z43 σ0 d (p++[(i,c)]) fun q=>σ k q) d p i c (.ow r.s (r.xs.take len))).Sublist (fpR σ k r):=by
       simp only [fpA]
       rw [zcl]
       unfold fpR
       cases hs:σ k [] with
       | none=>simp
       | some L =>
        simp only
        refine List.Sublist.cons_cons _ ?_
        rw [fpE.ren (σ:=σ) (k:=k) (p:=[]) 0 (fun i' c' q=>by rw [zck]; rfl)]
        exact z6k _ _ _
      intro b hb
      have:=d5 b (hfp.subset hb)
      exact ⟨this.2,this.1⟩
    ·cases ha
   ·cases ha
  ·cases ha
 ·cases ha
theorem z8o:∀ (vs:List AV) (h:H) (cs:List Value) (vs':List AV) (h':H) (σ0:Pl) (d:Nat) (p:Path) (i c:Nat),HRel I σ h w→VaC I σ (bl w) vs cs→absL h vs=some (vs',h')→d ∉ h.map Prod.fst →
  ∃ σ',(∀ k q,k ≠ d→σ' k q=σ0 k q)∧(∀ q,(∀ c',c≤c'→c'<c+vs.length→¬ p++[(i,c')] <+: q)→σ' d q=σ0 d q)∧CeC I σ' (bl w) d p i c vs' cs∧HRel I σ h' w∧(∀ k,k ∈ h'.map Prod.fst→k ∈ h.map Prod.fst) ∧
   (∀ b ∈ fpH σ h',b ∈ fpH σ h)∧(fpC σ' d p i c vs').Nodup∧(∀ b ∈ fpC σ' d p i c vs',b ∈ fpH σ h∧b ∉ fpH σ h')∧vs'.length=vs.length
 | [],h,cs,vs',h',σ0,d,p,i,c,hh,hv,ha,hd=>by
  simp only [absL,Option.some.injEq,Prod.mk.injEq] at ha
  obtain ⟨rfl,rfl⟩:=ha
  exact ⟨σ0,fun _ _ _=>rfl,fun _ _=>rfl,hv,hh,fun k hk=>hk,fun b hb=>hb,by simp [fpC],by simp [fpC],rfl⟩
 | x::vs,h,cs,vs',h',σ0,d,p,i,c,hh,hv,ha,hd=>by
  unfold absL at ha
  split at ha
  ·rename_i x' h1 hx
   split at ha
   ·rename_i vs1 h2 hvs
    cases ha
    obtain ⟨v,cs',rfl,_,hv1,hv2⟩:=hv
    obtain ⟨τ0,_,q2,q3,q4,_,q6⟩:=zgv hh hv1 hx d p i c hd σ0
    obtain ⟨σ1,s1,s2,s3,s4,s5,s6,s7,s8,s9⟩:=z8o vs h1 cs' vs1 _ σ0 d p i (c+1) q2 hv2 hvs (fun hm=>hd (q3 d hm))
    obtain ⟨τ,t1,t2,t3,t4,t5,t6⟩:=zgv hh hv1 hx d p i c hd σ1
    have hoff:∀ c' q,c+1≤c'→z43 σ1 d (p++[(i,c)]) τ d (p++(i,c')::q)=σ1 d (p++(i,c')::q):=fun c' q hc=>zkn (fun hp=>by
     have:=zo3.1 hp
     simp only [Prod.mk.injEq,true_and] at this
     omega)
    have hC:∀ (l:List AV) (c1:Nat) (us:List Value),c+1≤c1→CeC I σ1 (bl w) d p i c1 l us→CeC I (z43 σ1 d (p++[(i,c)]) τ) (bl w) d p i c1 l us:=by
     intro l
     induction l with
     | nil=>intro _ _ _ h; exact h
     | cons y l ih =>
      intro c1 us hc1 h
      obtain ⟨v,us',rfl,h1,h2⟩:=h
      exact ⟨v,us',rfl,Ce.ren (fun q=>hoff c1 q hc1) y v h1,ih (c1+1) us' (by omega) h2⟩
    have hF:∀ (l:List AV) (c1:Nat),c+1≤c1→fpC (z43 σ1 d (p++[(i,c)]) τ) d p i c1 l=fpC σ1 d p i c1 l:=by
     intro l
     induction l with
     | nil=>intro _ _; rfl
     | cons y l ih=>intro c1 hc1; simp only [fpC]; rw [fpA.ren (fun q=>hoff c1 q hc1) y,ih (c1+1) (by omega)]
    refine ⟨z43 σ1 d (p++[(i,c)]) τ,?_,?_,⟨v,cs',rfl,t1,hC _ _ _ (by omega) s3⟩,s4,fun k hk=>q3 k (s5 k hk),fun b hb=>q4 b (s6 b hb),?_,?_,by simp [s9]⟩
    ·intro k q hk
     rw [zoz hk,s1 k q hk]
    ·intro q hq
     rw [zkn (hq c (by omega) (by simp)),s2 q (fun c' g1 g2=>hq c' (by omega) (by simp only [List.length_cons]; omega))]
    ·simp only [fpC]
     rw [hF _ _ (by omega),List.nodup_append]
     refine ⟨t5,s7,fun b hb b' hb' e=>?_⟩
     subst e
     exact (t6 b hb).2 (s8 b hb').1
    ·intro b hb
     simp only [fpC,List.mem_append] at hb
     rw [hF _ _ (by omega)] at hb
     rcases hb with hb | hb
     ·exact ⟨(t6 b hb).1,fun hm=>(t6 b hb).2 (s6 b hm)⟩
     ·exact ⟨q4 b (s8 b hb).1,(s8 b hb).2⟩
   ·cases ha
  ·cases ha
end
def absE:H→Els→Option (Els×H)
 | h,[]=>some ([],h)
 | h,x::xs =>
  match absL h x with
  | some (x',h1) =>
   match absE h1 xs with
   | some (xs',h2)=>some (x'::xs',h2)
   | none=>none
  | none=>none
def upd (e:Env) (d:Nat) (x:AV):Env:=fun t=>if t=d then x else e t
def z1i (bad:Nat→Path→Bool) (e:Env):Env:=fun t=>kill bad (e t)
section
variable {P:Program} {I:Nat→Prop} {N:Nat} [Dfs N] {σ σ' σ0:Pl} {B:zj} {w w':World} {h h':H} {e:Env} {a:Act}
theorem y0h {p q:Path} {i c i' c':Nat} (hne:i ≠ i'):¬ p++[(i,c)] <+: p++(i',c')::q:=fun h=>by
 have:=zo3.1 h
 simp only [Prod.mk.injEq] at this
 exact hne this.1
theorem zgx {s:Nat}:∀ (xs:Els) (h:H) (cs:List Value) (xs':Els) (h':H) (σ0:Pl) (d:Nat) (p:Path) (i:Nat),HRel I σ h w→VaC I σ (bl w) xs.flatten cs→(∀ x ∈ xs,x.length=s)→absE h xs=some (xs',h')→d ∉ h.map Prod.fst →
  ∃ σ',(∀ k q,k ≠ d→σ' k q=σ0 k q)∧(∀ q,(∀ i' c',i≤i'→¬ p++[(i',c')] <+: q)→σ' d q=σ0 d q)∧CeE I σ' (bl w) d p i s xs' cs∧HRel I σ h' w∧(∀ k,k ∈ h'.map Prod.fst→k ∈ h.map Prod.fst) ∧
   (∀ b ∈ fpH σ h',b ∈ fpH σ h)∧(fpE σ' d p i xs').Nodup∧(∀ b ∈ fpE σ' d p i xs',b ∈ fpH σ h∧b ∉ fpH σ h')∧xs'.length=xs.length
 | [],h,cs,xs',h',σ0,d,p,i,hh,hv,_,ha,hd=>by
  simp only [absE,Option.some.injEq,Prod.mk.injEq] at ha
  obtain ⟨rfl,rfl⟩:=ha
  exact ⟨σ0,fun _ _ _=>rfl,fun _ _=>rfl,trivial,hh,fun k hk=>hk,fun b hb=>hb,by simp [fpE],by simp [fpE],rfl⟩
 | x::xs,h,cs,xs',h',σ0,d,p,i,hh,hv,hs,ha,hd=>by
  unfold absE at ha
  split at ha
  ·rename_i x' h1 hx
   split at ha
   ·rename_i xs1 h2 hxs
    cases ha
    have hxl:=hs x (by simp)
    rw [List.flatten_cons] at hv
    have hv1:=VaC.part _ _ 0 s hv
    have hv2:=VaC.part _ _ s (x.length+xs.flatten.length) hv
    have hl:=VaC.length _ _ hv
    rw [List.length_append] at hl
    simp only [List.drop_zero] at hv1
    rw [List.take_append_of_le_length (by omega),List.take_of_length_le (by omega)] at hv1
    rw [List.drop_append_of_le_length (by omega),List.drop_of_length_le (by omega),List.nil_append,List.take_of_length_le (by omega),List.take_of_length_le (by rw [List.length_drop]; omega)] at hv2
    obtain ⟨σa,_,_,_,q4,q5,q6,_,q8,q9⟩:=z8o x h (cs.take s) x' h1 σ0 d p i 0 hh hv1 hx hd
    obtain ⟨σ1,s1,s2,s3,s4,s5,s6,s7,s8,s9⟩:=zgx xs h1 (cs.drop s) xs1 _ σ0 d p (i+1) q4 hv2 (fun y hy=>hs y (by simp [hy])) hxs (fun hm=>hd (q5 d hm))
    obtain ⟨σ2,t1,t2,t3,t4,t5,t6,t7,t8,t9⟩:=z8o x h (cs.take s) x' h1 σ1 d p i 0 hh hv1 hx hd
    have hoff:∀ i' c' q,i+1≤i'→σ2 d (p++(i',c')::q)=σ1 d (p++(i',c')::q):=fun i' c' q hi=>t2 _ (fun c'' _ _=>y0h (by omega))
    have hE:∀ (l:Els) (i1:Nat) (us:List Value),i+1≤i1→CeE I σ1 (bl w) d p i1 s l us→CeE I σ2 (bl w) d p i1 s l us:=by
     intro l
     induction l with
     | nil=>intro _ _ _ _; trivial
     | cons y l ih=>intro i1 us hi1 h; exact ⟨h.1,CeC.ren 0 (fun c' q=>hoff i1 c' q hi1) y _ h.2.1,ih (i1+1) _ (by omega) h.2.2⟩
    have hF:∀ (l:Els) (i1:Nat),i+1≤i1→fpE σ2 d p i1 l=fpE σ1 d p i1 l:=by
     intro l
     induction l with
     | nil=>intro _ _; rfl
     | cons y l ih=>intro i1 hi1; simp only [fpE]; rw [fpC.ren 0 (fun c' q=>hoff i1 c' q hi1) y,ih (i1+1) (by omega)]
    refine ⟨σ2,?_,?_,⟨by omega,t3,hE _ _ _ (by omega) s3⟩,s4,fun k hk=>q5 k (s5 k hk),fun b hb=>q6 b (s6 b hb),?_,?_,by simp [s9]⟩
    ·intro k q hk
     rw [t1 k q hk,s1 k q hk]
    ·intro q hq
     rw [t2 q (fun c' _ _=>hq i c' (by omega)),s2 q (fun i' c' hi=>hq i' c' (by omega))]
    ·simp only [fpE]
     rw [hF _ _ (by omega),List.nodup_append]
     refine ⟨t7,s7,fun b hb b' hb' e=>?_⟩
     subst e
     exact (t8 b hb).2 (s8 b hb').1
    ·intro b hb
     simp only [fpE,List.mem_append] at hb
     rw [hF _ _ (by omega)] at hb
     rcases hb with hb | hb
     ·exact ⟨(t8 b hb).1,fun hm=>(t8 b hb).2 (s6 b hm)⟩
     ·exact ⟨q6 b (s8 b hb).1,(s8 b hb).2⟩
   ·cases ha
  ·cases ha
theorem z4m (hh:HRel I σ h w) (d:Nat):HRel I σ (zd h d) w∧d ∉ (zd h d).map Prod.fst∧(∀ b ∈ fpH σ (zd h d),b ∈ fpH σ h)∧(∀ k ∈ (zd h d).map Prod.fst,k ∈ h.map Prod.fst):=by
 cases hg:za h d with
 | some r =>
  obtain ⟨d1,_,d3,_,_,d6⟩:=hh.del hg
  exact ⟨d1,d3,d6,fun k' hk'=>by
   have:=(z3z hg).map Prod.fst
   exact this.mem_iff.2 (by simp only [List.map_cons]; exact List.mem_cons_of_mem _ hk')⟩
 | none =>
  have:∀ (h:H),za h d=none→zd h d=h∧d ∉ h.map Prod.fst:=by
   intro h
   induction h with
   | nil=>intro _; exact ⟨rfl,by simp⟩
   | cons x h ih =>
    obtain ⟨k',r'⟩:=x
    intro hg
    simp only [za] at hg
    by_cases e:k'=d
    ·rw [if_pos e] at hg; cases hg
    ·rw [if_neg e] at hg
     obtain ⟨h1,h2⟩:=ih hg
     refine ⟨by simp [zd,e,h1],?_⟩
     simp only [List.map_cons,List.mem_cons,not_or]
     exact ⟨fun h=>e h.symm,h2⟩
  obtain ⟨h1,h2⟩:=this h hg
  rw [h1]
  exact ⟨hh,h2,fun b hb=>hb,fun k hk=>hk⟩
theorem Act.getD_put {a:Act} {d t:Nat} {v:Value} (hd:d<a.tmps.size):(a.put (some d) v).tmps.getD t undef=if t=d then v else a.tmps.getD t undef:=by
 simp only [Act.put]
 by_cases h:t=d
 ·subst h
  simp [hd]
 ·rw [if_neg h]
  simp only [Array.getD_eq_getD_getElem?]
  rw [Array.getElem?_setIfInBounds_ne (Ne.symm h)]
theorem Act.size_put {a:Act} {d:Option Nat} {v:Value}:(a.put d v).tmps.size=a.tmps.size:=by
 cases d <;> simp [Act.put]
theorem Act.defers_put {a:Act} {d:Option Nat} {v:Value}:(a.put d v).defers=a.defers:=by
 cases d <;> simp [Act.put]
theorem Rel.put (hh:HRel I σ' h' w') (hs:N≤a.tmps.size) (hv:∀ t,Va I σ' (bl w') (e t) (a.tmps.getD t undef)) (hd:a.defers=Dfs.ds N) {d:Nat} (hdN:d<N) {x:AV} {v:Value} (hx:Va I σ' (bl w') x v) :
  Rel I N σ' (upd e d x) h' (a.put (some d) v) w':=by
 refine ⟨hh,by rw [Act.size_put]; exact hs,fun t=>?_,by rw [Act.defers_put]; exact hd⟩
 rw [Act.getD_put (by omega)]
 unfold upd
 split
 ·exact hx
 ·exact hv t
theorem z5a (w:World) (o:Obj) (b:Nat) (hb:b<w.heap.size):bl (w.alloc o) b=bl w b:=heap_alloc_old w o b hb
theorem zib (R:Rel I N σ e h a w) {d:Nat} (hdN:d<N) {s cap:Nat} {xs xs':Els} {cur:Array Value} {E:TypeId} (w1:World) (hw1:w1.heap=w.heap) (hv:VaC I σ (bl w) xs.flatten (cur.toList.take (xs.length * s))) (hs:∀ x ∈ xs,x.length=s) (hcap:cur.size=cap * s) (hle:xs.length≤cap)
  (ha:absE (zd h d) xs=some (xs',h')) (fr:Nat×Nat:=(0,0)) (hfr:fr.1=fr.2∨cur.size≤fr.1:=by exact .inl rfl) :
  ∃ σ',HRel I σ' ((d,⟨s,xs'⟩)::h') (w1.alloc (.cells cur E fr))∧(∀ t,Va I σ' (bl (w1.alloc (.cells cur E fr))) (z1i (fun k _=>k==d) e t) (a.tmps.getD t undef))∧σ' d []=some ⟨w.heap.size,cap,s⟩∧xs'.length=xs.length ∧
   (∀ k p,k ≠ d→σ' k p=σ k p)∧(∀ b,b ∈ fpH σ' ((d,⟨s,xs'⟩)::h')→b ∈ fpH σ h∨b=w.heap.size):=by
 obtain ⟨q1,q2,q3,q4⟩:=z4m R.heap d
 have hB:∀ b,b<w.heap.size→bl (w1.alloc (.cells cur E fr)) b=bl w b:=fun b hb=>by
  rw [z5a _ _ _ (by rw [hw1]; exact hb)]
  unfold bl; rw [hw1]
 have hI:∀ b,I b→bl (w1.alloc (.cells cur E fr)) b=bl w b:=fun b hb=>hB b (R.heap.low b hb)
 obtain ⟨σ1,s1,s2,s3,s4,s5,s6,s7,s8,s9⟩:=zgx (s:=s) xs (zd h d) _ xs' h' (fun k p=>if k=d∧p=[] then some ⟨w.heap.size,cap,s⟩ else σ k p) d [] 0 q1 hv hs ha q2
 have hd0:σ1 d []=some ⟨w.heap.size,cap,s⟩:=by
  rw [s2 [] (fun i' c' _ h=>by simp at h)]
  simp
 have hne:∀ k p,k ≠ d→σ1 k p=σ k p:=fun k p hk=>by rw [s1 k p hk]; simp [hk]
 have hnew:bl (w1.alloc (.cells cur E fr)) w.heap.size=some (.cells cur E fr):=by
  have:=heap_alloc_new w1 (.cells cur E fr)
  rw [hw1] at this
  exact this
 have hsz:(w1.alloc (.cells cur E fr)).heap.size=w.heap.size+1:=by rw [World.size_alloc,hw1]
 refine ⟨σ1,?_,?_,hd0,s9,hne,?_⟩
 ·refine HRel.add (σ:=σ) (w:=w) s4 (fun hm=>q2 (s5 d hm)) (fun k hk q=>hne k q hk) (fun b hb _=>hB b hb) (by omega) ?_ ?_ ?_
  ·unfold zr
   simp only [hd0]
   refine ⟨trivial,by omega,cur,⟨E,fr,hfr⟩,hnew,hcap,?_⟩
   have h1:CeE I σ1 (bl (w1.alloc (.cells cur E fr))) d [] 0 s xs' (cur.toList.take (xs.length * s)) :=
    CeE.mono hI d [] 0 s xs' _ (fun b hb=>hB b (q1.apart b (s8 b hb).1).2) s3
   have ext:∀ (l:Els) (i:Nat) (us vs:List Value),CeE I σ1 (bl (w1.alloc (.cells cur E fr))) d [] i s l us→us <+: vs→CeE I σ1 (bl (w1.alloc (.cells cur E fr))) d [] i s l vs:=by
    intro l
    induction l with
    | nil=>intro _ _ _ _ _; trivial
    | cons y l ih =>
     rintro i us vs h ⟨ws,rfl⟩
     have hlen:=CeC.length y 0 _ h.2.1
     have:s≤us.length:=by rw [List.length_take,h.1] at hlen; omega
     refine ⟨h.1,?_,ih (i+1) _ _ h.2.2 ⟨ws,?_⟩⟩
     ·rw [List.take_append_of_le_length this]; exact h.2.1
     ·rw [List.drop_append_of_le_length this]
   exact ext _ _ _ _ h1 (List.take_prefix _ _)
  ·unfold fpR
   simp only [hd0,List.nodup_cons]
   refine ⟨fun hm=>?_,s7⟩
   have:=(q1.apart _ (s8 _ hm).1).2
   omega
  ·intro b hb
   unfold fpR at hb
   simp only [hd0,List.mem_cons] at hb
   rcases hb with rfl | hb
   ·refine ⟨fun hm=>?_,fun hI'=>?_,by omega⟩
    ·have:=(s4.apart _ hm).2; omega
    ·have:=R.heap.low _ hI'; omega
   ·have:=s8 b hb
    exact ⟨this.2,(q1.apart b this.1).1,by have:=(q1.apart b this.1).2; omega⟩
 ·intro t
  have:=Va.kill (σ':=σ1) (bad:=fun k _=>k==d) (fun k p hb=>hne k p (by simpa using hb)) (e t) _ (R.vals t)
  exact Va.mono hI _ _ this
 ·intro b hb
  rw [z1h,List.mem_append] at hb
  rcases hb with hb | hb
  ·unfold fpR at hb
   simp only [hd0,List.mem_cons] at hb
   rcases hb with rfl | hb
   ·exact .inr rfl
   ·exact .inl (q3 b (s8 b hb).1)
  ·rw [fpH.ren h' (fun k hk q=>hne k q (fun e=>q2 (e ▸ s5 k hk)))] at hb
   exact .inl (q3 b (s6 b hb))
theorem Le.alloc (w:World) (o:Obj):Le w (w.alloc o):=⟨by rw [World.size_alloc]; omega,rfl,rfl,rfl⟩
theorem Le.drewAlloc (w:World) (o:Obj):Le w (w.drew.alloc o):=⟨by rw [World.size_alloc]; exact Nat.le_succ _,rfl,rfl,rfl⟩
end
def z3q (s:Nat):Nat→List AV→Els
 | 0,_=>[]
 | n+1,l=>l.take s::z3q s n (l.drop s)
def z7i:AV→Bool
 | .sc u=>u.oneCell'
 | .zs=>true
 | _=>false
def mkop (e:Operand→AV) (h:H) (d:Nat):IB→Option (AV×H)
 | .box s x =>
  match cellsOf (e x) with
  | some cs =>
   if cs.length=s then
    match absE (zd h d) [cs] with
    | some (xs',h')=>some (.pt d [] 0 0,(d,⟨s,xs'⟩)::h')
    | none=>none
   else none
  | none=>none
 | .bsl s len zero parts =>
  match z4u (List.replicate len (zero.map cval)).flatten (parts.map fun (i,x)=>(i * s,s,e x)) with
  | some cs =>
   match absE (zd h d) (z3q s len cs) with
   | some (xs',h')=>some (.sl d [] 0 len,(d,⟨s,xs'⟩)::h')
   | none=>none
  | none=>none
 | .mks s bytes zero l =>
  match e l with
  | .sc (.int _ n)=>if 0≤n∧n * bytes≤140737488355328 then some (.sl d [] 0 n.toNat,(d,⟨s,List.replicate n.toNat (zero.map cval)⟩)::zd h d) else none
  | _=>none
 | _=>none
def zh7 (P:Program) (o:Oper):Option IB :=
 match o.op with
 | .box t x=>match szT P t with | some n=>some (.box n x) | none=>none
 | .alloc t=>match szT P t,(P.info? t).bind (·.zero) with | some n,some z=>some (.box n (.const z)) | _,_=>none
 | .buildSlice t len parts =>
  match P.underlying t with
  | some (.slice el) =>
   match szT P el,(P.info? el).bind (·.zero) with
   | some n,some z=>if len * n≤2 ^ 24∧z.cells.size=n∧0<n∧z.cells.toList.all Value.oneCell'=true then some (.bsl n len z.cells.toList parts.toList) else none
   | _,_=>none
  | _=>none
 | .makeSlice t (.tmp l) (.tmp c) =>
  match P.underlying t with
  | some (.slice el) =>
   match P.info? el with
   | some i =>
    match i.zero with
    | some z=>if l=c∧z.cells.size=i.size∧0<i.size∧0<i.bytes∧z.cells.toList.all Value.oneCell'=true∧(z.cells.toList.map cval).all z7i=true then some (.mks i.size i.bytes z.cells.toList (.tmp l)) else none
    | none=>none
   | none=>none
  | _=>none
 | .makeSlice t (.const (.int .i64 l)) (.const (.int .i64 c)) =>
  match P.underlying t with
  | some (.slice el) =>
   match P.info? el with
   | some i =>
    match i.zero with
    | some z=>if l=c∧z.cells.size=i.size∧0<i.size∧0<i.bytes∧z.cells.toList.all Value.oneCell'=true∧(z.cells.toList.map cval).all z7i=true then some (.mks i.size i.bytes z.cells.toList (.const (.int .i64 l))) else none
    | none=>none
   | none=>none
  | _=>none
 | _=>none
section
variable {P:Program} {I:Nat→Prop} {N:Nat} [Dfs N] {σ:Pl} {w:World} {h h':H} {e:Env} {a:Act}
structure Made (P:Program) (I:Nat→Prop) (N:Nat) [Dfs N] (σ:Pl) (e:Env) (h:H) (a:Act) (w:World) (o:Oper) (d:Nat) (av:AV) (h':H):Prop where
 run:∃ v w' σ',(execOp a.eval o).run P w = .ok (.value v) w'∧Rel I N σ' (upd (z1i (fun k _=>k==d) e) d av) h' (a.put (some d) v) w'∧Le w w' ∧
  (∀ b,b<w.heap.size→bl w' b=bl w b)∧(∀ b ∈ fpH σ' h',b ∈ fpH σ h∨w.heap.size≤b)∧(∀ k p,k ≠ d→σ' k p=σ k p)
theorem zfq {s:Nat}:∀ (n:Nat) (l:List AV),(z3q s n l).flatten=l.take (n * s)
 | 0,l=>by simp [z3q]
 | n+1,l=>by
  rw [z3q,List.flatten_cons,zfq n,show (n+1) * s=s+n * s by rw [Nat.add_mul,Nat.one_mul,Nat.add_comm],List.take_add]
theorem zh6 {s:Nat}:∀ (n:Nat) (l:List AV),n * s≤l.length→∀ x ∈ z3q s n l,x.length=s
 | 0,_,_,x,hx=>by simp [z3q] at hx
 | n+1,l,h,x,hx=>by
  rw [show (n+1) * s=s+n * s by rw [Nat.add_mul,Nat.one_mul,Nat.add_comm]] at h
  simp only [z3q,List.mem_cons] at hx
  rcases hx with rfl | hx
  ·rw [List.length_take]; omega
  ·exact zh6 n _ (by rw [List.length_drop]; omega) x hx
theorem z8i {s:Nat}:∀ (n:Nat) (l:List AV),(z3q s n l).length=n
 | 0,_=>rfl
 | n+1,l=>by simp [z3q,z8i n]
theorem y4e (t:TypeId) (v:Value):(Instr.box t v).run P w = .ok (.pointer (some ⟨w.heap.size,0,none⟩)) (w.alloc (.cells v.cells t)):=by
 rfl
theorem zm3 (R:Rel I N σ e h a w) {o:Oper} {d:Nat} (hd:d<N) {t:TypeId} {v:Value} {x:AV} (hv:Va I σ (bl w) x v) {cs:List AV} (hcs:cellsOf x=some cs) {xs':Els}
  (ha:absE (zd h d) [cs]=some (xs',h')) (hex:(execOp a.eval o).run P w = .ok (.value (.pointer (some ⟨w.heap.size,0,none⟩))) (w.alloc (.cells v.cells t))) :
  Made P I N σ e h a w o d (.pt d [] 0 0) ((d,⟨cs.length,xs'⟩)::h'):=by
 have hva:=zc2 hcs hv
 have hlen:=VaC.length _ _ hva
 simp only [Array.length_toList] at hlen
 obtain ⟨σ',q1,q2,q3,q4,q5,q6⟩:=zib (s:=cs.length) (cap:=1) (xs:=[cs]) (cur:=v.cells) (E:=t) R hd w rfl (by
  simp only [List.flatten_cons,List.flatten_nil,List.append_nil,List.length_singleton,Nat.one_mul]
  rw [List.take_of_length_le (by simp; omega)]; exact hva) (by simp) (by omega) (by simp) ha
 refine ⟨_,_,σ',hex,Rel.put q1 R.size q2 R.defers hd ⟨_,q3,by simp⟩,Le.alloc _ _,fun b hb=>z5a _ _ _ hb,fun b hb=>?_,q5⟩
 rcases q6 b hb with hb | hb
 ·exact .inl hb
 ·exact .inr (by omega)
theorem zrz {x:AV} (hc:z7i x=true) (h:H):absC h x=some (x,h):=by
 cases x <;> simp_all [z7i,absC]
theorem zgy:∀ (l:List AV) (h:H),l.all z7i=true→absL h l=some (l,h)
 | [],h,_=>rfl
 | x::l,h,hc=>by
  simp only [List.all_cons,Bool.and_eq_true] at hc
  unfold absL
  rw [zrz hc.1 h]
  simp only
  rw [zgy l h hc.2]
theorem zgw (l:List AV) (hc:l.all z7i=true):∀ (n:Nat) (h:H),absE h (List.replicate n l)=some (List.replicate n l,h)
 | 0,h=>rfl
 | n+1,h=>by
  rw [List.replicate_succ]
  unfold absE
  rw [zgy l h hc]
  simp only
  rw [zgw l hc n h]
theorem zcz (z:Array Value) (s:Nat) (hz:z.size=s):∀ (n:Nat),((Array.range (n * s)).map (z[· % z.size]!)).toList=(List.replicate n z.toList).flatten:=by
 intro n
 rw [Array.toList_map,Array.toList_range]
 induction n with
 | zero=>simp
 | succ n ih =>
  rw [show (n+1) * s=n * s+s by rw [Nat.add_mul,Nat.one_mul],List.range_add,List.map_append,ih,List.replicate_succ',List.flatten_append]
  congr 1
  simp only [List.flatten_cons,List.flatten_nil,List.append_nil,List.map_map]
  apply List.ext_getElem?
  intro j
  rw [List.getElem?_map]
  rcases Nat.lt_or_ge j s with hj | hj
  ·rw [List.getElem?_range hj]
   simp only [Option.map_some,Function.comp_apply,hz]
   rw [Nat.add_comm,Nat.add_mul_mod_self_right,Nat.mod_eq_of_lt hj,Array.getElem?_toList,getElem!_pos z j (by omega),getElem?_pos z j (by omega)]
  ·rw [List.getElem?_eq_none (by simpa using hj),List.getElem?_eq_none (by simp; omega)]
   rfl
theorem VaC.rep (z:List Value) (hz:z.all Value.oneCell'=true):∀ (n:Nat),VaC I σ (bl w) (List.replicate n (z.map cval)).flatten (List.replicate n z).flatten
 | 0=>by simp [VaC]
 | n+1=>by
  rw [List.replicate_succ,List.replicate_succ,List.flatten_cons,List.flatten_cons]
  exact VaC.append _ _ _ _ (VaC.consts z (fun v hv=>List.all_eq_true.1 hz v hv)) (VaC.rep z hz n)
theorem znt (R:Rel I N σ e h a w) {o:Oper} {d:Nat} (hd:d<N) {t el:TypeId} {l c:Operand} {i:TypeInfo} {z:Value} (ho:o.op = .makeSlice t l c) (hlc:l=c) (hu:P.underlying t=some (.slice el)) (hi:P.info? el=some i) (hz:i.zero=some z)
  (hzs:z.cells.size=i.size) (h0:0<i.size) (hb:0<i.bytes) (hz1:z.cells.toList.all Value.oneCell'=true) (hz2:(z.cells.toList.map cval).all z7i=true) {k:IntKind} {n:Int} (hn:ev e l = .sc (.int k n)) (hn0:0≤n) (hn1:n * i.bytes≤140737488355328) :
  Made P I N σ e h a w o d (.sl d [] 0 n.toNat) ((d,⟨i.size,List.replicate n.toNat (z.cells.toList.map cval)⟩)::zd h d):=by
 subst hlc
 have hv:=zt R l
 rw [hn] at hv
 have hlt:n<9223372036854775808:=by
  have h1:n * 1≤n * (i.bytes:Int):=Int.mul_le_mul_of_nonneg_left (by omega) hn0
  omega
 have hw:IntKind.i64.wrap n=n:=by
  have:=IntWalk.i64_in n ⟨by omega,by omega⟩
  exact this
 obtain ⟨σ',q1,q2,q3,q4,q5,q6⟩:=zib (s:=i.size) (cap:=n.toNat) (xs:=List.replicate n.toNat (z.cells.toList.map cval)) (cur:=(Array.range (n.toNat * i.size)).map (z.cells[· % z.cells.size]!)) (E:=el) R hd w rfl (by
  rw [zcz z.cells i.size hzs,List.take_of_length_le]
  ·exact VaC.rep _ hz1 _
  ·rw [← zcz z.cells i.size hzs]; simp) (by
   intro x hx
   rw [List.mem_replicate] at hx
   rw [hx.2,List.length_map,Array.length_toList,hzs]) (by simp) (by simp) (zgw _ hz2 _ _)
 have hrun:(Instr.makeSlice t (a.eval l) (a.eval l)).run P w = .ok (.slice (some ⟨w.heap.size,0,none⟩) n.toNat n.toNat) (w.alloc (.cells ((Array.range (n.toNat * i.size)).map (z.cells[· % z.cells.size]!)) el)):=by
  rw [z7d hv]
  have hzr:(zeroValue el).run P w = .ok z w:=za4 (by simp [hi,hz])
  simp only [Instr.makeSlice,Sem.run_bind,run_underlying hu,Result.andThen_ok,asInt,asIntOf,Sem.run_pure,typeInfo,run_program,hi,hw,run_askRoom,Go.sizeOf]
  have hbig:¬ ((decide (n<0) || decide ((i.bytes:Int) * n > 2 ^ 48))=true):=by
   simp only [Bool.or_eq_true,decide_eq_true_eq,not_or]
   refine ⟨by omega,?_⟩
   rw [Int.mul_comm]
   omega
  have hb1:(decide (n<0) || decide ((i.bytes:Int) * n > 2 ^ 48))=false:=by simpa using hbig
  have hb2:decide (n<0)=false:=by simp; omega
  have hb3:decide (2 ^ 48<(i.bytes:Int) * n)=false:=by simp only [decide_eq_false_iff_not]; rw [Int.mul_comm]; omega
  simp only [hb2,hb3,Bool.false_or,Bool.or_false,gt_iff_lt,Int.lt_irrefl,decide_false,Bool.false_eq_true,if_false,Sem.run_bind,run_askRoom,run_program,hi,Sem.run_pure,Result.andThen_ok,Sem.run_ite]
  by_cases hl0:n.toNat * i.size=0
  ·have hl0':n.toNat=0:=by
    rcases Nat.mul_eq_zero.1 hl0 with h | h
    ·exact h
    ·omega
   rw [if_pos hl0]
   simp only [hl0',Nat.zero_mul,Sem.run_pure,Result.andThen_ok]
   have e2:(Array.range 0).map (fun x=>(#[]:Array Value)[x % (#[]:Array Value).size]!)=(Array.range 0).map (z.cells[· % z.cells.size]!):=by simp
   rw [e2]
   rfl
  ·rw [if_neg hl0]
   simp only [Sem.run_bind,hzr,Result.andThen_ok,Sem.run_pure]
   rfl
 refine ⟨.slice (some ⟨w.heap.size,0,none⟩) n.toNat n.toNat,_,σ',by simp only [execOp,ho,Sem.run_bind,hrun,Result.andThen_ok,Sem.run_pure],Rel.put q1 R.size q2 R.defers hd ?_,Le.alloc _ _,fun b hb=>z5a _ _ _ hb,fun b hb=>?_,q5⟩
 ·simp only [Va,q3]
  exact ⟨_,n.toNat,rfl,by omega,Nat.le_refl _,fun _=>by rw [Nat.zero_mul]⟩
 ·rcases q6 b hb with hb | hb
  ·exact .inl hb
  ·exact .inr (by omega)
theorem zns (R:Rel I N σ e h a w) {o:Oper} {ib:IB} {d:Nat} (hd:d<N) (hc:zh7 P o=some ib) {av:AV} (hr:mkop (ev e) h d ib=some (av,h')):Made P I N σ e h a w o d av h':=by
 unfold zh7 at hc
 split at hc
 ·
  rename_i t x ho
  split at hc
  ·rename_i n hn
   cases hc
   simp only [mkop] at hr
   split at hr
   ·rename_i cs hcs
    split at hr
    ·rename_i hl
     split at hr
     ·rename_i xs' h1 ha
      cases hr
      subst hl
      refine zm3 (t:=t) (v:=a.eval x) R hd (zt R x) hcs ha ?_
      simp only [execOp,ho,Sem.run_bind,y4e,Result.andThen_ok,Sem.run_pure]
     ·cases hr
    ·cases hr
   ·cases hr
  ·cases hc
 ·
  rename_i t ho
  split at hc
  ·rename_i n z hn hz
   cases hc
   simp only [mkop,ev] at hr
   split at hr
   ·rename_i cs hcs
    split at hr
    ·rename_i hl
     split at hr
     ·rename_i xs' h1 ha
      cases hr
      subst hl
      refine zm3 (t:=t) (v:=z) R hd (zj0 z) hcs ha ?_
      have:(Instr.alloc t true (.tuple #[])).run P w = .ok (.pointer (some ⟨w.heap.size,0,none⟩)) (w.alloc (.cells z.cells t)):=by
       simp only [Instr.alloc,Sem.run_bind,za4 hz,Result.andThen_ok]
       rfl
      simp only [execOp,ho,Sem.run_bind,this,Result.andThen_ok,Sem.run_pure]
     ·cases hr
    ·cases hr
   ·cases hr
  ·cases hc
 ·
  rename_i t len parts ho
  split at hc
  ·rename_i el hu
   split at hc
   ·rename_i n z hn hz
    split at hc
    ·rename_i hcond
     obtain ⟨h24,hzs,h0,hz1⟩:=hcond
     cases hc
     simp only [mkop] at hr
     split at hr
     ·rename_i cs hcs
      split at hr
      ·rename_i xs' h1 ha
       cases hr
       have hzv:VaC I σ (bl w) (List.replicate len (z.cells.toList.map cval)).flatten ((Array.range (len * n)).map (z.cells[· % z.cells.size]!)).toList:=by
        rw [zcz z.cells n hzs]
        exact VaC.rep _ hz1 len
       have hfill:=zcc (w:=w) (fun i=>some (i * n,n)) a.eval (ev e) (fun x=>zt R x) parts.toList (parts.toList.map fun (i,x)=>(i * n,n,x)) _ ((Array.range (len * n)).map (z.cells[· % z.cells.size]!)) cs (by simp) (fun j q q' hq hq'=>by
        simp only [List.getElem?_map,hq,Option.map_some,Option.some.injEq] at hq'
        subst hq'
        exact ⟨rfl,rfl⟩) hzv (by rw [List.map_map]; exact hcs)
       obtain ⟨cells',f1,f2⟩:=hfill
       have hfs:∀ (l:List (Nat×Nat×AV)) (X X':List AV),z4u X l=some X'→X'.length=X.length:=by
        intro l
        induction l with
        | nil=>intro X X' h; simp only [z4u,Option.some.injEq] at h; rw [h]
        | cons q l ih =>
         intro X X' h
         obtain ⟨o1,o2,o3⟩:=q
         unfold z4u at h
         split at h
         ·split at h
          ·rename_i hcc
           rw [ih _ _ h]
           simp only [List.length_append,List.length_take,List.length_drop]
           omega
          ·cases h
         ·cases h
       have hcl:cs.length=len * n:=by
        rw [hfs _ _ _ hcs]
        have:=VaC.length _ _ hzv
        rw [← this]
        simp
       have hsz:cells'.size=len * n:=by
        have:=VaC.length _ _ f2
        simp only [Array.length_toList] at this
        omega
       obtain ⟨σ',q1,q2,q3,q4,q5,q6⟩:=zib (s:=n) (cap:=len) (xs:=z3q n len cs) (cur:=cells') (E:=el) R hd w rfl (by
        rw [zfq,z8i,List.take_of_length_le (by omega),List.take_of_length_le (by simp; omega)]; exact f2) (zh6 len cs (by omega)) hsz (by rw [z8i]; exact Nat.le_refl _) ha
       have hrun:(Instr.buildSlice t len (parts.map fun (i,x)=>(i,a.eval x))).run P w = .ok (.slice (some ⟨w.heap.size,0,none⟩) len len) (w.alloc (.cells cells' el)):=by
        have e1:(parts.map fun (x:Nat×Operand)=>(x.1,a.eval x.2)).toList=parts.toList.map fun (x:Nat×Operand)=>(x.1,a.eval x.2):=by simp
        simp only [Instr.buildSlice,Sem.run_bind,run_underlying hu,Result.andThen_ok,z1y hn,Sem.run_ite]
        rw [if_neg (by omega)]
        by_cases hl0:len * n=0
        ·have hl0':len=0:=by
          rcases Nat.mul_eq_zero.1 hl0 with h | h
          ·exact h
          ·omega
         subst hl0'
         rw [if_pos (by omega)]
         simp only [Sem.run_pure,Result.andThen_ok,e1]
         simp only [Nat.zero_mul] at f1 ⊢
         have e2:(Array.range 0).map (fun x=>(#[]:Array Value)[x % (#[]:Array Value).size]!)=(Array.range 0).map (z.cells[· % z.cells.size]!):=by simp
         rw [e2,f1]
         rfl
        ·rw [if_neg hl0]
         simp only [Sem.run_bind,za4 hz,Result.andThen_ok,Sem.run_pure,e1,f1]
         rfl
       refine ⟨.slice (some ⟨w.heap.size,0,none⟩) len len,w.alloc (.cells cells' el),σ',by simp only [execOp,ho,Sem.run_bind,hrun,Result.andThen_ok,Sem.run_pure],Rel.put q1 R.size q2 R.defers hd ?_,Le.alloc _ _,fun b hb=>z5a _ _ _ hb,fun b hb=>?_,q5⟩
       ·simp only [Va,q3]
        exact ⟨_,len,rfl,by omega,Nat.le_refl _,fun _=>by rw [Nat.zero_mul]⟩
       ·rcases q6 b hb with hb | hb
        ·exact .inl hb
        ·exact .inr (by omega)
      ·cases hr
     ·cases hr
    ·cases hc
   ·cases hc
  ·cases hc
 ·rename_i t l c ho
  split at hc
  ·rename_i el hu
   split at hc
   ·rename_i i hi
    split at hc
    ·rename_i z hz
     split at hc
     ·rename_i hcond
      obtain ⟨c1,c2,c3,c4,c5,c6⟩:=hcond
      cases hc
      simp only [mkop] at hr
      split at hr
      ·rename_i k n hn
       split at hr
       ·rename_i hb; cases hr
        exact znt R hd ho (by rw [c1]) hu hi hz c2 c3 c4 c5 c6 hn hb.1 hb.2
       ·cases hr
      ·cases hr
     ·cases hc
    ·cases hc
   ·cases hc
  ·cases hc
 ·rename_i t l c ho
  split at hc
  ·rename_i el hu
   split at hc
   ·rename_i i hi
    split at hc
    ·rename_i z hz
     split at hc
     ·rename_i hcond
      obtain ⟨c1,c2,c3,c4,c5,c6⟩:=hcond
      cases hc
      simp only [mkop] at hr
      split at hr
      ·rename_i k n hn
       split at hr
       ·rename_i hb; cases hr
        exact znt R hd ho (by rw [c1]) hu hi hz c2 c3 c4 c5 c6 hn hb.1 hb.2
       ·cases hr
      ·cases hr
     ·cases hc
    ·cases hc
   ·cases hc
  ·cases hc
 ·cases hc
end
section
variable {P:Program} {w:World}
theorem zz7 {t t2 ty el:TypeId} {d2:TypeDesc} {i:TypeInfo} {z:Value} (ht:P.underlying t=some (.slice el)) (h2:P.underlying t2=some d2) (hd2:d2 = .slice el∨d2 = .string) (hi:P.info? el=some i) (hz:i.zero=some z)
  {A:Option Addr} {len cap m:Nat} {src:Value} {olds news:List Value} (hlen:(Builtin.lenOf src).run P w = .ok m w) (hold:(Builtin.firstCells i.size len (.slice A len cap)).run P w.drew = .ok olds.toArray w.drew) (hnew:(Builtin.firstCells i.size m src).run P w.drew = .ok news.toArray w.drew)
  (hb:(len+m) * i.bytes≤140737488355328) (hb0:0<i.bytes) (hgt:cap<len+m) :
  (Builtin.append_ #[t,t2] ty #[.slice A len cap,src]).run P w = .ok (.slice (some ⟨w.heap.size,0,none⟩) (len+m) (grownCap w (len+m) cap el))
   (w.drew.alloc (.cells (olds.toArray++news.toArray++Builtin.zeroCells z.cells (grownCap w (len+m) cap el - (len+m))) el)):=by
 have hfit:=growslice_fits (need:=len+m) (old:=cap) hgt hb
 have h63:((len+m:Nat):Int)≤IntKind.i64.max:=by
  have h1:(len+m) * 1≤(len+m) * i.bytes:=Nat.mul_le_mul_left _ hb0
  have:IntKind.i64.max=9223372036854775807:=rfl
  rw [this]
  omega
 have n1:¬ len+m≤cap:=by omega
 have n2:¬ (281474976710656<Builtin.nextslicecap (len+m) cap * i.bytes):=by omega
 have n3:¬ (9223372036854775807<(len:Int)+(m:Int)):=by
  have:IntKind.i64.max=9223372036854775807:=rfl
  rw [this] at h63; push_cast at h63; omega
 have n4:¬ (i.bytes=0):=by omega
 rcases hd2 with rfl | rfl <;>
 ·simp [Builtin.append_,run_underlying ht,run_underlying h2,Go.sizeOf,typeInfo,hi,hlen,n1,n2,n3,n4,hold,hnew,zeroValue,hz,Question.forced,newRow]
  refine ⟨rfl,?_⟩
  congr 2
  apply Array.ext'
  simp [grownCap]
theorem z63 (g o:Nat) (t:TypeId) (fr:Nat×Nat):∀ (vs:List Value) (i:Nat) (cur:Array Value) (w:World),(fr.1=fr.2∨cur.size≤fr.1)→w.heap[g]? = some (.cells cur t fr)→o+i+vs.length≤cur.size→(∀ v ∈ vs,v.oneCell'=true) →
  (storeCells ⟨g,o,none⟩ vs i).run P w = .ok () (w.setRow g (cur.toList.take (o+i)++vs++cur.toList.drop (o+i+vs.length)).toArray)
 | [],i,cur,w,_,hg,_,_=>by
  simp only [storeCells,List.append_nil,List.length_nil,Nat.add_zero,List.take_append_drop,Array.toArray_toList]
  rw [setRow_self w g cur t fr hg]
  rfl
 | v::rest,i,cur,w,hf,hg,hl,h1=>by
  have hi:o+i<cur.size:=by simp at hl; omega
  have hcell:w.cell? ⟨g,o+i,none⟩=some cur[o+i]:=by simp [World.cell?,hg,hi]
  have hfro:w.frozen? ⟨g,o+i,none⟩=false:=by
   simp only [World.frozen?,hg,Bool.and_eq_false_iff,decide_eq_false_iff_not]
   rcases hf with hf | hf
   ·by_cases q:fr.1≤o+i
    ·exact .inr (by omega)
    ·exact .inl q
   ·exact .inl (by omega)
  have hst:(store ((⟨g,o,none⟩:Addr).add i) v).run P w = .ok () (w.setRow g (cur.setIfInBounds (o+i) v)):=by
   rw [z2e,run_store P w _ v _ (h1 v (by simp)),hcell]
   simp [hfro,setCell_eq_setRow w g (o+i) cur t fr v hg]
  have ih:=z63 g o t fr rest (i+1) (cur.setIfInBounds (o+i) v) (w.setRow g (cur.setIfInBounds (o+i) v)) (by simpa using hf) (setRow_heap w g cur _ t _ hg) (by simp at hl ⊢; omega) (fun x hx=>h1 x (by simp [hx]))
  simp only [storeCells,Sem.run_bind,hst,Result.andThen_ok,ih,setRow_setRow]
  congr 3
  have e:=list_seg_step cur.toList (o+i) v rest (by simp at hl ⊢; omega)
  simpa [Array.toList_setIfInBounds,Nat.add_assoc] using e
theorem zz9 {t t2 ty el:TypeId} {d2:TypeDesc} {i:TypeInfo} (ht:P.underlying t=some (.slice el)) (h2:P.underlying t2=some d2) (hd2:d2 = .slice el∨d2 = .string) (hi:P.info? el=some i)
  {b len cap m:Nat} {src:Value} {news:List Value} {cur:Array Value} {E:TypeId} (hlen:(Builtin.lenOf src).run P w = .ok m w) (hnew:(Builtin.firstCells i.size m src).run P w = .ok news.toArray w)
  (hle:len+m≤cap) {fr:Nat×Nat} (hfr:fr.1=fr.2∨cur.size≤fr.1) (hB:w.heap[b]? = some (.cells cur E fr)) (hnl:news.length=m * i.size) (hsz:cur.size=cap * i.size) (h1:∀ v ∈ news,v.oneCell'=true) :
  (Builtin.append_ #[t,t2] ty #[.slice (some ⟨b,0,none⟩) len cap,src]).run P w = .ok (.slice (some ⟨b,0,none⟩) (len+m) cap)
   (w.setRow b (cur.toList.take (len * i.size)++news++cur.toList.drop (len * i.size+news.length)).toArray):=by
 have hfit:len * i.size+news.length≤cur.size:=by rw [hnl,hsz,← Nat.add_mul]; exact Nat.mul_le_mul_right _ hle
 have hst:=z63 (P:=P) b (len * i.size) E fr news 0 cur w hfr hB (by simpa using hfit) h1
 simp only [Nat.add_zero] at hst
 rcases hd2 with rfl | rfl <;> simp [Builtin.append_,run_underlying ht,run_underlying h2,Go.sizeOf,typeInfo,hi,hlen,hle,hnew,z2e,hst]
theorem zz8 {t t2 ty el:TypeId} {d2:TypeDesc} {i:TypeInfo} (ht:P.underlying t=some (.slice el)) (h2:P.underlying t2=some d2) (hd2:d2 = .slice el∨d2 = .string) (hi:P.info? el=some i)
  {A:Option Addr} {src:Value} (hlen:(Builtin.lenOf src).run P w = .ok 0 w) (hnew:(Builtin.firstCells i.size 0 src).run P w = .ok #[] w) :
  (Builtin.append_ #[t,t2] ty #[.slice A 0 0,src]).run P w = .ok (.slice A 0 0) w:=by
 rcases hd2 with rfl | rfl <;> cases A <;> simp [Builtin.append_,run_underlying ht,run_underlying h2,Go.sizeOf,typeInfo,hi,hlen,hnew,storeCells]
end
section
variable {P:Program} {I:Nat→Prop} {N:Nat} [Dfs N] {σ σ':Pl} {B B':zj} {w:World} {h h':H} {e:Env} {a:Act} {k k':Nat}
theorem CeE.cells {p:Path} {s:Nat}:∀ (xs:Els) (i:Nat) (cs:List Value),CeE I σ B k p i s xs cs→xs.length * s≤cs.length
 | [],_,_,_=>by simp
 | x::xs,i,cs,h=>by
  have h1:=CeC.length x 0 _ h.2.1
  have h2:=CeE.cells xs (i+1) _ h.2.2
  rw [List.length_take,h.1] at h1
  rw [List.length_drop] at h2
  rw [List.length_cons,Nat.add_mul,Nat.one_mul]
  omega
theorem CeE.same {p:Path} {s:Nat}:∀ (xs:Els) (i:Nat) (cs cs':List Value),CeE I σ B k p i s xs cs→cs'.take (xs.length * s)=cs.take (xs.length * s)→CeE I σ B k p i s xs cs'
 | [],_,_,_,_,_=>trivial
 | x::xs,i,cs,cs',h,he=>by
  have hl:(x::xs).length * s=s+xs.length * s:=by rw [List.length_cons,Nat.add_mul,Nat.one_mul,Nat.add_comm]
  rw [hl,List.take_add,List.take_add] at he
  have hc:=CeE.cells (x::xs) i cs h
  rw [hl] at hc
  have hlen:(cs'.take (s+xs.length * s)).length=s+xs.length * s:=by rw [List.take_add,he,← List.take_add,List.length_take]; omega
  have hc':s+xs.length * s≤cs'.length:=by rw [List.length_take] at hlen; omega
  have e1:cs'.take s=cs.take s:=List.append_inj_left he (by rw [List.length_take,List.length_take]; omega)
  have e2:=List.append_inj_right he (by rw [List.length_take,List.length_take]; omega)
  exact ⟨h.1,by rw [e1]; exact h.2.1,CeE.same xs (i+1) _ _ h.2.2 e2⟩
theorem CeE.app {p:Path} {s:Nat}:∀ (xs ys:Els) (i:Nat) (c1 c2:List Value),CeE I σ B k p i s xs c1→c1.length=xs.length * s→CeE I σ B k p (i+xs.length) s ys c2→CeE I σ B k p i s (xs++ys) (c1++c2)
 | [],ys,i,c1,c2,_,hl,h2=>by
  simp only [List.length_nil,Nat.zero_mul] at hl
  rw [List.eq_nil_of_length_eq_zero hl]
  simpa using h2
 | x::xs,ys,i,c1,c2,h1,hl,h2=>by
  rw [List.length_cons,Nat.add_mul,Nat.one_mul] at hl
  refine ⟨h1.1,?_,?_⟩
  ·rw [List.take_append_of_le_length (by omega)]; exact h1.2.1
  ·rw [List.drop_append_of_le_length (by omega)]
   exact CeE.app xs ys (i+1) _ c2 h1.2.2 (by rw [List.length_drop]; omega) (by rw [List.length_cons] at h2; rwa [show i+1+xs.length=i+(xs.length+1) by omega])
theorem zpm {p:Path}:∀ (xs ys:Els) (i:Nat),fpE σ k p i (xs++ys)=fpE σ k p i xs++fpE σ k p (i+xs.length) ys
 | [],ys,i=>by simp [fpE]
 | x::xs,ys,i=>by
  rw [List.cons_append,fpE,fpE,zpm xs ys (i+1),List.append_assoc,List.length_cons,show i+1+xs.length=i+(xs.length+1) by omega]
theorem CeE.shift {p p':Path} (s n:Nat) (hσ:∀ i' c' q,σ' k' (p'++(i'+n,c')::q)=σ k (p++(i',c')::q)):∀ (l:Els) (i:Nat) (cs:List Value),CeE I σ B k p i s l cs→CeE I σ' B k' p' (i+n) s l cs:=by
 have hA:∀ (i c:Nat) (x:AV) (v:Value),Ce I σ B k p i c x v→Ce I σ' B k' p' (i+n) c x v:=by
  intro i c x v h
  cases x with
  | ow s1 xs =>
   simp only [Ce] at h ⊢
   have h0:=hσ i c []
   rw [show p'++[(i+n,c)]=p'++(i+n,c)::[] by rfl,h0]
   cases hs:σ k (p++[(i,c)]) with
   | none=>simpa only [hs] using h
   | some L =>
    simp only [hs] at h ⊢
    obtain ⟨h1,h2,h3,cur,E,h4,h5,h6⟩:=h
    exact ⟨h1,h2,h3,cur,E,h4,h5,CeE.ren (p:=p++[(i,c)]) (p':=p'++[(i+n,c)]) 0 s1 (fun i' c' q=>by simpa using hσ i c ((i',c')::q)) xs _ h6⟩
  | sc _=>exact h
  | zs=>exact h
  | im _ _=>exact h
  | un=>exact h
  | sl _ _ _ _=>exact h.elim
  | pt _ _ _ _=>exact h.elim
  | ip _ _ _ _=>exact h.elim
  | ag _=>exact h.elim
  | tu _=>exact h.elim
  | fn _ _=>exact h.elim
  | pp _=>exact h.elim
 have hC:∀ (i:Nat) (l:List AV) (c:Nat) (cs:List Value),CeC I σ B k p i c l cs→CeC I σ' B k' p' (i+n) c l cs:=by
  intro i l
  induction l with
  | nil=>intro _ _ h; exact h
  | cons x l ih =>
   intro c cs h
   obtain ⟨v,cs',rfl,h1,h2⟩:=h
   exact ⟨v,cs',rfl,hA i c x v h1,ih (c+1) cs' h2⟩
 intro l
 induction l with
 | nil=>intro _ _ _; trivial
 | cons x l ih =>
  intro i cs h
  exact ⟨h.1,hC i x 0 _ h.2.1,by have:=ih (i+1) _ h.2.2; rwa [show i+1+n=i+n+1 by omega] at this⟩
theorem fpE.shift {p p':Path} (n:Nat) (hσ:∀ i' c' q,σ' k' (p'++(i'+n,c')::q)=σ k (p++(i',c')::q)):∀ (l:Els) (i:Nat),fpE σ' k' p' (i+n) l=fpE σ k p i l:=by
 have hA:∀ (i c:Nat) (x:AV),fpA σ' k' p' (i+n) c x=fpA σ k p i c x:=by
  intro i c x
  cases x with
  | ow s1 xs =>
   simp only [fpA]
   have h0:=hσ i c []
   rw [show p'++[(i+n,c)]=p'++(i+n,c)::[] by rfl,h0]
   cases hs:σ k (p++[(i,c)]) with
   | none=>rfl
   | some L=>simp only; rw [fpE.ren (p:=p++[(i,c)]) (p':=p'++[(i+n,c)]) 0 (fun i' c' q=>by simpa using hσ i c ((i',c')::q)) xs]
  | _=>rfl
 have hC:∀ (i:Nat) (l:List AV) (c:Nat),fpC σ' k' p' (i+n) c l=fpC σ k p i c l:=by
  intro i l
  induction l with
  | nil=>intro _; rfl
  | cons x l ih=>intro c; simp only [fpC]; rw [hA,ih]
 intro l
 induction l with
 | nil=>intro _; rfl
 | cons x l ih =>
  intro i
  simp only [fpE]
  rw [hC,show i+n+1=i+1+n by omega,ih]
theorem zoc {key s b cap:Nat} {xs:Els} {h1:H} {w':World} {cur:Array Value} {E:EF cur} (hh:HRel I σ h1 w) (hkey:key ∉ h1.map Prod.fst) (hfp:∀ b ∈ fpE σ key [] 0 xs,b ∉ fpH σ h1∧¬ I b∧b<w.heap.size) (hnd:(fpE σ key [] 0 xs).Nodup)
  (hb1:b ∉ fpH σ h1) (hb2:¬ I b) (hb3:b<w'.heap.size) (hb4:b ∉ fpE σ key [] 0 xs) (hsz:w.heap.size≤w'.heap.size) (hB:∀ b',b'<w.heap.size→b' ≠ b→bl w' b'=bl w b') (hnew:bl w' b=some (.cells cur E.t E.fr)) (hcs:cur.size=cap * s) (hle:xs.length≤cap)
  (hE:CeE I σ (bl w) key [] 0 s xs cur.toList) :
  HRel I (fun k q=>if k=key∧q=[] then some ⟨b,cap,s⟩ else σ k q) ((key,⟨s,xs⟩)::h1) w'∧(∀ b' ∈ fpH (fun k q=>if k=key∧q=[] then some ⟨b,cap,s⟩ else σ k q) ((key,⟨s,xs⟩)::h1),b' ∈ fpH σ h1∨b' ∈ fpE σ key [] 0 xs∨b'=b):=by
 have hσ:∀ k',k' ≠ key→∀ q,(if k'=key∧q=[] then some (⟨b,cap,s⟩:Loc) else σ k' q)=σ k' q:=fun k' hk q=>if_neg (fun e=>hk e.1)
 have hσ2:∀ i' c' q,(if key=key∧([]:Path)++(i',c')::q=[] then some (⟨b,cap,s⟩:Loc) else σ key ([]++(i',c')::q))=σ key ([]++(i',c')::q):=fun i' c' q=>if_neg (fun e=>by simp at e)
 have hfpE:fpE (fun k q=>if k=key∧q=[] then some (⟨b,cap,s⟩:Loc) else σ k q) key [] 0 xs=fpE σ key [] 0 xs:=fpE.ren (p:=[]) (p':=[]) 0 hσ2 xs
 have hfpR:fpR (fun k q=>if k=key∧q=[] then some (⟨b,cap,s⟩:Loc) else σ k q) key ⟨s,xs⟩=b::fpE σ key [] 0 xs:=by
  unfold fpR
  simp only [and_self,if_true,hfpE]
 refine ⟨HRel.add (σ:=σ) (w:=w) hh hkey hσ (fun b' hb' hm=>hB b' hb' (fun e=>by subst e; exact hm.elim hb2 hb1)) hsz ?_ ?_ ?_,?_⟩
 ·unfold zr
  simp only [and_self,if_true]
  refine ⟨trivial,hle,cur,E,hnew,hcs,CeE.ren (σ:=σ) (k:=key) (p:=[]) 0 s hσ2 xs _ (CeE.mono ?_ key [] 0 s xs _ ?_ hE)⟩
  ·intro b' hb'
   exact hB b' (hh.low b' hb') (fun e=>hb2 (e ▸ hb'))
  ·intro b' hb'
   exact hB b' (hfp b' hb').2.2 (fun e=>hb4 (e ▸ hb'))
 ·rw [hfpR,List.nodup_cons]
  exact ⟨hb4,hnd⟩
 ·intro b' hb'
  rw [hfpR,List.mem_cons] at hb'
  rcases hb' with rfl | hb'
  ·exact ⟨hb1,hb2,hb3⟩
  ·have:=hfp b' hb'
   exact ⟨this.1,this.2.1,by omega⟩
 ·intro b' hb'
  rw [z1h,hfpR,fpH.ren h1 (fun k hk q=>hσ k (fun e=>hkey (e ▸ hk)) q),List.mem_append,List.mem_cons] at hb'
  rcases hb' with (rfl | hb') | hb'
  ·exact .inr (.inr rfl)
  ·exact .inr (.inl hb')
  ·exact .inl hb'
theorem zz6 {t t2 ty el:TypeId} {d2:TypeDesc} {i:TypeInfo} {z:Value} (ht:P.underlying t=some (.slice el)) (h2:P.underlying t2=some d2) (hd2:d2 = .slice el∨d2 = .string) (hi:P.info? el=some i) (hz:i.zero=some z) (hzs:z.cells.size=i.size)
  (hb0:0<i.bytes) (tb:Option Nat) {key:Nat} {old srcs:Els} {h1:H} {V src:Value} {news:List Value}
  (hh:HRel I σ h1 w) (hkey:key ∉ h1.map Prod.fst)
  (htgt:(tb=none∧old=[]∧∃ A,V = .slice A 0 0)∨(∃ (b cap:Nat) (cur:Array Value) (E:EF cur),tb=some b∧V = .slice (some ⟨b,0,none⟩) old.length cap∧bl w b=some (.cells cur E.t E.fr)∧cur.size=cap * i.size∧old.length≤cap∧CeE I σ (bl w) key [] 0 i.size old cur.toList ∧
   b ∉ fpH σ h1∧¬ I b∧b<w.heap.size∧b ∉ fpE σ key [] 0 (old++srcs)))
  (hfp:∀ b ∈ fpE σ key [] 0 (old++srcs),b ∉ fpH σ h1∧¬ I b∧b<w.heap.size) (hnd:(fpE σ key [] 0 (old++srcs)).Nodup)
  (hlen:(Builtin.lenOf src).run P w = .ok srcs.length w) (hnew:∀ w',w'.heap=w.heap→(Builtin.firstCells i.size srcs.length src).run P w' = .ok news.toArray w') (hsrc:CeE I σ (bl w) key [] old.length i.size srcs news) (hnl:news.length=srcs.length * i.size)
  (hone:∀ v ∈ news,v.oneCell'=true) (hb:(old.length+srcs.length) * i.bytes≤140737488355328) (hnone:tb=none→srcs=[]→σ key []=none) :
  ∃ v' w' σ',(Builtin.append_ #[t,t2] ty #[V,src]).run P w = .ok v' w'∧HRel I σ' ((key,⟨i.size,old++srcs⟩)::h1) w'∧Va I σ' (bl w') (.sl key [] 0 (old.length+srcs.length)) v'∧(∀ k q,(k,q) ≠ (key,[])→σ' k q=σ k q)∧Le w w' ∧
   (∀ b,b<w.heap.size→some b ≠ tb→bl w' b=bl w b)∧(∀ b ∈ fpH σ' ((key,⟨i.size,old++srcs⟩)::h1),b ∈ fpH σ h1∨b ∈ fpE σ key [] 0 (old++srcs)∨w.heap.size≤b∨tb=some b):=by
 have grow:∀ (A:Option Addr) (cap:Nat) (olds:List Value),V = .slice A old.length cap→cap<old.length+srcs.length→(∀ w',w'.heap=w.heap→(Builtin.firstCells i.size old.length V).run P w' = .ok olds.toArray w')→CeE I σ (bl w) key [] 0 i.size old olds→olds.length=old.length * i.size →
   ∃ v' w' σ',(Builtin.append_ #[t,t2] ty #[V,src]).run P w = .ok v' w'∧HRel I σ' ((key,⟨i.size,old++srcs⟩)::h1) w'∧Va I σ' (bl w') (.sl key [] 0 (old.length+srcs.length)) v'∧(∀ k q,(k,q) ≠ (key,[])→σ' k q=σ k q)∧Le w w' ∧
   (∀ b,b<w.heap.size→some b ≠ tb→bl w' b=bl w b)∧(∀ b ∈ fpH σ' ((key,⟨i.size,old++srcs⟩)::h1),b ∈ fpH σ h1∨b ∈ fpE σ key [] 0 (old++srcs)∨w.heap.size≤b∨tb=some b):=by
  intro A cap olds hV hgt hold hE hol
  subst hV
  have hrun:=zz7 (P:=P) (w:=w) (ty:=ty) ht h2 hd2 hi hz hlen (hold w.drew rfl) (hnew w.drew rfl) hb hb0 hgt
  have hge:=grownCap_ge w (old.length+srcs.length) cap el
  have hsz:w.heap.size≤(w.drew.alloc (.cells (olds.toArray++news.toArray++Builtin.zeroCells z.cells (grownCap w (old.length+srcs.length) cap el - (old.length+srcs.length))) el)).heap.size:=by simp
  have hBlk:∀ b',b'<w.heap.size→bl (w.drew.alloc (.cells (olds.toArray++news.toArray++Builtin.zeroCells z.cells (grownCap w (old.length+srcs.length) cap el - (old.length+srcs.length))) el)) b'=bl w b':=fun b' hb'=>z5a w.drew _ b' hb'
  have hcur:(olds.toArray++news.toArray++Builtin.zeroCells z.cells (grownCap w (old.length+srcs.length) cap el - (old.length+srcs.length))).size=grownCap w (old.length+srcs.length) cap el * i.size:=by
   rw [Array.size_append,Array.size_append,List.size_toArray,List.size_toArray,size_zeroCells,hzs,hol,hnl,← Nat.add_mul,← Nat.add_mul]
   congr 1
   omega
  obtain ⟨q1,q2⟩:=zoc (w':=w.drew.alloc (.cells (olds.toArray++news.toArray++Builtin.zeroCells z.cells (grownCap w (old.length+srcs.length) cap el - (old.length+srcs.length))) el)) (b:=w.heap.size) (cap:=grownCap w (old.length+srcs.length) cap el) (s:=i.size)
   hh hkey hfp hnd (fun hm=>by have:=(hh.apart _ hm).2; omega) (fun hm=>by have:=hh.low _ hm; omega) (by simp) (fun hm=>by have:=(hfp _ hm).2.2; omega) hsz (fun b' hb' _=>hBlk b' hb') (E:=⟨el,(0,0),.inl rfl⟩) (heap_alloc_new w.drew _) hcur (by rw [List.length_append]; exact hge) (by
    rw [Array.toList_append,Array.toList_append]
    refine CeE.same (old++srcs) 0 (olds++news) _ (CeE.app old srcs 0 olds news hE hol (by rwa [Nat.zero_add])) ?_
    rw [List.take_append_of_le_length (by simp [hol,hnl,Nat.add_mul])])
  refine ⟨_,_,_,hrun,q1,?_,fun k q hkq=>if_neg (fun e=>hkq (by rw [e.1,e.2])),Le.drewAlloc _ _,fun b' hb' _=>hBlk b' hb',fun b' hb'=>?_⟩
  ·simp only [Va,and_self,if_true]
   exact ⟨_,_,rfl,by omega,hge,fun _=>by simp⟩
  ·rcases q2 b' hb' with h | h | h
   ·exact .inl h
   ·exact .inr (.inl h)
   ·exact .inr (.inr (.inl (by omega)))
 rcases htgt with ⟨rfl,rfl,A,rfl⟩ | ⟨b,cap,cur,E,rfl,rfl,hB,hcs,hle,hE,hb1,hb2,hb3,hb4⟩
 ·by_cases hs:srcs=[]
  ·subst hs
   have hn:news=[]:=List.eq_nil_of_length_eq_zero (by simpa using hnl)
   subst hn
   have hrun:=zz8 (P:=P) (w:=w) (ty:=ty) (A:=A) ht h2 hd2 hi hlen (hnew w rfl)
   have hno:=hnone rfl rfl
   refine ⟨_,w,σ,hrun,?_,?_,fun _ _ _=>rfl,Le.refl _,fun _ _ _=>rfl,fun b hb=>.inl ?_⟩
   ·refine HRel.add (σ:=σ) (w:=w) hh hkey (fun _ _ _=>rfl) (fun _ _ _=>rfl) (Nat.le_refl _) ?_ ?_ ?_
    ·unfold zr; simp only [hno]; rfl
    ·unfold fpR; simp only [hno]; exact List.nodup_nil
    ·unfold fpR; simp only [hno]; intro b hb; cases hb
   ·simp only [Va,hno]
    exact ⟨rfl,trivial,A,rfl⟩
   ·rw [z1h] at hb
    unfold fpR at hb
    simpa only [hno,List.nil_append] using hb
  ·have hpos:0<srcs.length:=List.length_pos_iff.2 hs
   refine grow A 0 [] rfl (by simpa using hpos) (fun w' _=>?_) trivial (by simp)
   cases A with
   | none=>simp [Builtin.firstCells]
   | some A=>simp [Builtin.firstCells,loadCells,loadCellsFrom]
 ·have hcells:=CeE.cells old 0 _ hE
  have hcl:cur.toList.length=cur.size:=Array.length_toList
  by_cases hroom:old.length+srcs.length≤cap
  ·have hrun:=zz9 (P:=P) (w:=w) (ty:=ty) ht h2 hd2 hi hlen (hnew w rfl) hroom E.ok hB hnl hcs hone
   have hfit:old.length * i.size+news.length≤cur.size:=by rw [hnl,hcs,← Nat.add_mul]; exact Nat.mul_le_mul_right _ hroom
   have hBlk:∀ b',b' ≠ b→bl (w.setRow b (cur.toList.take (old.length * i.size)++news++cur.toList.drop (old.length * i.size+news.length)).toArray) b'=bl w b':=fun b' hb'=>setRow_other w b b' _ hb'
   obtain ⟨q1,q2⟩:=zoc (w':=w.setRow b (cur.toList.take (old.length * i.size)++news++cur.toList.drop (old.length * i.size+news.length)).toArray) (b:=b) (cap:=cap) (s:=i.size) (xs:=old++srcs)
    hh hkey hfp hnd hb1 hb2 (by rw [size_setRow]; exact hb3) hb4 (by rw [size_setRow]; exact Nat.le_refl _) (fun b' _ hb'=>hBlk b' hb') (E:=⟨E.t,E.fr,by rw [List.size_toArray,List.length_append,List.length_append,List.length_take,List.length_drop,show min (old.length * i.size) cur.toList.length+news.length+(cur.toList.length - (old.length * i.size+news.length))=cur.size by omega]; exact E.ok⟩) (setRow_heap w b cur _ E.t _ hB) (by
     rw [List.size_toArray,List.length_append,List.length_append,List.length_take,List.length_drop]; omega) (by rw [List.length_append]; exact hroom) (by
     refine CeE.same (old++srcs) 0 (cur.toList.take (old.length * i.size)++news) _ (CeE.app old srcs 0 _ news (CeE.same old 0 _ _ hE (by rw [List.take_take,Nat.min_self])) (by rw [List.length_take]; omega) (by rwa [Nat.zero_add])) ?_
     rw [List.take_append_of_le_length (by
      rw [List.length_append,List.length_append,List.length_take,hnl,Nat.add_mul]
      omega)])
   refine ⟨_,_,_,hrun,q1,?_,fun k q hkq=>if_neg (fun e=>hkq (by rw [e.1,e.2])),⟨by rw [size_setRow]; exact Nat.le_refl _,rfl,rfl,rfl⟩,fun b' _ hb'=>hBlk b' (fun e=>hb' (by rw [e])),fun b' hb'=>?_⟩
   ·simp only [Va,and_self,if_true]
    exact ⟨_,_,rfl,by omega,hroom,fun _=>by simp⟩
   ·rcases q2 b' hb' with h | h | h
    ·exact .inl h
    ·exact .inr (.inl h)
    ·exact .inr (.inr (.inr (by rw [h])))
  ·refine grow (some ⟨b,0,none⟩) cap (cur.toList.take (old.length * i.size)) rfl (by omega) (fun w' hw'=>?_) (CeE.same old 0 _ _ hE (by rw [List.take_take,Nat.min_self])) (by rw [List.length_take]; omega)
   refine run_firstCells_some w' i.size old.length ⟨b,0,none⟩ old.length cap _ (by rw [List.length_take]; omega) (fun j u hj=>?_)
   rw [z2e,cell_of_row w' b (0+j) cur E.t E.fr (by rw [hw']; exact hB),Nat.zero_add]
   rw [List.getElem?_take] at hj
   split at hj
   ·simpa using hj
   ·cases hj
end
def zdt:AV→Bool
 | .sc u=>u.oneCell'
 | .zs | .im _ _=>true
 | _=>false
def zah (xs:Els):Bool:=xs.all (·.all zdt)
def bytesOf (s:ByteArray):List Int:=s.data.toList.map fun b=>(b.toNat:Int)
def srcE (h:H) (s:Nat):AV→Option (Els×Option Nat)
 | .zs=>some ([],none)
 | .sc (.string b)=>if s=1 then some ((bytesOf b).map fun n=>[.sc (.int .u8 n)],none) else none
 | .im s' ys=>if s'=s then some (ys,none) else none
 | .sl k p off len =>
  match res h k p with
  | some (s',ys) =>
   if s'=s∧off+len≤ys.length then
    if zah ((ys.drop off).take len) then some ((ys.drop off).take len,none)
    else if p=[]∧off=0 then some (ys.take len,some k) else none
   else none
  | none=>none
 | _=>none
def z1r (h:H):Option Nat→H
 | none=>h
 | some k=>zd h k
def apop (e:Operand→AV) (h:H) (d s bytes:Nat) (x y:Operand):Option (AV×H×Nat) :=
 match srcE h s (e y) with
 | some (zs,mv) =>
  match e x with
  | .zs=>if zs.length * bytes≤140737488355328 then some (.sl d [] 0 zs.length,(d,⟨s,zs⟩)::zd (z1r h mv) d,d) else none
  | .sl k p off len =>
   if p=[]∧off=0 then
    match za (z1r h mv) k with
    | some r=>if r.s=s∧len≤r.xs.length∧(len+zs.length) * bytes≤140737488355328 then some (.sl k [] 0 (len+zs.length),(k,⟨s,r.xs.take len++zs⟩)::zd (z1r h mv) k,k) else none
    | none=>none
   else none
  | _=>none
 | none=>none
section
variable {P:Program} {I:Nat→Prop} {N:Nat} [Dfs N] {σ σ':Pl} {B B':zj} {w:World} {h h':H} {e:Env} {a:Act} {k k':Nat}
theorem Im.ce {p:Path} {i c:Nat}:∀ (x:AV) (v:Value),Im I B x v→Ce I σ B k p i c x v∧fpA σ k p i c x=[]
 | .sc _,_,h=>⟨h,rfl⟩
 | .zs,_,h=>⟨h,rfl⟩
 | .un,_,h=>⟨h,rfl⟩
 | .im _ _,_,h=>⟨h,rfl⟩
 | .ag _,_,h=>h.elim
 | .tu _,_,h=>h.elim
 | .ip _ _ _ _,_,h=>h.elim
 | .sl _ _ _ _,_,h=>h.elim
 | .pt _ _ _ _,_,h=>h.elim
 | .fn _ _,_,h=>h.elim
 | .ow _ _,_,h=>h.elim
 | .pp _,_,h=>h.elim
theorem ImC.ce {p:Path} {i:Nat}:∀ (l:List AV) (c:Nat) (cs:List Value),ImC I B l cs→CeC I σ B k p i c l cs∧fpC σ k p i c l=[]
 | [],_,_,h=>⟨h,rfl⟩
 | x::l,c,_,h=>by
  obtain ⟨v,cs',rfl,h1,h2⟩:=h
  have h3:=Im.ce (σ:=σ) (k:=k) (p:=p) (i:=i) (c:=c) x v h1
  have h4:=ImC.ce (p:=p) (i:=i) l (c+1) cs' h2
  exact ⟨⟨v,cs',rfl,h3.1,h4.1⟩,by simp only [fpC,h3.2,h4.2]; rfl⟩
theorem ImE.ce {p:Path} {s:Nat}:∀ (l:Els) (i:Nat) (cs:List Value),ImE I B s l cs→CeE I σ B k p i s l cs∧fpE σ k p i l=[]
 | [],_,_,_=>⟨trivial,rfl⟩
 | x::l,i,cs,h=>by
  have h3:=ImC.ce (σ:=σ) (k:=k) (p:=p) (i:=i) x 0 _ h.2.1
  have h4:=ImE.ce (p:=p) l (i+1) _ h.2.2
  exact ⟨⟨h.1,h3.1,h4.1⟩,by simp only [fpE,h3.2,h4.2]; rfl⟩
theorem Ce.flat {p p':Path} {i i' c c':Nat}:∀ (x:AV) (v:Value),zdt x=true→Ce I σ B k p i c x v→Ce I σ' B k' p' i' c' x v∧fpA σ' k' p' i' c' x=[]
 | .sc _,_,_,h=>⟨h,rfl⟩
 | .zs,_,_,h=>⟨h,rfl⟩
 | .im _ _,_,_,h=>⟨h,rfl⟩
 | .un,_,h,_=>by cases h
 | .ag _,_,_,h=>h.elim
 | .tu _,_,_,h=>h.elim
 | .ip _ _ _ _,_,_,h=>h.elim
 | .sl _ _ _ _,_,_,h=>h.elim
 | .pt _ _ _ _,_,_,h=>h.elim
 | .fn _ _,_,_,h=>h.elim
 | .pp _,_,_,h=>h.elim
 | .ow _ _,_,h,_=>by cases h
theorem CeC.flat {p p':Path} {i i':Nat}:∀ (l:List AV) (c c':Nat) (cs:List Value),l.all zdt=true→CeC I σ B k p i c l cs→CeC I σ' B k' p' i' c' l cs∧fpC σ' k' p' i' c' l=[]
 | [],_,_,_,_,h=>⟨h,rfl⟩
 | x::l,c,c',_,hf,h=>by
  simp only [List.all_cons,Bool.and_eq_true] at hf
  obtain ⟨v,cs',rfl,h1,h2⟩:=h
  have h3:=Ce.flat (σ':=σ') (k':=k') (p':=p') (i':=i') (c':=c') x v hf.1 h1
  have h4:=CeC.flat (p':=p') (i':=i') l (c+1) (c'+1) cs' hf.2 h2
  exact ⟨⟨v,cs',rfl,h3.1,h4.1⟩,by simp only [fpC,h3.2,h4.2]; rfl⟩
theorem CeE.flat {p p':Path} {s:Nat}:∀ (l:Els) (i i':Nat) (cs:List Value),zah l=true→CeE I σ B k p i s l cs→CeE I σ' B k' p' i' s l cs∧fpE σ' k' p' i' l=[]
 | [],_,_,_,_,_=>⟨trivial,rfl⟩
 | x::l,i,i',cs,hf,h=>by
  simp only [zah,List.all_cons,Bool.and_eq_true] at hf
  have h3:=CeC.flat (σ':=σ') (k':=k') (p':=p') (i':=i') x 0 0 _ hf.1 h.2.1
  have h4:=CeE.flat (p':=p') l (i+1) (i'+1) _ hf.2 h.2.2
  exact ⟨⟨h.1,h3.1,h4.1⟩,by simp only [fpE,h3.2,h4.2]; rfl⟩
theorem CeC.one {p:Path} {i:Nat}:∀ (l:List AV) (c:Nat) (cs:List Value),CeC I σ B k p i c l cs→∀ v ∈ cs,v.oneCell'=true
 | [],_,_,h=>by simp only [CeC] at h; simp [h]
 | a::as,c,_,h=>by
  obtain ⟨v,cs',rfl,h1,h2⟩:=h
  intro u hu
  rcases List.mem_cons.1 hu with rfl | hu
  ·exact (Ce.va a u h1).2
  ·exact CeC.one as (c+1) cs' h2 u hu
theorem CeE.one {p:Path} {s:Nat}:∀ (xs:Els) (i:Nat) (cs:List Value),CeE I σ B k p i s xs cs→∀ v ∈ cs.take (xs.length * s),v.oneCell'=true
 | [],_,_,_=>by simp
 | x::xs,i,cs,h=>by
  intro v hv
  rw [List.length_cons,Nat.add_mul,Nat.one_mul,Nat.add_comm,List.take_add,List.mem_append] at hv
  rcases hv with hv | hv
  ·exact CeC.one x 0 _ h.2.1 v hv
  ·exact CeE.one xs (i+1) _ h.2.2 v hv
def ya3 (I:Nat→Prop) (σ:Pl) (w:World) (h:H) (s:Nat) (zs:Els) (news:List Value):Option Nat→Prop
 | none=>∀ (σ':Pl) key i,CeE I σ' (bl w) key [] i s zs news∧fpE σ' key [] i zs=[]
 | some k2=>∃ r,za h k2=some r∧CeE I σ (bl w) k2 [] 0 s zs news∧(fpE σ k2 [] 0 zs).Sublist (fpR σ k2 r)
theorem zyv (R:Rel I N σ e h a w) {s:Nat} {y:Operand} {zs:Els} {mv:Option Nat} (hs:srcE h s (ev e y)=some (zs,mv)) :
  ∃ (news:List Value),(∀ w':World,(Builtin.lenOf (a.eval y)).run P w' = .ok zs.length w')∧news.length=zs.length * s∧(∀ w':World,w'.heap=w.heap→(Builtin.firstCells s zs.length (a.eval y)).run P w' = .ok news.toArray w')∧(∀ v ∈ news,v.oneCell'=true) ∧
   ya3 I σ w h s zs news mv:=by
 have hy:=zt R y
 have nil:∀ (A:Option Addr),a.eval y = .slice A 0 0→∃ (news:List Value),(∀ w':World,(Builtin.lenOf (a.eval y)).run P w' = .ok ([]:Els).length w')∧news.length=([]:Els).length * s∧(∀ w':World,w'.heap=w.heap→(Builtin.firstCells s ([]:Els).length (a.eval y)).run P w' = .ok news.toArray w')∧(∀ v ∈ news,v.oneCell'=true) ∧
   (∀ (σ':Pl) key i,CeE I σ' (bl w) key [] i s [] news∧fpE σ' key [] i []=[]):=by
  intro A hA
  refine ⟨[],fun _=>by rw [hA]; rfl,by simp,fun w' _=>?_,by simp,fun _ _ _=>⟨trivial,rfl⟩⟩
  rw [hA]
  cases A with
  | none=>simp [Builtin.firstCells]
  | some A=>simp [Builtin.firstCells,loadCells,loadCellsFrom]
 cases hk:ev e y with
 | zs =>
  rw [hk] at hy
  simp only [hk,srcE,Option.some.injEq,Prod.mk.injEq] at hs
  obtain ⟨rfl,rfl⟩:=hs
  obtain ⟨A,hA⟩:=hy
  exact nil A hA
 | im s' ys =>
  rw [hk] at hy
  simp only [hk,srcE] at hs
  by_cases hss:s'=s
  ·rw [if_pos hss] at hs
   subst hss
   simp only [Option.some.injEq,Prod.mk.injEq] at hs
   obtain ⟨rfl,rfl⟩:=hs
   obtain ⟨A0,c,hv,hc,hne⟩:=hy
   by_cases hz:ys=[]
   ·subst hz
    refine ⟨[],fun _=>by rw [hv]; rfl,by simp,fun w' _=>?_,by simp,fun _ _ _=>⟨trivial,rfl⟩⟩
    rw [hv]
    cases A0 with
    | none=>simp [Builtin.firstCells]
    | some A=>simp [Builtin.firstCells,loadCells,loadCellsFrom]
   ·obtain ⟨A,cur,E,fr,rfl,hsp,hI,hB,hE⟩:=hne hz
    have hce:=ImE.ce (σ:=σ) (k:=0) (p:=[]) ys 0 _ hE
    have hcells:=CeE.cells ys 0 _ hce.1
    refine ⟨(cur.toList.drop A.off).take (ys.length * s'),fun _=>by rw [hv]; rfl,by rw [List.length_take]; omega,fun w' hw'=>?_,CeE.one ys 0 _ hce.1,fun σ' key i=>?_⟩
    ·rw [hv]
     refine run_firstCells_some w' s' ys.length A ys.length c _ (by rw [List.length_take]; omega) (fun j u hj=>?_)
     obtain ⟨b,o,sp⟩:=A
     simp only at hsp hB hj
     subst hsp
     rw [z2e,cell_of_row w' b (o+j) cur E fr (by rw [hw']; exact hB)]
     rw [List.getElem?_take] at hj
     split at hj
     ·rw [List.getElem?_drop] at hj; simpa using hj
     ·cases hj
    ·have hce':=ImE.ce (σ:=σ') (k:=key) (p:=[]) ys i _ hE
     exact ⟨CeE.same ys i _ _ hce'.1 (by rw [List.take_take,Nat.min_self]),hce'.2⟩
  ·rw [if_neg hss] at hs; cases hs
 | sl k p off len =>
  rw [hk] at hy
  simp only [hk,srcE] at hs
  cases hres:res h k p with
  | none=>simp only [hres] at hs; cases hs
  | some sy =>
   obtain ⟨s',ys⟩:=sy
   simp only [hres] at hs
   by_cases hcond:s'=s∧off+len≤ys.length
   ·rw [if_pos hcond] at hs
    obtain ⟨rfl,hle⟩:=hcond
    obtain ⟨hp,hpf⟩:=R.heap.place hres
    unfold z2c at hp
    simp only [Va] at hy
    cases hL:σ k p with
    | none =>
     simp only [hL] at hp hy
     subst hp
     obtain ⟨rfl,rfl,A,hA⟩:=hy
     simp only [List.drop_nil,List.take_nil,zah,List.all_nil,if_true,Option.some.injEq,Prod.mk.injEq] at hs
     obtain ⟨rfl,rfl⟩:=hs
     exact nil A hA
    | some L =>
     simp only [hL] at hp hy
     obtain ⟨q1,q2,cur,E,q3,q4,q5⟩:=hp
     obtain ⟨A,c,hv,f1,f2,f3⟩:=hy
     have hlen:((ys.drop off).take len).length=len:=by rw [List.length_take,List.length_drop]; omega
     have hE:CeE I σ (bl w) k p (0+off) s' ((ys.drop off).take len) (cur.toList.drop (off * s')):=CeE.take _ _ _ len (CeE.drop ys 0 _ off q5)
     have hcells:=CeE.cells _ _ _ hE
     rw [hlen] at hcells
     have hfirst:∀ w':World,w'.heap=w.heap→(Builtin.firstCells s' len (a.eval y)).run P w' = .ok ((cur.toList.drop (off * s')).take (len * s')).toArray w':=by
      intro w' hw'
      rw [hv]
      by_cases hl0:len=0
      ·subst hl0; simp [Builtin.firstCells,loadCells,loadCellsFrom]
      ·have:=f3 (.inl (by omega))
       subst this
       refine run_firstCells_some w' s' len ⟨L.b,off * L.s,none⟩ len c _ (by rw [List.length_take]; omega) (fun j u hj=>?_)
       rw [z2e,cell_of_row w' L.b (off * L.s+j) cur E.t E.fr (by rw [hw']; exact q3),q1]
       rw [List.getElem?_take] at hj
       split at hj
       ·rw [List.getElem?_drop] at hj; simpa using hj
       ·cases hj
     have hone:=CeE.one _ _ _ hE
     rw [hlen] at hone
     by_cases hf:zah ((ys.drop off).take len)=true
     ·rw [if_pos hf] at hs
      simp only [Option.some.injEq,Prod.mk.injEq] at hs
      obtain ⟨h1,rfl⟩:=hs
      subst h1
      refine ⟨(cur.toList.drop (off * s')).take (len * s'),fun _=>by rw [hlen,hv]; rfl,by rw [hlen,List.length_take]; omega,by rw [hlen]; exact hfirst,hone,fun σ' key i=>?_⟩
      have:=CeE.flat (σ':=σ') (k':=key) (p':=[]) _ _ i _ hf hE
      exact ⟨CeE.same _ i _ _ this.1 (by rw [hlen,List.take_take,Nat.min_self]),this.2⟩
     ·rw [if_neg hf] at hs
      by_cases hpo:p=[]∧off=0
      ·rw [if_pos hpo] at hs
       obtain ⟨rfl,rfl⟩:=hpo
       simp only [Option.some.injEq,Prod.mk.injEq] at hs
       obtain ⟨h1,rfl⟩:=hs
       subst h1
       simp only [List.drop_zero,Nat.zero_add,Nat.zero_mul] at hlen hE hcells hfirst hone
       refine ⟨cur.toList.take (len * s'),fun _=>by rw [hlen,hv]; rfl,by rw [hlen,List.length_take]; omega,by rw [hlen]; exact hfirst,hone,?_⟩
       unfold res at hres
       split at hres
       ·rename_i r hg
        simp only [resE,Option.some.injEq,Prod.mk.injEq] at hres
        obtain ⟨hr1,hr2⟩:=hres
        refine ⟨r,hg,CeE.same _ 0 _ _ hE (by rw [hlen,List.take_take,Nat.min_self]),?_⟩
        unfold fpR
        simp only [hL,hr2]
        exact List.Sublist.trans (z6k _ _ _) (List.sublist_cons_self _ _)
       ·cases hres
      ·rw [if_neg hpo] at hs; cases hs
   ·rw [if_neg hcond] at hs; cases hs
 | un=>simp only [hk,srcE] at hs; cases hs
 | sc u =>
  cases u with
  | string b =>
   rw [hk] at hy
   simp only [hk,srcE] at hs
   by_cases h1:s=1
   ·rw [if_pos h1] at hs
    subst h1
    simp only [Option.some.injEq,Prod.mk.injEq] at hs
    obtain ⟨rfl,rfl⟩:=hs
    have hyv:a.eval y = .string b:=hy
    have hl:((bytesOf b).map fun n=>[AV.sc (.int .u8 n)]).length=b.size:=by simp only [bytesOf,List.length_map,Array.length_toList]; rfl
    refine ⟨(bytesOf b).map (Value.int .u8),fun _=>by rw [hl,hyv]; rfl,by simp,fun w' _=>?_,fun v hv=>?_,fun σ' key i=>?_⟩
    ·rw [hl,hyv]
     simp only [Builtin.firstCells,Sem.run_pure]
     congr 1
     apply Array.ext'
     have e:b.extract 0 b.size=b:=by
      apply ByteArray.ext
      rw [ByteArray.data_extract]
      exact Array.extract_size
     rw [e]
     simp [bytesOf]
    ·obtain ⟨n,_,rfl⟩:=List.mem_map.1 hv; rfl
    ·have key:∀ (l:List Int) (i:Nat),CeE I σ' (bl w) key [] i 1 (l.map fun n=>[AV.sc (.int .u8 n)]) (l.map (Value.int .u8))∧fpE σ' key [] i (l.map fun n=>[AV.sc (.int .u8 n)])=[]:=by
      intro l
      induction l with
      | nil=>exact fun _=>⟨trivial,rfl⟩
      | cons x l ih =>
       intro i
       obtain ⟨q1,q2⟩:=ih (i+1)
       exact ⟨⟨rfl,⟨_,_,rfl,⟨rfl,rfl⟩,rfl⟩,q1⟩,by simp only [List.map_cons,fpE,q2]; rfl⟩
     exact key _ _
   ·rw [if_neg h1] at hs; cases hs
  | _=>simp only [hk,srcE] at hs; cases hs
 | ag _=>simp only [hk,srcE] at hs; cases hs
 | tu _=>simp only [hk,srcE] at hs; cases hs
 | ip _ _ _ _=>simp only [hk,srcE] at hs; cases hs
 | pt _ _ _ _=>simp only [hk,srcE] at hs; cases hs
 | fn _ _=>simp only [hk,srcE] at hs; cases hs
 | ow _ _=>simp only [hk,srcE] at hs; cases hs
 | pp _=>simp only [hk,srcE] at hs; cases hs
end
def znk (el:TypeId):TypeDesc→Bool
 | .slice el2=>el2==el
 | _=>false
def znl:TypeDesc→Bool
 | .string=>true
 | _=>false
theorem y5w {el:TypeId} {d2:TypeDesc} (h:(znk el d2 || znl d2)=true):d2 = .slice el∨d2 = .string:=by
 cases d2 <;> simp_all [znk,znl]
def ziz (P:Program) (o:Oper):Option IB :=
 match o.op with
 | .call { callee:=.builtin .append,args,argTypes } =>
  match args.toList,argTypes.toList with
  | [x,y],[t,t2] =>
   match P.underlying t,P.underlying t2 with
   | some (.slice el),some d2 =>
    match P.info? el with
    | some i =>
     match i.zero with
     | some z=>if (znk el d2 || znl d2)=true∧z.cells.size=i.size∧0<i.size∧0<i.bytes then some (.app i.size i.bytes x y) else none
     | none=>none
    | none=>none
   | _,_=>none
  | _,_=>none
 | _=>none
section
variable {P:Program} {I:Nat→Prop} {N:Nat} [Dfs N] {σ σ':Pl} {B B':zj} {w:World} {h h':H} {e:Env} {a:Act} {k k':Nat}
structure Does (P:Program) (I:Nat→Prop) (N:Nat) [Dfs N] (key:Option Nat) (σ:Pl) (e':Env) (h:H) (a:Act) (w:World) (o:Oper) (h':H):Prop where
 run:∃ n w' σ' a',(execOp a.eval o).run P w = .ok n w'∧(match n with | .value v=>a'=a.put o.dst v | .skip=>a'=a.put o.dst undef | _=>False)∧Rel I N σ' e' h' a' w'∧Le w w' ∧
  (∀ b,b<w.heap.size→b ∉ fpH σ h→bl w' b=bl w b)∧(∀ b ∈ fpH σ' h',b ∈ fpH σ h∨w.heap.size≤b)∧(∀ k,some k ≠ key→σ' k []=σ k [])
theorem zp2 (hh:HRel I σ h w) (mv:Option Nat):HRel I σ (z1r h mv) w∧(∀ b ∈ fpH σ (z1r h mv),b ∈ fpH σ h)∧(∀ k ∈ (z1r h mv).map Prod.fst,k ∈ h.map Prod.fst)∧(∀ k2,mv=some k2→k2 ∉ (z1r h mv).map Prod.fst∧∀ r,za h k2=some r→∀ b ∈ fpR σ k2 r,b ∉ fpH σ (z1r h mv)):=by
 cases mv with
 | none=>exact ⟨hh,fun b hb=>hb,fun k hk=>hk,fun k2 h=>by cases h⟩
 | some k2 =>
  obtain ⟨q1,q2,q3,q4⟩:=z4m hh k2
  refine ⟨q1,q3,q4,fun k hk=>?_⟩
  cases hk
  refine ⟨q2,fun r hg b hb=>?_⟩
  exact ((hh.del hg).2.2.2.2.1 b hb).1
theorem z8y:∀ (h:H) {r:Row},za h k=some r→k ∈ h.map Prod.fst
 | [],r,h=>by cases h
 | (k',r')::h,r,hg=>by
  simp only [za] at hg
  by_cases e:k'=k
  ·simp [e]
  ·rw [if_neg e] at hg
   have:=z8y h hg
   simp [this]
theorem ztg (R:Rel I N σ e h a w) {o:Oper} {d s bytes:Nat} {x y:Operand} (hdst:o.dst=some d) (hd:d<N) (hc:ziz P o=some (.app s bytes x y)) {av:AV} {key:Nat} (hr:apop (ev e) h d s bytes x y=some (av,h',key)) :
  Does P I N (some key) σ (upd (z1i (fun k _=>k==key) e) d av) h a w o h':=by
 unfold ziz at hc
 split at hc
 ·rename_i args ts ho
  split at hc
  ·rename_i x' y' t t2 hx ht
   split at hc
   ·rename_i el d2 hu hu2
    split at hc
    ·rename_i i hi
     split at hc
     ·rename_i z hz
      split at hc
      ·rename_i hcond
       obtain ⟨hd2,hzs,hs0,hb0⟩:=hcond
       simp only [Option.some.injEq,IB.app.injEq] at hc
       obtain ⟨rfl,rfl,rfl,rfl⟩:=hc
       have e1:args = #[x',y']:=by apply Array.ext'; simpa using hx
       have e2:ts = #[t,t2]:=by apply Array.ext'; simpa using ht
       subst e1 e2
       have hex:∀ v w',(Builtin.append_ #[t,t2] o.type #[a.eval x',a.eval y']).run P w = .ok v w'→(execOp a.eval o).run P w = .ok (.value v) w':=by
        intro v w' hrun
        simp only [execOp,ho,resolve,invoke,builtin,Sem.run_bind,Sem.run_pure,Result.andThen_ok,List.map_toArray,List.map_cons,List.map_nil,hrun]
       unfold apop at hr
       split at hr
       ·rename_i zs mv hsrc
        obtain ⟨news,s1,s2,s3,s4,s5⟩:=zyv (P:=P) R hsrc
        obtain ⟨t1,t2',t3,t4⟩:=zp2 R.heap mv
        have hlen:(Builtin.lenOf (a.eval y')).run P w = .ok zs.length w:=s1 w
        have hxv:=zt R x'
        have fin:∀ (key:Nat) (old:Els) (h2:H) (tb:Option Nat) (base:Option Loc),HRel I σ h2 w→key ∉ h2.map Prod.fst→(∀ k ∈ h2.map Prod.fst,k ∈ (z1r h mv).map Prod.fst)→(∀ b ∈ fpH σ h2,b ∈ fpH σ (z1r h mv)) →
          (∀ k2,mv=some k2→k2 ≠ key∨old=[]) →
          (∀ b,tb=some b→b ∈ fpH σ h)→(tb=none→base=none) →
          ((tb=none∧old=[]∧∃ A,a.eval x' = .slice A 0 0)∨(∃ (b cap:Nat) (cur:Array Value) (E:EF cur),tb=some b∧a.eval x' = .slice (some ⟨b,0,none⟩) old.length cap∧bl w b=some (.cells cur E.t E.fr)∧cur.size=cap * i.size∧old.length≤cap∧CeE I σ (bl w) key [] 0 i.size old cur.toList ∧
           b ∉ fpH σ h2∧¬ I b∧b<w.heap.size∧b ∉ fpE σ key [] 0 old∧(∀ k2 r,mv=some k2→za h k2=some r→b ∉ fpR σ k2 r))) →
          (fpE σ key [] 0 old).Nodup→(∀ b ∈ fpE σ key [] 0 old,b ∉ fpH σ h2∧¬ I b∧b<w.heap.size∧b ∈ fpH σ h∧∀ k2 r,mv=some k2→za h k2=some r→b ∉ fpR σ k2 r) →
          (old.length+zs.length) * i.bytes≤140737488355328 →
          Does P I N (some key) σ (upd (z1i (fun k _=>k==key) e) d (.sl key [] 0 (old.length+zs.length))) h a w o ((key,⟨i.size,old++zs⟩)::h2):=by
         intro key old h2 tb base g1 g2 g3 g4 g5 g6 g7 g8 g9 g10 g11
         let σa:Pl:=fun k q=>if k=key then (match q with
          | []=>base
          | (j,c)::q'=>match mv with
           | none=>σ key ((j,c)::q')
           | some k2=>if old.length≤j then σ k2 ((j - old.length,c)::q') else σ key ((j,c)::q')) else σ k q
         have ha1:∀ k,k ≠ key→∀ q,σa k q=σ k q:=fun k hk q=>if_neg hk
         have hrel:HRel I σa h2 w:=by
          have hk:∀ k ∈ h2.map Prod.fst,∀ q,σa k q=σ k q:=fun k hk q=>ha1 k (fun e=>g2 (e ▸ hk)) q
          exact ⟨zm.ren h2 hk g1.ok,g1.keys,by rw [fpH.ren h2 hk]; exact g1.nodup,by rw [fpH.ren h2 hk]; exact g1.apart,g1.low⟩
         have hfpH:fpH σa h2=fpH σ h2:=fpH.ren h2 (fun k hk q=>ha1 k (fun e=>g2 (e ▸ hk)) q)
         have hold:∀ (n:Nat) (l:Els) (us:List Value),n+l.length≤old.length→(CeE I σ (bl w) key [] n i.size l us→CeE I σa (bl w) key [] n i.size l us)∧fpE σa key [] n l=fpE σ key [] n l:=by
          have hpl:∀ j c q,j<old.length→σa key ([]++(j,c)::q)=σ key ([]++(j,c)::q):=by
           intro j c q hj
           show (if key=key then _ else _)=_
           rw [if_pos rfl]
           cases mv with
           | none=>rfl
           | some k2=>exact if_neg (by omega)
          intro n l
          induction l generalizing n with
          | nil=>intro us _; exact ⟨fun _=>trivial,rfl⟩
          | cons x l ih =>
           intro us hn
           rw [List.length_cons] at hn
           obtain ⟨_,i2⟩:=ih (n+1) [] (by omega)
           refine ⟨fun h=>⟨h.1,CeC.ren 0 (fun c q=>hpl n c q (by omega)) x _ h.2.1,(ih (n+1) _ (by omega)).1 h.2.2⟩,?_⟩
           simp only [fpE]
           rw [i2,fpC.ren 0 (fun c q=>hpl n c q (by omega)) x]
         have hsrcs:CeE I σa (bl w) key [] old.length i.size zs news∧(fpE σa key [] old.length zs).Nodup∧∀ b ∈ fpE σa key [] old.length zs,∃ k2 r,mv=some k2∧za h k2=some r∧b ∈ fpR σ k2 r:=by
          cases mv with
          | none =>
           have:=s5 σa key old.length
           rw [this.2]
           exact ⟨this.1,List.nodup_nil,fun b hb=>by cases hb⟩
          | some k2 =>
           obtain ⟨r,r1,r2,r3⟩:=s5
           have hpl:∀ j c q,σa key ([]++(j+old.length,c)::q)=σ k2 ([]++(j,c)::q):=by
            intro j c q
            show (if key=key then _ else _)=_
            rw [if_pos rfl]
            show (if old.length≤j+old.length then σ k2 ((j+old.length - old.length,c)::q) else _)=_
            rw [if_pos (by omega),Nat.add_sub_cancel]
            rfl
           have h1:=CeE.shift (σ:=σ) (σ':=σa) (B:=bl w) (I:=I) (k:=k2) (k':=key) (p:=[]) (p':=[]) i.size old.length hpl zs 0 _ r2
           have h2:=fpE.shift (σ:=σ) (σ':=σa) (k:=k2) (k':=key) (p:=[]) (p':=[]) old.length hpl zs 0
           rw [Nat.zero_add] at h1 h2
           rw [h2]
           exact ⟨h1,r3.nodup (R.heap.row r1).2.2,fun b hb=>⟨k2,r,rfl,r1,r3.subset hb⟩⟩
         obtain ⟨u1,u2,u3⟩:=hsrcs
         have ho1:=(hold 0 old [] (by omega)).2
         have hfpE:fpE σa key [] 0 (old++zs)=fpE σ key [] 0 old++fpE σa key [] old.length zs:=by rw [zpm,ho1,Nat.zero_add]
         have hsrcb:∀ b ∈ fpE σa key [] old.length zs,b ∉ fpH σ h2∧¬ I b∧b<w.heap.size∧b ∈ fpH σ h:=by
          intro b hb
          obtain ⟨k2,r,rfl,r2,r3⟩:=u3 b hb
          have hm:=(R.heap.row r2).2.1 b r3
          exact ⟨fun hx=>((t4 k2 rfl).2 r r2 b r3) (g4 b hx),(R.heap.apart b hm).1,(R.heap.apart b hm).2,hm⟩
         obtain ⟨v',w',σ',c1,c2,c3,c4,c5,c6,c7⟩:=zz6 (P:=P) (σ:=σa) (ty:=o.type) hu hu2 (y5w hd2) hi hz hzs hb0 tb (key:=key) (old:=old) (srcs:=zs) (h1:=h2) (V:=a.eval x') (src:=a.eval y') (news:=news) hrel g2
          (by
           rcases g8 with g8 | ⟨b,cap,cur,E,k1,k2,k3,k4,k5,k6,k7,k8,k9,k10,k11⟩
           ·exact .inl g8
           ·refine .inr ⟨b,cap,cur,E,k1,k2,k3,k4,k5,(hold 0 old _ (by omega)).1 k6,by rw [hfpH]; exact k7,k8,k9,?_⟩
            rw [hfpE,List.mem_append]
            rintro (hb | hb)
            ·exact k10 hb
            ·obtain ⟨k2',r,r1,r2,r3⟩:=u3 b hb
             exact k11 k2' r r1 r2 r3)
          (by
           intro b hb
           rw [hfpE,List.mem_append] at hb
           rw [hfpH]
           rcases hb with hb | hb
           ·have:=g10 b hb; exact ⟨this.1,this.2.1,this.2.2.1⟩
           ·have:=hsrcb b hb; exact ⟨this.1,this.2.1,this.2.2.1⟩)
          (by
           rw [hfpE,List.nodup_append]
           refine ⟨g9,u2,fun b hb b' hb' e=>?_⟩
           subst e
           obtain ⟨k2',r,r1,r2,r3⟩:=u3 b hb'
           exact (g10 b hb).2.2.2.2 k2' r r1 r2 r3)
          hlen s3 u1 s2 s4 g11 (fun htb _=>by
           show (if key=key then _ else _)=_
           rw [if_pos rfl]
           exact g7 htb)
         have hσ':∀ k q,k ≠ key→σ' k q=σ k q:=fun k q hk=>by rw [c4 k q (fun e=>hk (by simp only [Prod.mk.injEq] at e; exact e.1)),ha1 k hk]
         have hIb:∀ b,I b→bl w' b=bl w b:=fun b hb=>c6 b (R.heap.low b hb) (fun htb=>(R.heap.apart b (g6 b htb.symm)).1 hb)
         refine ⟨_,w',σ',_,hex v' w' c1,rfl,?_,c5,fun b hb hnb=>c6 b hb (fun htb=>hnb (g6 b htb.symm)),fun b hb=>?_,fun k hk=>hσ' k [] (fun e=>hk (by rw [e]))⟩
         ·rw [hdst]
          refine Rel.put c2 R.size (fun t=>?_) R.defers hd c3
          exact Va.mono hIb _ _ (Va.kill (σ':=σ') (bad:=fun k _=>k==key) (fun k p hb=>hσ' k p (by simpa using hb)) (e t) _ (R.vals t))
         ·rcases c7 b hb with h | h | h | h
          ·rw [hfpH] at h; exact .inl (t2' b (g4 b h))
          ·rw [hfpE,List.mem_append] at h
           rcases h with h | h
           ·exact .inl (g10 b h).2.2.2.1
           ·exact .inl (hsrcb b h).2.2.2
          ·exact .inr h
          ·exact .inl (g6 b h)
        split at hr
        ·rename_i hxk
         rw [hxk] at hxv
         split at hr
         ·rename_i hbytes
          cases hr
          obtain ⟨q1,q2,q3,q4⟩:=z4m t1 d
          have:=fin d [] (zd (z1r h mv) d) none none q1 q2 q4 q3 (fun _ _=>.inr rfl) (fun b hb=>by cases hb) (fun _=>rfl) (.inl ⟨rfl,rfl,hxv⟩) List.nodup_nil (fun b hb=>by cases hb) (by simpa using hbytes)
          simpa using this
         ·cases hr
        ·rename_i k p off len hxk
         rw [hxk] at hxv
         split at hr
         ·rename_i hpo
          obtain ⟨rfl,rfl⟩:=hpo
          split at hr
          ·rename_i r hg
           split at hr
           ·rename_i hcond
            obtain ⟨hrs,hle,hbytes⟩:=hcond
            simp only [Option.some.injEq,Prod.mk.injEq] at hr
            obtain ⟨rfl,rfl,rfl⟩:=hr
            obtain ⟨d1,d2,d3,d4,d5,d6⟩:=t1.del hg
            have hlen':(r.xs.take len).length=len:=by rw [List.length_take]; omega
            have hkeys:∀ k' ∈ (zd (z1r h mv) k).map Prod.fst,k' ∈ (z1r h mv).map Prod.fst:=by
             intro k' hk'
             exact ((z3z hg).map Prod.fst).mem_iff.2 (by simp only [List.map_cons]; exact List.mem_cons_of_mem _ hk')
            have hkk:∀ k2,mv=some k2→k2 ≠ k:=fun k2 hm e=>(t4 k2 hm).1 (e ▸ z8y _ hg)
            unfold zr at d2
            unfold fpR at d4 d5
            simp only [Va] at hxv
            cases hL:σ k [] with
            | none =>
             simp only [hL] at d2 hxv
             obtain ⟨rfl,_,A,hA⟩:=hxv
             have:=fin k [] (zd (z1r h mv) k) none none d1 d3 hkeys d6 (fun k2 hm=>.inl (hkk k2 hm)) (fun b hb=>by cases hb) (fun _=>rfl) (.inl ⟨rfl,rfl,A,hA⟩) List.nodup_nil (fun b hb=>by cases hb) (by simpa using hbytes)
             rw [List.take_zero]
             simpa using this
            | some L =>
             simp only [hL] at d2 d4 d5 hxv
             obtain ⟨f1,f2,cur,E,f3,f4,f5⟩:=d2
             obtain ⟨A,c',hv,g1,g2,g3⟩:=hxv
             have hA:=g3 (.inr trivial)
             subst hA
             have hsub:=z6k (σ:=σ) (k:=k) (p:=[]) r.xs 0 len
             have hLm:L.b ∈ fpH σ (z1r h mv):=(d5 L.b (by simp)).2
             have:=fin k (r.xs.take len) (zd (z1r h mv) k) (some L.b) (some L) d1 d3 hkeys d6 (fun k2 hm=>.inl (hkk k2 hm)) (fun b hb=>by cases hb; exact t2' _ hLm) (fun hn=>by cases hn)
              (.inr ⟨L.b,L.cap,cur,E,rfl,by rw [hv,hlen',Nat.zero_mul,show c'=L.cap by omega],f3,by rw [f4,hrs],by rw [hlen']; omega,by rw [← hrs]; exact CeE.take _ _ _ len f5,(d5 L.b (by simp)).1,(t1.apart _ hLm).1,(t1.apart _ hLm).2,fun hm=>(List.nodup_cons.1 d4).1 (hsub.subset hm),fun k2 r2 hm hg2 hb=>(t4 k2 hm).2 r2 hg2 _ hb hLm⟩)
              (hsub.nodup (List.nodup_cons.1 d4).2) (fun b hb=>by
               have hb':b ∈ L.b::fpE σ k [] 0 r.xs:=List.mem_cons_of_mem _ (hsub.subset hb)
               have hm:=d5 b hb'
               exact ⟨hm.1,(t1.apart _ hm.2).1,(t1.apart _ hm.2).2,t2' _ hm.2,fun k2 r2 hmv hg2 hbb=>(t4 k2 hmv).2 r2 hg2 _ hbb hm.2⟩)
              (by rw [hlen']; exact hbytes)
             rw [hlen'] at this
             exact this
           ·cases hr
          ·cases hr
         ·cases hr
        ·cases hr
       ·cases hr
      ·cases hc
     ·cases hc
    ·cases hc
   ·cases hc
  ·cases hc
 ·cases hc
end
section
variable {P:Program} {I:Nat→Prop} {N:Nat} [Dfs N] {σ σ':Pl} {B B':zj} {w w':World} {h h1:H} {e:Env} {a:Act} {k:Nat}
theorem zp3 (f:Els→Els):∀ (p:Path) (xs:Els),(p=[]→(f xs).length=xs.length)→(updE xs p f).length=xs.length
 | [],xs,h=>h rfl
 | (i,c)::p,xs,_=>by
  simp only [updE]
  split
  ·rfl
  ·split <;> simp
theorem HRel.updPlace {r:Row} {p:Path} {s:Nat} {ys:Els} (hh:HRel I σ h w) (hg:za h k=some r) (hr:resE r.s r.xs p=some (s,ys)) (f:Els→Els) (hlen:(f ys).length=ys.length)
  (hh1:HRel I σ h1 w) (hk1:k ∉ h1.map Prod.fst) (hf1:∀ b ∈ fpH σ h1,b ∈ fpH σ (zd h k)) (hsz:w.heap.size≤w'.heap.size)
  (hpl:z2c I σ' (bl w') k p s (f ys)) (hσp:σ' k p=σ k p) (hσ:∀ k' q,¬ (k'=k∧∃ r,r ≠ []∧q=p++r)→σ' k' q=σ k' q)
  (hB:∀ b,b<w.heap.size→b ∉ fpP σ k p ys→bl w' b=bl w b) (hnd:(fpP σ' k p (f ys)).Nodup)
  (hfp:∀ b ∈ fpP σ' k p (f ys),b ∈ fpP σ k p ys∨(b ∈ fpH σ (zd h k)∧b ∉ fpH σ h1)) :
  HRel I σ' ((k,⟨r.s,updE r.xs p f⟩)::h1) w'∧(∀ b ∈ fpH σ' ((k,⟨r.s,updE r.xs p f⟩)::h1),b ∈ fpH σ h)∧∃ l1 l2,fpR σ k r=l1++fpP σ k p ys++l2∧fpR σ' k ⟨r.s,updE r.xs p f⟩=l1++fpP σ' k p (f ys)++l2:=by
 obtain ⟨d1,d2,d3,d4,d5,d6⟩:=hh.del hg
 have hσk:∀ k',k' ≠ k→∀ q,σ' k' q=σ k' q:=fun k' hk q=>hσ k' q (fun e=>hk e.1)
 have hfpH1:fpH σ' h1=fpH σ h1:=fpH.ren h1 (fun k' hk' q=>hσk k' (fun e=>hk1 (e ▸ hk')) q)
 have key:zr I σ' (bl w') k ⟨r.s,updE r.xs p f⟩∧∃ l1 l2,fpR σ k r=l1++fpP σ k p ys++l2∧fpR σ' k ⟨r.s,updE r.xs p f⟩=l1++fpP σ' k p (f ys)++l2:=by
  by_cases hp:p=[]
  ·subst hp
   simp only [resE,Option.some.injEq,Prod.mk.injEq] at hr
   obtain ⟨rfl,rfl⟩:=hr
   exact ⟨hpl,[],[],by simp [zua],by simp [zua,updE]⟩
  ·have hσ0:σ' k []=σ k []:=hσ k [] (fun ⟨_,r',h1,h2⟩=>by
    have:=h2.symm
    rw [List.append_eq_nil_iff] at this
    exact hp this.1)
   have hσq:∀ q,¬ (∃ r',r' ≠ []∧q=[]++p++r')→σ' k q=σ k q:=fun q hq=>hσ k q (fun ⟨_,r',h1,h2⟩=>hq ⟨r',h1,by simpa using h2⟩)
   unfold zr at d2 ⊢
   unfold fpR at d4 d5 ⊢
   rw [hσ0]
   cases hL:σ k [] with
   | none =>
    simp only [hL] at d2
    rw [d2] at hr
    cases p with
    | nil=>exact absurd rfl hp
    | cons q p=>obtain ⟨i',c'⟩:=q; simp [resE] at hr
   | some L =>
    simp only [hL] at d2 d4 d5 ⊢
    obtain ⟨f1,f2,cur,E,f3,f4,f5⟩:=d2
    obtain ⟨hnL,hnE⟩:=List.nodup_cons.1 d4
    have hsub:=(z5m p [] r.s r.xs _ s ys f5 hp hr).2
    rw [List.nil_append] at hsub
    have hE:=CeE.updAt (I:=I) (σ:=σ) (σ':=σ') (B:=bl w) (B':=bl w') (k:=k) (fun b hb=>hB b (hh.low b hb) (fun hm=>((hh.apart b (d5 b (List.mem_cons_of_mem _ (hsub.subset hm))).2).1 hb))) f p [] r.s r.xs _ s ys f5 hnE hp hr hlen (by simpa using hpl) hσq
     (fun b hb hbm=>hB b ((hh.apart b (d5 b (List.mem_cons_of_mem _ hbm)).2).2) (by simpa using hb))
    obtain ⟨l1,l2,g1,g2⟩:=fpE.updAt (I:=I) (σ:=σ) (σ':=σ') (B:=bl w) (k:=k) f p [] r.s r.xs _ s ys f5 hp hr hσq
    rw [List.nil_append] at g1 g2
    refine ⟨⟨f1,by rw [zp3 f p r.xs (fun e=>absurd e hp)]; exact f2,cur,E,?_,f4,hE⟩,L.b::l1,l2,by rw [g1]; simp,by rw [g2]; simp⟩
    rw [hB L.b (hh.apart L.b (d5 L.b (by simp)).2).2 (fun hm=>hnL (hsub.subset hm))]
    exact f3
 obtain ⟨k1,l1,l2,k2,k3⟩:=key
 have hall:∀ b ∈ fpR σ' k ⟨r.s,updE r.xs p f⟩,(b ∈ fpR σ k r∨(b ∈ fpH σ (zd h k)∧b ∉ fpH σ h1)):=by
  intro b hb
  rw [k3] at hb
  simp only [List.mem_append] at hb
  rcases hb with (hb | hb) | hb
  ·left; rw [k2]; simp [hb]
  ·rcases hfp b hb with h | h
   ·left; rw [k2]; simp [h]
   ·exact .inr h
  ·left; rw [k2]; simp [hb]
 have hnd':(fpR σ' k ⟨r.s,updE r.xs p f⟩).Nodup:=by
  rw [k3]
  rw [k2] at d4
  have hd4:=d4
  rw [List.nodup_append,List.nodup_append] at d4
  rw [List.nodup_append,List.nodup_append]
  obtain ⟨⟨n1,n2,n3⟩,n4,n5⟩:=d4
  have out:∀ b,b ∈ l1∨b ∈ l2→∀ b' ∈ fpP σ' k p (f ys),b ≠ b':=by
   rintro b hb b' hb' rfl
   have hbr:b ∈ fpR σ k r:=by rw [k2]; rcases hb with hb | hb <;> simp [hb]
   rcases hfp b hb' with h | h
   ·rcases hb with hb | hb
    ·exact n3 b hb b h rfl
    ·exact n5 b (by simp [h]) b hb rfl
   ·exact (d5 b hbr).1 h.1
  refine ⟨⟨n1,hnd,fun b hb b' hb'=>out b (.inl hb) b' hb'⟩,n4,fun b hb b' hb' e=>?_⟩
  rcases List.mem_append.1 hb with hb | hb
  ·exact n5 b (by simp [hb]) b' hb' e
  ·exact out b' (.inr hb') b hb e.symm
 refine ⟨HRel.add (σ:=σ) (w:=w) hh1 hk1 hσk (fun b hb hm=>hB b hb (fun hx=>?_)) hsz k1 hnd' (fun b hb=>?_),fun b hb=>?_,l1,l2,k2,k3⟩
 ·have hbr:b ∈ fpR σ k r:=by rw [k2]; simp [hx]
  rcases hm with hm | hm
  ·exact (hh.apart b (d5 b hbr).2).1 hm
  ·exact (d5 b hbr).1 (hf1 b hm)
 ·rcases hall b hb with h | h
  ·have:=d5 b h
   exact ⟨fun hm=>this.1 (hf1 b hm),(hh.apart b this.2).1,by have:=(hh.apart b this.2).2; omega⟩
  ·have:=d6 b h.1
   exact ⟨h.2,(hh.apart b this).1,by have:=(hh.apart b this).2; omega⟩
 ·rw [z1h,hfpH1,List.mem_append] at hb
  rcases hb with hb | hb
  ·rcases hall b hb with h | h
   ·exact (d5 b h).2
   ·exact d6 b h.1
  ·exact d6 b (hf1 b hb)
end
def under (k:Nat) (p:Path) (c n:Nat) (k':Nat) (q:Path):Bool :=
 k'==k && (q.take p.length).map Prod.snd==p.map Prod.snd && match q.drop p.length with
  | (_,c')::_=>decide (c≤c') && decide (c'<c+n)
  | []=>false
def z1j (i c n:Nat) (vs:List AV) (ys:Els):Els :=
 match ys[i]? with
 | some x0=>ys.set i (x0.take c++vs++x0.drop (c+n))
 | none=>ys
def stop (e:Operand→AV) (h:H) (n:Nat) (a x:Operand):Option (H×(Nat→Path→Bool)) :=
 match e a with
 | .pt k p i c =>
  match za h k with
  | some r =>
   match resE r.s r.xs p with
   | some (_,ys) =>
    match ys[i]? with
    | some x0 =>
     if c+n≤x0.length then
      match cellsOf (e x) with
      | some vs =>
       if vs.length=n then
        match absL (zd h k) vs with
        | some (vs',h1)=>some ((k,⟨r.s,updE r.xs p (z1j i c n vs')⟩)::h1,under k p c n)
        | none=>none
       else none
      | none=>none
     else none
    | none=>none
   | none=>none
  | none=>none
 | _=>none
section
variable {P:Program} {I:Nat→Prop} {N:Nat} [Dfs N] {σ σ':Pl} {B B':zj} {w w':World} {h h1:H} {e:Env} {a:Act} {k:Nat}
theorem CeC.app {p:Path} {i:Nat}:∀ (l1 l2:List AV) (c:Nat) (u1 u2:List Value),CeC I σ B k p i c l1 u1→CeC I σ B k p i (c+l1.length) l2 u2→CeC I σ B k p i c (l1++l2) (u1++u2)
 | [],l2,c,u1,u2,h1,h2=>by simp only [CeC] at h1; subst h1; simpa using h2
 | x::l1,l2,c,_,u2,h1,h2=>by
  obtain ⟨v,cs',rfl,h3,h4⟩:=h1
  exact ⟨v,cs'++u2,rfl,h3,CeC.app l1 l2 (c+1) cs' u2 h4 (by rw [List.length_cons] at h2; rwa [show c+1+l1.length=c+(l1.length+1) by omega])⟩
theorem zba {p:Path} {i:Nat}:∀ (l1 l2:List AV) (c:Nat),fpC σ k p i c (l1++l2)=fpC σ k p i c l1++fpC σ k p i (c+l1.length) l2
 | [],l2,c=>by simp [fpC]
 | x::l1,l2,c=>by
  rw [List.cons_append,fpC,fpC,zba l1 l2 (c+1),List.append_assoc,List.length_cons,show c+1+l1.length=c+(l1.length+1) by omega]
theorem CeC.still {p:Path} {i:Nat} (hI:∀ b,I b→B' b=B b):∀ (l:List AV) (c:Nat) (cs:List Value),(∀ c' q,c≤c'→c'<c+l.length→σ' k (p++(i,c')::q)=σ k (p++(i,c')::q))→(∀ b ∈ fpC σ k p i c l,B' b=B b) →
  CeC I σ B k p i c l cs→CeC I σ' B' k p i c l cs∧fpC σ' k p i c l=fpC σ k p i c l
 | [],_,_,_,_,h=>⟨h,rfl⟩
 | x::l,c,_,hσ,hb,h=>by
  obtain ⟨v,cs',rfl,h1,h2⟩:=h
  simp only [fpC,List.mem_append] at hb
  have h3:=Ce.still hI (fun q=>hσ c q (by omega) (by simp)) x v (fun b hbb=>hb b (.inl hbb)) h1
  have h4:=CeC.still hI l (c+1) cs' (fun c' q g1 g2=>hσ c' q (by omega) (by simp only [List.length_cons]; omega)) (fun b hbb=>hb b (.inr hbb)) h2
  exact ⟨⟨v,cs',rfl,h3,h4.1⟩,by simp only [fpC]; rw [fpA.ren (fun q=>hσ c q (by omega) (by simp)) x,h4.2]⟩
theorem zst {m1 A O C m2 V:List Nat} (h:(m1++(A++O++C)++m2).Nodup) (hV:V.Nodup) (hd:∀ b ∈ V,b ∉ m1++(A++O++C)++m2):(m1++(A++V++C)++m2).Nodup:=by
 have hp:(m1++(A++V++C)++m2).Perm (V++(m1++(A++C)++m2)):=by
  have e1:m1++(A++V++C)++m2=(m1++A)++(V++(C++m2)):=by simp
  have e2:V++(m1++(A++C)++m2)=V++((m1++A)++(C++m2)):=by simp
  rw [e1,e2]
  have e3:(m1++A)++(V++(C++m2))=((m1++A)++V)++(C++m2):=by simp
  have e4:V++((m1++A)++(C++m2))=(V++(m1++A))++(C++m2):=by simp
  rw [e3,e4]
  exact List.perm_append_comm.append_right _
 have hs:(m1++(A++C)++m2).Sublist (m1++(A++O++C)++m2):=by
  refine List.Sublist.append (List.Sublist.append (List.Sublist.refl _) (List.Sublist.append ?_ (List.Sublist.refl _))) (List.Sublist.refl _)
  exact List.sublist_append_left _ _
 rw [hp.nodup_iff,List.nodup_append]
 exact ⟨hV,hs.nodup h,fun b hb b' hb' e=>hd b hb (hs.subset (e ▸ hb'))⟩
theorem zoh {t:TypeId} {n b o:Nat} {v:Value} {cur:Array Value} {E:EF cur} (hs:szT P t=some n) (hB:w.heap[b]? = some (.cells cur E.t E.fr)) (hv:v.cells.size=n) (hle:o+n≤cur.size) (h1:∀ u ∈ v.cells.toList,u.oneCell'=true) :
  (storeVar t ⟨b,o,none⟩ v).run P w = .ok () (w.setRow b (cur.toList.take o++v.cells.toList++cur.toList.drop (o+n)).toArray):=by
 have hst:=z63 (P:=P) b o E.t E.fr v.cells.toList 0 cur w E.ok hB (by simp only [Nat.add_zero,Array.length_toList]; omega) h1
 simp only [Nat.add_zero,Array.length_toList,hv] at hst
 simp only [storeVar,Sem.run_bind,z1y hs,Result.andThen_ok,Sem.run_ite]
 rw [if_neg (by omega)]
 exact hst
theorem zp1 (R:Rel I N σ e h a w) {o:Oper} {t:TypeId} {ad x:Operand} {n:Nat} (ho:o.op = .store t ad x) (hn:szT P t=some n) (hdst:o.dst=none) {h':H} {bad:Nat→Path→Bool} (hr:stop (ev e) h n ad x=some (h',bad)) :
  Does P I N none σ (z1i bad e) h a w o h':=by
 have hav:=zt R ad
 have hxv:=zt R x
 unfold stop at hr
 split at hr
 ·rename_i k p i c hk
  rw [hk] at hav
  split at hr
  ·rename_i r hg
   split at hr
   ·rename_i s ys hres
    split at hr
    ·rename_i x0 hx0
     split at hr
     ·rename_i hcn
      split at hr
      ·rename_i vs hvs
       split at hr
       ·rename_i hvl
        split at hr
        ·rename_i vs' h1 habs
         simp only [Option.some.injEq,Prod.mk.injEq] at hr
         obtain ⟨rfl,rfl⟩:=hr
         obtain ⟨L,hL,hadr⟩:=hav
         have hva:=zc2 hvs hxv
         have hvlen:=VaC.length _ _ hva
         simp only [Array.length_toList] at hvlen
         have hone:=VaC.one _ _ hva
         obtain ⟨d1,d2,d3,d4,d5,d6⟩:=R.heap.del hg
         obtain ⟨σ',s1,s2,s3,s4,s5,s6,s7,s8,s9⟩:=z8o vs (zd h k) _ vs' h1 σ k p i c d1 hva habs d3
         obtain ⟨hp,hpf⟩:=R.heap.place (k:=k) (p:=p) (s:=s) (ys:=ys) (by unfold res; rw [hg]; exact hres)
         have hpnd:(fpP σ k p ys).Nodup:=by
          by_cases hp0:p=[]
          ·subst hp0
           simp only [resE,Option.some.injEq,Prod.mk.injEq] at hres
           obtain ⟨rfl,rfl⟩:=hres
           exact d4
          ·unfold zr at d2
           unfold fpR at d4
           cases hs:σ k [] with
           | none =>
            simp only [hs] at d2
            rw [d2] at hres
            cases p with
            | nil=>exact absurd rfl hp0
            | cons q p=>obtain ⟨i',c'⟩:=q; simp [resE] at hres
           | some L0 =>
            simp only [hs] at d2 d4
            obtain ⟨_,_,cur,E,_,_,f5⟩:=d2
            have:=(z5m p [] r.s r.xs _ s ys f5 hp0 hres).2
            rw [List.nil_append] at this
            exact this.nodup (List.nodup_cons.1 d4).2
         unfold z2c at hp
         unfold fpP at hpnd hpf
         simp only [hL] at hp hpnd hpf
         obtain ⟨f1,f2,cur,E,f3,f4,f5⟩:=hp
         obtain ⟨hnL,hnE⟩:=List.nodup_cons.1 hpnd
         have hilt:i<ys.length:=by
          rcases Nat.lt_or_ge i ys.length with h' | h'
          ·exact h'
          ·rw [List.getElem?_eq_none h'] at hx0; cases hx0
         obtain ⟨hxl,hxC⟩:=CeE.get ys 0 _ f5 i x0 hx0
         rw [Nat.zero_add] at hxC
         have hcur:(i+1) * s≤cur.size:=by rw [f4]; exact Nat.mul_le_mul_right _ (by omega)
         rw [Nat.add_mul,Nat.one_mul] at hcur
         have hcl:cur.toList.length=cur.size:=Array.length_toList
         have hrun:=zoh (P:=P) (o:=i * s+c) (v:=a.eval x) hn f3 (by omega) (by omega) hone
         have hBo:∀ b,b ≠ L.b→bl (w.setRow L.b (cur.toList.take (i * s+c)++(a.eval x).cells.toList++cur.toList.drop (i * s+c+n)).toArray) b=bl w b:=fun b hb=>setRow_other w L.b b _ hb
         have hBn:bl (w.setRow L.b (cur.toList.take (i * s+c)++(a.eval x).cells.toList++cur.toList.drop (i * s+c+n)).toArray) L.b=some (.cells (cur.toList.take (i * s+c)++(a.eval x).cells.toList++cur.toList.drop (i * s+c+n)).toArray E.t E.fr):=setRow_heap w L.b cur _ E.t _ f3
         generalize hw':w.setRow L.b (cur.toList.take (i * s+c)++(a.eval x).cells.toList++cur.toList.drop (i * s+c+n)).toArray=w' at hrun hBo hBn
         have hszw:w'.heap.size=w.heap.size:=by rw [← hw',size_setRow]
         have hlew:Le w w':=by rw [← hw']; exact ⟨by rw [size_setRow]; exact Nat.le_refl _,rfl,rfl,rfl⟩
         have hLI:∀ b,I b→b ≠ L.b:=fun b hb e=>(R.heap.apart L.b (hpf L.b (by simp))).1 (e ▸ hb)
         have hI:∀ b,I b→bl w' b=bl w b:=fun b hb=>hBo b (hLI b hb)
         have hσk:∀ q,(∀ c' q',q=p++(i,c')::q'→¬ (c≤c'∧c'<c+n))→σ' k q=σ k q:=fun q hq=>s2 q (fun c' g1 g2 hpre=>by
          obtain ⟨q',rfl⟩:=hpre
          exact hq c' q' (by simp) ⟨g1,by omega⟩)
         have hσp:σ' k p=σ k p:=hσk p (fun c' q' hq=>by
          have:=congrArg List.length hq
          simp at this)
         have hnews:((cur.toList.drop (i * s)).take s).length=s:=by rw [List.length_take,List.length_drop]; omega
         have hpart1:=CeC.part x0 0 _ 0 c hxC
         have hpart3:=CeC.part x0 0 _ (c+n) (s - (c+n)) hxC
         simp only [List.drop_zero,Nat.zero_add] at hpart1 hpart3
         have hx3:(x0.drop (c+n)).take (s - (c+n))=x0.drop (c+n):=List.take_of_length_le (by rw [List.length_drop]; omega)
         have hu3:(((cur.toList.drop (i * s)).take s).drop (c+n)).take (s - (c+n))=((cur.toList.drop (i * s)).take s).drop (c+n):=List.take_of_length_le (by rw [List.length_drop]; omega)
         rw [hx3,hu3] at hpart3
         have hx0s:x0=x0.take c++(x0.drop c).take n++x0.drop (c+n):=by
          rw [List.append_assoc,← List.drop_drop,List.take_append_drop,List.take_append_drop]
         have hfpx0:fpC σ k p i 0 x0=fpC σ k p i 0 (x0.take c)++fpC σ k p i c ((x0.drop c).take n)++fpC σ k p i (c+n) (x0.drop (c+n)):=by
          conv=>lhs; rw [hx0s]
          rw [zba,zba]
          simp only [List.length_append,List.length_take,List.length_drop,Nat.zero_add]
          rw [show min c x0.length=c by omega,show c+min n (x0.length - c)=c+n by omega]
         obtain ⟨m1,m2,hm,hm'⟩:=z6p (σ:=σ) (k:=k) (p:=p) ys 0 i x0 hx0
         rw [Nat.zero_add] at hm hm'
         have hLno:∀ b ∈ fpE σ k p 0 ys,b ≠ L.b:=fun b hb e=>hnL (e ▸ hb)
         have hin:∀ b ∈ fpC σ k p i 0 x0,b ∈ fpE σ k p 0 ys:=fun b hb=>by rw [hm]; simp [hb]
         have q1:=CeC.still (σ':=σ') (B':=bl w') hI (x0.take c) 0 _ (fun c' q' _ g2=>hσk _ (fun c'' q'' hq=>by
          have:=List.append_cancel_left hq
          simp only [List.cons.injEq,Prod.mk.injEq,true_and] at this
          rw [List.length_take] at g2; omega)) (fun b hb=>hBo b (hLno b (hin b (by rw [hfpx0]; simp [hb])))) hpart1
         have q3:=CeC.still (σ':=σ') (B':=bl w') hI (x0.drop (c+n)) (c+n) _ (fun c' q' g1 _=>hσk _ (fun c'' q'' hq=>by
          have:=List.append_cancel_left hq
          simp only [List.cons.injEq,Prod.mk.injEq,true_and] at this
          omega)) (fun b hb=>hBo b (hLno b (hin b (by rw [hfpx0]; simp [hb])))) hpart3
         have q2:CeC I σ' (bl w') k p i c vs' (a.eval x).cells.toList:=CeC.mono hI k p i c vs' _ (fun b hb=>hBo b (fun e=>by
          have h8:=s8 b hb
          have hbr:L.b ∈ fpR σ k r:=by
           by_cases hp0:p=[]
           ·subst hp0; unfold fpR; simp [hL]
           ·unfold zr at d2
            unfold fpR
            cases hs:σ k [] with
            | none =>
             simp only [hs] at d2
             rw [d2] at hres
             cases p with
             | nil=>exact absurd rfl hp0
             | cons q p=>obtain ⟨i',c'⟩:=q; simp [resE] at hres
            | some L0 =>
             simp only [hs] at d2 ⊢
             obtain ⟨_,_,cur',E',_,_,f5'⟩:=d2
             have:=(z5m p [] r.s r.xs _ s ys f5' hp0 hres).2
             rw [List.nil_append] at this
             exact List.mem_cons_of_mem _ (this.subset (by unfold fpP; simp [hL]))
          exact (d5 L.b hbr).1 (e ▸ h8.1))) s3
         have hel:CeC I σ' (bl w') k p i 0 (x0.take c++vs'++x0.drop (c+n)) (((cur.toList.drop (i * s)).take s).take c++(a.eval x).cells.toList++((cur.toList.drop (i * s)).take s).drop (c+n)):=by
          refine CeC.app _ _ 0 _ _ (CeC.app _ _ 0 _ _ q1.1 ?_) ?_
          ·rw [List.length_take,show 0+min c x0.length=c by omega]; exact q2
          ·rw [List.length_append,List.length_take,s9,show 0+(min c x0.length+vs.length)=c+n by omega]; exact q3.1
         have hfx1:fpC σ' k p i 0 (x0.take c++vs'++x0.drop (c+n))=fpC σ k p i 0 (x0.take c)++fpC σ' k p i c vs'++fpC σ k p i (c+n) (x0.drop (c+n)):=by
          rw [zba,zba,q1.2]
          simp only [List.length_append,List.length_take,s9,Nat.zero_add]
          rw [show min c x0.length=c by omega,show c+vs.length=c+n by omega,q3.2]
         have hput:z1j i c n vs' ys=ys.set i (x0.take c++vs'++x0.drop (c+n)):=by unfold z1j; rw [hx0]
         have hσother:∀ i' c' q',i' ≠ i→σ' k (p++(i',c')::q')=σ k (p++(i',c')::q'):=fun i' c' q' hne=>hσk _ (fun c'' q'' hq=>by
          have:=List.append_cancel_left hq
          simp only [List.cons.injEq,Prod.mk.injEq] at this
          omega)
         have hfE:fpE σ' k p 0 (z1j i c n vs' ys)=m1++fpC σ' k p i 0 (x0.take c++vs'++x0.drop (c+n))++m2:=by
          rw [hput]
          exact hm' σ' _ (fun i' c' a'' hne=>fpA.ren (fun q'=>hσother i' c' q' hne) a'')
         have hE':CeE I σ' (bl w') k p 0 s (z1j i c n vs' ys) (cur.toList.take (i * s+c)++(a.eval x).cells.toList++cur.toList.drop (i * s+c+n)):=by
          rw [hput]
          have:=CeE.setAt (I:=I) (σ:=σ) (σ':=σ') (B:=bl w) (B':=bl w') ys 0 i cur.toList x0 (x0.take c++vs'++x0.drop (c+n)) (((cur.toList.drop (i * s)).take s).take c++(a.eval x).cells.toList++((cur.toList.drop (i * s)).take s).drop (c+n)) f5 hx0
           (by simp only [List.length_append,List.length_take,List.length_drop,s9]; omega) (by simp only [List.length_append,List.length_take,List.length_drop,Array.length_toList]; omega) (by rw [Nat.zero_add]; exact hel)
           (fun i' c' a'' v hne hb hce=>Ce.still hI (fun q'=>hσother i' c' q' (by omega)) a'' v (fun b hbb=>hBo b (hLno b (hb b hbb).1)) hce)
          refine CeE.same _ 0 _ _ this ?_
          congr 1
          rw [List.take_take,Nat.min_eq_left (by omega),List.drop_take,List.drop_drop]
          have e1:cur.toList.take (i * s+c)=cur.toList.take (i * s)++(cur.toList.drop (i * s)).take c:=List.take_add
          rw [e1]
          simp only [List.append_assoc]
          congr 3
          rw [show i * s+s=i * s+(c+n)+(s - (c+n)) by omega,← List.drop_drop (i:=s - (c+n)),← Nat.add_assoc,List.take_append_drop]
         obtain ⟨u1,u2,_⟩:=R.heap.updPlace (σ':=σ') (w':=w') (h1:=h1) hg hres (z1j i c n vs') (by rw [hput,List.length_set]) s4 (fun hm=>d3 (s5 k hm)) s6 (by omega)
          (by
           unfold z2c
           rw [hσp]
           simp only [hL]
           refine ⟨f1,by rw [hput,List.length_set]; exact f2,_,⟨E.t,E.fr,?_⟩,hBn,?_,hE'⟩
           ·have:=E.ok
            simp only [List.size_toArray,List.length_append,List.length_take,List.length_drop,Array.length_toList]
            omega
           simp only [List.size_toArray,List.length_append,List.length_take,List.length_drop,Array.length_toList]
           omega) hσp
          (fun k' q hq=>by
           by_cases hk':k'=k
           ·subst hk'
            exact hσk q (fun c' q' he _=>hq ⟨rfl,(i,c')::q',by simp,he⟩)
           ·exact s1 k' q hk')
          (fun b hb hnb=>hBo b (fun e=>hnb (by unfold fpP; simp [hL,e])))
          (by
           unfold fpP
           rw [hσp]
           simp only [hL]
           have hLr:L.b ∈ fpR σ k r:=by
            by_cases hp0:p=[]
            ·subst hp0; unfold fpR; simp [hL]
            ·unfold zr at d2
             unfold fpR
             cases hs:σ k [] with
             | none =>
              simp only [hs] at d2
              rw [d2] at hres
              cases p with
              | nil=>exact absurd rfl hp0
              | cons q p=>obtain ⟨i',c'⟩:=q; simp [resE] at hres
             | some L0 =>
              simp only [hs] at d2 ⊢
              obtain ⟨_,_,cur',E',_,_,f5'⟩:=d2
              have:=(z5m p [] r.s r.xs _ s ys f5' hp0 hres).2
              rw [List.nil_append] at this
              exact List.mem_cons_of_mem _ (this.subset (by unfold fpP; simp [hL]))
           have hd:∀ b ∈ fpC σ' k p i c vs',b ∉ fpR σ k r:=fun b hb hbr=>(d5 b hbr).1 (s8 b hb).1
           have hrow:∀ b ∈ fpE σ k p 0 ys,b ∈ fpR σ k r:=by
            intro b hb
            by_cases hp0:p=[]
            ·subst hp0
             simp only [resE,Option.some.injEq,Prod.mk.injEq] at hres
             unfold fpR; simp only [hL]; rw [hres.2]; exact List.mem_cons_of_mem _ hb
            ·unfold zr at d2
             unfold fpR
             cases hs:σ k [] with
             | none =>
              simp only [hs] at d2
              rw [d2] at hres
              cases p with
              | nil=>exact absurd rfl hp0
              | cons q p=>obtain ⟨i',c'⟩:=q; simp [resE] at hres
             | some L0 =>
              simp only [hs] at d2 ⊢
              obtain ⟨_,_,cur',E',_,_,f5'⟩:=d2
              have:=(z5m p [] r.s r.xs _ s ys f5' hp0 hres).2
              rw [List.nil_append] at this
              exact List.mem_cons_of_mem _ (this.subset (by unfold fpP; simp [hL,hb]))
           have hnE':=hnE
           have hrow':=hrow
           rw [hm,hfpx0] at hnE' hrow'
           have hsw:=zst hnE' s7 (fun b hb hm'=>hd b hb (hrow' b hm'))
           rw [hfE,hfx1,List.nodup_cons]
           refine ⟨fun hb=>?_,hsw⟩
           rw [hm,hfpx0] at hnL
           simp only [List.mem_append] at hb hnL
           rcases hb with (hb | (hb | hb) | hb) | hb
           ·exact hnL (.inl (.inl hb))
           ·exact hnL (.inl (.inr (.inl (.inl hb))))
           ·exact hd L.b hb hLr
           ·exact hnL (.inl (.inr (.inr hb)))
           ·exact hnL (.inr hb))
          (by
           unfold fpP
           rw [hσp]
           simp only [hL]
           intro b hb
           rw [hfE,hfx1] at hb
           simp only [List.mem_cons,List.mem_append] at hb
           rw [hm,hfpx0]
           simp only [List.mem_cons,List.mem_append]
           rcases hb with hb | (hb | (hb | hb) | hb) | hb
           ·exact .inl (.inl hb)
           ·exact .inl (.inr (.inl (.inl hb)))
           ·exact .inl (.inr (.inl (.inr (.inl (.inl hb)))))
           ·exact .inr (s8 b hb)
           ·exact .inl (.inr (.inl (.inr (.inr hb))))
           ·exact .inl (.inr (.inr hb)))
         refine ⟨.skip,w',σ',a.put o.dst undef,?_,rfl,?_,hlew,fun b hb hnb=>hBo b (fun e=>hnb (e ▸ hpf L.b (by simp))),fun b hb=>.inl (u2 b hb),fun k' _=>?_⟩
         ·simp only [execOp,ho,Instr.storeAt,hadr,Instr.sureAddr,Sem.run_bind,Sem.run_pure,Result.andThen_ok]
          rw [f1]
          rw [hrun]
          rfl
         ·rw [hdst]
          refine ⟨u1,R.size,fun t=>?_,R.defers⟩
          refine Va.mono hI _ _ (Va.kill (σ':=σ') (bad:=under k p c n) (fun k' q hb=>?_) (e t) _ (R.vals t))
          by_cases hk':k'=k
          ·subst hk'
           refine hσk q (fun c' q' he hc'=>?_)
           subst he
           unfold under at hb
           simp only [beq_self_eq_true,List.drop_left,List.take_left,Bool.true_and,Bool.and_eq_false_iff,decide_eq_false_iff_not] at hb
           omega
          ·exact s1 k' q hk'
         ·by_cases hk':k'=k
          ·subst hk'
           exact hσk [] (fun c' q' he _=>by
            have:=congrArg List.length he
            simp at this)
          ·exact s1 k' [] hk'
        ·cases hr
       ·cases hr
      ·cases hr
     ·cases hr
    ·cases hr
   ·cases hr
  ·cases hr
 ·cases hr
end
def z28 (P:Program) (f:Nat) (args:List AV) (hin:H) (r:AV) (hout:H):Prop :=
 ∀ (I:Nat→Prop) (σ:Pl) (w:World) (vs:List Value),HRel I σ hin w→VaL I σ (bl w) args vs →
  Calls P f vs.toArray w fun en w'=>∃ v σ',en = .returned v∧HRel I σ' hout w'∧Va I σ' (bl w') r v∧(∀ k ∈ hin.map Prod.fst,σ' k []=σ k [])∧Le w w' ∧
   (∀ b,b<w.heap.size→b ∉ fpH σ hin→bl w' b=bl w b)∧(∀ b ∈ fpH σ' hout,b ∈ fpH σ hin∨w.heap.size≤b)
def CallG (P:Program) (f:Nat) (args:List AV) (hin:H) (r:AV) (hout:H):Prop :=
 ∀ (I:Nat→Prop) (σ:Pl) (w:World) (vs:List Value),HRel I σ hin w→VaL I σ (bl w) args vs →
  Calls P f vs.toArray w fun en w'=>∃ v σ' I',en = .returned v∧(∀ b,I b→I' b)∧(∀ b,I' b→I b∨b ∈ fpH σ hin∨w.heap.size≤b)∧HRel I' σ' hout w'∧Va I' σ' (bl w') r v∧(∀ k ∈ hin.map Prod.fst,σ' k []=σ k [])∧Le w w' ∧
   (∀ b,b<w.heap.size→b ∉ fpH σ hin→bl w' b=bl w b)∧(∀ b ∈ fpH σ' hout,b ∈ fpH σ hin∨w.heap.size≤b)
def z5p (P:Program) (f:Nat) (args:List AV) (hin:H) (u:Value):Prop :=
 ∀ (I:Nat→Prop) (σ:Pl) (w:World) (vs:List Value),HRel I σ hin w→VaL I σ (bl w) args vs →
  Calls P f vs.toArray w fun en w'=>en = .panicked [{ v:=u,recovered:=false }]∧Le w w'∧(∀ b,b<w.heap.size→b ∉ fpH σ hin→bl w' b=bl w b)
theorem z28.toG {P:Program} {f:Nat} {args:List AV} {hin:H} {r:AV} {hout:H} (hc:z28 P f args hin r hout):CallG P f args hin r hout:=fun I σ w vs hh hv =>
 (hc I σ w vs hh hv).mono fun en w' ⟨v,σ',h1,h2,h3,h4,h5,h6,h7⟩=>⟨v,σ',I,h1,fun _ h=>h,fun _ h=>.inl h,h2,h3,h4,h5,h6,h7⟩
section
variable {P:Program} {I:Nat→Prop} {N:Nat} [Dfs N] {σ σ':Pl} {w w':World} {h h':H} {e e':Env} {a:Act}
structure Step (P:Program) (I:Nat→Prop) (N:Nat) [Dfs N] (pro:List Nat) (σ:Pl) (h:H) (w:World) (e':Env) (h':H) (a':Act) (w':World):Prop where
 out:∃ σ' I',(∀ b,I b→I' b)∧(∀ b,I' b→I b∨b ∈ fpH σ h∨w.heap.size≤b)∧Rel I' N σ' e' h' a' w'∧(∀ k ∈ pro,σ' k []=σ k [])∧Le w w'∧(∀ b,b<w.heap.size→b ∉ fpH σ h→bl w' b=bl w b)∧(∀ b ∈ fpH σ' h',b ∈ fpH σ h∨w.heap.size≤b)
end
def look:List (Nat×Nat)→Nat→Option Nat
 | [],_=>none
 | (n,o)::m,k=>if n=k then some o else look m k
def z2a:H→List (Nat×Nat)→Option (H×H)
 | h,[]=>some ([],h)
 | h,(n,o)::m =>
  match za h o with
  | some r =>
   match z2a (zd h o) m with
   | some (hs,rest)=>some ((n,r)::hs,rest)
   | none=>none
  | none=>none
def z1o (m:List (Nat×Nat)) (σ:Pl):Pl:=fun k q=>match look m k with | some o=>σ o q | none=>none
section
variable {P:Program} {I J:Nat→Prop} {N:Nat} [Dfs N] {σ σ':Pl} {w w':World} {h h':H} {e e':Env} {a:Act}
theorem zr.move {k k':Nat} {r:Row} {B:zj} (hσ:∀ q,σ' k' q=σ k q) (h:zr I σ B k r):zr I σ' B k' r∧fpR σ' k' r=fpR σ k r:=by
 unfold zr fpR at *
 rw [hσ []]
 cases hs:σ k [] with
 | none=>simpa only [hs,and_true] using h
 | some L =>
  simp only [hs] at h ⊢
  obtain ⟨h1,h2,cur,E,h3,h4,h5⟩:=h
  exact ⟨⟨h1,h2,cur,E,h3,h4,CeE.ren (k:=k) 0 r.s (fun i' c' q=>hσ _) r.xs _ h5⟩,by rw [fpE.ren (k:=k) 0 (fun i' c' q=>hσ _) r.xs]⟩
theorem zsx {n o:Nat} {m:List (Nat×Nat)} {k:Nat} (h:n ≠ k):z1o ((n,o)::m) σ k=z1o m σ k:=by
 funext q
 simp only [z1o,look,if_neg h]
theorem z40:∀ (m:List (Nat×Nat)) (h hs rest:H),HRel I σ h w→z2a h m=some (hs,rest)→(m.map Prod.fst).Nodup →
  HRel I (z1o m σ) hs w∧HRel I σ rest w∧(∀ b ∈ fpH (z1o m σ) hs,b ∈ fpH σ h∧b ∉ fpH σ rest)∧(∀ b ∈ fpH σ rest,b ∈ fpH σ h)∧(∀ k ∈ rest.map Prod.fst,k ∈ h.map Prod.fst∧k ∉ m.map Prod.snd)∧hs.map Prod.fst=m.map Prod.fst
 | [],h,hs,rest,hh,hs',_=>by
  simp only [z2a,Option.some.injEq,Prod.mk.injEq] at hs'
  obtain ⟨rfl,rfl⟩:=hs'
  exact ⟨⟨trivial,List.nodup_nil,List.nodup_nil,fun b hb=>(by simp [fpH] at hb),hh.low⟩,hh,fun b hb=>(by simp [fpH] at hb),fun b hb=>hb,fun k hk=>⟨hk,by simp⟩,rfl⟩
 | (n,o)::m,h,hs,rest,hh,hs',hnd=>by
  simp only [List.map_cons,List.nodup_cons] at hnd
  unfold z2a at hs'
  split at hs'
  ·rename_i r hg
   split at hs'
   ·rename_i hs1 rest1 hsp
    simp only [Option.some.injEq,Prod.mk.injEq] at hs'
    obtain ⟨rfl,rfl⟩:=hs'
    obtain ⟨d1,d2,d3,d4,d5,d6⟩:=hh.del hg
    obtain ⟨q1,q2,q3,q4,q5,q6⟩:=z40 m (zd h o) hs1 rest1 d1 hsp hnd.2
    have hkeys:∀ k' ∈ (zd h o).map Prod.fst,k' ∈ h.map Prod.fst:=by
     intro k' hk'
     exact ((z3z hg).map Prod.fst).mem_iff.2 (by simp only [List.map_cons]; exact List.mem_cons_of_mem _ hk')
    have hne:∀ k ∈ hs1.map Prod.fst,∀ q,z1o ((n,o)::m) σ k q=z1o m σ k q:=by
     intro k hk q
     rw [zsx (fun e=>hnd.1 (by rw [q6] at hk; rw [e]; exact hk))]
    have hnew:=zr.move (σ:=σ) (σ':=z1o ((n,o)::m) σ) (k:=o) (k':=n) (fun q=>by simp [z1o,look]) d2
    have hfp1:fpH (z1o ((n,o)::m) σ) hs1=fpH (z1o m σ) hs1:=fpH.ren hs1 hne
    refine ⟨⟨⟨hnew.1,zm.ren hs1 hne q1.ok⟩,by rw [List.map_cons,q6]; exact List.nodup_cons.2 hnd,?_,?_,hh.low⟩,q2,?_,fun b hb=>d6 b (q4 b hb),fun k hk=>?_,by rw [List.map_cons,q6]; rfl⟩
    ·rw [z1h,hnew.2,hfp1,List.nodup_append]
     exact ⟨d4,q1.nodup,fun b hb b' hb' e=>(d5 b hb).1 (e ▸ (q3 b' hb').1)⟩
    ·intro b hb
     rw [z1h,hnew.2,hfp1,List.mem_append] at hb
     rcases hb with hb | hb
     ·exact hh.apart b (d5 b hb).2
     ·exact hh.apart b (d6 b (q3 b hb).1)
    ·intro b hb
     rw [z1h,hnew.2,hfp1,List.mem_append] at hb
     rcases hb with hb | hb
     ·exact ⟨(d5 b hb).2,fun hm=>(d5 b hb).1 (q4 b hm)⟩
     ·exact ⟨d6 b (q3 b hb).1,(q3 b hb).2⟩
    ·have:=q5 k hk
     refine ⟨hkeys k this.1,?_⟩
     simp only [List.map_cons,List.mem_cons,not_or]
     exact ⟨fun e=>d3 (e ▸ this.1),this.2⟩
   ·cases hs'
  ·cases hs'
theorem HRel.join {h1 h2:H} {σ1 σ2:Pl} (q1:HRel I σ1 h1 w) (q2:HRel I σ2 h2 w) (hk:∀ k ∈ h1.map Prod.fst,k ∉ h2.map Prod.fst) (hf:∀ b ∈ fpH σ1 h1,b ∉ fpH σ2 h2) :
  HRel I (fun k q=>if k ∈ h1.map Prod.fst then σ1 k q else σ2 k q) (h1++h2) w∧fpH (fun k q=>if k ∈ h1.map Prod.fst then σ1 k q else σ2 k q) (h1++h2)=fpH σ1 h1++fpH σ2 h2:=by
 have e1:∀ k ∈ h1.map Prod.fst,∀ q,(if k ∈ h1.map Prod.fst then σ1 k q else σ2 k q)=σ1 k q:=fun k hk q=>if_pos hk
 have e2:∀ k ∈ h2.map Prod.fst,∀ q,(if k ∈ h1.map Prod.fst then σ1 k q else σ2 k q)=σ2 k q:=fun k hk2 q=>if_neg (fun hk1=>hk k hk1 hk2)
 have hfp:fpH (fun k q=>if k ∈ h1.map Prod.fst then σ1 k q else σ2 k q) (h1++h2)=fpH σ1 h1++fpH σ2 h2:=by
  rw [z2q,fpH.ren h1 e1,fpH.ren h2 e2]
 refine ⟨⟨zm.append.2 ⟨zm.ren h1 e1 q1.ok,zm.ren h2 e2 q2.ok⟩,?_,?_,?_,q1.low⟩,hfp⟩
 ·rw [List.map_append,List.nodup_append]
  exact ⟨q1.keys,q2.keys,fun a ha b hb e=>hk a ha (e ▸ hb)⟩
 ·rw [hfp,List.nodup_append]
  exact ⟨q1.nodup,q2.nodup,fun a ha b hb e=>hf a ha (e ▸ hb)⟩
 ·intro b hb
  rw [hfp,List.mem_append] at hb
  rcases hb with hb | hb
  ·exact q1.apart b hb
  ·exact q2.apart b hb
mutual
theorem Im.wide {B:zj} (hIJ:∀ b,I b→J b):∀ (x:AV) (v:Value),Im I B x v→Im J B x v
 | .sc _,_,h=>h
 | .zs,_,h=>h
 | .un,_,h=>h
 | .im s xs,v,h=>by
  obtain ⟨a,c,rfl,hc,hx⟩:=h
  refine ⟨a,c,rfl,hc,fun hne=>?_⟩
  obtain ⟨A,cur,E,fr,e1,e2,e3,e4,e5⟩:=hx hne
  exact ⟨A,cur,E,fr,e1,e2,hIJ _ e3,e4,ImE.wide hIJ s xs _ e5⟩
 | .ag _,_,h=>h.elim
 | .tu _,_,h=>h.elim
 | .ip _ _ _ _,_,h=>h.elim
 | .sl _ _ _ _,_,h=>h.elim
 | .pt _ _ _ _,_,h=>h.elim
 | .fn _ _,_,h=>h.elim
 | .ow _ _,_,h=>h.elim
 | .pp _,_,h=>h.elim
theorem ImC.wide {B:zj} (hIJ:∀ b,I b→J b):∀ (l:List AV) (cs:List Value),ImC I B l cs→ImC J B l cs
 | [],_,h=>h
 | a::as,_,h=>by
  obtain ⟨v,cs',rfl,h1,h2⟩:=h
  exact ⟨v,cs',rfl,Im.wide hIJ a v h1,ImC.wide hIJ as cs' h2⟩
theorem ImE.wide {B:zj} (hIJ:∀ b,I b→J b) (s:Nat):∀ (l:Els) (cs:List Value),ImE I B s l cs→ImE J B s l cs
 | [],_,_=>trivial
 | x::xs,cs,h=>⟨h.1,ImC.wide hIJ x _ h.2.1,ImE.wide hIJ s xs _ h.2.2⟩
end
theorem VaP.wide {B:zj} (hIJ:∀ b,I b→J b) {σ:Pl}:∀ (q:PV) (v:Value),VaP I σ B q v→VaP J σ B q v
 | .xp _ _ _,_,h=>⟨h.1,hIJ _ h.2.1,h.2.2⟩
 | .fs _ _,_,h=>by
  obtain ⟨L,a,c,h1,h2,h3,h4⟩:=h
  refine ⟨L,a,c,h1,h2,h3,fun hne=>?_⟩
  obtain ⟨A,cur,E,fr,e1,e2,e3,e4⟩:=h4 hne
  exact ⟨A,cur,E,fr,e1,e2,hIJ _ e3,e4⟩
 | .fp _ _ _,_,h=>by
  obtain ⟨L,A,cur,E,fr,h1,h2,h3,h4,h5⟩:=h
  exact ⟨L,A,cur,E,fr,h1,h2,h3,hIJ _ h4,h5⟩
mutual
def toIm:AV→AV
 | .ow s xs=>.im s (z2z xs)
 | .un=>.un
 | .sc v=>.sc v
 | .zs=>.zs
 | .ag cs=>.ag cs
 | .tu vs=>.tu vs
 | .im s xs=>.im s xs
 | .ip s xs i c=>.ip s xs i c
 | .sl k p off len=>.sl k p off len
 | .pt k p i c=>.pt k p i c
 | .fn f caps=>.fn f caps
 | .pp q=>.pp q
def z3w:List AV→List AV
 | []=>[]
 | x::l=>toIm x::z3w l
def z2z:Els→Els
 | []=>[]
 | x::l=>z3w x::z2z l
end
theorem zl6:∀ (l:List AV),(z3w l).length=l.length
 | []=>rfl
 | x::l=>by simp [z3w,zl6 l]
theorem z6v:∀ (l:Els),(z2z l).length=l.length
 | []=>rfl
 | x::l=>by simp [z2z,z6v l]
mutual
theorem Ce.toIm {B:zj} {k:Nat} {p:Path} {i c:Nat} (hIJ:∀ b,I b→J b):∀ (x:AV) (v:Value),(∀ b ∈ fpA σ k p i c x,J b)→Ce I σ B k p i c x v→Im J B (toIm x) v
 | .ow s xs,v,hf,h=>by
  simp only [Ce,fpA] at h hf
  simp only [Loom.toIm,Im,z6v]
  cases hs:σ k (p++[(i,c)]) with
  | none =>
   simp only [hs] at h
   obtain ⟨rfl,a,rfl⟩:=h
   exact ⟨a,0,rfl,Nat.le_refl _,fun hn=>absurd rfl hn⟩
  | some L =>
   simp only [hs] at h hf
   obtain ⟨h1,h2,rfl,cur,E,h4,h5,h6⟩:=h
   exact ⟨_,_,rfl,h2,fun _=>⟨⟨L.b,0,none⟩,cur,E.t,E.fr,rfl,rfl,hf _ (by simp),h4,by
    simpa using CeE.toIm hIJ xs 0 _ (fun b hb=>hf b (by simp [hb])) h6⟩⟩
 | .sc _,_,_,h=>h
 | .zs,_,_,h=>h
 | .im s xs,v,_,h=>Im.wide hIJ (.im s xs) v h
 | .un,_,_,h=>h
 | .ag _,_,_,h=>h.elim
 | .tu _,_,_,h=>h.elim
 | .ip _ _ _ _,_,_,h=>h.elim
 | .sl _ _ _ _,_,_,h=>h.elim
 | .pt _ _ _ _,_,_,h=>h.elim
 | .fn _ _,_,_,h=>h.elim
theorem CeC.toIm {B:zj} {k:Nat} {p:Path} {i:Nat} (hIJ:∀ b,I b→J b):∀ (l:List AV) (c:Nat) (cs:List Value),(∀ b ∈ fpC σ k p i c l,J b)→CeC I σ B k p i c l cs→ImC J B (z3w l) cs
 | [],_,_,_,h=>h
 | x::l,c,_,hf,h=>by
  obtain ⟨v,cs',rfl,h1,h2⟩:=h
  simp only [fpC,List.mem_append] at hf
  exact ⟨v,cs',rfl,Ce.toIm hIJ x v (fun b hb=>hf b (.inl hb)) h1,CeC.toIm hIJ l (c+1) cs' (fun b hb=>hf b (.inr hb)) h2⟩
theorem CeE.toIm {B:zj} {k:Nat} {p:Path} {s:Nat} (hIJ:∀ b,I b→J b):∀ (l:Els) (i:Nat) (cs:List Value),(∀ b ∈ fpE σ k p i l,J b)→CeE I σ B k p i s l cs→ImE J B s (z2z l) cs
 | [],_,_,_,_=>trivial
 | x::l,i,cs,hf,h=>by
  simp only [fpE,List.mem_append] at hf
  exact ⟨by rw [zl6]; exact h.1,CeC.toIm hIJ x 0 _ (fun b hb=>hf b (.inl hb)) h.2.1,CeE.toIm hIJ l (i+1) _ (fun b hb=>hf b (.inr hb)) h.2.2⟩
end
end
def z1k:List (Nat×Nat)→Nat→Option Nat
 | [],_=>none
 | (n,o)::m,k=>if o=k then some n else z1k m k
mutual
def conv (rest:H) (m:List (Nat×Nat)) (bor:Bool):AV→Option AV
 | .sc v=>some (.sc v)
 | .zs=>some .zs
 | .un=>some .un
 | .im s xs=>some (.im s xs)
 | .ip s xs i c=>some (.ip s xs i c)
 | .sl k p off len =>
  if bor then
   match res rest k p with
   | some (s,ys)=>if off+len≤ys.length then some (.im s (z2z ((ys.drop off).take len))) else none
   | none=>none
  else none
 | .pt k p i c=>if p=[] then match z1k m k with | some n=>some (.pt n [] i c) | none=>none else none
 | .ag cs=>match z2d rest m bor cs with | some cs'=>some (.ag cs') | none=>none
 | .tu vs=>match z2d rest m bor vs with | some cs'=>some (.tu cs') | none=>none
 | .fn f caps=>match z2d rest m bor caps with | some cs'=>some (.fn f cs') | none=>none
 | .ow _ _=>none
 | .pp _=>none
def z2d (rest:H) (m:List (Nat×Nat)) (bor:Bool):List AV→Option (List AV)
 | []=>some []
 | x::l =>
  match conv rest m bor x,z2d rest m bor l with
  | some x',some l'=>some (x'::l')
  | _,_=>none
end
def zh0 (bm:List (Nat×Nat)):PV→Option AV
 | .xp b x c=>some (.pp (.xp b x c))
 | .fs k cs=>match z1k bm k with | some n=>some (.pp (.fs n cs)) | none=>none
 | .fp k cs i=>match z1k bm k with | some n=>some (.pp (.fp n cs i)) | none=>none
mutual
def back (bm:List (Nat×Nat)):AV→Option AV
 | .sc v=>some (.sc v)
 | .zs=>some .zs
 | .un=>some .un
 | .im s xs=>some (.im s xs)
 | .ip s xs i c=>some (.ip s xs i c)
 | .sl k p off len=>match z1k bm k with | some n=>some (.sl n p off len) | none=>none
 | .pt k p i c=>match z1k bm k with | some n=>some (.pt n p i c) | none=>none
 | .ag cs=>match z6c bm cs with | some cs'=>some (.ag cs') | none=>none
 | .tu vs=>match z6c bm vs with | some cs'=>some (.tu cs') | none=>none
 | .fn f caps=>match z6c bm caps with | some cs'=>some (.fn f cs') | none=>none
 | .ow _ _=>none
 | .pp q=>zh0 bm q
def z6c (bm:List (Nat×Nat)):List AV→Option (List AV)
 | []=>some []
 | x::l =>
  match back bm x,z6c bm l with
  | some x',some l'=>some (x'::l')
  | _,_=>none
end
mutual
def noIm:AV→Bool
 | .im _ _=>false
 | .ip _ _ _ _=>false
 | .ow _ xs=>z92 xs
 | .ag cs=>z2o cs
 | .tu vs=>z2o vs
 | .fn _ caps=>z2o caps
 | .pp _=>false
 | .un | .sc _ | .zs | .sl _ _ _ _ | .pt _ _ _ _=>true
def z2o:List AV→Bool
 | []=>true
 | x::l=>noIm x && z2o l
def z92:Els→Bool
 | []=>true
 | x::l=>z2o x && z92 l
end
def z6f (h:H):Bool:=h.all fun x=>z92 x.2.xs
def z1f (h:H):List Nat→H
 | []=>h
 | k::ks=>z1f (zd h k) ks
section
variable {P:Program} {I J:Nat→Prop} {N:Nat} [Dfs N] {σ σ':Pl} {B:zj} {w w':World} {h h' rest:H} {e e':Env} {a:Act} {m bm:List (Nat×Nat)}
theorem zdx:∀ (m:List (Nat×Nat)) {k n:Nat},(m.map Prod.fst).Nodup→z1k m k=some n→look m n=some k
 | [],_,_,_,h=>by cases h
 | (n',o')::m,k,n,hnd,h=>by
  simp only [List.map_cons,List.nodup_cons] at hnd
  unfold z1k at h
  split at h
  ·rename_i e
   cases h; subst e
   simp [look]
  ·have h1:=zdx m hnd.2 h
   have:n' ≠ n:=by
    rintro rfl
    apply hnd.1
    have:∀ (m:List (Nat×Nat)),look m n'=some k→n' ∈ m.map Prod.fst:=by
     intro m
     induction m with
     | nil=>intro h; cases h
     | cons x m ih =>
      obtain ⟨a,b⟩:=x
      intro h
      unfold look at h
      split at h
      ·rename_i e; simp [e]
      ·simp [ih h]
    exact this m h1
   simp [look,this,h1]
theorem z8d (hnd:(m.map Prod.fst).Nodup) {k n:Nat} (h:z1k m k=some n) (q:Path):z1o m σ n q=σ k q:=by
 unfold z1o
 rw [zdx m hnd h]
mutual
theorem zh9 {bor:Bool} (hnd:(m.map Prod.fst).Nodup) (hr:HRel I σ rest w) (hIJ:∀ b,I b→J b) (hb:bor=true→∀ b ∈ fpH σ rest,J b):∀ (x y:AV) (v:Value),conv rest m bor x=some y→Va I σ (bl w) x v→Va J (z1o m σ) (bl w) y v
 | .sc _,y,v,hc,h=>by simp only [conv,Option.some.injEq] at hc; subst hc; exact h
 | .zs,y,v,hc,h=>by simp only [conv,Option.some.injEq] at hc; subst hc; exact h
 | .un,y,v,hc,h=>by simp only [conv,Option.some.injEq] at hc; subst hc; trivial
 | .im s xs,y,v,hc,h=>by
  simp only [conv,Option.some.injEq] at hc; subst hc
  exact Im.wide hIJ (.im s xs) v h
 | .ip s xs i c,y,v,hc,h=>by
  simp only [conv,Option.some.injEq] at hc; subst hc
  obtain ⟨A,cur,E,fr,h1,h2,h3,h4,h5⟩:=h
  exact ⟨A,cur,E,fr,h1,h2,hIJ _ h3,h4,ImE.wide hIJ s xs _ h5⟩
 | .sl k p off len,y,v,hc,h=>by
  simp only [conv] at hc
  split at hc
  ·rename_i hbor
   split at hc
   ·rename_i s ys hres
    split at hc
    ·rename_i hle
     simp only [Option.some.injEq] at hc
     subst hc
     obtain ⟨hp,hpf⟩:=hr.place hres
     unfold z2c at hp
     unfold fpP at hpf
     simp only [Va] at h
     cases hL:σ k p with
     | none =>
      simp only [hL] at hp h
      subst hp
      obtain ⟨rfl,rfl,A,rfl⟩:=h
      exact ⟨A,0,by simp [z2z],by simp [z2z],fun hn=>absurd (by simp [z2z]) hn⟩
     | some L =>
      simp only [hL] at hp hpf h
      obtain ⟨f1,f2,cur,E,f3,f4,f5⟩:=hp
      obtain ⟨A,c,rfl,g1,g2,g3⟩:=h
      have hlen:((ys.drop off).take len).length=len:=by rw [List.length_take,List.length_drop]; omega
      refine ⟨some A,c,by rw [z6v,hlen],by rw [z6v,hlen]; exact g2,fun hn=>?_⟩
      have hpos:0<len:=by
       rcases Nat.eq_zero_or_pos len with h0 | h0
       ·exfalso; apply hn; subst h0; simp [z2z]
       ·exact h0
      have hA:=g3 (.inl (by omega))
      subst hA
      refine ⟨_,cur,E.t,E.fr,rfl,rfl,hb hbor _ (hpf _ (by simp)),f3,?_⟩
      have hE:CeE I σ (bl w) k p (0+off) s ((ys.drop off).take len) (cur.toList.drop (off * s)):=CeE.take _ _ _ len (CeE.drop ys 0 _ off f5)
      rw [f1]
      refine CeE.toIm hIJ _ _ _ (fun b hbb=>hb hbor b (hpf b (List.mem_cons_of_mem _ ?_))) hE
      have hs1:=z6k (σ:=σ) (k:=k) (p:=p) (ys.drop off) (0+off) len
      have hs2:∀ (l:Els) (i n:Nat),(fpE σ k p (i+n) (l.drop n)).Sublist (fpE σ k p i l):=by
       intro l
       induction l with
       | nil=>intro i n; simp [fpE]
       | cons x l ih =>
        intro i n
        cases n with
        | zero=>simp
        | succ n =>
         simp only [List.drop_succ_cons,fpE]
         have:=ih (i+1) n
         rw [show i+1+n=i+(n+1) by omega] at this
         exact this.trans (List.sublist_append_right _ _)
      exact (hs1.trans (hs2 ys 0 off)).subset hbb
    ·cases hc
   ·cases hc
  ·cases hc
 | .pt k p i c,y,v,hc,h=>by
  simp only [conv] at hc
  split at hc
  ·rename_i hp
   subst hp
   split at hc
   ·rename_i n hn
    simp only [Option.some.injEq] at hc
    subst hc
    obtain ⟨L,hL,rfl⟩:=h
    exact ⟨L,by rw [z8d hnd hn]; exact hL,rfl⟩
   ·cases hc
  ·cases hc
 | .ag cs,y,v,hc,h=>by
  simp only [conv] at hc
  split at hc
  ·rename_i cs' hcs
   simp only [Option.some.injEq] at hc
   subst hc
   obtain ⟨c,rfl,h⟩:=h
   exact ⟨c,rfl,zfr hnd hr hIJ hb cs cs' _ hcs h⟩
  ·cases hc
 | .tu cs,y,v,hc,h=>by
  simp only [conv] at hc
  split at hc
  ·rename_i cs' hcs
   simp only [Option.some.injEq] at hc
   subst hc
   obtain ⟨c,rfl,h⟩:=h
   exact ⟨c,rfl,z4y hnd hr hIJ hb cs cs' _ hcs h⟩
  ·cases hc
 | .fn f cs,y,v,hc,h=>by
  simp only [conv] at hc
  split at hc
  ·rename_i cs' hcs
   simp only [Option.some.injEq] at hc
   subst hc
   obtain ⟨c,rfl,h⟩:=h
   exact ⟨c,rfl,z4y hnd hr hIJ hb cs cs' _ hcs h⟩
  ·cases hc
 | .ow _ _,y,v,hc,_=>by simp only [conv] at hc; cases hc
theorem z4y {bor:Bool} (hnd:(m.map Prod.fst).Nodup) (hr:HRel I σ rest w) (hIJ:∀ b,I b→J b) (hb:bor=true→∀ b ∈ fpH σ rest,J b):∀ (l l':List AV) (vs:List Value),z2d rest m bor l=some l'→VaL I σ (bl w) l vs→VaL J (z1o m σ) (bl w) l' vs
 | [],l',vs,hc,h=>by simp only [z2d,Option.some.injEq] at hc; subst hc; exact h
 | x::l,l',vs,hc,h=>by
  unfold z2d at hc
  split at hc
  ·rename_i x' l1 hx hl
   simp only [Option.some.injEq] at hc
   subst hc
   obtain ⟨v,vs',rfl,h1,h2⟩:=h
   exact ⟨v,vs',rfl,zh9 hnd hr hIJ hb x x' v hx h1,z4y hnd hr hIJ hb l l1 vs' hl h2⟩
  ·cases hc
theorem zfr {bor:Bool} (hnd:(m.map Prod.fst).Nodup) (hr:HRel I σ rest w) (hIJ:∀ b,I b→J b) (hb:bor=true→∀ b ∈ fpH σ rest,J b):∀ (l l':List AV) (vs:List Value),z2d rest m bor l=some l'→VaC I σ (bl w) l vs→VaC J (z1o m σ) (bl w) l' vs
 | [],l',vs,hc,h=>by simp only [z2d,Option.some.injEq] at hc; subst hc; exact h
 | x::l,l',vs,hc,h=>by
  unfold z2d at hc
  split at hc
  ·rename_i x' l1 hx hl
   simp only [Option.some.injEq] at hc
   subst hc
   obtain ⟨v,vs',rfl,h0,h1,h2⟩:=h
   exact ⟨v,vs',rfl,h0,zh9 hnd hr hIJ hb x x' v hx h1,zfr hnd hr hIJ hb l l1 vs' hl h2⟩
  ·cases hc
end
mutual
theorem z5q {σ2:Pl} (hnd:∀ k n,z1k bm k=some n→∀ q,σ2 n q=σ k q):∀ (x y:AV) (v:Value),back bm x=some y→Va I σ B x v→Va I σ2 B y v
 | .sc _,y,v,hc,h=>by simp only [back,Option.some.injEq] at hc; subst hc; exact h
 | .zs,y,v,hc,h=>by simp only [back,Option.some.injEq] at hc; subst hc; exact h
 | .un,y,v,hc,h=>by simp only [back,Option.some.injEq] at hc; subst hc; trivial
 | .im s xs,y,v,hc,h=>by simp only [back,Option.some.injEq] at hc; subst hc; exact h
 | .ip s xs i c,y,v,hc,h=>by simp only [back,Option.some.injEq] at hc; subst hc; exact h
 | .sl k p off len,y,v,hc,h=>by
  simp only [back] at hc
  split at hc
  ·rename_i n hn
   simp only [Option.some.injEq] at hc
   subst hc
   simp only [Va] at h ⊢
   rw [hnd _ _ hn]
   exact h
  ·cases hc
 | .pt k p i c,y,v,hc,h=>by
  simp only [back] at hc
  split at hc
  ·rename_i n hn
   simp only [Option.some.injEq] at hc
   subst hc
   obtain ⟨L,hL,rfl⟩:=h
   exact ⟨L,by rw [hnd _ _ hn]; exact hL,rfl⟩
  ·cases hc
 | .pp (.xp _ _ _),y,v,hc,h=>by simp only [back,zh0,Option.some.injEq] at hc; subst hc; exact h
 | .pp (.fs k cs),y,v,hc,h=>by
  simp only [back,zh0] at hc
  split at hc
  ·rename_i n hn
   simp only [Option.some.injEq] at hc
   subst hc
   obtain ⟨L,a,c,hL,h1⟩:=h
   exact ⟨L,a,c,by rw [hnd _ _ hn]; exact hL,h1⟩
  ·cases hc
 | .pp (.fp k cs i),y,v,hc,h=>by
  simp only [back,zh0] at hc
  split at hc
  ·rename_i n hn
   simp only [Option.some.injEq] at hc
   subst hc
   obtain ⟨L,A,cur,E,fr,hL,h1⟩:=h
   exact ⟨L,A,cur,E,fr,by rw [hnd _ _ hn]; exact hL,h1⟩
  ·cases hc
 | .ag cs,y,v,hc,h=>by
  simp only [back] at hc
  split at hc
  ·rename_i cs' hcs
   simp only [Option.some.injEq] at hc
   subst hc
   obtain ⟨c,rfl,h⟩:=h
   exact ⟨c,rfl,zfo hnd cs cs' _ hcs h⟩
  ·cases hc
 | .tu cs,y,v,hc,h=>by
  simp only [back] at hc
  split at hc
  ·rename_i cs' hcs
   simp only [Option.some.injEq] at hc
   subst hc
   obtain ⟨c,rfl,h⟩:=h
   exact ⟨c,rfl,zav hnd cs cs' _ hcs h⟩
  ·cases hc
 | .fn f cs,y,v,hc,h=>by
  simp only [back] at hc
  split at hc
  ·rename_i cs' hcs
   simp only [Option.some.injEq] at hc
   subst hc
   obtain ⟨c,rfl,h⟩:=h
   exact ⟨c,rfl,zav hnd cs cs' _ hcs h⟩
  ·cases hc
 | .ow _ _,y,v,hc,_=>by simp only [back] at hc; cases hc
theorem zav {σ2:Pl} (hnd:∀ k n,z1k bm k=some n→∀ q,σ2 n q=σ k q):∀ (l l':List AV) (vs:List Value),z6c bm l=some l'→VaL I σ B l vs→VaL I σ2 B l' vs
 | [],l',vs,hc,h=>by simp only [z6c,Option.some.injEq] at hc; subst hc; exact h
 | x::l,l',vs,hc,h=>by
  unfold z6c at hc
  split at hc
  ·rename_i x' l1 hx hl
   simp only [Option.some.injEq] at hc
   subst hc
   obtain ⟨v,vs',rfl,h1,h2⟩:=h
   exact ⟨v,vs',rfl,z5q hnd x x' v hx h1,zav hnd l l1 vs' hl h2⟩
  ·cases hc
theorem zfo {σ2:Pl} (hnd:∀ k n,z1k bm k=some n→∀ q,σ2 n q=σ k q):∀ (l l':List AV) (vs:List Value),z6c bm l=some l'→VaC I σ B l vs→VaC I σ2 B l' vs
 | [],l',vs,hc,h=>by simp only [z6c,Option.some.injEq] at hc; subst hc; exact h
 | x::l,l',vs,hc,h=>by
  unfold z6c at hc
  split at hc
  ·rename_i x' l1 hx hl
   simp only [Option.some.injEq] at hc
   subst hc
   obtain ⟨v,vs',rfl,h0,h1,h2⟩:=h
   exact ⟨v,vs',rfl,h0,z5q hnd x x' v hx h1,zfo hnd l l1 vs' hl h2⟩
  ·cases hc
end
mutual
theorem Va.narrow:∀ (x:AV) (v:Value),noIm x=true→Va J σ B x v→Va I σ B x v
 | .un,_,_,_=>trivial
 | .sc _,_,_,h=>h
 | .zs,_,_,h=>h
 | .im _ _,_,h,_=>by cases h
 | .ip _ _ _ _,_,h,_=>by cases h
 | .pp _,_,h,_=>by cases h
 | .sl _ _ _ _,_,_,h=>h
 | .pt _ _ _ _,_,_,h=>h
 | .ag cs,_,hn,h=>by obtain ⟨c,rfl,h⟩:=h; exact ⟨c,rfl,VaC.narrow cs _ hn h⟩
 | .tu cs,_,hn,h=>by obtain ⟨c,rfl,h⟩:=h; exact ⟨c,rfl,VaL.narrow cs _ hn h⟩
 | .fn _ cs,_,hn,h=>by obtain ⟨c,rfl,h⟩:=h; exact ⟨c,rfl,VaL.narrow cs _ hn h⟩
 | .ow _ _,_,_,h=>h.elim
theorem VaC.narrow:∀ (l:List AV) (vs:List Value),z2o l=true→VaC J σ B l vs→VaC I σ B l vs
 | [],_,_,h=>h
 | x::l,_,hn,h=>by
  simp only [z2o,Bool.and_eq_true] at hn
  obtain ⟨v,vs',rfl,h0,h1,h2⟩:=h
  exact ⟨v,vs',rfl,h0,Va.narrow x v hn.1 h1,VaC.narrow l vs' hn.2 h2⟩
theorem VaL.narrow:∀ (l:List AV) (vs:List Value),z2o l=true→VaL J σ B l vs→VaL I σ B l vs
 | [],_,_,h=>h
 | x::l,_,hn,h=>by
  simp only [z2o,Bool.and_eq_true] at hn
  obtain ⟨v,vs',rfl,h1,h2⟩:=h
  exact ⟨v,vs',rfl,Va.narrow x v hn.1 h1,VaL.narrow l vs' hn.2 h2⟩
end
mutual
theorem Ce.narrow {k:Nat} {p:Path} {i c:Nat}:∀ (x:AV) (v:Value),noIm x=true→Ce J σ B k p i c x v→Ce I σ B k p i c x v
 | .ow s xs,v,hn,h=>by
  simp only [Ce] at h ⊢
  cases hs:σ k (p++[(i,c)]) with
  | none=>simpa only [hs] using h
  | some L =>
   simp only [hs] at h ⊢
   obtain ⟨h1,h2,h3,cur,E,h4,h5,h6⟩:=h
   exact ⟨h1,h2,h3,cur,E,h4,h5,CeE.narrow xs 0 _ hn h6⟩
 | .sc _,_,_,h=>h
 | .zs,_,_,h=>h
 | .un,_,_,h=>h
 | .im _ _,_,h,_=>by cases h
 | .ag _,_,_,h=>h.elim
 | .tu _,_,_,h=>h.elim
 | .ip _ _ _ _,_,_,h=>h.elim
 | .sl _ _ _ _,_,_,h=>h.elim
 | .pt _ _ _ _,_,_,h=>h.elim
 | .fn _ _,_,_,h=>h.elim
 | .pp _,_,_,h=>h.elim
theorem CeC.narrow {k:Nat} {p:Path} {i:Nat}:∀ (l:List AV) (c:Nat) (cs:List Value),z2o l=true→CeC J σ B k p i c l cs→CeC I σ B k p i c l cs
 | [],_,_,_,h=>h
 | x::l,c,_,hn,h=>by
  simp only [z2o,Bool.and_eq_true] at hn
  obtain ⟨v,cs',rfl,h1,h2⟩:=h
  exact ⟨v,cs',rfl,Ce.narrow x v hn.1 h1,CeC.narrow l (c+1) cs' hn.2 h2⟩
theorem CeE.narrow {k:Nat} {p:Path} {s:Nat}:∀ (l:Els) (i:Nat) (cs:List Value),z92 l=true→CeE J σ B k p i s l cs→CeE I σ B k p i s l cs
 | [],_,_,_,_=>trivial
 | x::l,i,_,hn,h=>by
  simp only [z92,Bool.and_eq_true] at hn
  exact ⟨h.1,CeC.narrow x 0 _ hn.1 h.2.1,CeE.narrow l (i+1) _ hn.2 h.2.2⟩
end
theorem zm.narrow:∀ (h:H),z6f h=true→zm J σ B h→zm I σ B h
 | [],_,_=>trivial
 | (k,r)::h,hn,hh=>by
  simp only [z6f,List.all_cons,Bool.and_eq_true] at hn
  refine ⟨?_,zm.narrow h hn.2 hh.2⟩
  have h1:=hh.1
  unfold zr at h1 ⊢
  cases hs:σ k [] with
  | none=>simpa only [hs] using h1
  | some L =>
   simp only [hs] at h1 ⊢
   obtain ⟨q1,q2,cur,E,q3,q4,q5⟩:=h1
   exact ⟨q1,q2,cur,E,q3,q4,CeE.narrow r.xs 0 _ hn.1 q5⟩
theorem HRel.narrow (hIJ:∀ b,I b→J b) (hn:z6f h=true) (hh:HRel J σ h w):HRel I σ h w :=
 ⟨zm.narrow h hn hh.ok,hh.keys,hh.nodup,fun b hb=>⟨fun hI=>(hh.apart b hb).1 (hIJ b hI),(hh.apart b hb).2⟩,fun b hb=>hh.low b (hIJ b hb)⟩
theorem z7s:∀ (ks:List Nat) {h:H},HRel I σ h w→HRel I σ (z1f h ks) w∧(∀ b ∈ fpH σ (z1f h ks),b ∈ fpH σ h)∧(∀ k ∈ (z1f h ks).map Prod.fst,k ∈ h.map Prod.fst∧k ∉ ks)
 | [],h,hh=>⟨hh,fun b hb=>hb,fun k hk=>⟨hk,by simp⟩⟩
 | k::ks,h,hh=>by
  obtain ⟨q1,q2,q3,q4⟩:=z4m hh k
  obtain ⟨p1,p2,p3⟩:=z7s ks q1
  refine ⟨p1,fun b hb=>q3 b (p2 b hb),fun k' hk'=>⟨q4 k' (p3 k' hk').1,?_⟩⟩
  simp only [List.mem_cons,not_or]
  exact ⟨fun e=>q2 (e ▸ (p3 k' hk').1),(p3 k' hk').2⟩
end
end Loom
