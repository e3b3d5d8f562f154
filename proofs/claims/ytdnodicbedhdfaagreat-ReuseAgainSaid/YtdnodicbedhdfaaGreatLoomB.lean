/- Loom,an abstract machine over the kit's calculus: rows,z13,stores,calls,regions,what they owe;and its evaluator (part 2 of 4). -/
import Derived.Test.YtdnodicbedhdfaaGreatLoomA
import Derived.Laws.IdiomStrings
import Derived.WideLaws
import Derived.Laws.Build
import Derived.Attr
import Derived.KernelRfl
set_option linter.unusedVariables false
set_option linter.unusedSimpArgs false
set_option linter.unusedSectionVars false
open Bool (and_eq_true false_eq_true not_eq_true' or_eq_true)
open List (all_cons all_eq_true append_assoc append_nil cons_append contains_eq_mem drop_left' ext_getElem? getElem?_cons_zero getElem?_eq_none getElem?_map length length_append length_cons length_map length_nil length_take map_append map_congr_left map_cons mem_append mem_append_left mem_cons mem_cons_of_mem mem_cons_self mem_flatMap mem_map mem_of_getElem? mem_range nil_append nodup_append nodup_cons nodup_nil not_mem_nil range range' replicate size_toArray)
open Option (getD_some)
namespace Loom
open Go
def zl7 : List AV->Bool
 | []=>true
 | .sc _::l=>zl7 l
 | _::_=>false
def zbx (nk nv:Nat)(i:Option Nat)(kc vs:List AV)(ys:Els):Els :=
 match i with
 | some i=>z18 i nk nv vs ys
 | none=>ys++[kc++vs]
def z6d (nk nv:Nat)(ks:List Nat)(kc vs:List AV)(ys:Els):Els :=
 match z4u ks kc ys 0 with
 | some f=>zbx nk nv (f.map Prod.fst) kc vs ys
 | none=>ys
def za0 (e:Operand->AV)(h:H)(nv:Nat)(ks:List Nat)(x key v:Operand):Option (H×(Nat->Path->Bool)) :=
 match e x,z35 ks.length (e key),z35 nv (e v) with
 | .pp (.mr k p),some kc,some vs =>
  match z6 h k with
  | some r =>
   match zp r.s r.xs p with
   | some (s,ys) =>
    if s=z4h ks.length nv/\kc.length=ks.length/\vs.length=nv/\zl7 kc=true then
     match z4u ks kc ys 0,z3s (zc h k) vs with
     | some _,some (vs',h1)=>some ((k,⟨r.s,z1l r.xs p (z6d ks.length nv ks kc vs')⟩)::h1,under k p ks.length nv)
     | _,_=>none
    else none
   | none=>none
  | none=>none
 | _,_,_=>none
section
variable {P:Program}{I:Nat->Prop}{N:Nat}[Dfs N]{σ σ':Pl}{B B':zm}{w w':World}{h h1:H}{e:Env}{a:Act}{k:Nat}
theorem zqd {p:Path}{i:Nat}:∀ (l:List AV) (c:Nat) (cs:List Value),zl7 l=true->VaC I σ B l cs->CeC I σ' B' k p i c l cs/\fpC σ' k p i c l=[]
 | [],_,_,_,h=>⟨h,rfl⟩
 | .sc u::l,c,_,hs,h=>by obtain ⟨v,cs',rfl,h0,h1,h2⟩:=h;obtain rfl:v=u:=h1;have ih:=zqd (p:=p) (i:=i) l (c+1) cs' hs h2;exact ⟨⟨v,cs',rfl,⟨rfl,h0⟩,ih.1⟩,by simp only [fpC,fpA,ih.2,nil_append]⟩
theorem zen:∀ (ks:List Nat) (i:Nat) (X Y:List AV),z17 X Y (z2p i ks)=some true->∀ j,j<ks.length->X[i+j]?=Y[i+j]?/\∃ a,X[i+j]?=some (.sc a)/\∀ n,Instr.sameBits n a a=true
 | [],_,_,_,_,j,hj=>by simp at hj
 | q::ks,i,X,Y,h,j,hj=>by
  obtain ⟨a,b,r0,g1,g2,g3,g4⟩:=zi9 (q::ks) i X Y true h j _ (List.getElem?_eq_getElem hj);have h5:a=b:=zv4 (g3.trans (by rw [g4 rfl]));subst h5;refine ⟨by rw [g1,g2],a,g1,λn=>?_⟩;unfold zev at g3;split at g3
  ·unfold Instr.sameBits;simp
  ·unfold Instr.sameBits;simp
  ·rename_i s1 s2 h6 h7;unfold Instr.sameBits;exact (MapKept.bytes_beq _ _).2 rfl
  ·cases g3
theorem zqc {l:List Value}(h:∀ v∈l,∀ n,Instr.sameBits n v v=true):Instr.sameBits 10000 (ofC l) (ofC l)=true:=by
 unfold ofC;split
 ·rename_i v;exact h v (by simp) _
 ·unfold Instr.sameBits;simp only [beq_self_eq_true,Bool.true_and]
  have key:∀ l:List Value,(∀ v∈l,∀ n,Instr.sameBits n v v=true)->((l.zip l).all λ(x,y)=>Instr.sameBits 9999 x y)=true:=by
   intro l
   induction l with
   | nil=>intro _;rfl
   | cons v l ih =>intro h;simp only [List.zip_cons_cons,all_cons,and_eq_true];exact ⟨h v (by simp) _,ih λu hu=>h u (by simp [hu])⟩
  exact key l h
theorem place_nodup {r:Row}{p:Path}{s:Nat}{ys:Els}(hh:zk I σ h w)(hg:z6 h k=some r)(hres:zp r.s r.xs p=some (s,ys)):(fpP σ k p ys).Nodup/\∀ b∈fpP σ k p ys,b∈fpR σ k r:=by
 obtain ⟨d1,d2,d3,d4,d5,d6⟩:=hh.del hg;by_cases hp0:p=[]
 ·subst hp0;simp only [zp,Option.some.injEq,Prod.mk.injEq] at hres;obtain ⟨rfl,rfl⟩:=hres;exact ⟨d4,λb hb=>hb⟩
 ·unfold zy at d2;unfold fpR at d4 ⊢;cases hs:σ k [] with
  | none =>simp only [hs] at d2;rw [d2.1] at hres;cases p with | nil=>exact absurd rfl hp0 | cons q p=>obtain ⟨i',c'⟩:=q;simp [zp] at hres
  | some L0 =>simp only [hs] at d2 d4 ⊢;obtain ⟨_,_,cur,E,_,_,f5⟩:=d2;have:=(z5e p [] (esz r.s) r.xs _ s ys f5 hp0 ((z3z hp0).symm.trans hres)).2;rw [nil_append] at this;exact ⟨this.nodup (nodup_cons.1 d4).2,λb hb=>mem_cons_of_mem _ (this.subset hb)⟩
theorem zuk (R:Rel I N σ e h a w){o:Oper}{r:Row}{p:Path}{s i nk:Nat}{ys ys':Els}{vs vs':List AV}{h1:H}{L:Loc}{f:Els->Els}{o':Obj}{cur':Array Value}{A O C:List Nat}
  (hg:z6 h k=some r) (hres:zp r.s r.xs p=some (s,ys)) (hsm:¬ s<MB) (hL:σ k p=some L) (hdst:o.dst=none) (hf:f ys=ys')
  (s1:∀ k' q,k'≠k->σ' k' q=σ k' q) (s2:∀ q,(∀ c',nk<=c'->c'<nk+vs.length->¬ p++[(i,c')] <+: q)->σ' k q=σ k q) (s4:zk I σ h1 w) (s5:∀ k',k'∈h1.map Prod.fst->k'∈(zc h k).map Prod.fst)
  (s6:∀ b∈fpH σ h1,b∈fpH σ (zc h k)) (s7:(fpC σ' k p i nk vs').Nodup) (s8:∀ b∈fpC σ' k p i nk vs',b∈fpH σ (zc h k)/\b∉fpH σ h1)
  (hrun:(execOp a.eval o).run P w = .ok .skip { w with heap:=w.heap.setIfInBounds L.b o' }) (hLs:L.s=s) (hM:zfb o' cur' s) (hsz:cur'.size=ys'.length * esz s)
  (hE:CeE I σ' (bl { w with heap:=w.heap.setIfInBounds L.b o' }) k p 0 (esz s) ys' cur'.toList) (hfp:fpE σ k p 0 ys=A++O++C) (hfp':fpE σ' k p 0 ys'=A++fpC σ' k p i nk vs'++C) :
  znf P I N none σ (z1e (under k p nk vs.length) e) h a w o ((k,⟨r.s,z1l r.xs p f⟩)::h1):=by
 subst hf;obtain ⟨d1,d2,d3,d4,d5,d6⟩:=R.heap.del hg;obtain ⟨hp,hpf⟩:=R.heap.placeA (k:=k) (p:=p) (s:=s) (ys:=ys) (by unfold z1j;rw [hg];exact hres);obtain ⟨hpnd,hprow⟩:=place_nodup R.heap hg hres;have hLf:L.b∈fpP σ k p ys:=by unfold fpP;simp [hL]
 have hLlt:L.b<w.heap.size:=(R.heap.apart L.b (hpf L.b hLf)).2;generalize hw':({ w with heap:=w.heap.setIfInBounds L.b o' }:World)=w' at hrun hE;have hBo:∀ b,b≠L.b->bl w' b=bl w b:=λb hb=>by subst hw';simp [bl,Ne.symm hb]
 have hBn:bl w' L.b=some o':=by subst hw';simp [bl,hLlt]
 have hszw:w'.heap.size=w.heap.size:=by subst hw';simp
 have hlew:Le w w':=⟨by omega,by subst hw';rfl,by subst hw';rfl,by subst hw';rfl⟩
 have hLI:∀ b,I b->b≠L.b:=λb hb e=>(R.heap.apart L.b (hpf L.b hLf)).1 (e ▸ hb);have hI:∀ b,I b->bl w' b=bl w b:=λb hb=>hBo b (hLI b hb)
 have hσk:∀ q,(∀ c' q',q=p++(i,c')::q'->¬ (nk<=c'/\c'<nk+vs.length))->σ' k q=σ k q:=λq hq=>s2 q (λc' g1 g2 hpre=>by obtain ⟨q',rfl⟩:=hpre;exact hq c' q' (by simp) ⟨g1,g2⟩)
 have hσp:σ' k p=σ k p:=hσk p (λc' q' hq=>by have:=congrArg length hq;simp at this)
 have hd:∀ b∈fpC σ' k p i nk vs',b∉fpR σ k r:=λb hb hbr=>(d5 b hbr).1 (s8 b hb).1;have hpeq:fpP σ k p ys=L.b::(A++O++C):=by unfold fpP;simp only [hL,hfp]
 have hpeq':fpP σ' k p (f ys)=L.b::(A++fpC σ' k p i nk vs'++C):=by unfold fpP;rw [hσp];simp only [hL,hfp']
 obtain ⟨u1,u2,_⟩:=R.heap.updPlace (σ':=σ') (w':=w') (h1:=h1) hg hres f (λhm=>absurd hm hsm) s4 (λhm=>d3 (s5 k hm)) s6 (by omega)
  (by unfold z39;rw [hσp];simp only [hL];refine ⟨hLs,λhm=>absurd hm hsm,cur',⟨o',by rw [if_neg hsm];exact hM⟩,hBn,?_,hE⟩;unfold zb7;rw [if_neg hsm];exact hsz) hσp
  (λk' q hq=>by
   by_cases hk':k'=k
   ·subst hk';exact hσk q (λc' q' he _=>hq ⟨rfl,(i,c')::q',by simp,he⟩)
   ·exact s1 k' q hk')
  (λb hb hnb=>hBo b (λe=>hnb (e ▸ hLf)))
  (by
   rw [hpeq'];rw [hpeq] at hpnd hprow;obtain ⟨n1,n2⟩:=nodup_cons.1 hpnd;have hsw:=zjz (m1:=[]) (m2:=[]) (A:=A) (O:=O) (C:=C) (by simpa using n2) s7 (λb hb hm'=>hd b hb (hprow b (by simp at hm' ⊢;exact .inr hm')));rw [nodup_cons];refine ⟨λhb=>?_,by simpa using hsw⟩;simp only [mem_append] at hb n1;rcases hb with (hb | hb) | hb
   ·exact n1 (.inl (.inl hb))
   ·exact hd L.b hb (hprow L.b (by simp))
   ·exact n1 (.inr hb))
  (by
   rw [hpeq',hpeq];intro b hb;simp only [mem_cons,mem_append] at hb ⊢;rcases hb with hb | (hb | hb) | hb
   ·exact .inl (.inl hb)
   ·exact .inl (.inr (.inl (.inl hb)))
   ·exact .inr (s8 b hb)
   ·exact .inl (.inr (.inr hb)))
 refine ⟨.skip,w',σ',a.put o.dst undef,hrun,rfl,?_,hlew,λb hb hnb=>hBo b (λe=>hnb (e ▸ hpf L.b hLf)),λb hb=>.inl (u2 b hb),λk' _=>?_⟩
 ·rw [hdst];refine ⟨u1,R.size,λt=>?_,R.defers⟩;refine Va.mono hI _ _ (Va.kill (σ':=σ') (bad:=under k p nk vs.length) (λk' q hb=>?_) (e t) _ (R.vals t));by_cases hk':k'=k
  ·subst hk';refine hσk q (λc' q' he hc'=>?_);subst he;unfold under at hb;simp only [beq_self_eq_true,List.drop_left,List.take_left,Bool.true_and,Bool.and_eq_false_iff,decide_eq_false_iff_not] at hb;omega
  ·exact s1 k' q hk'
 ·by_cases hk':k'=k
  ·subst hk'
   exact hσk [] (λc' q' he _=>by have:=congrArg length he;simp at this)
  ·exact s1 k' [] hk'
theorem CeE.stillLt {p:Path}{s:Nat}(hI:∀ b,I b->B' b=B b):∀ (xs:Els) (i0:Nat) (cs:List Value),(∀ i' c' q,i0<=i'->i'<i0+xs.length->σ' k (p++(i',c')::q)=σ k (p++(i',c')::q))->(∀ b∈fpE σ k p i0 xs,B' b=B b) ->
  CeE I σ B k p i0 s xs cs->CeE I σ' B' k p i0 s xs cs/\fpE σ' k p i0 xs=fpE σ k p i0 xs
 | [],_,_,_,_,h=>⟨h,rfl⟩
 | x::xs,i0,cs,hσ,hb,h=>by obtain ⟨h1,h2,h3⟩:=h;simp only [fpE,mem_append] at hb;have q1:=CeC.still (σ':=σ') (B':=B') hI x 0 _ (λc' q _ _=>hσ i0 c' q (by omega) (by simp)) (λb hbb=>hb b (.inl hbb)) h2;have q2:=CeE.stillLt hI xs (i0+1) _ (λi' c' q g1 g2=>hσ i' c' q (by omega) (by simp only [length_cons];omega)) (λb hbb=>hb b (.inr hbb)) h3;exact ⟨⟨h1,q1.1,q2.1⟩,by simp only [fpE,q1.2,q2.2]⟩
theorem zo0 {s:Nat}:∀ (l:List (List Value×List Value)) (j:Nat) (n:List Value×List Value),(∀ x∈l,x.1.length+x.2.length=s)->j<l.length->z2z (l.set j n)=(z2z l).take (j * s)++(n.1++n.2)++(z2z l).drop (j * s+s)
 | [],_,_,_,h=>by simp at h
 | x::l,0,n,hl,_=>by have h0:=hl x (by simp);simp only [List.set_cons_zero,z2z,List.flatMap_cons,Nat.zero_mul,List.take_zero,nil_append,Nat.zero_add];rw [drop_left' (by rw [length_append];exact h0)]
 | x::l,j+1,n,hl,h=>by
  have h0:=hl x (by simp);have ih:=zo0 l j n (λy hy=>hl y (by simp [hy])) (by simpa using h);have hx:(x.1++x.2).length=s:=by rw [length_append];exact h0
  simp only [List.set_cons_succ];have e1:∀ m,z2z (x::m)=(x.1++x.2)++z2z m:=λm=>by simp [z2z]
  rw [e1,e1,ih,show (j+1) * s=s+j * s by rw [Nat.add_mul,Nat.one_mul,Nat.add_comm],List.take_add,List.take_left' hx,drop_left' hx,show s+j * s+s=s+(j * s+s) by omega]
  have e2:((x.1++x.2)++z2z l).drop (s+(j * s+s))=(z2z l).drop (j * s+s):=by have:=List.drop_drop (i:=j * s+s) (j:=s) (l:=(x.1++x.2)++z2z l);rw [<- this,drop_left' hx]
  rw [e2];simp only [append_assoc]
theorem zuj {t kt et:TypeId}(hu:P.underlying t=some (.map kt et)){b:Nat}{es:Array MapEntry}{clk:Nat}(hb:w.heap[b]?=some (.map es clk)){kv vv:Value}(hck:(Instr.checkKey false 10000 kt kv).run P w = .ok () w){r:Option (Nat×Value)}
  (hf:(Instr.findKey kt kv es.toList).run P w = .ok r w) (hs:∀ i u,r=some (i,u)->∃ en,es[i]?=some en/\Instr.sameBits 10000 en.key kv=true) :
  (Instr.mapUpdate t (.map (some b)) kv vv).run P w = .ok () { w with heap:=w.heap.setIfInBounds b (match r with | some (i,_)=>.map (es.modify i λe=>{ e with key:=kv,val:=vv }) clk | none=>.map (es.push ⟨kv,vv,clk⟩) (clk+1)) }:=by
 cases r with
 | none=>simp [Instr.mapUpdate,run_underlying hu,MapKept.run_getObj_map hb,hck,hf,MapKept.run_setObj_map _ hb,Result.andThen]
 | some q =>obtain ⟨i,u⟩:=q;obtain ⟨en,h1,h2⟩:=hs i u rfl;simp [Instr.mapUpdate,run_underlying hu,MapKept.run_getObj_map hb,hck,hf,MapKept.run_setObj_map _ hb,Result.andThen,h1,Instr.keyThatStays,h2]
theorem y3n (R:Rel I N σ e h a w){o:Oper}{t:TypeId}{x key v:Operand}{ks:List Nat}{nv:Nat}{agg:Bool}{z:Value}(ho:o.op = .mapUpdate t x key v)(ht:zi6 P t=some (ks,nv,agg,z))(hdst:o.dst=none)
  {h':H} {bad:Nat->Path->Bool} (hr:za0 (ev e) h nv ks x key v=some (h',bad)):znf P I N none σ (z1e bad e) h a w o h':=by
 have hx:=zw R x;have hy:=zw R key;have hz:=zw R v;unfold zi6 at ht;split at ht
 case h_2=>cases ht
 rename_i kt et hu;split at ht
 case h_2=>cases ht
 rename_i ks' b nv' z' hk hb hn hzz;split at ht
 case isFalse=>cases ht
 rename_i hc;cases ht;obtain ⟨c0,c1,c2,c3,c4,c5⟩:=hc;unfold za0 at hr;split at hr
 case h_2=>cases hr
 rename_i k p kc vs hm hkc hvs;rw [hm] at hx;obtain ⟨L,hL,hLs,hxv⟩:=hx;split at hr
 case h_2=>cases hr
 rename_i r hg;split at hr
 case h_2=>cases hr
 rename_i s ys hres;split at hr
 case isFalse=>cases hr
 rename_i hcond;obtain ⟨hs,hkl,hvl,hsc⟩:=hcond;split at hr
 case h_2=>cases hr
 rename_i f vs' h1 hfind habs;cases hr;obtain ⟨kcs,e1,e2,e3⟩:=zfu (w:=w) hkc hkl hy;obtain ⟨vcs,v1,v2,v3⟩:=zfu (w:=w) hvs hvl hz;obtain ⟨g1,g2⟩:=zpj (P:=P) (w:=w) hk (VaC.sc kc kcs e2) e3;have hsm:¬ s<MB:=by rw [hs];unfold z4h MB;omega
 obtain ⟨d1,d2,d3,d4,d5,d6⟩:=R.heap.del hg;obtain ⟨hp,hpf⟩:=R.heap.placeA (k:=k) (p:=p) (s:=s) (ys:=ys) (by unfold z1j;rw [hg];exact hres);obtain ⟨hpnd,hprow⟩:=place_nodup R.heap hg hres;unfold z39 at hp;unfold fpP at hpnd hpf;simp only [hL] at hp hpnd hpf;obtain ⟨f1,f2,cur,E,f3,f4,f5⟩:=hp;obtain ⟨hnL,hnE⟩:=nodup_cons.1 hpnd;have hM:zfb E.obj cur s:=by have:=E.ok;rwa [if_neg hsm] at this
 have hroom:zb7 L ys s=ys.length:=if_neg hsm;rw [hroom] at f4;obtain ⟨es,clk,ents,q1,q2,q3,q4,q5,q6⟩:=zrd hs c1 c0 hM f4 f5;have hheap:w.heap[L.b]?=some (.map es clk):=by rw [<- q1];exact f3
 have hez:esz s=ks.length+nv:=by rw [hs];unfold z4h esz;omega
 have hdk:s / 1000000=ks.length+1:=by rw [hs];unfold z4h;omega
 have hLr:∀ b'∈fpE σ k p 0 ys,b'≠L.b:=λb' hb' e=>hnL (e ▸ hb');have hLI:∀ b',I b'->b'≠L.b:=λb' hb' e=>(R.heap.apart L.b (hpf L.b (by simp))).1 (e ▸ hb');have hLlt:L.b<w.heap.size:=(R.heap.apart L.b (hpf L.b (by simp))).2;have hrow:∀ b'∈L.b::fpE σ k p 0 ys,b'∈fpR σ k r:=λb' hb'=>hprow b' (by unfold fpP;simpa only [hL] using hb');obtain ⟨run,k1,k2⟩:=g2 ys ents es.toList _ q2 hfind
 have hex:∀ o',(Instr.mapUpdate t (.map (some L.b)) (ofC kcs) (ofC vcs)).run P w = .ok () { w with heap:=w.heap.setIfInBounds L.b o' }->(execOp a.eval o).run P w = .ok .skip { w with heap:=w.heap.setIfInBounds L.b o' }:=by intro o' hrun;simp only [execOp,ho,hxv,e1,v1,Sem.run_bind,hrun,Result.andThen_ok,Sem.run_pure]
 have hBo:∀ o' b',b'≠L.b->bl { w with heap:=w.heap.setIfInBounds L.b o' } b'=bl w b':=λo' b' hb'=>by simp [bl,Ne.symm hb']
 have newC:∀ o' i (σ':Pl),(fpC σ' k p i ks.length vs').Nodup/\(∀ b'∈fpC σ' k p i ks.length vs',b'∈fpH σ (zc h k)/\b'∉fpH σ h1)->CeC I σ' (bl w) k p i ks.length vs' vcs ->
   CeC I σ' (bl { w with heap:=w.heap.setIfInBounds L.b o' }) k p i 0 (kc++vs') (kcs++vcs)/\fpC σ' k p i 0 (kc++vs')=fpC σ' k p i ks.length vs':=by
  intro o' i σ' hn hC;have h1:=zqd (σ':=σ') (B':=bl { w with heap:=w.heap.setIfInBounds L.b o' }) (k:=k) (p:=p) (i:=i) kc 0 kcs hsc e2;refine ⟨CeC.app _ _ 0 _ _ h1.1 ?_,?_⟩
  ·rw [hkl,Nat.zero_add];exact CeC.mono (λb' hb'=>hBo o' b' (hLI b' hb')) k p i ks.length vs' _ (λb' hb'=>hBo o' b' (λe=>(d5 L.b (hrow L.b (by simp))).1 (e ▸ (hn.2 b' hb').1))) hC
  ·rw [z8d,h1.2,hkl,Nat.zero_add,nil_append]
 cases f with
 | some ix =>
  obtain ⟨i,x0⟩:=ix;obtain ⟨j,ent,en,m1,m2,m3,m4,m5,m6,m7,m8,m9,m10⟩:=k2;rw [Nat.zero_add] at m1;subst m1;subst m7;obtain ⟨σ',s1,s2,s3,s4,s5,s6,s7,s8,s9⟩:=z68 vs (zc h k) _ vs' h1 σ k p i ks.length d1 v2 habs d3;have hkeys:ent.1=kcs:=ybd (VaC.sc kc kcs e2) m10 e3 m9 m8;have hent:=q5 ent (mem_of_getElem? m3)
  have hilt:i<ys.length:=by
   rcases Nat.lt_or_ge i ys.length with h' | h'
   ·exact h'
   ·rw [getElem?_eq_none h'] at m2;cases m2
  obtain ⟨hxl,hxC⟩:=CeE.get ys 0 _ f5 i x0 m2;rw [Nat.zero_add] at hxC
  have hx0k:x0.take ks.length=kc:=by
   apply ext_getElem?;intro c;by_cases hcl:c<ks.length
   ·rw [List.getElem?_take_of_lt hcl];have:=zen ks 0 kc x0 m8 c hcl;rw [Nat.zero_add] at this;exact this.1.symm
   ·rw [getElem?_eq_none (by rw [length_take];omega),getElem?_eq_none (by omega)]
  have hx0e:x0=kc++x0.drop ks.length:=by rw [<- hx0k,List.take_append_drop]
  have hfx:fpC σ k p i 0 x0=fpC σ k p i ks.length (x0.drop ks.length) :=
   (congrArg (fpC σ k p i 0) hx0e).trans (by rw [z8d,(zqd (σ':=σ) (B':=bl w) (k:=k) (p:=p) (i:=i) kc 0 kcs hsc e2).2,hkl,Nat.zero_add,nil_append])
  have hput:z6d ks.length nv ks kc vs' ys=ys.set i (kc++vs'):=by unfold z6d;rw [hfind];simp only [Option.map_some];unfold zbx z18;simp only [m2];rw [hx0k,List.drop_eq_nil_of_le (by rw [hxl,hez];exact Nat.le_refl _),append_nil]
  obtain ⟨m,m',hm1,hm2⟩:=z6b (σ:=σ) (k:=k) (p:=p) ys 0 i x0 m2;rw [Nat.zero_add] at hm1 hm2;have hnew:=newC (.map (es.modify i λe=>{ e with key:=ofC kcs,val:=ofC vcs }) clk) i σ' ⟨s7,s8⟩ s3
  have hσother:∀ i' c' q',i'≠i->σ' k (p++(i',c')::q')=σ k (p++(i',c')::q'):=λi' c' q' hne=>s2 _ (λc'' g1 g2 hpre=>by have:=zep.1 hpre;simp only [Prod.mk.injEq] at this;exact hne this.1.symm)
  have hrun:=zuj (P:=P) (w:=w) (vv:=ofC vcs) hu hheap (g1 false) k1 (λi' u hi=>by
   cases hi;refine ⟨en,by simpa using m4,?_⟩;rw [m5,hkeys];refine zqc λu hu=>?_;obtain ⟨c,hc⟩:=List.getElem?_of_mem hu
   have hcl:c<ks.length:=by
    rcases Nat.lt_or_ge c ks.length with h' | h'
    ·exact h'
    ·rw [getElem?_eq_none (by omega)] at hc;cases hc
   have:=zen ks 0 kc x0 m8 c hcl;rw [Nat.zero_add] at this;obtain ⟨_,a',ha',hb'⟩:=this;rw [VaC.sc kc kcs e2 c a' ha'] at hc;cases hc;exact hb')
  simp only at hrun;have hlenE:ents.length=ys.length:=q3;have:=zuk R (o:=o) (i:=i) (nk:=ks.length) (vs:=vs) (vs':=vs') (f:=z6d ks.length nv ks kc vs') (cur':=(z2z (ents.set i (kcs,vcs))).toArray) (o':=.map (es.modify i λe=>{ e with key:=ofC kcs,val:=ofC vcs }) clk) (A:=m) (O:=fpC σ k p i ks.length (x0.drop ks.length)) (C:=m') hg hres hsm hL hdst hput s1 s2 s4 s5 s6 s7 s8 (hex _ hrun) f1 ?_ ?_ ?_ (by rw [hm1,hfx]) ?_
  ·rw [hvl] at this;exact this
  ·refine ⟨⟨_,_,ents.set i (kcs,vcs),rfl,?_,?_,by simp⟩⟩
   ·apply ext_getElem?;intro j;rw [List.map_set];simp only [getElem?_map,Array.getElem?_toList,Array.getElem?_modify,List.getElem?_set,length_map];by_cases hj:i=j
    ·subst hj;have hen:es[i]?=some en:=by simpa using m4
     rw [if_pos rfl,if_pos rfl,if_pos (by omega),hen];rfl
    ·rw [if_neg hj,if_neg hj];have:=congrArg (λl=>l[j]?) q6;simpa only [getElem?_map,Array.getElem?_toList] using this
   ·intro y hy;rw [hdk];rcases List.mem_or_eq_of_mem_set hy with hy | rfl
    ·have:=q5 y hy;exact ⟨by omega,this.2⟩
    ·exact ⟨by simp only;omega,by simp only;omega⟩
  ·simp only [size_toArray,List.length_set];rw [zhs (s:=esz s),List.length_set,hlenE];intro y hy;rcases List.mem_or_eq_of_mem_set hy with hy | rfl
   ·exact (q5 y hy).2
   ·simp only;omega
  ·simp only;rw [zo0 (s:=esz s) ents i (kcs,vcs) (λy hy=>(q5 y hy).2) (by omega),<- q4]
   refine CeE.setAt (I:=I) (σ:=σ) (σ':=σ') (B:=bl w) ys 0 i cur.toList x0 (kc++vs') (kcs++vcs) f5 m2 (by rw [length_append,s9];omega) (by rw [length_append];omega) (by rw [Nat.zero_add];exact hnew.1)
    (λi' c' a'' v hne hb hce=>Ce.still (λb' hb'=>hBo _ b' (hLI b' hb')) (λq'=>hσother i' c' q' (by omega)) a'' v (λb' hbb=>hBo _ b' (hLr b' (hb b' hbb).1)) hce)
  ·rw [hm2 σ' _ (λi' c' a'' hne=>fpA.ren (λq'=>hσother i' c' q' hne) a''),hnew.2]
 | none =>
  cases k2;obtain ⟨σ',s1,s2,s3,s4,s5,s6,s7,s8,s9⟩:=z68 vs (zc h k) _ vs' h1 σ k p ys.length ks.length d1 v2 habs d3;have hnew:=newC (.map (es.push ⟨ofC kcs,ofC vcs,clk⟩) (clk+1)) ys.length σ' ⟨s7,s8⟩ s3
  have hput:z6d ks.length nv ks kc vs' ys=ys++[kc++vs']:=by unfold z6d;rw [hfind];rfl
  have hold:=CeE.stillLt (σ':=σ') (B':=bl { w with heap:=w.heap.setIfInBounds L.b (.map (es.push ⟨ofC kcs,ofC vcs,clk⟩) (clk+1)) }) (λb' hb'=>hBo _ b' (hLI b' hb')) ys 0 cur.toList (λi' c' q' _ g2=>s2 _ (λc'' _ _ hpre=>by have:=zep.1 hpre;simp only [Prod.mk.injEq] at this;omega)) (λb' hb'=>hBo _ b' (hLr b' hb')) f5
  have hrun:=zuj (P:=P) (w:=w) (vv:=ofC vcs) hu hheap (g1 false) k1 (λi' u hi=>by cases hi);simp only at hrun;have hent0:z2z (ents++[(kcs,vcs)])=cur.toList++(kcs++vcs):=by rw [q4];simp [z2z]
  have:=zuk R (o:=o) (i:=ys.length) (nk:=ks.length) (vs:=vs) (vs':=vs') (f:=z6d ks.length nv ks kc vs') (cur':=(z2z (ents++[(kcs,vcs)])).toArray) (o':=.map (es.push ⟨ofC kcs,ofC vcs,clk⟩) (clk+1)) (A:=fpE σ k p 0 ys) (O:=[]) (C:=[]) hg hres hsm hL hdst hput s1 s2 s4 s5 s6 s7 s8 (hex _ hrun) f1 ?_ ?_ ?_ (by simp) ?_
  ·rw [hvl] at this;exact this
  ·refine ⟨⟨_,_,ents++[(kcs,vcs)],rfl,?_,?_,by simp⟩⟩
   ·simp only [Array.toList_push,map_append,map_cons,List.map_nil,q6]
   ·intro y hy;rw [hdk];rcases mem_append.1 hy with hy | hy
    ·have:=q5 y hy;exact ⟨by omega,this.2⟩
    ·simp only [List.mem_singleton] at hy;subst hy;exact ⟨by simp only;omega,by simp only;omega⟩
  ·rw [hent0];simp only [size_toArray,length_append,List.length_singleton,Array.length_toList];rw [f4,Nat.add_mul,Nat.one_mul];omega
  ·simp only;rw [hent0];refine CeE.app ys [kc++vs'] 0 _ _ hold.1 (by rw [Array.length_toList];exact f4) ⟨by rw [length_append,s9];omega,?_,trivial⟩;rw [Nat.zero_add,List.take_of_length_le (by rw [length_append];omega)];exact hnew.1
  ·rw [zkt,hold.2];simp only [fpE,append_nil,Nat.zero_add];rw [hnew.2]
end
def z1q (P:Program)(f:Nat)(args:List AV)(hin:H)(r:AV)(hout:H):Prop :=
 ∀ (I:Nat->Prop) (σ:Pl) (w:World) (vs:List Value),zk I σ hin w->VaL I σ (bl w) args vs ->
  Calls P f vs.toArray w λen w'=>∃ v σ',en = .returned v/\zk I σ' hout w'/\Va I σ' (bl w') r v/\(∀ k∈hin.map Prod.fst,σ' k []=σ k [])/\Le w w' /\
   (∀ b,b<w.heap.size->b∉fpH σ hin->bl w' b=bl w b)/\(∀ b∈fpH σ' hout,b∈fpH σ hin\/w.heap.size<=b)
def CallG (P:Program)(f:Nat)(args:List AV)(hin:H)(r:AV)(hout:H):Prop :=
 ∀ (I:Nat->Prop) (σ:Pl) (w:World) (vs:List Value),zk I σ hin w->VaL I σ (bl w) args vs ->
  Calls P f vs.toArray w λen w'=>∃ v σ' I',en = .returned v/\(∀ b,I b->I' b)/\(∀ b,I' b->I b\/b∈fpH σ hin\/w.heap.size<=b)/\zk I' σ' hout w'/\Va I' σ' (bl w') r v/\(∀ k∈hin.map Prod.fst,σ' k []=σ k [])/\Le w w' /\
   (∀ b,b<w.heap.size->b∉fpH σ hin->bl w' b=bl w b)/\(∀ b∈fpH σ' hout,b∈fpH σ hin\/w.heap.size<=b)
def z9m (P:Program)(f:Nat)(args:List AV)(hin:H)(u:Value):Prop :=
 ∀ (I:Nat->Prop) (σ:Pl) (w:World) (vs:List Value),zk I σ hin w->VaL I σ (bl w) args vs ->
  Calls P f vs.toArray w λen w'=>en = .panicked [{ v:=u,recovered:=false }]/\Le w w'/\(∀ b,b<w.heap.size->b∉fpH σ hin->bl w' b=bl w b)
theorem z1q.toG {P:Program}{f:Nat}{args:List AV}{hin:H}{r:AV}{hout:H}(hc:z1q P f args hin r hout):CallG P f args hin r hout:=λI σ w vs hh hv =>
 (hc I σ w vs hh hv).mono λen w' ⟨v,σ',h1,h2,h3,h4,h5,h6,h7⟩=>⟨v,σ',I,h1,λ_ h=>h,λ_ h=>.inl h,h2,h3,h4,h5,h6,h7⟩
section
variable {P:Program}{I:Nat->Prop}{N:Nat}[Dfs N]{σ σ':Pl}{w w':World}{h h':H}{e e':Env}{a:Act}
structure zv (P:Program) (I:Nat->Prop) (N:Nat) [Dfs N] (pro:List Nat) (σ:Pl) (h:H) (w:World) (e':Env) (h':H) (a':Act) (w':World):Prop where
 out:∃ σ' I',(∀ b,I b->I' b)/\(∀ b,I' b->I b\/b∈fpH σ h\/w.heap.size<=b)/\Rel I' N σ' e' h' a' w'/\(∀ k∈pro,σ' k []=σ k [])/\Le w w'/\(∀ b,b<w.heap.size->b∉fpH σ h->bl w' b=bl w b)/\(∀ b∈fpH σ' h',b∈fpH σ h\/w.heap.size<=b)
end
def z36:List (Nat×Nat)->Nat->Option Nat
 | [],_=>none
 | (n,o)::m,k=>if n=k then some o else z36 m k
def z2c:H->List (Nat×Nat)->Option (H×H)
 | h,[]=>some ([],h)
 | h,(n,o)::m =>
  match z6 h o with
  | some r =>
   match z2c (zc h o) m with
   | some (hs,rest)=>some ((n,r)::hs,rest)
   | none=>none
  | none=>none
def z1z (m:List (Nat×Nat))(σ:Pl):Pl:=λk q=>match z36 m k with | some o=>σ o q | none=>none
section
variable {P:Program}{I J:Nat->Prop}{N:Nat}[Dfs N]{σ σ':Pl}{w w':World}{h h':H}{e e':Env}{a:Act}
theorem zy.move {k k':Nat}{r:Row}{B:zm}(hσ:∀ q,σ' k' q=σ k q)(h:zy I σ B k r):zy I σ' B k' r/\fpR σ' k' r=fpR σ k r:=by
 unfold zy fpR at *;rw [hσ []];cases hs:σ k [] with
 | none=>simpa only [hs,and_true] using h
 | some L =>simp only [hs] at h ⊢;obtain ⟨h1,h2,cur,E,h3,h4,h5⟩:=h;exact ⟨⟨h1,h2,cur,E,h3,h4,CeE.ren (k:=k) 0 (esz r.s) (λi' c' q=>hσ _) r.xs _ h5⟩,by rw [fpE.ren (k:=k) 0 (λi' c' q=>hσ _) r.xs]⟩
theorem zx0 {n o:Nat}{m:List (Nat×Nat)}{k:Nat}(h:n≠k):z1z ((n,o)::m) σ k=z1z m σ k:=by funext q;simp only [z1z,z36,if_neg h]
theorem z4r:∀ (m:List (Nat×Nat)) (h hs rest:H),zk I σ h w->z2c h m=some (hs,rest)->(m.map Prod.fst).Nodup ->
  zk I (z1z m σ) hs w/\zk I σ rest w/\(∀ b∈fpH (z1z m σ) hs,b∈fpH σ h/\b∉fpH σ rest)/\(∀ b∈fpH σ rest,b∈fpH σ h)/\(∀ k∈rest.map Prod.fst,k∈h.map Prod.fst/\k∉m.map Prod.snd)/\hs.map Prod.fst=m.map Prod.fst
 | [],h,hs,rest,hh,hs',_=>by simp only [z2c,Option.some.injEq,Prod.mk.injEq] at hs';obtain ⟨rfl,rfl⟩:=hs';exact ⟨⟨trivial,nodup_nil,nodup_nil,λb hb=>(by simp [fpH] at hb),hh.low⟩,hh,λb hb=>(by simp [fpH] at hb),λb hb=>hb,λk hk=>⟨hk,by simp⟩,rfl⟩
 | (n,o)::m,h,hs,rest,hh,hs',hnd=>by
  simp only [map_cons,nodup_cons] at hnd;unfold z2c at hs';split at hs'
  ·rename_i r hg;split at hs'
   ·rename_i hs1 rest1 hsp;simp only [Option.some.injEq,Prod.mk.injEq] at hs';obtain ⟨rfl,rfl⟩:=hs';obtain ⟨d1,d2,d3,d4,d5,d6⟩:=hh.del hg;obtain ⟨q1,q2,q3,q4,q5,q6⟩:=z4r m (zc h o) hs1 rest1 d1 hsp hnd.2
    have hkeys:∀ k'∈(zc h o).map Prod.fst,k'∈h.map Prod.fst:=by intro k' hk';exact ((z3x hg).map Prod.fst).mem_iff.2 (by simp only [map_cons];exact mem_cons_of_mem _ hk')
    have hne:∀ k∈hs1.map Prod.fst,∀ q,z1z ((n,o)::m) σ k q=z1z m σ k q:=by intro k hk q;rw [zx0 (λe=>hnd.1 (by rw [q6] at hk;rw [e];exact hk))]
    have hnew:=zy.move (σ:=σ) (σ':=z1z ((n,o)::m) σ) (k:=o) (k':=n) (λq=>by simp [z1z,z36]) d2;have hfp1:fpH (z1z ((n,o)::m) σ) hs1=fpH (z1z m σ) hs1:=fpH.ren hs1 hne;refine ⟨⟨⟨hnew.1,zr.ren hs1 hne q1.ok⟩,by rw [map_cons,q6];exact nodup_cons.2 hnd,?_,?_,hh.low⟩,q2,?_,λb hb=>d6 b (q4 b hb),λk hk=>?_,by rw [map_cons,q6];rfl⟩
    ·rw [z1o,hnew.2,hfp1,nodup_append];exact ⟨d4,q1.nodup,λb hb b' hb' e=>(d5 b hb).1 (e ▸ (q3 b' hb').1)⟩
    ·intro b hb;rw [z1o,hnew.2,hfp1,mem_append] at hb;rcases hb with hb | hb
     ·exact hh.apart b (d5 b hb).2
     ·exact hh.apart b (d6 b (q3 b hb).1)
    ·intro b hb;rw [z1o,hnew.2,hfp1,mem_append] at hb;rcases hb with hb | hb
     ·exact ⟨(d5 b hb).2,λhm=>(d5 b hb).1 (q4 b hm)⟩
     ·exact ⟨d6 b (q3 b hb).1,(q3 b hb).2⟩
    ·have:=q5 k hk;refine ⟨hkeys k this.1,?_⟩;simp only [map_cons,mem_cons,not_or];exact ⟨λe=>d3 (e ▸ this.1),this.2⟩
   ·cases hs'
  ·cases hs'
theorem zk.join {h1 h2:H}{σ1 σ2:Pl}(q1:zk I σ1 h1 w)(q2:zk I σ2 h2 w)(hk:∀ k∈h1.map Prod.fst,k∉h2.map Prod.fst)(hf:∀ b∈fpH σ1 h1,b∉fpH σ2 h2) :
  zk I (λk q=>if k∈h1.map Prod.fst then σ1 k q else σ2 k q) (h1++h2) w/\fpH (λk q=>if k∈h1.map Prod.fst then σ1 k q else σ2 k q) (h1++h2)=fpH σ1 h1++fpH σ2 h2:=by
 have e1:∀ k∈h1.map Prod.fst,∀ q,(if k∈h1.map Prod.fst then σ1 k q else σ2 k q)=σ1 k q:=λk hk q=>if_pos hk;have e2:∀ k∈h2.map Prod.fst,∀ q,(if k∈h1.map Prod.fst then σ1 k q else σ2 k q)=σ2 k q:=λk hk2 q=>if_neg (λhk1=>hk k hk1 hk2)
 have hfp:fpH (λk q=>if k∈h1.map Prod.fst then σ1 k q else σ2 k q) (h1++h2)=fpH σ1 h1++fpH σ2 h2:=by rw [z33,fpH.ren h1 e1,fpH.ren h2 e2]
 refine ⟨⟨zr.append.2 ⟨zr.ren h1 e1 q1.ok,zr.ren h2 e2 q2.ok⟩,?_,?_,?_,q1.low⟩,hfp⟩
 ·rw [map_append,nodup_append];exact ⟨q1.keys,q2.keys,λa ha b hb e=>hk a ha (e ▸ hb)⟩
 ·rw [hfp,nodup_append];exact ⟨q1.nodup,q2.nodup,λa ha b hb e=>hf a ha (e ▸ hb)⟩
 ·intro b hb;rw [hfp,mem_append] at hb;rcases hb with hb | hb
  ·exact q1.apart b hb
  ·exact q2.apart b hb
mutual
theorem Im.wide {B:zm}(hIJ:∀ b,I b->J b):∀ (x:AV) (v:Value),Im I B x v->Im J B x v
 | .sc _,_,h=>h
 | .zs,_,h=>h
 | .un,_,h=>h
 | .im s xs,v,h=>by obtain ⟨a,c,rfl,hc,hx⟩:=h;refine ⟨a,c,rfl,hc,λhne=>?_⟩;obtain ⟨A,cur,E,fr,e1,e2,e3,e4,e5⟩:=hx hne;exact ⟨A,cur,E,fr,e1,e2,hIJ _ e3,e4,ImE.wide hIJ s xs _ e5⟩
 | .ag _,_,h=>h.elim
 | .tu _,_,h=>h.elim
 | .ip _ _ _ _,_,h=>h.elim
 | .sl _ _ _ _,_,h=>h.elim
 | .pt _ _ _ _,_,h=>h.elim
 | .fn _ _,_,h=>h.elim
 | .ow _ _,_,h=>h.elim
 | .pp _,_,h=>h.elim
theorem ImC.wide {B:zm}(hIJ:∀ b,I b->J b):∀ (l:List AV) (cs:List Value),ImC I B l cs->ImC J B l cs
 | [],_,h=>h
 | a::as,_,h=>by obtain ⟨v,cs',rfl,h1,h2⟩:=h;exact ⟨v,cs',rfl,Im.wide hIJ a v h1,ImC.wide hIJ as cs' h2⟩
theorem ImE.wide {B:zm}(hIJ:∀ b,I b->J b)(s:Nat):∀ (l:Els) (cs:List Value),ImE I B s l cs->ImE J B s l cs
 | [],_,_=>trivial
 | x::xs,cs,h=>⟨h.1,ImC.wide hIJ x _ h.2.1,ImE.wide hIJ s xs _ h.2.2⟩
end
theorem VaP.wide {B:zm}(hIJ:∀ b,I b->J b){σ:Pl}:∀ (q:PV) (v:Value),VaP I σ B q v->VaP J σ B q v
 | .xp _ _ _,_,h=>⟨h.1,hIJ _ h.2.1,h.2.2⟩
 | .fs _ _,_,h=>by obtain ⟨L,a,c,h1,h2,h3,h4⟩:=h;refine ⟨L,a,c,h1,h2,h3,λhne=>?_⟩;obtain ⟨A,cur,E,fr,e1,e2,e3,e4⟩:=h4 hne;exact ⟨A,cur,E,fr,e1,e2,hIJ _ e3,e4⟩
 | .fp _ _ _,_,h=>by obtain ⟨L,A,cur,E,fr,h1,h2,h3,h4,h5⟩:=h;exact ⟨L,A,cur,E,fr,h1,h2,h3,hIJ _ h4,h5⟩
 | .mr _ _,_,h=>h
mutual
def toIm:AV->AV
 | .ow s xs=>if s<MB then .im s (z3f xs) else .un
 | .un=>.un
 | .sc v=>.sc v
 | .zs=>.zs
 | .ag cs=>.ag cs
 | .tu vs=>.tu vs
 | .im s xs=>.im s xs
 | .ip s xs i c=>.ip s xs i c
 | .sl k p off len=>.sl k p off len
 | .pt k p i c=>.pt k p i c
 | .fn f caps=>.fn f caps
 | .pp q=>.pp q
def z2q:List AV->List AV
 | []=>[]
 | x::l=>toIm x::z2q l
def z3f:Els->Els
 | []=>[]
 | x::l=>z2q x::z3f l
end
theorem zmz:∀ (l:List AV),(z2q l).length=l.length
 | []=>rfl
 | x::l=>by simp [z2q,zmz l]
theorem z7f:∀ (l:Els),(z3f l).length=l.length
 | []=>rfl
 | x::l=>by simp [z3f,z7f l]
mutual
theorem Ce.toIm {B:zm}{k:Nat}{p:Path}{i c:Nat}(hIJ:∀ b,I b->J b):∀ (x:AV) (v:Value),(∀ b∈fpA σ k p i c x,J b)->Ce I σ B k p i c x v->Im J B (toIm x) v
 | .ow s xs,v,hf,h=>by
  simp only [Ce,fpA] at h hf;by_cases hm:s<MB
  case neg =>
   simp only [Loom.toIm,if_neg hm];cases hs:σ k (p++[(i,c)]) with
   | none =>simp only [hs] at h;obtain ⟨_,_,a,rfl⟩:=h;rfl
   | some L =>simp only [hs] at h;rw [h.2.2.1];unfold hdr;split<;>rfl
  simp only [Loom.toIm,if_pos hm,Im,z7f];cases hs:σ k (p++[(i,c)]) with
  | none =>simp only [hs] at h;obtain ⟨rfl,_,a,rfl⟩:=h;exact ⟨a,0,rfl,Nat.le_refl _,λhn=>absurd rfl hn⟩
  | some L =>
   simp only [hs] at h hf;obtain ⟨h1,h2,h3,cur,E,h4,h5,h6⟩:=h;obtain ⟨t,fr,e1,e2⟩:=E.cells hm;rw [e1] at h4;rw [z95 hm] at h6;unfold hdr at h3;rw [if_pos (by rw [h1];exact hm)] at h3;subst h3
   exact ⟨_,_,rfl,h2 hm,λ_=>⟨⟨L.b,0,none⟩,cur,t,fr,rfl,rfl,hf _ (by simp),h4,by simpa using CeE.toIm hIJ xs 0 _ (λb hb=>hf b (by simp [hb])) h6⟩⟩
 | .sc _,_,_,h=>h
 | .zs,_,_,h=>h
 | .im s xs,v,_,h=>Im.wide hIJ (.im s xs) v h
 | .un,_,_,h=>h
 | .ag _,_,_,h=>h.elim
 | .tu _,_,_,h=>h.elim
 | .ip _ _ _ _,_,_,h=>h.elim
 | .sl _ _ _ _,_,_,h=>h.elim
 | .pt _ _ _ _,_,_,h=>h.elim
 | .fn _ _,_,_,h=>h.elim
theorem CeC.toIm {B:zm}{k:Nat}{p:Path}{i:Nat}(hIJ:∀ b,I b->J b):∀ (l:List AV) (c:Nat) (cs:List Value),(∀ b∈fpC σ k p i c l,J b)->CeC I σ B k p i c l cs->ImC J B (z2q l) cs
 | [],_,_,_,h=>h
 | x::l,c,_,hf,h=>by obtain ⟨v,cs',rfl,h1,h2⟩:=h;simp only [fpC,mem_append] at hf;exact ⟨v,cs',rfl,Ce.toIm hIJ x v (λb hb=>hf b (.inl hb)) h1,CeC.toIm hIJ l (c+1) cs' (λb hb=>hf b (.inr hb)) h2⟩
theorem CeE.toIm {B:zm}{k:Nat}{p:Path}{s:Nat}(hIJ:∀ b,I b->J b):∀ (l:Els) (i:Nat) (cs:List Value),(∀ b∈fpE σ k p i l,J b)->CeE I σ B k p i s l cs->ImE J B s (z3f l) cs
 | [],_,_,_,_=>trivial
 | x::l,i,cs,hf,h=>by simp only [fpE,mem_append] at hf;exact ⟨by rw [zmz];exact h.1,CeC.toIm hIJ x 0 _ (λb hb=>hf b (.inl hb)) h.2.1,CeE.toIm hIJ l (i+1) _ (λb hb=>hf b (.inr hb)) h.2.2⟩
end
end
def z1n:List (Nat×Nat)->Nat->Option Nat
 | [],_=>none
 | (n,o)::m,k=>if o=k then some n else z1n m k
mutual
def conv (rest:H)(m:List (Nat×Nat))(bor:Bool):AV->Option AV
 | .sc v=>some (.sc v)
 | .zs=>some .zs
 | .un=>some .un
 | .im s xs=>some (.im s xs)
 | .ip s xs i c=>some (.ip s xs i c)
 | .sl k p off len =>
  if bor then
   match res rest k p with
   | some (s,ys)=>if off+len<=ys.length then some (.im s (z3f ((ys.drop off).take len))) else none
   | none=>none
  else none
 | .pt k p i c=>if p=[] then match z1n m k with | some n=>some (.pt n [] i c) | none=>none else none
 | .ag cs=>match z2d rest m bor cs with | some cs'=>some (.ag cs') | none=>none
 | .tu vs=>match z2d rest m bor vs with | some cs'=>some (.tu cs') | none=>none
 | .fn f caps=>match z2d rest m bor caps with | some cs'=>some (.fn f cs') | none=>none
 | .ow _ _=>none
 | .pp _=>none
def z2d (rest:H)(m:List (Nat×Nat))(bor:Bool):List AV->Option (List AV)
 | []=>some []
 | x::l =>
  match conv rest m bor x,z2d rest m bor l with
  | some x',some l'=>some (x'::l')
  | _,_=>none
end
def zdj (bm:List (Nat×Nat)):PV->Option AV
 | .xp b x c=>some (.pp (.xp b x c))
 | .fs k cs=>match z1n bm k with | some n=>some (.pp (.fs n cs)) | none=>none
 | .fp k cs i=>match z1n bm k with | some n=>some (.pp (.fp n cs i)) | none=>none
 | .mr k p=>match z1n bm k with | some n=>some (.pp (.mr n p)) | none=>none
mutual
def z2b (bm:List (Nat×Nat)):AV->Option AV
 | .sc v=>some (.sc v)
 | .zs=>some .zs
 | .un=>some .un
 | .im s xs=>some (.im s xs)
 | .ip s xs i c=>some (.ip s xs i c)
 | .sl k p off len=>match z1n bm k with | some n=>some (.sl n p off len) | none=>none
 | .pt k p i c=>match z1n bm k with | some n=>some (.pt n p i c) | none=>none
 | .ag cs=>match z6q bm cs with | some cs'=>some (.ag cs') | none=>none
 | .tu vs=>match z6q bm vs with | some cs'=>some (.tu cs') | none=>none
 | .fn f caps=>match z6q bm caps with | some cs'=>some (.fn f cs') | none=>none
 | .ow _ _=>none
 | .pp q=>zdj bm q
def z6q (bm:List (Nat×Nat)):List AV->Option (List AV)
 | []=>some []
 | x::l =>
  match z2b bm x,z6q bm l with
  | some x',some l'=>some (x'::l')
  | _,_=>none
end
mutual
def z45:AV->Bool
 | .im _ _=>false
 | .ip _ _ _ _=>false
 | .ow _ xs=>za1 xs
 | .ag cs=>z21 cs
 | .tu vs=>z21 vs
 | .fn _ caps=>z21 caps
 | .pp _=>false
 | .un | .sc _ | .zs | .sl _ _ _ _ | .pt _ _ _ _=>true
def z21:List AV->Bool
 | []=>true
 | x::l=>z45 x&&z21 l
def za1:Els->Bool
 | []=>true
 | x::l=>z21 x&&za1 l
end
def z56 (h:H):Bool:=h.all λx=>za1 x.2.xs
def z1r (h:H):List Nat->H
 | []=>h
 | k::ks=>z1r (zc h k) ks
section
variable {P:Program}{I J:Nat->Prop}{N:Nat}[Dfs N]{σ σ':Pl}{B:zm}{w w':World}{h h' rest:H}{e e':Env}{a:Act}{m bm:List (Nat×Nat)}
theorem zfw:∀ (m:List (Nat×Nat)) {k n:Nat},(m.map Prod.fst).Nodup->z1n m k=some n->z36 m n=some k
 | [],_,_,_,h=>by cases h
 | (n',o')::m,k,n,hnd,h=>by
  simp only [map_cons,nodup_cons] at hnd;unfold z1n at h;split at h
  ·rename_i e;cases h;subst e;simp [z36]
  ·have h1:=zfw m hnd.2 h
   have:n'≠n:=by
    rintro rfl;apply hnd.1
    have:∀ (m:List (Nat×Nat)),z36 m n'=some k->n'∈m.map Prod.fst:=by
     intro m
     induction m with
     | nil=>intro h;cases h
     | cons x m ih =>
      obtain ⟨a,b⟩:=x;intro h;unfold z36 at h;split at h
      ·rename_i e;simp [e]
      ·simp [ih h]
    exact this m h1
   simp [z36,this,h1]
theorem z9a (hnd:(m.map Prod.fst).Nodup){k n:Nat}(h:z1n m k=some n)(q:Path):z1z m σ n q=σ k q:=by unfold z1z;rw [zfw m hnd h]
mutual
theorem ziz {bor:Bool}(hnd:(m.map Prod.fst).Nodup)(hr:zk I σ rest w)(hIJ:∀ b,I b->J b)(hb:bor=true->∀ b∈fpH σ rest,J b):∀ (x y:AV) (v:Value),conv rest m bor x=some y->Va I σ (bl w) x v->Va J (z1z m σ) (bl w) y v
 | .sc _,y,v,hc,h=>by simp only [conv,Option.some.injEq] at hc;subst hc;exact h
 | .zs,y,v,hc,h=>by simp only [conv,Option.some.injEq] at hc;subst hc;exact h
 | .un,y,v,hc,h=>by simp only [conv,Option.some.injEq] at hc;subst hc;trivial
 | .im s xs,y,v,hc,h=>by simp only [conv,Option.some.injEq] at hc;subst hc;exact Im.wide hIJ (.im s xs) v h
 | .ip s xs i c,y,v,hc,h=>by simp only [conv,Option.some.injEq] at hc;subst hc;obtain ⟨A,cur,E,fr,h1,h2,h3,h4,h5⟩:=h;exact ⟨A,cur,E,fr,h1,h2,hIJ _ h3,h4,ImE.wide hIJ s xs _ h5⟩
 | .sl k p off len,y,v,hc,h=>by
  simp only [conv] at hc;split at hc
  ·rename_i hbor;split at hc
   ·rename_i s ys hres;split at hc
    ·rename_i hle;simp only [Option.some.injEq] at hc;subst hc;obtain ⟨hp,hpf⟩:=hr.place hres;unfold z2f at hp;unfold fpP at hpf;simp only [Va] at h;cases hL:σ k p with
     | none =>simp only [hL] at hp h;subst hp;obtain ⟨rfl,rfl,A,rfl⟩:=h;exact ⟨A,0,by simp [z3f],by simp [z3f],λhn=>absurd (by simp [z3f]) hn⟩
     | some L =>
      simp only [hL] at hp hpf h;obtain ⟨f1,f2,cur,E,f3,f4,f5⟩:=hp;rw [if_pos (by rw [f1];exact (z83 hres).2)] at h;obtain ⟨A,c,rfl,g1,g2,g3⟩:=h;have hlen:((ys.drop off).take len).length=len:=by rw [length_take,List.length_drop];omega
      refine ⟨some A,c,by rw [z7f,hlen],by rw [z7f,hlen];exact g2,λhn=>?_⟩
      have hpos:0<len:=by
       rcases Nat.eq_zero_or_pos len with h0 | h0
       ·exfalso;apply hn;subst h0;simp [z3f]
       ·exact h0
      have hA:=g3 (.inl (by omega));subst hA;refine ⟨_,cur,E.t,E.fr,rfl,rfl,hb hbor _ (hpf _ (by simp)),f3,?_⟩;have hE:CeE I σ (bl w) k p (0+off) s ((ys.drop off).take len) (cur.toList.drop (off * s)):=CeE.take _ _ _ len (CeE.drop ys 0 _ off f5);rw [f1];refine CeE.toIm hIJ _ _ _ (λb hbb=>hb hbor b (hpf b (mem_cons_of_mem _ ?_))) hE;have hs1:=z70 (σ:=σ) (k:=k) (p:=p) (ys.drop off) (0+off) len
      have hs2:∀ (l:Els) (i n:Nat),(fpE σ k p (i+n) (l.drop n)).Sublist (fpE σ k p i l):=by
       intro l
       induction l with
       | nil=>intro i n;simp [fpE]
       | cons x l ih =>
        intro i n;cases n with
        | zero=>simp
        | succ n =>simp only [List.drop_succ_cons,fpE];have:=ih (i+1) n;rw [show i+1+n=i+(n+1) by omega] at this;exact this.trans (List.sublist_append_right _ _)
      exact (hs1.trans (hs2 ys 0 off)).subset hbb
    ·cases hc
   ·cases hc
  ·cases hc
 | .pt k p i c,y,v,hc,h=>by
  simp only [conv] at hc;split at hc
  ·rename_i hp;subst hp;split at hc
   ·rename_i n hn;simp only [Option.some.injEq] at hc;subst hc;obtain ⟨L,hL,rfl⟩:=h;exact ⟨L,by rw [z9a hnd hn];exact hL,rfl⟩
   ·cases hc
  ·cases hc
 | .ag cs,y,v,hc,h=>by
  simp only [conv] at hc;split at hc
  ·rename_i cs' hcs;simp only [Option.some.injEq] at hc;subst hc;obtain ⟨c,rfl,h⟩:=h;exact ⟨c,rfl,zhd hnd hr hIJ hb cs cs' _ hcs h⟩
  ·cases hc
 | .tu cs,y,v,hc,h=>by
  simp only [conv] at hc;split at hc
  ·rename_i cs' hcs;simp only [Option.some.injEq] at hc;subst hc;obtain ⟨c,rfl,h⟩:=h;exact ⟨c,rfl,z5h hnd hr hIJ hb cs cs' _ hcs h⟩
  ·cases hc
 | .fn f cs,y,v,hc,h=>by
  simp only [conv] at hc;split at hc
  ·rename_i cs' hcs;simp only [Option.some.injEq] at hc;subst hc;obtain ⟨c,rfl,h⟩:=h;exact ⟨c,rfl,z5h hnd hr hIJ hb cs cs' _ hcs h⟩
  ·cases hc
 | .ow _ _,y,v,hc,_=>by simp only [conv] at hc;cases hc
theorem z5h {bor:Bool}(hnd:(m.map Prod.fst).Nodup)(hr:zk I σ rest w)(hIJ:∀ b,I b->J b)(hb:bor=true->∀ b∈fpH σ rest,J b):∀ (l l':List AV) (vs:List Value),z2d rest m bor l=some l'->VaL I σ (bl w) l vs->VaL J (z1z m σ) (bl w) l' vs
 | [],l',vs,hc,h=>by simp only [z2d,Option.some.injEq] at hc;subst hc;exact h
 | x::l,l',vs,hc,h=>by
  unfold z2d at hc;split at hc
  ·rename_i x' l1 hx hl;simp only [Option.some.injEq] at hc;subst hc;obtain ⟨v,vs',rfl,h1,h2⟩:=h;exact ⟨v,vs',rfl,ziz hnd hr hIJ hb x x' v hx h1,z5h hnd hr hIJ hb l l1 vs' hl h2⟩
  ·cases hc
theorem zhd {bor:Bool}(hnd:(m.map Prod.fst).Nodup)(hr:zk I σ rest w)(hIJ:∀ b,I b->J b)(hb:bor=true->∀ b∈fpH σ rest,J b):∀ (l l':List AV) (vs:List Value),z2d rest m bor l=some l'->VaC I σ (bl w) l vs->VaC J (z1z m σ) (bl w) l' vs
 | [],l',vs,hc,h=>by simp only [z2d,Option.some.injEq] at hc;subst hc;exact h
 | x::l,l',vs,hc,h=>by
  unfold z2d at hc;split at hc
  ·rename_i x' l1 hx hl;simp only [Option.some.injEq] at hc;subst hc;obtain ⟨v,vs',rfl,h0,h1,h2⟩:=h;exact ⟨v,vs',rfl,h0,ziz hnd hr hIJ hb x x' v hx h1,zhd hnd hr hIJ hb l l1 vs' hl h2⟩
  ·cases hc
end
mutual
theorem z69 {σ2:Pl}(hnd:∀ k n,z1n bm k=some n->∀ q,σ2 n q=σ k q):∀ (x y:AV) (v:Value),z2b bm x=some y->Va I σ B x v->Va I σ2 B y v
 | .sc _,y,v,hc,h=>by simp only [z2b,Option.some.injEq] at hc;subst hc;exact h
 | .zs,y,v,hc,h=>by simp only [z2b,Option.some.injEq] at hc;subst hc;exact h
 | .un,y,v,hc,h=>by simp only [z2b,Option.some.injEq] at hc;subst hc;trivial
 | .im s xs,y,v,hc,h=>by simp only [z2b,Option.some.injEq] at hc;subst hc;exact h
 | .ip s xs i c,y,v,hc,h=>by simp only [z2b,Option.some.injEq] at hc;subst hc;exact h
 | .sl k p off len,y,v,hc,h=>by
  simp only [z2b] at hc;split at hc
  ·rename_i n hn;simp only [Option.some.injEq] at hc;subst hc;simp only [Va] at h ⊢;rw [hnd _ _ hn];exact h
  ·cases hc
 | .pt k p i c,y,v,hc,h=>by
  simp only [z2b] at hc;split at hc
  ·rename_i n hn;simp only [Option.some.injEq] at hc;subst hc;obtain ⟨L,hL,rfl⟩:=h;exact ⟨L,by rw [hnd _ _ hn];exact hL,rfl⟩
  ·cases hc
 | .pp (.xp _ _ _),y,v,hc,h=>by simp only [z2b,zdj,Option.some.injEq] at hc;subst hc;exact h
 | .pp (.fs k cs),y,v,hc,h=>by
  simp only [z2b,zdj] at hc;split at hc
  ·rename_i n hn;simp only [Option.some.injEq] at hc;subst hc;obtain ⟨L,a,c,hL,h1⟩:=h;exact ⟨L,a,c,by rw [hnd _ _ hn];exact hL,h1⟩
  ·cases hc
 | .pp (.fp k cs i),y,v,hc,h=>by
  simp only [z2b,zdj] at hc;split at hc
  ·rename_i n hn;simp only [Option.some.injEq] at hc;subst hc;obtain ⟨L,A,cur,E,fr,hL,h1⟩:=h;exact ⟨L,A,cur,E,fr,by rw [hnd _ _ hn];exact hL,h1⟩
  ·cases hc
 | .pp (.mr k p),y,v,hc,h=>by
  simp only [z2b,zdj] at hc;split at hc
  ·rename_i n hn;simp only [Option.some.injEq] at hc;subst hc;obtain ⟨L,hL,h1⟩:=h;exact ⟨L,by rw [hnd _ _ hn];exact hL,h1⟩
  ·cases hc
 | .ag cs,y,v,hc,h=>by
  simp only [z2b] at hc;split at hc
  ·rename_i cs' hcs;simp only [Option.some.injEq] at hc;subst hc;obtain ⟨c,rfl,h⟩:=h;exact ⟨c,rfl,zha hnd cs cs' _ hcs h⟩
  ·cases hc
 | .tu cs,y,v,hc,h=>by
  simp only [z2b] at hc;split at hc
  ·rename_i cs' hcs;simp only [Option.some.injEq] at hc;subst hc;obtain ⟨c,rfl,h⟩:=h;exact ⟨c,rfl,zca hnd cs cs' _ hcs h⟩
  ·cases hc
 | .fn f cs,y,v,hc,h=>by
  simp only [z2b] at hc;split at hc
  ·rename_i cs' hcs;simp only [Option.some.injEq] at hc;subst hc;obtain ⟨c,rfl,h⟩:=h;exact ⟨c,rfl,zca hnd cs cs' _ hcs h⟩
  ·cases hc
 | .ow _ _,y,v,hc,_=>by simp only [z2b] at hc;cases hc
theorem zca {σ2:Pl}(hnd:∀ k n,z1n bm k=some n->∀ q,σ2 n q=σ k q):∀ (l l':List AV) (vs:List Value),z6q bm l=some l'->VaL I σ B l vs->VaL I σ2 B l' vs
 | [],l',vs,hc,h=>by simp only [z6q,Option.some.injEq] at hc;subst hc;exact h
 | x::l,l',vs,hc,h=>by
  unfold z6q at hc;split at hc
  ·rename_i x' l1 hx hl;simp only [Option.some.injEq] at hc;subst hc;obtain ⟨v,vs',rfl,h1,h2⟩:=h;exact ⟨v,vs',rfl,z69 hnd x x' v hx h1,zca hnd l l1 vs' hl h2⟩
  ·cases hc
theorem zha {σ2:Pl}(hnd:∀ k n,z1n bm k=some n->∀ q,σ2 n q=σ k q):∀ (l l':List AV) (vs:List Value),z6q bm l=some l'->VaC I σ B l vs->VaC I σ2 B l' vs
 | [],l',vs,hc,h=>by simp only [z6q,Option.some.injEq] at hc;subst hc;exact h
 | x::l,l',vs,hc,h=>by
  unfold z6q at hc;split at hc
  ·rename_i x' l1 hx hl;simp only [Option.some.injEq] at hc;subst hc;obtain ⟨v,vs',rfl,h0,h1,h2⟩:=h;exact ⟨v,vs',rfl,h0,z69 hnd x x' v hx h1,zha hnd l l1 vs' hl h2⟩
  ·cases hc
end
mutual
theorem Va.narrow:∀ (x:AV) (v:Value),z45 x=true->Va J σ B x v->Va I σ B x v
 | .un,_,_,_=>trivial
 | .sc _,_,_,h=>h
 | .zs,_,_,h=>h
 | .im _ _,_,h,_=>by cases h
 | .ip _ _ _ _,_,h,_=>by cases h
 | .pp _,_,h,_=>by cases h
 | .sl _ _ _ _,_,_,h=>h
 | .pt _ _ _ _,_,_,h=>h
 | .ag cs,_,hn,h=>by obtain ⟨c,rfl,h⟩:=h;exact ⟨c,rfl,VaC.narrow cs _ hn h⟩
 | .tu cs,_,hn,h=>by obtain ⟨c,rfl,h⟩:=h;exact ⟨c,rfl,VaL.narrow cs _ hn h⟩
 | .fn _ cs,_,hn,h=>by obtain ⟨c,rfl,h⟩:=h;exact ⟨c,rfl,VaL.narrow cs _ hn h⟩
 | .ow _ _,_,_,h=>h.elim
theorem VaC.narrow:∀ (l:List AV) (vs:List Value),z21 l=true->VaC J σ B l vs->VaC I σ B l vs
 | [],_,_,h=>h
 | x::l,_,hn,h=>by simp only [z21,and_eq_true] at hn;obtain ⟨v,vs',rfl,h0,h1,h2⟩:=h;exact ⟨v,vs',rfl,h0,Va.narrow x v hn.1 h1,VaC.narrow l vs' hn.2 h2⟩
theorem VaL.narrow:∀ (l:List AV) (vs:List Value),z21 l=true->VaL J σ B l vs->VaL I σ B l vs
 | [],_,_,h=>h
 | x::l,_,hn,h=>by simp only [z21,and_eq_true] at hn;obtain ⟨v,vs',rfl,h1,h2⟩:=h;exact ⟨v,vs',rfl,Va.narrow x v hn.1 h1,VaL.narrow l vs' hn.2 h2⟩
end
mutual
theorem Ce.narrow {k:Nat}{p:Path}{i c:Nat}:∀ (x:AV) (v:Value),z45 x=true->Ce J σ B k p i c x v->Ce I σ B k p i c x v
 | .ow s xs,v,hn,h=>by
  simp only [Ce] at h ⊢;cases hs:σ k (p++[(i,c)]) with
  | none=>simpa only [hs] using h
  | some L =>simp only [hs] at h ⊢;obtain ⟨h1,h2,h3,cur,E,h4,h5,h6⟩:=h;exact ⟨h1,h2,h3,cur,E,h4,h5,CeE.narrow xs 0 _ hn h6⟩
 | .sc _,_,_,h=>h
 | .zs,_,_,h=>h
 | .un,_,_,h=>h
 | .im _ _,_,h,_=>by cases h
 | .ag _,_,_,h=>h.elim
 | .tu _,_,_,h=>h.elim
 | .ip _ _ _ _,_,_,h=>h.elim
 | .sl _ _ _ _,_,_,h=>h.elim
 | .pt _ _ _ _,_,_,h=>h.elim
 | .fn _ _,_,_,h=>h.elim
 | .pp _,_,_,h=>h.elim
theorem CeC.narrow {k:Nat}{p:Path}{i:Nat}:∀ (l:List AV) (c:Nat) (cs:List Value),z21 l=true->CeC J σ B k p i c l cs->CeC I σ B k p i c l cs
 | [],_,_,_,h=>h
 | x::l,c,_,hn,h=>by simp only [z21,and_eq_true] at hn;obtain ⟨v,cs',rfl,h1,h2⟩:=h;exact ⟨v,cs',rfl,Ce.narrow x v hn.1 h1,CeC.narrow l (c+1) cs' hn.2 h2⟩
theorem CeE.narrow {k:Nat}{p:Path}{s:Nat}:∀ (l:Els) (i:Nat) (cs:List Value),za1 l=true->CeE J σ B k p i s l cs->CeE I σ B k p i s l cs
 | [],_,_,_,_=>trivial
 | x::l,i,_,hn,h=>by simp only [za1,and_eq_true] at hn;exact ⟨h.1,CeC.narrow x 0 _ hn.1 h.2.1,CeE.narrow l (i+1) _ hn.2 h.2.2⟩
end
theorem zr.narrow:∀ (h:H),z56 h=true->zr J σ B h->zr I σ B h
 | [],_,_=>trivial
 | (k,r)::h,hn,hh=>by
  simp only [z56,all_cons,and_eq_true] at hn;refine ⟨?_,zr.narrow h hn.2 hh.2⟩;have h1:=hh.1;unfold zy at h1 ⊢;cases hs:σ k [] with
  | none=>simpa only [hs] using h1
  | some L =>simp only [hs] at h1 ⊢;obtain ⟨q1,q2,cur,E,q3,q4,q5⟩:=h1;exact ⟨q1,q2,cur,E,q3,q4,CeE.narrow r.xs 0 _ hn.1 q5⟩
theorem zk.narrow (hIJ:∀ b,I b->J b)(hn:z56 h=true)(hh:zk J σ h w):zk I σ h w :=
 ⟨zr.narrow h hn hh.ok,hh.keys,hh.nodup,λb hb=>⟨λhI=>(hh.apart b hb).1 (hIJ b hI),(hh.apart b hb).2⟩,λb hb=>hh.low b (hIJ b hb)⟩
theorem z8q:∀ (ks:List Nat) {h:H},zk I σ h w->zk I σ (z1r h ks) w/\(∀ b∈fpH σ (z1r h ks),b∈fpH σ h)/\(∀ k∈(z1r h ks).map Prod.fst,k∈h.map Prod.fst/\k∉ks)
 | [],h,hh=>⟨hh,λb hb=>hb,λk hk=>⟨hk,by simp⟩⟩
 | k::ks,h,hh=>by obtain ⟨q1,q2,q3,q4⟩:=z4d hh k;obtain ⟨p1,p2,p3⟩:=z8q ks q1;refine ⟨p1,λb hb=>q3 b (p2 b hb),λk' hk'=>⟨q4 k' (p3 k' hk').1,?_⟩⟩;simp only [mem_cons,not_or];exact ⟨λe=>q2 (e ▸ (p3 k' hk').1),(p3 k' hk').2⟩
end
section
variable {P:Program}{I J:Nat->Prop}{N:Nat}[Dfs N]{σ σ':Pl}{B:zm}{w w':World}{h h' rest hin hout hb left:H}{e e':Env}{a:Act}{m bm:List (Nat×Nat)}
mutual
theorem Ce.wide (hIJ:∀ b,I b->J b){k:Nat}{p:Path}{i c:Nat}:∀ (x:AV) (v:Value),Ce I σ B k p i c x v->Ce J σ B k p i c x v
 | .ow s xs,v,h=>by
  simp only [Ce] at h ⊢;cases hs:σ k (p++[(i,c)]) with
  | none=>simpa only [hs] using h
  | some L =>simp only [hs] at h ⊢;obtain ⟨h1,h2,h3,cur,E,h4,h5,h6⟩:=h;exact ⟨h1,h2,h3,cur,E,h4,h5,CeE.wide hIJ xs 0 _ h6⟩
 | .sc _,_,h=>h
 | .zs,_,h=>h
 | .un,_,h=>h
 | .im s xs,v,h=>Im.wide hIJ (.im s xs) v h
 | .ag _,_,h=>h.elim
 | .tu _,_,h=>h.elim
 | .ip _ _ _ _,_,h=>h.elim
 | .sl _ _ _ _,_,h=>h.elim
 | .pt _ _ _ _,_,h=>h.elim
 | .fn _ _,_,h=>h.elim
 | .pp _,_,h=>h.elim
theorem CeC.wide (hIJ:∀ b,I b->J b){k:Nat}{p:Path}{i:Nat}:∀ (l:List AV) (c:Nat) (cs:List Value),CeC I σ B k p i c l cs->CeC J σ B k p i c l cs
 | [],_,_,h=>h
 | x::l,c,_,h=>by obtain ⟨v,cs',rfl,h1,h2⟩:=h;exact ⟨v,cs',rfl,Ce.wide hIJ x v h1,CeC.wide hIJ l (c+1) cs' h2⟩
theorem CeE.wide (hIJ:∀ b,I b->J b){k:Nat}{p:Path}{s:Nat}:∀ (l:Els) (i:Nat) (cs:List Value),CeE I σ B k p i s l cs->CeE J σ B k p i s l cs
 | [],_,_,_=>trivial
 | x::l,i,_,h=>⟨h.1,CeC.wide hIJ x 0 _ h.2.1,CeE.wide hIJ l (i+1) _ h.2.2⟩
end
theorem zr.wide (hIJ:∀ b,I b->J b):∀ (h:H),zr I σ B h->zr J σ B h
 | [],_=>trivial
 | (k,r)::h,hh=>by
  refine ⟨?_,zr.wide hIJ h hh.2⟩;have h1:=hh.1;unfold zy at h1 ⊢;cases hs:σ k [] with
  | none=>simpa only [hs] using h1
  | some L =>simp only [hs] at h1 ⊢;obtain ⟨q1,q2,cur,E,q3,q4,q5⟩:=h1;exact ⟨q1,q2,cur,E,q3,q4,CeE.wide hIJ r.xs 0 _ q5⟩
mutual
theorem Va.wide {B:zm}(hIJ:∀ b,I b->J b):∀ (x:AV) (v:Value),Va I σ B x v->Va J σ B x v
 | .un,_,_=>trivial
 | .sc _,_,h=>h
 | .zs,_,h=>h
 | .ag cs,_,h=>by obtain ⟨a,rfl,h⟩:=h;exact ⟨a,rfl,VaC.wide hIJ cs _ h⟩
 | .tu cs,_,h=>by obtain ⟨a,rfl,h⟩:=h;exact ⟨a,rfl,VaL.wide hIJ cs _ h⟩
 | .im s xs,v,h=>Im.wide hIJ (.im s xs) v h
 | .ip s xs i c,v,h=>by obtain ⟨A,cur,E,fr,h1,h2,h3,h4,h5⟩:=h;exact ⟨A,cur,E,fr,h1,h2,hIJ _ h3,h4,ImE.wide hIJ s xs _ h5⟩
 | .sl _ _ _ _,_,h=>h
 | .pt _ _ _ _,_,h=>h
 | .fn _ caps,_,h=>by obtain ⟨a,rfl,h⟩:=h;exact ⟨a,rfl,VaL.wide hIJ caps _ h⟩
 | .ow _ _,_,h=>h.elim
 | .pp q,v,h=>VaP.wide hIJ q v h
theorem VaC.wide {B:zm}(hIJ:∀ b,I b->J b):∀ (l:List AV) (cs:List Value),VaC I σ B l cs->VaC J σ B l cs
 | [],_,h=>h
 | x::l,_,h=>by obtain ⟨v,cs',rfl,h0,h1,h2⟩:=h;exact ⟨v,cs',rfl,h0,Va.wide hIJ x v h1,VaC.wide hIJ l cs' h2⟩
theorem VaL.wide {B:zm}(hIJ:∀ b,I b->J b):∀ (l:List AV) (cs:List Value),VaL I σ B l cs->VaL J σ B l cs
 | [],_,h=>h
 | x::l,_,h=>by obtain ⟨v,cs',rfl,h1,h2⟩:=h;exact ⟨v,cs',rfl,Va.wide hIJ x v h1,VaL.wide hIJ l cs' h2⟩
end
def z78 (m bm:List (Nat×Nat))(k:Nat)(q:Path):Bool:=(bm.map Prod.fst).contains k&&!((m.map Prod.snd).contains k&&q.isEmpty)
def zd4 (m bm:List (Nat×Nat)):Bool:=bm.all λx=>!(m.map Prod.snd).contains x.1||m.contains (x.2,x.1)
def zh1 (pro:List Nat)(m bm:List (Nat×Nat)):Bool:=pro.all λk=>!(bm.map Prod.fst).contains k||(m.map Prod.snd).contains k
theorem zax:∀ (m:List (Nat×Nat)) {k n:Nat},(m.map Prod.fst).Nodup->(k,n)∈m->z36 m k=some n
 | [],_,_,_,h=>by cases h
 | (a,b)::m,k,n,hnd,h=>by
  simp only [map_cons,nodup_cons] at hnd;rcases mem_cons.1 h with h | h
  ·cases h;simp [z36]
  ·have:a≠k:=by rintro rfl;exact hnd.1 (mem_map.2 ⟨(a,n),h,rfl⟩)
   simp only [z36,if_neg this];exact zax m hnd.2 h
theorem zcg:∀ (m:List (Nat×Nat)) {k n:Nat},z1n m k=some n->n∈m.map Prod.fst
 | [],_,_,h=>by cases h
 | (a,b)::m,k,n,h=>by
  simp only [z1n] at h;by_cases hb:b=k
  ·simp only [if_pos hb,Option.some.injEq] at h;simp [h]
  ·simp only [if_neg hb] at h;rw [map_cons];exact mem_cons_of_mem _ (zcg m h)
theorem zqx (R:Rel I N σ e h a w){args args':List AV}{vs:List Value}{f:Nat}{bor:Bool}{u:Value}(hargs:VaL I σ (bl w) args vs)(hsplit:z2c h m=some (hin,rest))(hnd:(m.map Prod.fst).Nodup)
  (hconv:z2d rest m bor args=some args') (hok:z9m P f args' hin u) :
  Calls P f vs.toArray w λen w'=>en = .panicked [{ v:=u,recovered:=false }]/\Le w w'/\(∀ b,b<w.heap.size->b∉fpH σ h->bl w' b=bl w b)/\zk I σ rest w'/\∀ b∈fpH σ rest,b∈fpH σ h:=by
 let J:Nat->Prop:=λb=>I b\/(bor=true/\b∈fpH σ rest)
 have hIJ:∀ b,I b->J b:=λb hb=>.inl hb;obtain ⟨s1,s2,s3,s4,s5,s6⟩:=z4r m h hin rest R.heap hsplit hnd
 have hin1:zk J (z1z m σ) hin w:=⟨zr.wide hIJ hin s1.ok,s1.keys,s1.nodup,λb hb=>⟨λhJ=>by
  rcases hJ with hJ | hJ
  ·exact (s1.apart b hb).1 hJ
  ·exact (s3 b hb).2 hJ.2,(s1.apart b hb).2⟩,λb hb=>by
  rcases hb with hb | hb
  ·exact s1.low b hb
  ·exact (s2.apart b hb.2).2⟩
 have hva:=z5h (J:=J) hnd s2 hIJ (λhbr b hb=>.inr ⟨hbr,hb⟩) args args' vs hconv hargs;refine (hok J (z1z m σ) w vs hin1 hva).mono λen w' ⟨h1,h2,h3⟩=>⟨h1,h2,λb hb hf=>h3 b hb λhm=>hf (s3 b hm).1,?_,s4⟩
 have ls:=h2.size;have hrestB:∀ b∈fpH σ rest,bl w' b=bl w b:=λb hb=>h3 b (s2.apart b hb).2 (λhm=>(s3 b hm).2 hb);have hIb:∀ b,I b->bl w' b=bl w b:=λb hb=>h3 b (R.heap.low b hb) (λhm=>(s1.apart b hm).1 hb);exact ⟨zr.mono hIb rest hrestB s2.ok,s2.keys,s2.nodup,λb hb=>⟨(s2.apart b hb).1,by have:=(s2.apart b hb).2;omega⟩,λb hb=>by have:=R.heap.low b hb;omega⟩
theorem zvp (R:Rel I N σ e h a w){args args':List AV}{vs:List Value}{f d:Nat}{bor:Bool}{r r':AV}{pro:List Nat}(hargs:VaL I σ (bl w) args vs)(hsplit:z2c h m=some (hin,rest))(hnd:(m.map Prod.fst).Nodup)
  (hconv:z2d rest m bor args=some args') (hok:CallG P f args' hin r hout) (hsb:z2c hout bm=some (hb,left)) (hndb:(bm.map Prod.fst).Nodup) (hbk:zd4 m bm=true) (hpro:zh1 pro m bm=true) (hback:z2b bm r=some r')
  (hbor:bor=true->z45 r=true/\z56 hout=true) (hd:d<N) :
  Calls P f vs.toArray w λen w'=>∃ v,en = .returned v/\zv P I N pro σ h w (upd (z1e (z78 m bm) e) d r') (hb++z1r rest (bm.map Prod.fst)) (a.put (some d) v) w':=by
 let J:Nat->Prop:=λb=>I b\/(bor=true/\b∈fpH σ rest)
 have hIJ:∀ b,I b->J b:=λb hb=>.inl hb;obtain ⟨s1,s2,s3,s4,s5,s6⟩:=z4r m h hin rest R.heap hsplit hnd
 have hin1:zk J (z1z m σ) hin w:=⟨zr.wide hIJ hin s1.ok,s1.keys,s1.nodup,λb hb=>⟨λhJ=>by
  rcases hJ with hJ | hJ
  ·exact (s1.apart b hb).1 hJ
  ·exact (s3 b hb).2 hJ.2,(s1.apart b hb).2⟩,λb hb=>by
  rcases hb with hb | hb
  ·exact s1.low b hb
  ·exact (s2.apart b hb.2).2⟩
 have hva:=z5h (J:=J) hnd s2 hIJ (λhbr b hb=>.inr ⟨hbr,hb⟩) args args' vs hconv hargs;refine (hok J (z1z m σ) w vs hin1 hva).mono ?_;rintro en w' ⟨v,σ1,J',rfl,cJ1,cJ2,c1,c2,c3,c4,c5,c6⟩;refine ⟨v,rfl,?_⟩
 let I':Nat->Prop:=λb=>I b\/(bor=false/\J' b)
 have hII:∀ b,I b->I' b:=λb hb=>.inl hb
 have hI'c:∀ b,I' b->I b\/b∈fpH σ h\/w.heap.size<=b:=λb hb=>by
  rcases hb with hb | ⟨hbr,hb⟩
  ·exact .inl hb
  ·rcases cJ2 b hb with h1 | h1 | h1
   ·rcases h1 with h1 | ⟨h1,_⟩
    ·exact .inl h1
    ·rw [hbr] at h1;cases h1
   ·exact .inr (.inl (s3 b h1).1)
   ·exact .inr (.inr h1)
 have hI1:zk I' σ1 hout w'/\Va I' σ1 (bl w') r v:=by
  by_cases hbr:bor=true
  ·obtain ⟨n1,n2⟩:=hbor hbr;have:I'=I:=funext λb=>propext ⟨λhb=>hb.elim id (λh=>by rw [hbr] at h;cases h.1),hII b⟩;rw [this];exact ⟨zk.narrow (λb hb=>cJ1 b (hIJ b hb)) n2 c1,Va.narrow r v n1 c2⟩
  ·have:I'=J':=funext λb=>propext ⟨λhb=>hb.elim (λh=>cJ1 b (hIJ b h)) (λh=>h.2),λhb=>.inr ⟨by simpa using hbr,hb⟩⟩;rw [this];exact ⟨c1,c2⟩
 obtain ⟨hI1,hI2⟩:=hI1;obtain ⟨b1,b2,b3,b4,b5,b6⟩:=z4r bm hout hb left hI1 hsb hndb;have c4s:=c4.size;have hrestB:∀ b∈fpH σ rest,bl w' b=bl w b:=λb hb=>c5 b (s2.apart b hb).2 (λhm=>(s3 b hm).2 hb);have hIb:∀ b,I b->bl w' b=bl w b:=λb hb=>c5 b (R.heap.low b hb) (λhm=>(s1.apart b hm).1 hb)
 have hrest:zk I' σ rest w':=⟨zr.wide hII rest (zr.mono hIb rest hrestB s2.ok),s2.keys,s2.nodup,λb hb=>⟨λhm=>by
  rcases hm with hm | ⟨hbr,hm⟩
  ·exact (s2.apart b hb).1 hm
  ·rcases cJ2 b hm with h1 | h1 | h1
   ·rcases h1 with h1 | ⟨h1,_⟩
    ·exact (s2.apart b hb).1 h1
    ·rw [hbr] at h1;cases h1
   ·exact (s3 b h1).2 hb
   ·have:=(s2.apart b hb).2;omega,by have:=(s2.apart b hb).2;omega⟩,hI1.low⟩
 obtain ⟨k1,k2,k3⟩:=z8q (bm.map Prod.fst) hrest
 obtain ⟨j1,j2⟩:=zk.join b1 k1 (λk hk hk2=>(k3 k hk2).2 (by rw [<- b6];exact hk)) (λb hb hb2=>by
  rcases c6 b (b3 b hb).1 with h | h
  ·exact (s3 b h).2 (k2 b hb2)
  ·have:=(s2.apart b (k2 b hb2)).2;omega)
 refine ⟨_,I',hII,hI'c,Rel.put j1 R.size (λt=>?_) R.defers hd ?_,?_,c4,?_,?_⟩
 ·refine Va.wide hII _ _ (Va.mono hIb _ _ (Va.kill (bad:=z78 m bm) (λk q hbad=>?_) (e t) _ (R.vals t)));by_cases hk:k∈hb.map Prod.fst
  ·simp only [if_pos hk];rw [b6] at hk;unfold z78 at hbad;have hc:(bm.map Prod.fst).contains k=true:=by simpa using hk
   rw [hc] at hbad;simp only [Bool.true_and,Bool.not_eq_false',and_eq_true] at hbad;obtain ⟨g1,g2⟩:=hbad;have hq:q=[]:=List.isEmpty_iff.1 g2;subst hq;obtain ⟨⟨kk,cid⟩,hmem,rfl⟩:=mem_map.1 hk;have hchk:=all_eq_true.1 hbk (kk,cid) hmem;simp only [g1,Bool.not_true,Bool.false_or] at hchk;have hmc:(cid,kk)∈m:=by simpa using hchk
   have h1:z36 bm kk=some cid:=zax bm hndb hmem;have h2:z36 m cid=some kk:=zax m hnd hmc;show (match z36 bm kk with | some o=>σ1 o [] | none=>none)=σ kk [];rw [h1];simp only;rw [c3 cid (by rw [s6];exact mem_map.2 ⟨(cid,kk),hmc,rfl⟩)];show (match z36 m cid with | some o=>σ o [] | none=>none)=σ kk [];rw [h2]
  ·simp only [if_neg hk]
 ·refine z69 (σ:=σ1) (λk n hn q=>?_) r r' v hback hI2;have hm:n∈hb.map Prod.fst:=by rw [b6];exact zcg bm hn
  simp only [if_pos hm];exact z9a hndb hn q
 ·intro k hk;have hp:=all_eq_true.1 hpro k hk;by_cases hkb:k∈hb.map Prod.fst
  ·simp only [if_pos hkb];rw [b6] at hkb;have hc:(bm.map Prod.fst).contains k=true:=by simpa using hkb
   rw [hc] at hp;simp only [Bool.not_true,Bool.false_or] at hp;obtain ⟨⟨kk,cid⟩,hmem,rfl⟩:=mem_map.1 hkb;have hchk:=all_eq_true.1 hbk (kk,cid) hmem;simp only [hp,Bool.not_true,Bool.false_or] at hchk;have hmc:(cid,kk)∈m:=by simpa using hchk
   have h1:z36 bm kk=some cid:=zax bm hndb hmem;have h2:z36 m cid=some kk:=zax m hnd hmc;show (match z36 bm kk with | some o=>σ1 o [] | none=>none)=σ kk [];rw [h1];simp only;rw [c3 cid (by rw [s6];exact mem_map.2 ⟨(cid,kk),hmc,rfl⟩)];show (match z36 m cid with | some o=>σ o [] | none=>none)=σ kk [];rw [h2]
  ·simp only [if_neg hkb]
 ·intro b hb1 hb2;exact c5 b hb1 (λhm=>hb2 (s3 b hm).1)
 ·intro b hb1;rw [j2,mem_append] at hb1;rcases hb1 with hb1 | hb1
  ·rcases c6 b (b3 b hb1).1 with h | h
   ·exact .inl (s3 b h).1
   ·exact .inr h
  ·exact .inl (s4 b (k2 b hb1))
end
inductive IK where
 | rd (b:IB)
 | mk (b:IB)
 | app (s bytes:Nat) (x y:Operand)
 | st (n:Nat) (a x:Operand)
 | call (f:Nat) (args:List Operand)
 | callv (x:Operand) (args:List Operand)
 | s2b (x:Operand)
 | mrk (x:Operand)
 | ifn (x:Operand)
 | tas (t:TypeId) (x:Operand)
 | mst (nv:Nat) (ks:List Nat) (x key v:Operand)
structure Ins where
 dst:Nat
 guard:Option (Nat×Bool)
 op:IK
def zcf (P:Program)(f:Nat):Bool:=match P.funcs[f]? with | some fn=>!(fn.name == "runtime.NumGoroutine") && !fn.body.isNone | none=>false
def zx5 (P:Program)(src dst:TypeId):Bool :=
 match P.underlying src,P.underlying dst with
 | some .string,some (.slice el)=>match P.underlying el with | some (.int .u8)=>true | _=>false
 | _,_=>false
theorem zx6 {P:Program}{src dst:TypeId}(h:zx5 P src dst=true):P.underlying src=some .string/\∃ el,P.underlying dst=some (.slice el)/\P.underlying el=some (.int .u8):=by
 unfold zx5 at h;split at h
 ·rename_i el h1 h2;split at h
  ·exact ⟨h1,el,h2,by assumption⟩
  ·cases h
 ·cases h
def zwr (P:Program)(src dst:TypeId):Bool :=
 src==dst&&match P.underlying src with
  | some (.slice el)=>match P.underlying el with | some (.int .u8)=>true | _=>false
  | _=>false
theorem zws {P:Program}{src dst:TypeId}(h:zwr P src dst=true):src=dst/\∃ el,P.underlying src=some (.slice el)/\P.underlying el=some (.int .u8):=by
 unfold zwr at h;simp only [and_eq_true,beq_iff_eq] at h;obtain ⟨h0,h⟩:=h;split at h
 ·rename_i el h1;split at h
  ·exact ⟨h0,el,h1,by assumption⟩
  ·cases h
 ·cases h
def zwd (P:Program)(t:TypeId):Bool:=match P.underlying t with | some (.interface ms)=>if ms=P.methodsAt t then true else false | _=>false
theorem zwe {P:Program}{t:TypeId}(h:zwd P t=true):P.underlying t=some (.interface (P.methodsAt t)):=by
 unfold zwd at h;split at h
 ·rename_i ms hm;split at h
  ·rename_i e;rw [hm,e]
  ·cases h
 ·cases h
theorem ybv {P:Program}(w:World)(t xt:TypeId)(v:Value)(h:P.concrete t=true):(Instr.typeAssert (.iface t v) xt t true).run P w = .ok (.tuple #[v,.bool true]) w:=by
 unfold Program.concrete at h;cases hd:P.underlying t with
 | none=>simp [hd] at h
 | some d=>cases d<;>first | (simp [hd] at h;done) | simp [Instr.typeAssert,run_underlying hd]
def z5l (P:Program)(o:Oper):Option IK :=
 match zn7 P o with
 | some b=>some (.rd b)
 | none =>
 match zix P o with
 | some b=>some (.mk b)
 | none =>
 match zkm P o with
 | some (.app s bytes x y)=>some (.app s bytes x y)
 | _ =>
 match o.op with
 | .store t a x=>match szT P t,o.dst with | some n,none=>some (.st n a x) | _,_=>none
 | .mapUpdate t x key v=>match zi6 P t,o.dst with | some (ks,nv,_,_),none=>some (.mst nv ks x key v) | _,_=>none
 | .call { callee:=.value (.func f),args,.. }=>if zcf P f then some (.call f args.toList) else none
 | .call { callee:=.value (.tmp t),args,.. }=>some (.callv (.tmp t) args.toList)
 | .convert src dst x=>if zx5 P src dst then some (.s2b x) else if zwr P src dst then some (.mrk x) else none
 | .binOp .neq t x (.const .nilIface) _=>if zwd P t then some (.ifn x) else none
 | .typeAssert x _ t true=>if P.concrete t then some (.tas t x) else none
 | _=>none
def z3w:IK->Bool
 | .st _ _ _ | .mst _ _ _ _ _=>true
 | _=>false
def z64 (N:Nat)(o:Oper)(k:IK):Option Nat :=
 if z3w k=true then some N else match o.dst with | some d=>if d<N then some d else none | none=>none
def comp (P:Program)(N:Nat)(ops:Array Oper)(o:Oper):Option Ins :=
 match z5l P o with
 | none=>none
 | some k =>
  match z64 N o k with
  | none=>none
  | some d =>
   match o.guard with
   | none=>some ⟨d,none,k⟩
   | some (g,want)=>match (ops[g]?).bind (·.dst) with | some s=>some ⟨d,some (s,want),k⟩ | none=>none
def z2w (pro:List Nat)(e:Env)(h:H)(d:Nat)(op:IK):Option (Env×H) :=
 match op with
 | .rd b=>match zi (ev e) (res h) b with | some av=>some (upd e d av,h) | none=>none
 | .mk b=>if pro.contains d then none else match z3e (ev e) h d b with | some (av,h')=>some (upd (z1e (λk _=>k==d) e) d av,h') | none=>none
 | .app s bytes x y=>match zc9 (ev e) h d s bytes x y with | some (av,h',key)=>if pro.contains key then none else some (upd (z1e (λk _=>k==key) e) d av,h') | none=>none
 | .st n a x=>match z9k (ev e) h n a x with | some (h',bad)=>some (z1e bad e,h') | none=>none
 | .mst nv ks x key v=>match za0 (ev e) h nv ks x key v with | some (h',bad)=>some (z1e bad e,h') | none=>none
 | .s2b x=>match ev e x with | .sc (.string s)=>some (upd e d (.im 1 ((bytesOf s).map λn=>[.sc (.int .u8 n)])),h) | _=>none
 | .mrk x=>match ev e x with
  | .sl k [] 0 len=>match z6 h k with
   | some r=>if 0<len/\r.s<MB then some (upd e d (.sl k [] 0 len),(k,r)::zc h k) else none
   | none=>none
  | _=>none
 | .ifn x=>match ev e x with | .sc (.iface _ _)=>some (upd e d (.sc (.bool true)),h) | _=>none
 | .tas t x=>match ev e x with
  | .sc (.iface t' (.agg cs))=>if t'=t/\cs.toList.all Value.oneCell'=true then some (upd e d (.tu [.ag (cs.toList.map .sc),.sc (.bool true)]),h) else none
  | _=>none
 | .call _ _ | .callv _ _=>none
structure zai (P:Program) (pro:List Nat) (e:Env) (h:H) (d f:Nat) (args:List AV) (e':Env) (h':H):Prop where
 by_:∃ (m bm:List (Nat×Nat)) (bor:Bool) (hin rest hout hb left:H) (args':List AV) (r r':AV),
  z2c h m=some (hin,rest)/\(m.map Prod.fst).Nodup/\z2d rest m bor args=some args'/\CallG P f args' hin r hout/\z2c hout bm=some (hb,left)/\(bm.map Prod.fst).Nodup/\zd4 m bm=true/\zh1 pro m bm=true /\
  z2b bm r=some r'/\(bor=true->z45 r=true/\z56 hout=true)/\e'=upd (z1e (z78 m bm) e) d r'/\h'=hb++z1r rest (bm.map Prod.fst)
inductive z2m (P:Program) (pro:List Nat) (e:Env) (h:H) (d:Nat):IK->Env->H->Prop
 | plain {op e' h'}:z2w pro e h d op=some (e',h')->z2m P pro e h d op e' h'
 | call {f args e' h'}:zai P pro e h d f (args.map (ev e)) e' h'->z2m P pro e h d (.call f args) e' h'
 | s2w {x s}:ev e x = .sc (.string s)->pro.contains d=false->z2m P pro e h d (.s2b x) (upd (z1e (λk _=>k==d) e) d (.sl d [] 0 s.size)) ((d,⟨1,(bytesOf s).map λn=>[.sc (.int .u8 n)]⟩)::zc h d)
 | callv {x f caps args e' h'}:ev e x = .fn f caps->zcf P f=true->zai P pro e h d f (args.map (ev e)++caps) e' h'->z2m P pro e h d (.callv x args) e' h'
def zx (e:Env):Option (Nat×Bool)->Option Bool
 | none=>some true
 | some (s,want)=>match e s with | .sc (.bool b)=>some (b==want) | .sc (.tuple _)=>some false | _=>none
def z4k:IK->AV
 | .st _ _ _ | .mst _ _ _ _ _=>.un
 | _=>.sc undef
section
variable {P:Program}{I:Nat->Prop}{N:Nat}[Dfs N]{σ σ':Pl}{w w':World}{h h':H}{e e':Env}{a:Act}{ops:Array Oper}{Q:Exit->Act->World->Prop}{pro:List Nat}
theorem VaL.append:∀ (l1 l2:List AV) (v1 v2:List Value),VaL I σ (bl w) l1 v1->VaL I σ (bl w) l2 v2->VaL I σ (bl w) (l1++l2) (v1++v2)
 | [],l2,v1,v2,h1,h2=>by simp only [VaL] at h1;subst h1;exact h2
 | x::l1,l2,_,v2,h1,h2=>by obtain ⟨v,cs',rfl,h3,h4⟩:=h1;exact ⟨v,cs'++v2,rfl,h3,VaL.append l1 l2 cs' v2 h4 h2⟩
theorem zct (R:Rel I N σ e h a w):∀ (l:List Operand),VaL I σ (bl w) (l.map (ev e)) (l.map a.eval)
 | []=>rfl
 | x::l=>⟨_,_,rfl,zw R x,zct R l⟩
theorem z5p {f:Nat}(hf:zcf P f=true)(vs:Array Value)(w:World):(callFunc f vs).run P w = .ok (.enter f vs) w:=by
 unfold zcf at hf;split at hf
 ·rename_i fn hfn;simp only [and_eq_true,not_eq_true',beq_eq_false_iff_ne] at hf;have h2:¬ fn.body=none:=λe=>by simp [e] at hf
  simp [callFunc,hfn,hf.1,h2]
 ·cases hf
theorem zai.sound (R:Rel I N σ e h a w){d f:Nat}{args:List AV}{vs:List Value}(hc:zai P pro e h d f args e' h')(hd:d<N)(hargs:VaL I σ (bl w) args vs) :
  Calls P f vs.toArray w λen w'=>∃ v,en = .returned v/\zv P I N pro σ h w e' h' (a.put (some d) v) w':=by
 obtain ⟨m,bm,bor,hin,rest,hout,hb,left,args',r,r',h1,h2,h3,h4,h5,h6,h7,h8,h9,h10,rfl,rfl⟩:=hc.by_;exact zvp R hargs h1 h2 h3 h4 h5 h6 h7 h8 h9 h10 hd
theorem zn1 {o:Oper}{K:Act->World->Prop}{f:Nat}{vs:List Value}{d:Nat}(hdst:o.dst=some d)(hrun:(execOp a.eval o).run P w = .ok (.enter f vs.toArray) w)
  (hc:Calls P f vs.toArray w λen w'=>∃ v,en = .returned v/\zv P I N pro σ h w e' h' (a.put (some d) v) w') (hK:∀ a' w',zv P I N pro σ h w e' h' a' w'->K a' w'):o.wp P a w K Q:=by
 unfold Oper.wp;rw [hrun,Oper.upon_enter];refine Calls.mono hc ?_;rintro en w' ⟨v,rfl,hs⟩;rw [hdst];exact hK _ _ hs
theorem z2m.sound (R:Rel I N σ e h a w){o:Oper}{k:IK}{d:Nat}(hc:z5l P o=some k)(hd:z64 N o k=some d)(hs:z2m P pro e h d k e' h'){K:Act->World->Prop}(hK:∀ a' w',zv P I N pro σ h w e' h' a' w'->K a' w'):o.wp P a w K Q:=by
 have hslot:∀ {d:Nat},z3w k=false->z64 N o k=some d->o.dst=some d/\d<N:=by
  intro d hne h;unfold z64 at h;rw [hne] at h;simp only [false_eq_true,if_false] at h;split at h
  ·rename_i d' hd';split at h
   ·cases h;exact ⟨hd',by assumption⟩
   ·cases h
  ·cases h
 unfold z5l at hc;split at hc
 ·
  rename_i b hb;cases hc;obtain ⟨hdst,hdN⟩:=hslot rfl hd;cases hs with
  | plain hs =>
   simp only [z2w] at hs;split at hs
   ·rename_i av hav;simp only [Option.some.injEq,Prod.mk.injEq] at hs;obtain ⟨rfl,rfl⟩:=hs;obtain ⟨v,h1,h2⟩:=zib R hb hav;unfold Oper.wp;rw [h1,Oper.upon_value,hdst];refine hK _ _ ⟨σ,I,λ_ h=>h,λ_ h=>.inl h,Rel.put R.heap R.size R.vals R.defers hdN h2,λ_ _=>rfl,Le.refl _,λ_ _ _=>rfl,λb hb=>.inl hb⟩
   ·cases hs
 ·split at hc
  ·
   rename_i b hb;cases hc;obtain ⟨hdst,hdN⟩:=hslot rfl hd;cases hs with
   | plain hs =>
    simp only [z2w] at hs;split at hs
    ·cases hs
    ·rename_i hpro;split at hs
     ·rename_i av h1 hav;simp only [Option.some.injEq,Prod.mk.injEq] at hs;obtain ⟨rfl,rfl⟩:=hs;obtain ⟨v,w',σ',q1,q2,q3,q4,q5,q6⟩:=(zpo R hdN hb hav).run;unfold Oper.wp;rw [q1,Oper.upon_value,hdst];refine hK _ _ ⟨σ',I,λ_ h=>h,λ_ h=>.inl h,q2,λk hk=>q6 k [] (λe=>hpro (by subst e;simpa using hk)),q3,λb hb _=>q4 b hb,q5⟩
     ·cases hs
  ·split at hc
   ·
    rename_i s bytes x y hb;cases hc;obtain ⟨hdst,hdN⟩:=hslot rfl hd;cases hs with
    | plain hs =>
     simp only [z2w] at hs;split at hs
     ·rename_i av h1 key hav;split at hs
      ·cases hs
      ·rename_i hpro;simp only [Option.some.injEq,Prod.mk.injEq] at hs;obtain ⟨rfl,rfl⟩:=hs;obtain ⟨n,w',σ',a',q1,q2,q3,q4,q5,q6,q7⟩:=(zxq R hdst hdN hb hav).run;have key:zv P I N pro σ h w (upd (z1e (λk _=>k==key) e) d av) h1 a' w':=⟨σ',I,λ_ h=>h,λ_ h=>.inl h,q3,λk hk=>q7 k (λe=>hpro (by cases e;simpa using hk)),q4,q5,q6⟩
       unfold Oper.wp;rw [q1];cases n<;>simp only at q2<;>first | (rw [Oper.upon_value,<- q2];exact hK _ _ key) | (rw [Oper.upon_skip,<- q2];exact hK _ _ key) | exact q2.elim
     ·cases hs
   ·split at hc
    ·
     rename_i t ad x ho;split at hc
     ·rename_i n hn hdst;cases hc;cases hs with
      | plain hs =>
       simp only [z2w] at hs;split at hs
       ·rename_i h1 bad hst;simp only [Option.some.injEq,Prod.mk.injEq] at hs;obtain ⟨rfl,rfl⟩:=hs;obtain ⟨n,w',σ',a',q1,q2,q3,q4,q5,q6,q7⟩:=(zr2 R ho hn hdst hst).run;have key:zv P I N pro σ h w (z1e bad e) h1 a' w':=⟨σ',I,λ_ h=>h,λ_ h=>.inl h,q3,λk _=>q7 k (by simp),q4,q5,q6⟩
        unfold Oper.wp;rw [q1];cases n<;>simp only at q2<;>first | (rw [Oper.upon_value,<- q2];exact hK _ _ key) | (rw [Oper.upon_skip,<- q2];exact hK _ _ key) | exact q2.elim
       ·cases hs
     ·cases hc
    ·
     rename_i t x key v ho;split at hc
     ·rename_i ks nv _ _ hm hdst;cases hc;cases hs with
      | plain hs =>
       simp only [z2w] at hs;split at hs
       ·rename_i h1 bad hst;simp only [Option.some.injEq,Prod.mk.injEq] at hs;obtain ⟨rfl,rfl⟩:=hs;obtain ⟨n,w',σ',a',q1,q2,q3,q4,q5,q6,q7⟩:=(y3n R ho hm hdst hst).run;have key:zv P I N pro σ h w (z1e bad e) h1 a' w':=⟨σ',I,λ_ h=>h,λ_ h=>.inl h,q3,λk _=>q7 k (by simp),q4,q5,q6⟩
        unfold Oper.wp;rw [q1];cases n<;>simp only at q2<;>first | (rw [Oper.upon_value,<- q2];exact hK _ _ key) | (rw [Oper.upon_skip,<- q2];exact hK _ _ key) | exact q2.elim
       ·cases hs
     ·cases hc
    ·
     rename_i f args _ ho;split at hc
     ·rename_i hf;cases hc;obtain ⟨hdst,hdN⟩:=hslot rfl hd;cases hs with
      | plain hs=>cases hs
      | call hs =>
       refine zn1 (vs:=args.toList.map a.eval) hdst ?_ (hs.sound R hdN (zct R _)) hK;have:(args.map a.eval)=(args.toList.map a.eval).toArray:=by apply Array.ext';rw [Array.toList_map]
       simp only [execOp,ho,resolve,Deferred.ofValue,Act.eval,Sem.run_bind,Sem.run_pure,Result.andThen_ok,invoke,Array.append_empty,Array.empty_append];rw [this,z5p hf]
     ·cases hc
    ·
     rename_i t args _ ho;cases hc;obtain ⟨hdst,hdN⟩:=hslot rfl hd;cases hs with
     | plain hs=>cases hs
     | callv hx hf hs =>rename_i f caps;have hv:=zw R (.tmp t);rw [hx] at hv;obtain ⟨c,hc1,hc2⟩:=hv;refine zn1 (vs:=args.toList.map a.eval++c.toList) hdst ?_ (hs.sound R hdN (VaL.append _ _ _ _ (zct R _) hc2)) hK;simp only [execOp,ho,resolve,hc1,Deferred.ofValue,Sem.run_bind,Sem.run_pure,Result.andThen_ok,invoke,Array.empty_append];rw [z5p hf];congr 2;apply Array.ext';simp
    ·
     rename_i src dst x ho;split at hc
     ·rename_i hok;obtain ⟨hs1,el,hd1,he⟩:=zx6 hok
      ·cases hc;obtain ⟨hdst,hdN⟩:=hslot rfl hd;cases hs with
       | s2w hx hpro =>
        rename_i s;have hv:=zw R x;rw [hx] at hv;have hv':a.eval x = .string s:=hv;have hrun:=run_bytes_of_string (P:=P) w src dst el s hs1 hd1 he;unfold Oper.wp
        have hex:(execOp a.eval o).run P w = .ok (.value (.slice (some ⟨w.heap.size,0,none⟩) s.size (grownCap w s.size 0 el))) (w.drew.alloc (.cells (bytesRow s (grownCap w s.size 0 el)) el ((bytesRow s (grownCap w s.size 0 el)).size,(bytesRow s (grownCap w s.size 0 el)).size+1))):=by simp only [execOp,ho,hv',Sem.run_bind,hrun,Result.andThen_ok,Sem.run_pure]
        rw [hex,Oper.upon_value,hdst]
        have hsz:((bytesOf s).map λn=>[AV.sc (.int .u8 n)]).length=s.size:=by simp [bytesOf]
        have hcap:s.size<=grownCap w s.size 0 el:=grownCap_ge w s.size 0 el
        have hcells:(bytesRow s (grownCap w s.size 0 el)).toList=(bytesOf s).map (λn=>Value.int .u8 n)++replicate (grownCap w s.size 0 el - s.size) (.int .u8 0):=by simp [bytesRow,bytesOf]
        have hlen:(bytesRow s (grownCap w s.size 0 el)).size=grownCap w s.size 0 el * 1:=by rw [<- Array.length_toList,hcells,length_append,length_map,List.length_replicate,show (bytesOf s).length=s.size by simp [bytesOf]];omega
        have habs:∀ (l:List Int) (h:H),z4n h (l.map λn=>[AV.sc (.int .u8 n)])=some (l.map λn=>[AV.sc (.int .u8 n)],h):=by
         intro l h
         induction l with
         | nil=>rfl
         | cons n l ih =>have h1:(Value.int .u8 n).oneCell'=true:=rfl;simp only [map_cons,z4n,z3s,z41,h1,if_true,ih]
        obtain ⟨σ',q1,q2,q3,q4,q5,q6⟩:=zjw (s:=1) (cap:=grownCap w s.size 0 el) (xs:=(bytesOf s).map λn=>[AV.sc (.int .u8 n)]) (cur:=bytesRow s (grownCap w s.size 0 el)) (E:=el) R hdN (by decide) w.drew rfl (by
         rw [hsz,Nat.mul_one,hcells,List.take_left' (by simp [bytesOf])];generalize bytesOf s=bs
         induction bs with
         | nil=>rfl
         | cons n bs ih=>exact ⟨_,_,rfl,rfl,rfl,ih⟩) (by simp) hlen (by rw [hsz];exact hcap) (habs _ _) ((bytesRow s (grownCap w s.size 0 el)).size,(bytesRow s (grownCap w s.size 0 el)).size+1) (.inr (Nat.le_refl _))
        refine hK _ _ ⟨σ',I,λ_ h=>h,λ_ h=>.inl h,Rel.put q1 R.size q2 R.defers hdN ?_,λk hk=>q5 k [] ?_,Le.drewAlloc _ _,λb hb _=>(z4o w.drew _ _ hb).trans rfl,λb hb=>?_⟩
        ·simp only [Va,q3];rw [if_pos (by decide)];exact ⟨_,_,rfl,by omega,hcap,λ_=>by simp⟩
        ·intro hkd;subst hkd;have:pro.contains k=true:=by simpa using hk
         rw [this] at hpro;cases hpro
        ·rcases q6 b hb with hb | hb
         ·exact .inl hb
         ·exact .inr (by omega)
       | plain hs2 =>
        simp only [z2w] at hs2;split at hs2
        ·rename_i s hx;simp only [Option.some.injEq,Prod.mk.injEq] at hs2;obtain ⟨rfl,rfl⟩:=hs2;have hv:=zw R x;rw [hx] at hv;have hv':a.eval x = .string s:=hv;have hrun:=run_bytes_of_string (P:=P) w src dst el s hs1 hd1 he;unfold Oper.wp
         have hex:(execOp a.eval o).run P w = .ok (.value (.slice (some ⟨w.heap.size,0,none⟩) s.size (grownCap w s.size 0 el))) (w.drew.alloc (.cells (bytesRow s (grownCap w s.size 0 el)) el ((bytesRow s (grownCap w s.size 0 el)).size,(bytesRow s (grownCap w s.size 0 el)).size+1))):=by simp only [execOp,ho,hv',Sem.run_bind,hrun,Result.andThen_ok,Sem.run_pure]
         rw [hex,Oper.upon_value,hdst]
         have hold:∀ b,b<w.heap.size->bl (w.drew.alloc (.cells (bytesRow s (grownCap w s.size 0 el)) el ((bytesRow s (grownCap w s.size 0 el)).size,(bytesRow s (grownCap w s.size 0 el)).size+1))) b=bl w b:=λb hb=>by exact (z4o w.drew _ _ hb).trans rfl
         have hnew:bl (w.drew.alloc (.cells (bytesRow s (grownCap w s.size 0 el)) el ((bytesRow s (grownCap w s.size 0 el)).size,(bytesRow s (grownCap w s.size 0 el)).size+1))) w.heap.size=some (.cells (bytesRow s (grownCap w s.size 0 el)) el ((bytesRow s (grownCap w s.size 0 el)).size,(bytesRow s (grownCap w s.size 0 el)).size+1)):=heap_alloc_new w.drew _;refine hK _ _ ⟨σ,λb=>I b\/b=w.heap.size,λ_ h=>.inl h,λb hb=>hb.elim .inl (λh=>.inr (.inr (by omega))),?_,λ_ _=>rfl,Le.drewAlloc _ _,λb hb _=>hold b hb,λb hb=>.inl hb⟩
         have hh:zk (λb=>I b\/b=w.heap.size) σ h (w.drew.alloc (.cells (bytesRow s (grownCap w s.size 0 el)) el ((bytesRow s (grownCap w s.size 0 el)).size,(bytesRow s (grownCap w s.size 0 el)).size+1))) :=
          ⟨zr.wide (λ_ h=>.inl h) h (zr.mono (λb hb=>hold b (R.heap.low b hb)) h (λb hb=>hold b (R.heap.apart b hb).2) R.heap.ok),R.heap.keys,R.heap.nodup,
           λb hb=>⟨λhI=>hI.elim (R.heap.apart b hb).1 (λe=>by have:=(R.heap.apart b hb).2;omega),by rw [World.size_alloc];exact Nat.lt_succ_of_lt (R.heap.apart b hb).2⟩,
           λb hb=>by
            rw [World.size_alloc];rcases hb with hb | hb
            ·exact Nat.lt_succ_of_lt (R.heap.low b hb)
            ·rw [hb];exact Nat.lt_succ_self _⟩
         refine Rel.put hh R.size (λt=>Va.wide (λ_ h=>.inl h) _ _ (Va.mono (λb hb=>hold b (R.heap.low b hb)) _ _ (R.vals t))) R.defers hdN ?_
         have hsz:((bytesOf s).map λn=>[AV.sc (.int .u8 n)]).length=s.size:=by simp [bytesOf]
         have hcap:s.size<=grownCap w s.size 0 el:=grownCap_ge w s.size 0 el;refine ⟨_,_,by rw [hsz],by rw [hsz];exact hcap,λ_=>⟨_,_,_,_,rfl,rfl,.inr rfl,hnew,?_⟩⟩
         have hcells:(bytesRow s (grownCap w s.size 0 el)).toList=(bytesOf s).map (λn=>Value.int .u8 n)++replicate (grownCap w s.size 0 el - s.size) (.int .u8 0):=by simp [bytesRow,bytesOf]
         rw [List.drop_zero,hcells];generalize replicate (grownCap w s.size 0 el - s.size) (Value.int .u8 0)=rest;generalize bytesOf s=bs
         induction bs with | nil=>trivial | cons n bs ih=>exact ⟨rfl,⟨_,[],rfl,⟨rfl,rfl⟩,rfl⟩,ih⟩
        ·cases hs2
     ·split at hc
      ·rename_i hok;obtain ⟨rfl,el,hu,he⟩:=zws hok;cases hc;obtain ⟨hdst,hdN⟩:=hslot rfl hd;cases hs with
       | plain hs2 =>
        simp only [z2w] at hs2;split at hs2
        ·rename_i k len hx;split at hs2
         ·rename_i r hg;split at hs2
          ·rename_i hlen;obtain ⟨hlen,hsm⟩:=hlen;simp only [Option.some.injEq,Prod.mk.injEq] at hs2;obtain ⟨rfl,rfl⟩:=hs2;have hv:=zw R x;rw [hx] at hv;obtain ⟨d1,d2,d3,d4,d5,d6⟩:=R.heap.del hg;simp only [Va] at hv;have d2:=d2.C hsm;unfold z2f at d2;cases hL:σ k [] with
           | none=>simp only [hL] at hv;omega
           | some L =>
            simp only [hL] at hv d2;have hLs:L.s<MB:=by rw [d2.1];exact hsm
            rw [if_pos hLs] at hv;obtain ⟨A,c,hav,f1,f2,f3⟩:=hv;have hA:=f3 (.inr trivial);subst hA;obtain ⟨q1,q2,cur,E,q3,q4,q5⟩:=d2;have hLf:L.b∈fpR σ k r:=by unfold fpR;simp only [hL];exact mem_cons_self
            have hLh:=(d5 _ hLf).2
            let w':World:=w.freeze ⟨L.b,cur.size,none⟩ 1
            have hlt:L.b<w.heap.size:=(R.heap.apart _ hLh).2
            have hBo:∀ b,b≠L.b->bl w' b=bl w b:=λb hb=>by show (World.freeze w _ 1).heap[b]?=_;unfold World.freeze;rw [if_neg (by decide)];exact (Array.getElem?_modify).trans (if_neg (λe=>hb e.symm))
            have hBn:bl w' L.b=some (.cells cur E.t (if E.fr.1==E.fr.2 then (cur.size,cur.size+1) else (min E.fr.1 cur.size,max E.fr.2 (cur.size+1)))):=by have q3':w.heap[L.b]?=some (.cells cur E.t E.fr):=q3;show (World.freeze w _ 1).heap[L.b]?=_;unfold World.freeze;rw [if_neg (by decide)];refine (Array.getElem?_modify).trans ((if_pos rfl).trans ?_);rw [q3'];rfl
            have hsz:w'.heap.size=w.heap.size:=by show (World.freeze w _ 1).heap.size=_;unfold World.freeze;rw [if_neg (by decide)];exact Array.size_modify
            have hle:Le w w':=by
             refine ⟨by rw [hsz];exact Nat.le_refl _,?_,?_,?_⟩
             ·show (World.freeze w _ 1).os=_;unfold World.freeze;rw [if_neg (by decide)]
             ·show (World.freeze w _ 1).tape=_;unfold World.freeze;rw [if_neg (by decide)]
             ·show (World.freeze w _ 1).output=_;unfold World.freeze;rw [if_neg (by decide)]
            have hex:(execOp a.eval o).run P w = .ok (.value (.slice (some ⟨L.b,0 * L.s,none⟩) len c)) w':=by
             have hs2:w.shape? L.b=some (E.t,cur.size):=by unfold World.shape?;rw [show w.heap[L.b]?=_ from q3]
             simp only [execOp,ho,hav,Sem.run_bind];simp [convert,run_underlying hu,run_underlying he,markStringish,hs2];rfl
            unfold Oper.wp;rw [hex,Oper.upon_value,hdst];have hI:∀ b,I b->bl w' b=bl w b:=λb hb=>hBo b (λe=>(R.heap.apart _ hLh).1 (e ▸ hb))
            have hnd:L.b∉fpE σ k [] 0 r.xs/\(fpE σ k [] 0 r.xs).Nodup:=by have:=d4;unfold fpR at this;simp only [hL] at this;exact nodup_cons.1 this
            have hh:zk I σ ((k,r)::zc h k) w':=by
             refine zk.add (σ:=σ) (w:=w) d1 d3 (λ_ _ _=>rfl) (λb hb hm=>hBo b ?_) (by rw [hsz];exact Nat.le_refl _) ?_ d4 (λb hb=>⟨(d5 b hb).1,(R.heap.apart b (d5 b hb).2).1,by rw [hsz];exact (R.heap.apart b (d5 b hb).2).2⟩)
             ·rintro rfl;rcases hm with hm | hm
              ·exact (R.heap.apart _ hLh).1 hm
              ·exact (d5 _ hLf).1 hm
             ·refine zy.ofC hsm ?_;unfold z2f;simp only [hL];refine ⟨q1,q2,cur,⟨E.t,if E.fr.1==E.fr.2 then (cur.size,cur.size+1) else (min E.fr.1 cur.size,max E.fr.2 (cur.size+1)),?_⟩,hBn,q4,CeE.mono hI k [] 0 r.s r.xs _ (λb hb=>hBo b (λe=>hnd.1 (e ▸ hb))) q5⟩;have:=E.ok;split
              ·exact .inr (Nat.le_refl _)
              ·rename_i hne;refine .inr ?_;have hne:E.fr.1≠E.fr.2:=by simpa using hne
               show cur.size<=min E.fr.1 cur.size;omega
            refine hK _ _ ⟨σ,I,λ_ h=>h,λ_ h=>.inl h,Rel.put hh R.size (λt=>Va.mono hI _ _ (R.vals t)) R.defers hdN ?_,λ_ _=>rfl,hle,λb hb hnb=>hBo b (λe=>hnb (e ▸ hLh)),λb hb=>.inl ?_⟩
            ·simp only [Va,hL,if_pos hLs];exact ⟨_,c,rfl,f1,f2,λ_=>rfl⟩
            ·rw [z1o,mem_append] at hb;rcases hb with hb | hb
             ·exact (d5 b hb).2
             ·exact d6 b hb
          ·cases hs2
         ·cases hs2
        ·cases hs2
      ·cases hc
    ·rename_i t x u ho;split at hc
     ·rename_i hok;cases hc;obtain ⟨hdst,hdN⟩:=hslot rfl hd;cases hs with
      | plain hs =>
       simp only [z2w] at hs;split at hs
       ·rename_i a1 b1 hx;simp only [Option.some.injEq,Prod.mk.injEq] at hs;obtain ⟨rfl,rfl⟩:=hs;have hv:=zw R x;rw [hx] at hv;have hv':a.eval x = .iface a1 b1:=hv;unfold Oper.wp
        have hex:(execOp a.eval o).run P w = .ok (.value (.bool true)) w:=by
         have hc0:a.eval (.const .nilIface) = .nilIface:=rfl;have hgd:(eqGuard .neq t x (.const .nilIface) (.iface a1 b1) .nilIface).run P w = .ok () w:=by simp [eqGuard]
         simp only [execOp,ho,hv',hc0,Sem.run_bind,hgd,run_neq_held_nil w t a1 b1 (zwe hok),Result.andThen_ok,Sem.run_pure]
        rw [hex,Oper.upon_value,hdst];exact hK _ _ ⟨σ,I,λ_ h=>h,λ_ h=>.inl h,Rel.put R.heap R.size R.vals R.defers hdN rfl,λ_ _=>rfl,Le.refl _,λ_ _ _=>rfl,λb hb=>.inl hb⟩
       ·cases hs
     ·cases hc
    ·rename_i x xt t ho;split at hc
     ·rename_i hok;cases hc;obtain ⟨hdst,hdN⟩:=hslot rfl hd;cases hs with
      | plain hs =>
       simp only [z2w] at hs;split at hs
       ·rename_i t' cs hx;split at hs
        ·rename_i hcs;obtain ⟨rfl,hcs⟩:=hcs;simp only [Option.some.injEq,Prod.mk.injEq] at hs;obtain ⟨rfl,rfl⟩:=hs;have hv:=zw R x;rw [hx] at hv;have hv':a.eval x = .iface t' (.agg cs):=hv;unfold Oper.wp
         have hex:(execOp a.eval o).run P w = .ok (.value (.tuple #[.agg cs,.bool true])) w:=by simp only [execOp,ho,hv',Sem.run_bind,ybv w t' xt _ hok,Result.andThen_ok,Sem.run_pure]
         rw [hex,Oper.upon_value,hdst]
         have hva:∀ l:List Value,l.all Value.oneCell'=true->VaC I σ (bl w) (l.map .sc) l:=by
          intro l
          induction l with
          | nil=>intro _;rfl
          | cons u l ih =>intro hl;simp only [all_cons,and_eq_true] at hl;exact ⟨u,l,rfl,hl.1,rfl,ih hl.2⟩
         exact hK _ _ ⟨σ,I,λ_ h=>h,λ_ h=>.inl h,Rel.put R.heap R.size R.vals R.defers hdN ⟨_,rfl,_,_,rfl,⟨cs,rfl,hva _ hcs⟩,_,_,rfl,rfl,rfl⟩,λ_ _=>rfl,Le.refl _,λ_ _ _=>rfl,λb hb=>.inl hb⟩
        ·cases hs
       ·cases hs
     ·cases hc
    ·cases hc
end
section
variable {P:Program}{I:Nat->Prop}{N:Nat}[Dfs N]{σ σ1 σ':Pl}{w w1 w':World}{h h1 h':H}{e e1 e':Env}{a a1 a':Act}{ops:Array Oper}{Q:Exit->Act->World->Prop}{pro:List Nat}
theorem zv.trans {I1:Nat->Prop}(i1:∀ b,I b->I1 b)(i2:∀ b,I1 b->I b\/b∈fpH σ h\/w.heap.size<=b)(p1:∀ k∈pro,σ1 k []=σ k [])(p2:Le w w1)(p3:∀ b,b<w.heap.size->b∉fpH σ h->bl w1 b=bl w b)(p4:∀ b∈fpH σ1 h1,b∈fpH σ h\/w.heap.size<=b)
  (s:zv P I1 N pro σ1 h1 w1 e' h' a' w'):zv P I N pro σ h w e' h' a' w':=by
 obtain ⟨σ',I',j1,j2,R,q1,q2,q3,q4⟩:=s.out;have p2s:=p2.size;refine ⟨σ',I',λb hb=>j1 b (i1 b hb),λb hb=>?_,R,λk hk=>(q1 k hk).trans (p1 k hk),p2.trans q2,λb hb hf=>?_,λb hb=>?_⟩
 ·rcases j2 b hb with h | h | h
  ·exact i2 b h
  ·exact .inr (p4 b h)
  ·exact .inr (.inr (by omega))
 ·rw [q3 b (by omega) (λhm=>(p4 b hm).elim hf (λh=>by omega)),p3 b hb hf]
 ·rcases q4 b hb with h | h
  ·exact p4 b h
  ·exact .inr (by omega)
theorem z26 (R:Rel I N σ e h a w){o:Oper}{g:Option (Nat×Bool)}(hg:match o.guard with | none=>g=none | some (j,want)=>∃ s,(ops[j]?).bind (·.dst)=some s/\g=some (s,want)){t:Bool}(hw:zx e g=some t) :
  Region.wanted o (yielded ops a.tmps)=t:=by
 unfold Region.wanted;cases ho:o.guard with
 | none =>simp only [ho] at hg;subst hg;simpa [zx] using hw
 | some jw =>
  obtain ⟨j,want⟩:=jw;simp only [ho] at hg;obtain ⟨s,hs,rfl⟩:=hg;simp only [zx] at hw;split at hw
  ·rename_i b hb;simp only [Option.some.injEq] at hw;have:=R.vals s;rw [hb] at this;simp only [Va] at this
   have hlt:s<a.tmps.size:=by
    rcases Nat.lt_or_ge s a.tmps.size with h | h
    ·exact h
    ·rw [Array.getD_eq_getD_getElem?,Array.getElem?_eq_none h] at this;cases this
   simp only [yielded,hs,Option.bind_some];rw [Array.getD_eq_getD_getElem?] at this;cases hx:a.tmps[s]? with
   | none=>simp [hx] at this;cases this
   | some v =>simp only [hx,getD_some] at this;subst this;rw [<- hw];simp
  ·rename_i x hb;simp only [Option.some.injEq] at hw;have:=R.vals s;rw [hb] at this;simp only [Va] at this;rw [<- hw];simp only [yielded,hs,Option.bind_some];cases hx:a.tmps[s]? with
   | none=>rfl
   | some v =>rw [Array.getD_eq_getD_getElem?,hx,getD_some] at this;subst this;rfl
  ·cases hw
theorem z3j {o:Oper}{x:Ins}(hc:comp P N ops o=some x):(match o.guard with | none=>x.guard=none | some (j,want)=>∃ s,(ops[j]?).bind (·.dst)=some s/\x.guard=some (s,want))/\z5l P o=some x.op/\z64 N o x.op=some x.dst:=by
 unfold comp at hc;split at hc
 ·cases hc
 ·rename_i k hk;split at hc
  ·cases hc
  ·rename_i d hd;split at hc
   ·rename_i hg;cases hc;exact ⟨by simp only [hg],hk,hd⟩
   ·rename_i g want hg;split at hc
    ·rename_i s hs;cases hc;exact ⟨by simp only [hg];exact ⟨s,hs,rfl⟩,hk,hd⟩
    ·cases hc
theorem zmw {B:zm}(op:IK):Va I σ B (z4k op) undef:=by cases op<;>first | exact trivial | exact (rfl:undef=undef)
theorem Rel.skip (R:Rel I N σ e h a w){op:IK}{d:Option Nat}{d':Nat}(hd:d=some d'\/(d=none/\z3w op=true)):Rel I N σ (upd e d' (z4k op)) h (a.put d undef) w:=by
 refine ⟨R.heap,by rw [Act.size_put];exact R.size,λt=>?_,by rw [Act.defers_put];exact R.defers⟩;unfold upd;split
 ·rename_i ht;subst ht;rcases hd with rfl | ⟨_,hop⟩
  ·have:(a.put (some t) undef).tmps.getD t undef=undef:=by
    by_cases hlt:t<a.tmps.size
    ·rw [Act.getD_put hlt,if_pos rfl]
    ·rw [Array.getD_eq_getD_getElem?,Array.getElem?_eq_none (by rw [Act.size_put];omega)];rfl
   rw [this];exact zmw op
  ·have:z4k op = .un:=by cases op<;>first | rfl | cases hop
   rw [this];exact trivial
 ·rename_i hne;rcases hd with rfl | ⟨rfl,_⟩
  ·by_cases hlt:d'<a.tmps.size
   ·rw [Act.getD_put hlt,if_neg hne];exact R.vals t
   ·have:(a.put (some d') undef).tmps=a.tmps:=by simp only [Act.put];rw [Array.setIfInBounds_eq_of_size_le (by omega)]
    rw [this];exact R.vals t
  ·exact R.vals t
theorem z65 {o:Oper}{k:IK}{d:Nat}(hc:z5l P o=some k)(hd:z64 N o k=some d):o.dst=some d\/(o.dst=none/\z3w k=true):=by
 cases hk:z3w k with
 | true =>
  refine .inr ⟨?_,rfl⟩;unfold z5l at hc;split at hc
  ·cases hc;cases hk
  ·split at hc
   ·cases hc;cases hk
   ·split at hc
    ·cases hc;cases hk
    ·split at hc
     ·split at hc
      ·assumption
      ·cases hc
     ·split at hc
      ·assumption
      ·cases hc
     all_goals (try (split at hc))<;>first | (cases hc;done) | (cases hc;cases hk;done) | (split at hc<;>first | (cases hc;done) | (cases hc;cases hk))
 | false =>
  left;unfold z64 at hd;rw [hk] at hd;simp only [false_eq_true,if_false] at hd;split at hd
  ·rename_i d' hd';split at hd
   ·cases hd;exact hd'
   ·cases hd
  ·cases hd
def z1s (P:Program)(N:Nat)(ops:Array Oper):List Nat->List Ins->Prop
 | [],[]=>True
 | i::is,x::xs=>(∃ o,ops[i]?=some o/\comp P N ops o=some x)/\z1s P N ops is xs
 | _,_=>False
theorem zv.of_rel (R:Rel I N σ e' h' a w)(hh:h'=h):zv P I N pro σ h w e' h' a w:=by subst hh;exact ⟨σ,I,λ_ h=>h,λ_ h=>.inl h,R,λ_ _=>rfl,Le.refl _,λ_ _ _=>rfl,λb hb=>.inl hb⟩
end
def z9 (P:Program)(pro:List Nat)(e:Env)(h:H)(e1:Env)(h1:H):Prop :=
 ∀ (I:Nat->Prop) (N:Nat) [Dfs N] (σ:Pl) (a:Act) (w:World),Rel I N σ e h a w->zv P I N pro σ h w e1 h1 a w
inductive z2g (P:Program) (pro:List Nat):List Ins->Env->H->Env->H->Prop
 | nil {e h}:z2g P pro [] e h e h
 | skip {x l e h e' h'}:zx e x.guard=some false->z2g P pro l (upd e x.dst (z4k x.op)) h e' h'->z2g P pro (x::l) e h e' h'
 | step {x l e h e1 h1 e' h'}:zx e x.guard=some true->z2m P pro e h x.dst x.op e1 h1->z2g P pro l e1 h1 e' h'->z2g P pro (x::l) e h e' h'
 | ghost {l e h e1 h1 e' h'}:z9 P pro e h e1 h1->z2g P pro l e1 h1 e' h'->z2g P pro l e h e' h'
theorem z9.rfl' {P:Program}{pro:List Nat}{e:Env}{h:H}:z9 P pro e h e h:=λI N _ σ a w R=>zv.of_rel R rfl
theorem z9.trans {P:Program}{pro:List Nat}{e e1 e2:Env}{h h1 h2:H}(g1:z9 P pro e h e1 h1)(g2:z9 P pro e1 h1 e2 h2):z9 P pro e h e2 h2:=λI N _ σ a w R=>by obtain ⟨σ1,I1,i1,i2,R1,p1,p2,p3,p4⟩:=(g1 I N σ a w R).out;exact zv.trans i1 i2 p1 p2 p3 p4 (g2 I1 N σ1 a w R1)
def yc1 (P:Program)(pro:List Nat)(e':Env)(h':H):List Ins->Env->H->Prop
 | [],e1,h1=>e1=e'/\h1=h'
 | x::l,e1,h1=>(zx e1 x.guard=some false/\z2g P pro l (upd e1 x.dst (z4k x.op)) h1 e' h')\/(zx e1 x.guard=some true/\∃ e2 h2,z2m P pro e1 h1 x.dst x.op e2 h2/\z2g P pro l e2 h2 e' h')
theorem z2g.inv {P:Program}{pro:List Nat}{l:List Ins}{e e':Env}{h h':H}(hr:z2g P pro l e h e' h'):∃ e1 h1,z9 P pro e h e1 h1/\yc1 P pro e' h' l e1 h1:=by
 induction hr with
 | nil=>exact ⟨_,_,z9.rfl',rfl,rfl⟩
 | skip hw hr _=>exact ⟨_,_,z9.rfl',.inl ⟨hw,hr⟩⟩
 | step hw hs hr _=>exact ⟨_,_,z9.rfl',.inr ⟨hw,_,_,hs,hr⟩⟩
 | ghost hg _ ih =>obtain ⟨e1,h1,g,hm⟩:=ih;exact ⟨e1,h1,hg.trans g,hm⟩
section
variable {P:Program}{N:Nat}[Dfs N]{h h':H}{e e':Env}{ops:Array Oper}{Q:Exit->Act->World->Prop}{pro:List Nat}
theorem z2g.sound' {js:List Nat}{l:List Ins}(hr:z2g P pro l e h e' h'):∀ (I:Nat->Prop) (is:List Nat) (σ:Pl) (a:Act) (w:World),z1s P N ops is l->Rel I N σ e h a w->(∀ a' w',zv P I N pro σ h w e' h' a' w'->wpOps P ops Q js a' w')->wpOps P ops Q (is++js) a w:=by
 induction hr with
 | nil =>intro I is σ a w hc R hQ;cases is with | nil=>exact hQ _ _ (zv.of_rel R rfl) | cons i is=>exact hc.elim
 | skip hw hr ih =>
  rename_i x l e h e' h';intro I is σ a w hc R hQ;cases is with
  | nil=>exact hc.elim
  | cons i is =>obtain ⟨⟨o,ho,hco⟩,hc⟩:=hc;obtain ⟨g1,g2,g3⟩:=z3j hco;rw [cons_append,wpOps_cons];unfold wpOp;simp only [ho,z26 R g1 hw,false_eq_true,if_false];exact ih I is σ _ w hc (R.skip (z65 g2 g3)) hQ
 | step hw hs hr ih =>
  rename_i x l e h e1 h1 e' h';intro I is σ a w hc R hQ;cases is with
  | nil=>exact hc.elim
  | cons i is =>obtain ⟨⟨o,ho,hco⟩,hc⟩:=hc;obtain ⟨g1,g2,g3⟩:=z3j hco;rw [cons_append,wpOps_cons];unfold wpOp;simp only [ho,z26 R g1 hw,if_true];refine .inl (z2m.sound R g2 g3 hs λa1 w1 S=>?_);obtain ⟨σ1,I1,i1,i2,R1,p1,p2,p3,p4⟩:=S.out;exact ih I1 is σ1 a1 w1 hc R1 λa' w' S'=>hQ a' w' (zv.trans i1 i2 p1 p2 p3 p4 S')
 | ghost hg _ ih =>intro I is σ a w hc R hQ;obtain ⟨σ1,I1,i1,i2,R1,p1,p2,p3,p4⟩:=(hg I N σ a w R).out;exact ih I1 is σ1 a w hc R1 λa' w' S'=>hQ a' w' (zv.trans i1 i2 p1 p2 p3 p4 S')
theorem z2g.sound {l:List Ins}(hr:z2g P pro l e h e' h')(I:Nat->Prop)(is:List Nat)(σ:Pl)(a:Act)(w:World)(hc:z1s P N ops is l)(R:Rel I N σ e h a w)(hQ:∀ a' w',zv P I N pro σ h w e' h' a' w'->Q .normal a' w'):wpOps P ops Q is a w:=by
 have:=z2g.sound' (js:=[]) (Q:=Q) hr I is σ a w hc R hQ
 rwa [append_nil] at this
inductive z7j (P:Program) (e:Env) (h:H):IK->Value->H->Prop
 | call {f args m bor hin rest args' u}:z2c h m=some (hin,rest)->(m.map Prod.fst).Nodup->z2d rest m bor (args.map (ev e))=some args'->z9m P f args' hin u->z7j P e h (.call f args) u rest
def nE:Env:=λ_=>.un
def ptE (e:Env):Env:=λt=>match e t with
 | .pt k p i c=>.pt k p i c
 | _=>.un
theorem y3r {I:Nat->Prop}{σ:Pl}{B B':zm}{v:Value}{t:Nat}(hv:Va I σ B (e t) v):Va I σ B' (ptE e t) v:=by
 unfold ptE;split
 ·rename_i k p i c he;rw [he] at hv;exact hv
 ·trivial
theorem zv.fallen {I:Nat->Prop}{σ:Pl}{a:Act}{w w':World}{hx:H}(R:Rel I N σ e h a w)(hle:Le w w')(hfr:∀ b,b<w.heap.size->b∉fpH σ h->bl w' b=bl w b)(hh:zk I σ hx w')(hs:∀ b∈fpH σ hx,b∈fpH σ h):zv P I N pro σ h w (ptE e) hx a w' :=
 ⟨σ,I,λ_ h=>h,λ_ h=>.inl h,⟨hh,R.size,λt=>y3r (R.vals t),R.defers⟩,λ_ _=>rfl,hle,hfr,λb hb=>.inl (hs b hb)⟩
theorem z9.unE {E:Env}{H0:H}:z9 P pro E H0 (ptE E) H0:=λI N _ σ a w R=>zv.of_rel ⟨R.heap,R.size,λt=>y3r (R.vals t),R.defers⟩ rfl
theorem z9.fell {E:Env}{H0:H}:z9 P pro E H0 Loom.nE []:=λI N _ σ a w R =>
 ⟨σ,I,λ_ h=>h,λ_ h=>.inl h,⟨⟨trivial,nodup_nil,nodup_nil,λb hb=>(nomatch hb),R.heap.low⟩,R.size,λ_=>trivial,R.defers⟩,λ_ _=>rfl,Le.refl _,λ_ _ _=>rfl,λb hb=>(nomatch hb)⟩
theorem z7j.sound {I:Nat->Prop}{σ:Pl}{a:Act}{w:World}(R:Rel I N σ e h a w){o:Oper}{k:IK}{u:Value}{hx:H}(hc:z5l P o=some k)(hp:z7j P e h k u hx){K:Act->World->Prop}(hQ:∀ a' w',zv P I N pro σ h w (ptE e) hx a' w'->Q (.panic [{ v:=u,recovered:=false }]) a' w'):o.wp P a w K Q:=by
 cases hp with
 | call h1 h2 h3 h4 =>
  rename_i f args m bor hin args'
  have hko:∃ as ty,o.op = .call { callee:=.value (.func f),args:=as,argTypes:=ty }/\args=as.toList/\zcf P f=true:=by
   unfold z5l at hc;split at hc
   ·cases hc
   ·split at hc
    ·cases hc
    ·split at hc
     ·cases hc
     ·split at hc
      ·split at hc<;>cases hc
      ·split at hc<;>cases hc
      ·rename_i f' as' ty' ho;split at hc
       ·rename_i hf;cases hc;exact ⟨_,_,ho,rfl,hf⟩
       ·cases hc
      ·cases hc
      ·split at hc<;>first | (cases hc;done) | (split at hc<;>cases hc)
      ·split at hc<;>cases hc
      ·split at hc<;>cases hc
      ·cases hc
  obtain ⟨as,ty,ho,rfl,hf⟩:=hko;have hcl:=zqx R (zct R as.toList) h1 h2 h3 h4
  have hex:(execOp a.eval o).run P w = .ok (.enter f (as.toList.map a.eval).toArray) w:=by
   have:(as.map a.eval)=(as.toList.map a.eval).toArray:=by apply Array.ext';rw [Array.toList_map]
   simp only [execOp,ho,resolve,Deferred.ofValue,Act.eval,Sem.run_bind,Sem.run_pure,Result.andThen_ok,invoke,Array.append_empty,Array.empty_append];rw [this,z5p hf]
  unfold Oper.wp;rw [hex,Oper.upon_enter];refine Calls.mono hcl ?_;rintro en w' ⟨rfl,q1,q2,q3,q4⟩;exact hQ _ _ (zv.fallen R q1 q2 q3 q4)
inductive z9f (P:Program) (pro:List Nat) (u:Value) (ex:Env) (hx:H):List Ins->Env->H->Prop
 | skip {x l e h}:zx e x.guard=some false->z9f P pro u ex hx l (upd e x.dst (z4k x.op)) h->z9f P pro u ex hx (x::l) e h
 | step {x l e h e1 h1}:zx e x.guard=some true->z2m P pro e h x.dst x.op e1 h1->z9f P pro u ex hx l e1 h1->z9f P pro u ex hx (x::l) e h
 | ghost {l e h e1 h1}:z9 P pro e h e1 h1->z9f P pro u ex hx l e1 h1->z9f P pro u ex hx l e h
 | here {x l e h}:zx e x.guard=some true->z7j P e h x.op u hx->ptE e=ex->z9f P pro u ex hx (x::l) e h
theorem z9f.sound {l:List Ins}{u:Value}{ex:Env}{hx:H}(hr:z9f P pro u ex hx l e h):∀ (I:Nat->Prop) (is:List Nat) (σ:Pl) (a:Act) (w:World),z1s P N ops is l->Rel I N σ e h a w->(∀ a' w',zv P I N pro σ h w ex hx a' w'->Q (.panic [{ v:=u,recovered:=false }]) a' w')->wpOps P ops Q is a w:=by
 induction hr with
 | skip hw hr ih =>
  intro I is σ a w hc R hQ;cases is with
  | nil=>exact hc.elim
  | cons i is =>obtain ⟨⟨o,ho,hco⟩,hc⟩:=hc;obtain ⟨g1,g2,g3⟩:=z3j hco;rw [wpOps_cons];unfold wpOp;simp only [ho,z26 R g1 hw,false_eq_true,if_false];exact ih I is σ _ w hc (R.skip (z65 g2 g3)) hQ
 | step hw hs hr ih =>
  intro I is σ a w hc R hQ;cases is with
  | nil=>exact hc.elim
  | cons i is =>obtain ⟨⟨o,ho,hco⟩,hc⟩:=hc;obtain ⟨g1,g2,g3⟩:=z3j hco;rw [wpOps_cons];unfold wpOp;simp only [ho,z26 R g1 hw,if_true];refine .inl (z2m.sound R g2 g3 hs λa1 w1 S=>?_);obtain ⟨σ1,I1,i1,i2,R1,p1,p2,p3,p4⟩:=S.out;exact ih I1 is σ1 a1 w1 hc R1 λa' w' S'=>hQ a' w' (zv.trans i1 i2 p1 p2 p3 p4 S')
 | ghost hg _ ih =>intro I is σ a w hc R hQ;obtain ⟨σ1,I1,i1,i2,R1,p1,p2,p3,p4⟩:=(hg I N σ a w R).out;exact ih I1 is σ1 a w hc R1 λa' w' S'=>hQ a' w' (zv.trans i1 i2 p1 p2 p3 p4 S')
 | here hw hp he =>
  subst he;intro I is σ a w hc R hQ;cases is with
  | nil=>exact hc.elim
  | cons i is =>obtain ⟨⟨o,ho,hco⟩,hc⟩:=hc;obtain ⟨g1,g2,g3⟩:=z3j hco;rw [wpOps_cons];unfold wpOp;simp only [ho,z26 R g1 hw,if_true];exact .inl (z7j.sound R g2 hp hQ)
end
def zl1:Option Operand->List Operand
 | some x=>[x]
 | none=>[]
def z38:IB->List Operand
 | .mov x=>[x]
 | .pick c a b=>[c,a,b]
 | .bin _ x y=>[x,y]
 | .beq _ x y=>[x,y]
 | .eqs _ _ _ x y=>[x,y]
 | .un1 _ x=>[x]
 | .cvt _ x=>[x]
 | .fad _ x=>[x]
 | .iad _ x i=>[x,i]
 | .aad _ _ x i=>[x,i]
 | .load _ _ x=>[x]
 | .fld _ _ _ x=>[x]
 | .ida _ _ _ x i=>[x,i]
 | .ids x i=>[x,i]
 | .len x=>[x]
 | .lens x=>[x]
 | .b2s x=>[x]
 | .ext _ x=>[x]
 | .nchk x=>[x]
 | .slc _ x lo hi=>x::(zl1 lo++zl1 hi)
 | .slc0 x=>[x]
 | .sls x lo hi=>x::(zl1 lo++zl1 hi)
 | .build _ parts=>parts.map (·.2.2)
 | .mkf _ caps=>caps
 | .mm _ x y=>[x,y]
 | .lku _ _ _ _ _ x key=>[x,key]
 | .mkm _=>[]
 | .box _ x=>[x]
 | .bsl _ _ _ parts=>parts.map (·.2)
 | .mks _ _ _ l=>[l]
 | .app _ _ x y=>[x,y]
 | .store _ a x=>[a,x]
 | .call _ args=>args
 | .callv x args=>x::args
def z5x:IK->List Operand
 | .rd b=>z38 b
 | .mk b=>z38 b
 | .app _ _ x y=>[x,y]
 | .st _ a x=>[a,x]
 | .call _ args=>args
 | .callv x args=>x::args
 | .s2b x=>[x]
 | .ifn x=>[x]
 | .tas _ x=>[x]
 | .mrk x=>[x]
 | .mst _ _ x key v=>[x,key,v]
theorem z7v {f g:Operand->AV}(o:Option Operand)(h:∀ x∈zl1 o,f x=g x):o.map f=o.map g:=by cases o with | none=>rfl | some x=>simp [h x (by simp [zl1])]
theorem z57 {f g:Operand->AV}{r:RR}(b:IB)(h:∀ x∈z38 b,f x=g x):zi f r b=zi g r b:=by
 cases b<;>simp only [z38,mem_cons,not_mem_nil,or_false,forall_eq_or_imp,forall_eq,mem_append] at h<;>simp only [zi]
 case slc s x lo hi=>rw [h.1,z7v lo (λx hx=>h.2 x (.inl hx)),z7v hi (λx hx=>h.2 x (.inr hx))]
 case sls x lo hi=>rw [h.1,z7v lo (λx hx=>h.2 x (.inl hx)),z7v hi (λx hx=>h.2 x (.inr hx))]
 case build zero parts =>
  have:(parts.map λ(o,n,x)=>(o,n,f x))=parts.map λ(o,n,x)=>(o,n,g x):=map_congr_left λp hp=>by obtain ⟨o,n,x⟩:=p;simp only;rw [h x (mem_map.2 ⟨_,hp,rfl⟩)]
  rw [this]
 case mkf f' caps =>
  have:caps.map f=caps.map g:=map_congr_left h;rw [this]
  have:(caps.all λx=>(nn (f x)).isSome)=caps.all λx=>(nn (g x)).isSome:=by rw [Bool.eq_iff_iff,all_eq_true,all_eq_true];exact ⟨λhh x hx=>by rw [<- h x hx];exact hh x hx,λhh x hx=>by rw [h x hx];exact hh x hx⟩
  rw [this]
 all_goals (try simp only [h])
theorem zjv {f g:Operand->AV}{hp:H}{d:Nat}(b:IB)(h:∀ x∈z38 b,f x=g x):z3e f hp d b=z3e g hp d b:=by
 cases b<;>simp only [z38,mem_cons,not_mem_nil,or_false,forall_eq_or_imp,forall_eq,mem_append] at h<;>simp only [z3e]
 case bsl s len zero parts =>
  have:(parts.map λ(i,x)=>(i * s,s,f x))=parts.map λ(i,x)=>(i * s,s,g x):=map_congr_left λp hp=>by obtain ⟨i,x⟩:=p;simp only;rw [h x (mem_map.2 ⟨_,hp,rfl⟩)]
  rw [this]
 all_goals (try simp only [h])
theorem zmr {f:Operand->AV}{r r':RR}{b:IB}{av:AV}(hr:∀ k p v,r k p=some v->r' k p=some v)(hm:∀ k p v,r.m k p=some v->r'.m k p=some v)(h:zi f r b=some av):zi f r' b=some av:=by
 cases b<;>simp only [zi] at h ⊢<;>try exact h
 case iad s x i =>
  split at h
  ·rename_i k p off len ki n hx hi;split at h
   ·rename_i hc;rw [if_pos hc];cases hk:r k p with | none=>simp [hk] at h | some v=>simp only [hk] at h;simp only [hr _ _ _ hk];exact h
   ·cases h
  ·exact h
  ·exact h
  ·cases h
 case load agg n x =>
  split at h
  ·rename_i k p i c hx;cases hk:r k p with | none=>simp [hk] at h | some v=>simp only [hk] at h;simp only [hr _ _ _ hk];exact h
  ·exact h
  ·exact h
  ·exact h
  ·cases h
 case slc s x lo hi =>
  split at h
  ·rename_i k p off len hx;cases hk:r k p with | none=>simp [hk] at h | some v=>simp only [hk] at h;simp only [hr _ _ _ hk];exact h
  ·exact h
  ·exact h
  ·cases h
 case b2s x =>
  split at h
  ·rename_i k p off len hx;cases hk:r k p with | none=>simp [hk] at h | some v=>simp only [hk] at h;simp only [hr _ _ _ hk];exact h
  ·exact h
  ·exact h
  ·cases h
 case lku nv ks agg ok zero x key =>
  unfold zpm at h ⊢;split at h
  ·rename_i k p kc hx hk;cases hk2:r.m k p with | none=>simp [hk2] at h | some v=>simp only [hk2] at h;simp only [hm _ _ _ hk2];exact h
  ·cases h
theorem y4n {a a':AV}{h':H}(h:z41 [] a=some (a',h'))(hp:H):h'=[]/\z41 hp a=some (a',hp):=by
 cases a<;>simp only [z41] at h ⊢
 case sc u=>split at h<;>simp_all
 case zs=>simp_all
 case im s xs=>simp_all
 case sl k p off len=>split at h<;>simp [z6] at h
 case pp q =>
  cases q with
  | xp b x c=>simp_all
  | mr k p=>cases p<;>simp [z6] at h
  | _=>simp at h
 all_goals cases h
theorem znj:∀ (l l':List AV) (h':H),z3s [] l=some (l',h')->∀ hp:H,h'=[]/\z3s hp l=some (l',hp)
 | [],l',h',h,hp=>by simp only [z3s,Option.some.injEq,Prod.mk.injEq] at h ⊢;exact ⟨h.2.symm,h.1,trivial⟩
 | a::l,l',h',h,hp=>by
  unfold z3s at h ⊢;cases ha:z41 [] a with
  | none=>simp [ha] at h
  | some x =>
   obtain ⟨a',h1⟩:=x;obtain ⟨rfl,e2⟩:=y4n ha hp;simp only [ha] at h;simp only [e2];cases hl:z3s [] l with
   | none=>simp [hl] at h
   | some y =>obtain ⟨l2,h2⟩:=y;obtain ⟨rfl,e3⟩:=znj l l2 h2 hl hp;simp only [hl,Option.some.injEq,Prod.mk.injEq] at h;simp only [e3];exact ⟨h.2.symm,by rw [h.1]⟩
theorem zho:∀ (l l':Els) (h':H),z4n [] l=some (l',h')->∀ hp:H,h'=[]/\z4n hp l=some (l',hp)
 | [],l',h',h,hp=>by simp only [z4n,Option.some.injEq,Prod.mk.injEq] at h ⊢;exact ⟨h.2.symm,h.1,trivial⟩
 | a::l,l',h',h,hp=>by
  unfold z4n at h ⊢;cases ha:z3s [] a with
  | none=>simp [ha] at h
  | some x =>
   obtain ⟨a',h1⟩:=x;obtain ⟨rfl,e2⟩:=znj a a' h1 ha hp;simp only [ha] at h;simp only [e2];cases hl:z4n [] l with
   | none=>simp [hl] at h
   | some y =>obtain ⟨l2,h2⟩:=y;obtain ⟨rfl,e3⟩:=zho l l2 h2 hl hp;simp only [hl,Option.some.injEq,Prod.mk.injEq] at h;simp only [e3];exact ⟨h.2.symm,by rw [h.1]⟩
theorem y6g {f:Operand->AV}{d:Nat}{b:IB}{av:AV}{h':H}(h:z3e f [] d b=some (av,h'))(hp:H) :
  ∃ row,h'=[(d,row)]/\z3e f hp d b=some (av,(d,row)::zc hp d)/\(av = .pt d [] 0 0\/(∃ n,av = .sl d [] 0 n)\/av = .pp (.mr d [])):=by
 cases b<;>simp only [z3e] at h ⊢<;>try (cases h;done)
 case box s x =>
  cases hx:cellsOf (f x) with
  | none=>simp [hx] at h
  | some cs =>
   simp only [hx] at h ⊢;split at h
   ·rename_i hl;rw [if_pos hl];simp only [zc] at h;cases ha:z4n [] [cs] with
    | none=>simp [ha] at h
    | some y =>obtain ⟨xs',h1⟩:=y;obtain ⟨rfl,e2⟩:=zho _ xs' h1 ha (zc hp d);simp only [ha,Option.some.injEq,Prod.mk.injEq] at h;simp only [e2];obtain ⟨rfl,rfl⟩:=h;exact ⟨_,rfl,rfl,.inl rfl⟩
   ·cases h
 case bsl s len zero parts =>
  cases hx:z5a (replicate len (zero.map cval)).flatten (parts.map λ(i,x)=>(i * s,s,f x)) with
  | none=>simp [hx] at h
  | some cs =>
   simp only [hx,zc] at h ⊢;cases ha:z4n [] (z4b s len cs) with
   | none=>simp [ha] at h
   | some y =>obtain ⟨xs',h1⟩:=y;obtain ⟨rfl,e2⟩:=zho _ xs' h1 ha (zc hp d);simp only [ha,Option.some.injEq,Prod.mk.injEq] at h;simp only [e2];obtain ⟨rfl,rfl⟩:=h;exact ⟨_,rfl,rfl,.inr (.inl ⟨_,rfl⟩)⟩
 case mks s bytes zero l =>
  split at h
  ·rename_i k n hx;split at h
   ·rename_i hc;rw [if_pos hc];simp only [zc,Option.some.injEq,Prod.mk.injEq] at h;obtain ⟨rfl,rfl⟩:=h;exact ⟨_,rfl,rfl,.inr (.inl ⟨_,rfl⟩)⟩
   ·cases h
  ·cases h
 case mkm s =>
  split at h
  ·cases h
  ·rename_i hs;rw [if_neg hs];cases h;exact ⟨_,rfl,rfl,.inr (.inr rfl)⟩
mutual
theorem zxy {h0 h':H}{m:List (Nat×Nat)}{bor:Bool}(hr:∀ k p v,res h0 k p=some v->res h' k p=some v):∀ (x y:AV),conv h0 m bor x=some y->conv h' m bor x=some y
 | .sc _,y,h=>h
 | .zs,y,h=>h
 | .un,y,h=>h
 | .im _ _,y,h=>h
 | .ip _ _ _ _,y,h=>h
 | .sl k p off len,y,h=>by
  simp only [conv] at h ⊢;split at h
  ·rename_i hb;rw [if_pos hb];split at h
   ·rename_i s ys hk;simp only [hr _ _ _ hk];exact h
   ·cases h
  ·cases h
 | .pt k p i c,y,h=>h
 | .ag cs,y,h=>by simp only [conv] at h ⊢;cases hc:z2d h0 m bor cs with | none=>simp [hc] at h | some cs'=>simp only [hc] at h;simp only [z7o hr cs cs' hc];exact h
 | .tu cs,y,h=>by simp only [conv] at h ⊢;cases hc:z2d h0 m bor cs with | none=>simp [hc] at h | some cs'=>simp only [hc] at h;simp only [z7o hr cs cs' hc];exact h
 | .fn f cs,y,h=>by simp only [conv] at h ⊢;cases hc:z2d h0 m bor cs with | none=>simp [hc] at h | some cs'=>simp only [hc] at h;simp only [z7o hr cs cs' hc];exact h
 | .ow _ _,y,h=>h
theorem z7o {h0 h':H}{m:List (Nat×Nat)}{bor:Bool}(hr:∀ k p v,res h0 k p=some v->res h' k p=some v):∀ (x y:List AV),z2d h0 m bor x=some y->z2d h' m bor x=some y
 | [],y,h=>h
 | x::l,y,h=>by
  unfold z2d at h ⊢;split at h
  ·rename_i x' l' hx hl;simp only [zxy hr x x' hx,z7o hr l l' hl];exact h
  ·cases h
end
theorem z6r:∀ {h:H} {k:Nat} {r:Row},(h.map Prod.fst).Nodup->(k,r)∈h->z6 h k=some r
 | [],_,_,_,hm=>by cases hm
 | (k',r')::h,k,r,hn,hm=>by
  simp only [map_cons,nodup_cons] at hn;simp only [z6];rcases mem_cons.1 hm with he | hm
  ·cases he;simp
  ·have:k'≠k:=by rintro rfl;exact hn.1 (mem_map.2 ⟨_,hm,rfl⟩)
   rw [if_neg this];exact z6r hn.2 hm
theorem z6t:∀ {h:H} {k:Nat} {r:Row},z6 h k=some r->(k,r)∈h
 | [],_,_,hm=>by cases hm
 | (k',r')::h,k,r,hm=>by
  simp only [z6] at hm;split at hm
  ·rename_i he;subst he;cases hm;exact mem_cons_self
  ·exact mem_cons_of_mem _ (z6t hm)
theorem zms {h h':H}(hn:(h'.map Prod.fst).Nodup)(hs:∀ x∈h,x∈h')(k:Nat)(p:Path)(v:Nat×Els)(hv:(res h).m k p=some v):(res h').m k p=some v:=by
 change z8k h k p=_ at hv;change z8k h' k p=_;unfold z8k z1j at hv ⊢;cases hg:z6 h k with
 | none=>simp [hg] at hv
 | some r =>simp only [hg] at hv;rw [z6r hn (hs _ (z6t hg))];exact hv
theorem zq7 {h h':H}(hn:(h'.map Prod.fst).Nodup)(hs:∀ x∈h,x∈h')(k:Nat)(p:Path)(v:Nat×Els)(hv:res h k p=some v):res h' k p=some v:=by
 change z82 h k p=_ at hv;change z82 h' k p=_;unfold z82 z1j at hv ⊢;cases hg:z6 h k with
 | none=>simp [hg] at hv
 | some r =>simp only [hg] at hv;rw [z6r hn (hs _ (z6t hg))];exact hv
structure DOp where
 ins:Ins
 dep:List Nat
 av:AV
 rows:H
def EX:Nat->List DOp->(Nat->Bool)->Env->Env
 | _,[],_,E=>E
 | i,x::l,X,E=>if X i then upd (EX (i+1) l X E) x.ins.dst x.av else EX (i+1) l X E
def HX:Nat->List DOp->(Nat->Bool)->H
 | _,[],_=>[]
 | i,x::l,X=>if X i then x.rows++HX (i+1) l X else HX (i+1) l X
def PX:Nat->List DOp->(Nat->Bool)->List Nat
 | _,[],_=>[]
 | i,x::l,X=>if X i then PX (i+1) l X else x.rows.map Prod.fst++PX (i+1) l X
def z42 (l:List DOp):List Nat:=l.map (·.ins.dst)
def z3p (l:List DOp):List Nat:=l.flatMap (·.rows.map Prod.fst)
def zh6:List Operand->List Nat
 | []=>[]
 | .tmp t::l=>t::zh6 l
 | _::l=>zh6 l
def z3r (x:Ins):List Nat:=(match x.guard with | some (s,_)=>[s] | none=>[])++zh6 (z5x x.op)
section
variable {P:Program}{I:Nat->Prop}{N:Nat}[Dfs N]{σ σ0 σ':Pl}{w w0 w':World}{h h0 h':H}{e e' E0:Env}{a a':Act}{l:List DOp}{X:Nat->Bool}
theorem zij:∀ (l:List DOp) (i:Nat) (X:Nat->Bool) (t:Nat),t∉z42 l->EX i l X E0 t=E0 t
 | [],_,_,_,_=>rfl
 | x::l,i,X,t,h=>by
  simp only [z42,map_cons,mem_cons,not_or] at h;simp only [EX];split
  ·simp only [upd,if_neg h.1];exact zij l (i+1) X t h.2
  ·exact zij l (i+1) X t h.2
theorem zvd:∀ (l:List DOp) (i j:Nat) (X:Nat->Bool) (x:DOp),(z42 l).Nodup->l[j]?=some x->X (i+j)=true->EX i l X E0 x.ins.dst=x.av
 | [],_,_,_,_,_,h,_=>by simp at h
 | y::l,i,0,X,x,_,h,hX=>by simp only [getElem?_cons_zero,Option.some.injEq] at h;subst h;simp only [Nat.add_zero] at hX;simp [EX,hX,upd]
 | y::l,i,j+1,X,x,hn,h,hX=>by
  simp only [List.getElem?_cons_succ] at h;simp only [z42,map_cons,nodup_cons] at hn;have hne:x.ins.dst≠y.ins.dst:=λe=>hn.1 (by rw [<- e];exact mem_map.2 ⟨x,mem_of_getElem? h,rfl⟩);have ih:=zvd l (i+1) j X x hn.2 h (by rw [<- hX];congr 1;omega);simp only [EX];split
  ·simp only [upd,if_neg hne];exact ih
  ·exact ih
theorem zih:∀ (l:List DOp) (i j:Nat) (X X':Nat->Bool) (x:DOp),(z42 l).Nodup->l[j]?=some x->X' (i+j)=true->(∀ n,n≠i+j->X' n=X n)->X (i+j)=false->EX i l X' E0=upd (EX i l X E0) x.ins.dst x.av
 | [],_,_,_,_,_,_,h,_,_,_=>by simp at h
 | y::l,i,0,X,X',x,hn,h,h1,h2,h3=>by
  simp only [getElem?_cons_zero,Option.some.injEq] at h;subst h;simp only [Nat.add_zero] at h1 h2 h3;simp only [EX,h1,h3,if_true,false_eq_true,if_false]
  have:∀ (l:List DOp) (n:Nat),i<n->EX n l X' E0=EX n l X E0:=by
   intro l
   induction l with | nil=>intro n _;rfl | cons z l ih=>intro n hn;simp only [EX,h2 n (by omega),ih (n+1) (by omega)]
  rw [this l (i+1) (by omega)]
 | y::l,i,j+1,X,X',x,hn,h,h1,h2,h3=>by
  simp only [List.getElem?_cons_succ] at h;simp only [z42,map_cons,nodup_cons] at hn;have hne:x.ins.dst≠y.ins.dst:=λe=>hn.1 (by rw [<- e];exact mem_map.2 ⟨x,mem_of_getElem? h,rfl⟩);have hi:i+1+j=i+(j+1):=by omega
  have ih:=zih l (i+1) j X X' x hn.2 h (by rw [hi];exact h1) (λn hn=>h2 n (by rw [<- hi];exact hn)) (by rw [hi];exact h3);simp only [EX,h2 i (by omega),ih];split
  ·funext t;simp only [upd];by_cases e1:t=y.ins.dst
   ·by_cases e2:t=x.ins.dst
    ·exact absurd (e2.symm.trans e1) hne
    ·simp [e1,e2];exact λe=>absurd e.symm hne
   ·by_cases e2:t=x.ins.dst<;>simp [e1,e2,hne]
  ·rfl
theorem zcm:∀ (l:List DOp) (i j:Nat) (X X':Nat->Bool) (x:DOp),l[j]?=some x->X' (i+j)=true->(∀ n,n≠i+j->X' n=X n)->X (i+j)=false->(x.rows++HX i l X).Perm (HX i l X')
 | [],_,_,_,_,_,h,_,_,_=>by simp at h
 | y::l,i,0,X,X',x,h,h1,h2,h3=>by
  simp only [getElem?_cons_zero,Option.some.injEq] at h;subst h;simp only [Nat.add_zero] at h1 h2 h3;simp only [HX,h1,h3,if_true,false_eq_true,if_false]
  have:∀ (l:List DOp) (n:Nat),i<n->HX n l X'=HX n l X:=by
   intro l
   induction l with | nil=>intro n _;rfl | cons z l ih=>intro n hn;simp only [HX,h2 n (by omega),ih (n+1) (by omega)]
  rw [this l (i+1) (by omega)]
 | y::l,i,j+1,X,X',x,h,h1,h2,h3=>by
  simp only [List.getElem?_cons_succ] at h;have hi:i+1+j=i+(j+1):=by omega
  have ih:=zcm l (i+1) j X X' x h (by rw [hi];exact h1) (λn hn=>h2 n (by rw [<- hi];exact hn)) (by rw [hi];exact h3);simp only [HX,h2 i (by omega)];split
  ·refine List.Perm.trans ?_ (ih.append_left y.rows);rw [<- append_assoc,<- append_assoc];exact List.perm_append_comm.append_right _
  ·exact ih
theorem z5n {k:Nat}:∀ (l:List DOp) (i:Nat) (X:Nat->Bool),k∈PX i l X↔∃ j x,l[j]?=some x/\X (i+j)=false/\k∈x.rows.map Prod.fst
 | [],_,_=>by simp [PX]
 | y::l,i,X=>by
  have ih:=z5n (k:=k) l (i+1) X;constructor
  ·intro h;simp only [PX] at h
   have tail:k∈PX (i+1) l X->∃ j x,(y::l)[j]?=some x/\X (i+j)=false/\k∈x.rows.map Prod.fst:=λh=>by obtain ⟨j,x,h1,h2,h3⟩:=ih.1 h;exact ⟨j+1,x,by simpa using h1,by rw [<- h2];congr 1;omega,h3⟩
   split at h
   ·exact tail h
   ·rename_i hX;rw [mem_append] at h;rcases h with h | h
    ·exact ⟨0,y,rfl,by simpa using hX,h⟩
    ·exact tail h
  ·rintro ⟨j,x,h1,h2,h3⟩;simp only [PX];cases j with
   | zero =>simp only [getElem?_cons_zero,Option.some.injEq] at h1;subst h1;simp only [Nat.add_zero] at h2;simp only [h2,false_eq_true,if_false,mem_append];exact .inl h3
   | succ j =>
    have:=ih.2 ⟨j,x,by simpa using h1,by rw [<- h2];congr 1;omega,h3⟩;split
    ·exact this
    ·exact List.mem_append_right _ this
theorem z7i {z:Nat×Row}:∀ (l:List DOp) (i:Nat) (X:Nat->Bool),z∈HX i l X↔∃ j x,l[j]?=some x/\X (i+j)=true/\z∈x.rows
 | [],_,_=>by simp [HX]
 | y::l,i,X=>by
  have ih:=z7i (z:=z) l (i+1) X;constructor
  ·intro h;simp only [HX] at h
   have tail:z∈HX (i+1) l X->∃ j x,(y::l)[j]?=some x/\X (i+j)=true/\z∈x.rows:=λh=>by obtain ⟨j,x,h1,h2,h3⟩:=ih.1 h;exact ⟨j+1,x,by simpa using h1,by rw [<- h2];congr 1;omega,h3⟩
   split at h
   ·rename_i hX;rw [mem_append] at h;rcases h with h | h
    ·exact ⟨0,y,rfl,by simpa using hX,h⟩
    ·exact tail h
   ·exact tail h
  ·rintro ⟨j,x,h1,h2,h3⟩;simp only [HX];cases j with
   | zero =>simp only [getElem?_cons_zero,Option.some.injEq] at h1;subst h1;simp only [Nat.add_zero] at h2;simp only [h2,if_true,mem_append];exact .inl h3
   | succ j =>
    have:=ih.2 ⟨j,x,by simpa using h1,by rw [<- h2];congr 1;omega,h3⟩;split
    ·exact List.mem_append_right _ this
    ·exact this
structure DS (I:Nat->Prop) (N:Nat) [Dfs N] (l:List DOp) (E0:Env) (h0:H) (σ0:Pl) (w0:World) (X:Nat->Bool) (a:Act) (w:World):Prop where
 le:Le w0 w
 same:∀ b,b<w0.heap.size->bl w b=bl w0 b
 plc:∃ (J:Nat->Prop) (σ:Pl),(∀ b,I b->J b)/\(∀ b,J b->I b\/w0.heap.size<=b)/\(∀ k,k∉z3p l->σ k=σ0 k)/\(∀ b∈fpH σ (HX 0 l X),w0.heap.size<=b)/\∀ σ':Pl,(∀ k,k∉PX 0 l X->σ' k=σ k)->Rel J N σ' (EX 0 l X E0) (HX 0 l X++h0) a w
inductive z4l (P:Program) (E:Env):IK->Nat->List AV->Prop
 | call {f args}:z4l P E (.call f args) f (args.map (ev E))
 | callv {o as f caps}:ev E o = .fn f caps->zcf P f=true->z4l P E (.callv o as) f (as.map (ev E)++caps)
def zb (a b:AV):Prop:=∀ (I:Nat->Prop) (σ:Pl) (B:zm) (v:Value),Va I σ B a v->Va I σ B b v
theorem zb.refl (a:AV):zb a a:=λ_ _ _ _ h=>h
def zfA (zf:Nat->Option Nat):Nat->List AV->List AV
 | _,[]=>[]
 | c,.zs::as=>(match zf c with | some s=>.im s [] | none=>.zs)::zfA zf (c+1) as
 | c,a::as=>a::zfA zf (c+1) as
def zfH (zf:Nat->Option Nat):H->H
 | []=>[]
 | (k,r)::h=>(k,⟨r.s,r.xs.map (zfA zf 0)⟩)::zfH zf h
inductive DOk (P:Program) (E:Env) (hp:H):DOp->Prop
 | skip {x}:zx E x.ins.guard=some false->x.av=z4k x.ins.op->x.rows=[]->DOk P E hp x
 | rd {x b av}:zx E x.ins.guard=some true->x.ins.op = .rd b->zi (ev E) (res hp) b=some av->zb av x.av->x.rows=[]->DOk P E hp x
 | mk {x b rows0} (zf:Nat->Option Nat):zx E x.ins.guard=some true->x.ins.op = .mk b->z3e (ev E) [] x.ins.dst b=some (x.av,rows0)->x.rows=zfH zf rows0->DOk P E hp x
 | call {x f avs args' bor r hout bm left}:zx E x.ins.guard=some true->z4l P E x.ins.op f avs ->
   z2d hp [] bor avs=some args'->(z1q P f args' [] r hout\/bor=false/\CallG P f args' [] r hout)->z2c hout bm=some (x.rows,left)->(bm.map Prod.fst).Nodup->z2b bm r=some x.av->(bor=true->z45 r=true/\z56 hout=true)->DOk P E hp x
theorem zqt:∀ (l:List AV) (c:Nat),zfA (λ_=>none) c l=l
 | [],_=>rfl
 | a::l,c=>by cases a<;>simp only [zfA,zqt l]
theorem zqu:∀ (h:H),zfH (λ_=>none) h=h
 | []=>rfl
 | (k,r)::h=>by
  have:r.xs.map (zfA (λ_=>none) 0)=r.xs:=by rw [map_congr_left (g:=id) (λx _=>zqt x 0),List.map_id]
  simp only [zfH,this,zqu h]
structure zgd (N:Nat) (l:List DOp) (h0:H):Prop where
 nodup:(z42 l).Nodup
 keys:((HX 0 l (λ_=>true)++h0).map Prod.fst).Nodup
 le:∀ x∈l,z3w x.ins.op=true\/x.ins.dst<N
 use:∀ (j:Nat) (x:DOp),l[j]?=some x->(∀ i∈x.dep,i<j)/\∀ s∈z3r x.ins,s∈z42 l->(∃ i∈x.dep,∃ y,l[i]?=some y/\y.ins.dst=s)\/∀ (i:Nat) (y:DOp),l[i]?=some y->y.ins.dst=s->j∈y.dep
end
section
variable {P:Program}{I J:Nat->Prop}{N:Nat}[Dfs N]{σ σ0 σ1 σ':Pl}{w w0 w':World}{h h0 h':H}{e e' E0:Env}{a a':Act}{l:List DOp}{X X':Nat->Bool}{ops:Array Oper}{Q:Exit->Act->World->Prop}{j:Nat}{x:DOp}
theorem zk.ren (hσ:∀ k∈h.map Prod.fst,∀ q,σ' k q=σ k q)(hh:zk I σ h w):zk I σ' h w :=
 ⟨zr.ren h hσ hh.ok,hh.keys,by rw [fpH.ren h hσ];exact hh.nodup,λb hb=>hh.apart b (by rw [<- fpH.ren h hσ];exact hb),hh.low⟩
theorem zhf:∀ {h:H} {k:Nat},k∉h.map Prod.fst->zc h k=h
 | [],_,_=>rfl
 | (k',r)::h,k,hk=>by simp only [map_cons,mem_cons,not_or] at hk;simp only [zc,if_neg (Ne.symm hk.1),zhf hk.2]
theorem zk.grow (hh:zk I σ h w)(hs:w.heap.size<=w'.heap.size)(hb:∀ b,b<w.heap.size->bl w' b=bl w b):zk I σ h w' :=
 ⟨zr.mono (λb hb'=>hb b (hh.low b hb')) h (λb hb'=>hb b (hh.apart b hb').2) hh.ok,hh.keys,hh.nodup,λb hb'=>⟨(hh.apart b hb').1,by have:=(hh.apart b hb').2;omega⟩,λb hb'=>by have:=hh.low b hb';omega⟩
theorem zk.wide (hh:zk I σ h w)(hIJ:∀ b,I b->J b)(hJ:∀ b∈fpH σ h,¬ J b)(hl:∀ b,J b->b<w.heap.size):zk J σ h w :=
 ⟨zr.wide hIJ h hh.ok,hh.keys,hh.nodup,λb hb=>⟨hJ b hb,(hh.apart b hb).2⟩,hl⟩
theorem CeC.zf {B:zm}{k:Nat}{p:Path}{i:Nat}(zf:Nat->Option Nat):∀ (l:List AV) (c:Nat) (cs:List Value),CeC I σ B k p i c l cs->CeC I σ B k p i c (zfA zf c l) cs/\fpC σ k p i c (zfA zf c l)=fpC σ k p i c l/\(zfA zf c l).length=l.length
 | [],_,_,h=>⟨h,rfl,rfl⟩
 | a::as,c,_,h=>by
  obtain ⟨v,cs',rfl,h1,h2⟩:=h;obtain ⟨i1,i2,i3⟩:=CeC.zf zf as (c+1) cs' h2;cases a with
  | zs =>
   simp only [zfA];cases zf c with
   | none=>exact ⟨⟨v,cs',rfl,h1,i1⟩,by simp only [fpC,i2],by simp [i3]⟩
   | some s =>refine ⟨⟨v,cs',rfl,?_,i1⟩,by simp only [fpC,fpA,i2],by simp [i3]⟩;obtain ⟨x,rfl⟩:=h1;exact ⟨x,0,rfl,Nat.le_refl _,λhn=>absurd rfl hn⟩
  | _=>exact ⟨⟨v,cs',rfl,h1,i1⟩,by simp only [zfA,fpC,i2],by simp [zfA,i3]⟩
theorem CeE.zf {B:zm}{k:Nat}{p:Path}{s:Nat}(zf:Nat->Option Nat):∀ (l:Els) (i:Nat) (cs:List Value),CeE I σ B k p i s l cs->CeE I σ B k p i s (l.map (zfA zf 0)) cs/\fpE σ k p i (l.map (zfA zf 0))=fpE σ k p i l
 | [],_,_,_=>⟨trivial,rfl⟩
 | x::l,i,cs,h=>by obtain ⟨j1,j2⟩:=CeE.zf zf l (i+1) _ h.2.2;obtain ⟨i1,i2,i3⟩:=CeC.zf zf x 0 _ h.2.1;exact ⟨⟨by rw [i3];exact h.1,i1,j1⟩,by simp only [map_cons,fpE,i2,j2]⟩
theorem zk.zf {k:Nat}{r:Row}(zf:Nat->Option Nat)(hh:zk I σ ((k,r)::h) w):zk I σ ((k,⟨r.s,r.xs.map (zfA zf 0)⟩)::h) w/\fpR σ k ⟨r.s,r.xs.map (zfA zf 0)⟩=fpR σ k r:=by
 have key:zy I σ (bl w) k ⟨r.s,r.xs.map (zfA zf 0)⟩/\fpR σ k ⟨r.s,r.xs.map (zfA zf 0)⟩=fpR σ k r:=by
  have h1:=hh.ok.1;unfold zy at h1 ⊢;unfold fpR;cases hL:σ k [] with
  | none=>simp only [hL] at h1 ⊢;exact ⟨⟨by simp [h1.1],h1.2⟩,trivial⟩
  | some L =>simp only [hL] at h1 ⊢;obtain ⟨f1,f2,cur,E,f3,f4,f5⟩:=h1;obtain ⟨j1,j2⟩:=CeE.zf zf r.xs 0 _ f5;exact ⟨⟨f1,by simpa using f2,cur,E,f3,by rw [z76 (ys:=r.xs) (by simp)];exact f4,j1⟩,by rw [j2]⟩
 refine ⟨⟨⟨key.1,hh.ok.2⟩,hh.keys,?_,λb hb=>hh.apart b ?_,hh.low⟩,key.2⟩
 ·have:=hh.nodup;rw [z1o] at this ⊢;rw [key.2];exact this
 ·rw [z1o] at hb ⊢;rw [<- key.2];exact hb
theorem z9z (hn:((HX 0 l (λ_=>true)++h0).map Prod.fst).Nodup)(hx:l[j]?=some x):(x.rows.map Prod.fst).Nodup/\(∀ X:Nat->Bool,X j=false->∀ k∈x.rows.map Prod.fst,k∉(HX 0 l X++h0).map Prod.fst):=by
 have hp:=zcm l 0 j (λn=>!decide (n=j)) (λ_=>true) x hx (by simp) (λn hn=>by rw [Nat.zero_add] at hn;simp [hn]) (by simp)
 have hn2:((x.rows++(HX 0 l (λn=>!decide (n=j))++h0)).map Prod.fst).Nodup:=by rw [<- append_assoc];exact (((hp.append_right h0).map Prod.fst).nodup_iff).2 hn
 rw [map_append,nodup_append] at hn2;refine ⟨hn2.1,λX hX k hk hm=>hn2.2.2 k hk k ?_ rfl⟩;obtain ⟨z,hz,rfl⟩:=mem_map.1 hm;refine mem_map.2 ⟨z,?_,rfl⟩;rw [mem_append] at hz ⊢;rcases hz with hz | hz
 ·obtain ⟨i,y,h1,h2,h3⟩:=(z7i l 0 X).1 hz;simp only [Nat.zero_add] at h2;have:i≠j:=by rintro rfl;rw [hX] at h2;cases h2
  exact .inl ((z7i l 0 _).2 ⟨i,y,h1,by simp [this],h3⟩)
 ·exact .inr hz
theorem zjp (hn:((HX 0 l (λ_=>true)++h0).map Prod.fst).Nodup){k:Nat}(hk:k∈(HX 0 l X++h0).map Prod.fst):k∉PX 0 l X:=by intro hp;obtain ⟨j,x,h1,h2,h3⟩:=(z5n l 0 X).1 hp;exact (z9z hn h1).2 X (by simpa using h2) k h3 hk
theorem DS.next (hL:zgd N l h0)(hdN:∀ x:DOp,l[j]?=some x->x.ins.dst<N)(D:DS I N l E0 h0 σ0 w0 X a w)(hx:l[j]?=some x)(hX:X j=false)(hX':X' j=true)(hXX:∀ n,n≠j->X' n=X n)
  (hσ0:∀ k,k∉z3p l->σ k=σ0 k) (hfp:∀ b∈fpH σ (HX 0 l X),w0.heap.size<=b) {I1 I2:Nat->Prop} (hI1:∀ b,I b->I1 b) (hI1':∀ b,I1 b->I b\/w0.heap.size<=b) (hI2:∀ b,I1 b->I2 b) (hI2':∀ b,I2 b->I1 b\/w.heap.size<=b) (hR:∀ σ':Pl,(∀ k,k∉PX 0 l X->σ' k=σ k)->Rel I1 N σ' (EX 0 l X E0) (HX 0 l X++h0) a w)
  {v:Value} (s1:Le w w') (s2:∀ b,b<w.heap.size->bl w' b=bl w b) (s3:∀ k,k∉x.rows.map Prod.fst->σ1 k=σ k) (s4:∀ b∈fpH σ1 x.rows,w.heap.size<=b)
  (s5:∀ σ':Pl,(∀ k,k∉PX 0 l X'->σ' k=σ1 k)->zk I2 σ' (x.rows++(HX 0 l X++h0)) w'/\Va I2 σ' (bl w') x.av v) :
  DS I N l E0 h0 σ0 w0 X' (a.put (some x.ins.dst) v) w':=by
 have hz:∀ n,n≠0+j->X' n=X n:=λn hn=>hXX n (by omega);have hp:=zcm l 0 j X X' x hx (by simpa using hX') hz (by simpa using hX);have hE:=zih (E0:=E0) l 0 j X X' x hL.nodup hx (by simpa using hX') hz (by simpa using hX)
 have hsub:∀ k,k∉PX 0 l X->k∉PX 0 l X'/\k∉x.rows.map Prod.fst:=by
  intro k hk;refine ⟨λhm=>hk ?_,λhm=>hk ((z5n l 0 X).2 ⟨j,x,hx,by simpa using hX,hm⟩)⟩;obtain ⟨i,y,h1,h2,h3⟩:=(z5n l 0 X').1 hm;simp only [Nat.zero_add] at h2;have:i≠j:=by rintro rfl;rw [hX'] at h2;cases h2
  exact (z5n l 0 X).2 ⟨i,y,h1,by simpa [hXX i this] using h2,h3⟩
 refine ⟨D.le.trans s1,λb hb=>?_,I2,σ1,λb hb=>hI2 b (hI1 b hb),λb hb=>?_,λk hk=>?_,λb hb=>?_,fun σ' hσ'=>?_⟩
 ·rw [s2 b (by have:=D.le.size;omega),D.same b hb]
 ·rcases hI2' b hb with h | h
  ·exact hI1' b h
  ·have:=D.le.size;exact .inr (by omega)
 ·rw [s3 k (λhm=>hk (mem_flatMap.2 ⟨x,mem_of_getElem? hx,hm⟩)),hσ0 k hk]
 ·have hb':=(fpH.perm (σ:=σ1) hp).mem_iff.2 hb;rw [z33,mem_append] at hb';rcases hb' with hb' | hb'
  ·have:=s4 b hb';have:=D.le.size;omega
  ·rw [fpH.ren (σ:=σ) (σ':=σ1) _ (λk hk q=>by rw [s3 k (λhm=>(z9z hL.keys hx).2 X hX k hm (by rw [map_append];exact mem_append_left _ hk))])] at hb';exact hfp b hb'
 ·have R:=hR σ' (λk hk=>by rw [hσ' k (hsub k hk).1,s3 k (hsub k hk).2]);obtain ⟨h1,h2⟩:=s5 σ' hσ';rw [hE];refine Rel.put (h1.perm ?_) R.size (λt=>Va.wide hI2 _ _ (Va.mono (λb hb=>s2 b (R.heap.low b hb)) _ _ (R.vals t))) R.defers (hdN x hx) h2;rw [<- append_assoc];exact hp.append_right h0
theorem zc8 {t:Nat}:∀ {l:List Operand},Operand.tmp t∈l->t∈zh6 l
 | [],h=>by cases h
 | x::l,h=>by
  rcases mem_cons.1 h with h | hm
  ·subst h;exact mem_cons_self
  ·have ih:=zc8 hm;cases x<;>simp only [zh6]<;>first | exact ih | exact mem_cons_of_mem _ ih
theorem zve {s:Nat}{X:Nat->Bool}:∀ (l:List DOp) (i:Nat),(∀ n y,l[n]?=some y->y.ins.dst=s->X (i+n)=false)->EX i l X E0 s=E0 s
 | [],_,_=>rfl
 | y::l,i,h=>by
  have ih:=zve (X:=X) (s:=s) l (i+1) (λn z hz hs=>by
   have:=h (n+1) z (by simpa using hz) hs
   rwa [show i+1+n=i+(n+1) by omega])
  simp only [EX];split
  ·rename_i hX;simp only [upd];split
   ·rename_i hs;have:=h 0 y rfl hs.symm;rw [Nat.add_zero,hX] at this;cases this
   ·exact ih
  ·exact ih
theorem zvj (hL:zgd N l h0)(hx:l[j]?=some x)(hdep:∀ i∈x.dep,X i=true)(hcl:∀ (i:Nat) (y:DOp),l[i]?=some y->X i=true->j∉y.dep){s:Nat}(hs:s∈z3r x.ins):EX 0 l X E0 s=EX 0 l (λi=>decide (i<j)) E0 s:=by
 by_cases hd:s∈z42 l
 ·obtain ⟨h1,h2⟩:=hL.use j x hx;rcases h2 s hs hd with ⟨i,hi,y,hy,rfl⟩ | h3
  ·rw [zvd l 0 i X y hL.nodup hy (by simpa using hdep i hi),zvd l 0 i _ y hL.nodup hy (by simpa using h1 i hi)]
  ·rw [zve l 0 (λn y hy hs=>?_),zve l 0 (λn y hy hs=>?_)]
   ·have:=(hL.use n y hy).1 j (h3 n y hy hs);simp;omega
   ·rw [Nat.zero_add];cases hX:X n with | false=>rfl | true=>exact absurd (h3 n y hy hs) (hcl n y hy hX)
 ·rw [zij l 0 X s hd,zij l 0 _ s hd]
theorem y4q (hL:zgd N l h0)(hx:l[j]?=some x)(hdep:∀ i∈x.dep,X i=true)(hcl:∀ (i:Nat) (y:DOp),l[i]?=some y->X i=true->j∉y.dep){o:Operand}(ho:o∈z5x x.ins.op):ev (EX 0 l X E0) o=ev (EX 0 l (λi=>decide (i<j)) E0) o:=by cases o with | tmp t=>exact zvj hL hx hdep hcl (List.mem_append_right _ (zc8 ho)) | _=>rfl
theorem zqv (hL:zgd N l h0)(hx:l[j]?=some x)(hdep:∀ i∈x.dep,X i=true)(hcl:∀ (i:Nat) (y:DOp),l[i]?=some y->X i=true->j∉y.dep):zx (EX 0 l X E0) x.ins.guard=zx (EX 0 l (λi=>decide (i<j)) E0) x.ins.guard:=by
 cases hg:x.ins.guard with
 | none=>rfl
 | some sw =>obtain ⟨s,want⟩:=sw;simp only [zx];rw [zvj hL hx hdep hcl (by simp [z3r,hg])]
end
section
variable {P:Program}{I J:Nat->Prop}{N:Nat}[Dfs N]{σ σ0 σ1 σ':Pl}{w w0 w':World}{h h0 h':H}{e e' E0:Env}{a a':Act}{l:List DOp}{X X':Nat->Bool}{ops:Array Oper}{Q:Exit->Act->World->Prop}{j:Nat}{x:DOp}
theorem y4p (R:Rel I N σ e h a w){avs args':List AV}{vs:List Value}{f:Nat}{bor:Bool}{r av:AV}{hout rows left:H}{bm:List (Nat×Nat)}(hargs:VaL I σ (bl w) avs vs)
  (hconv:z2d h [] bor avs=some args') (hok:z1q P f args' [] r hout\/bor=false/\CallG P f args' [] r hout) (hsb:z2c hout bm=some (rows,left)) (hndb:(bm.map Prod.fst).Nodup) (hback:z2b bm r=some av) (hbor:bor=true->z45 r=true/\z56 hout=true)
  (hkeys:∀ k∈rows.map Prod.fst,k∉h.map Prod.fst) :
  Calls P f vs.toArray w λen w'=>∃ v σ1 I2,en = .returned v/\(∀ b,I b->I2 b)/\(∀ b,I2 b->I b\/w.heap.size<=b)/\Le w w'/\(∀ b,b<w.heap.size->bl w' b=bl w b)/\(∀ k,k∉rows.map Prod.fst->σ1 k=σ k)/\(∀ b∈fpH σ1 rows,w.heap.size<=b) /\
   ∀ σ':Pl,(∀ k∈(rows++h).map Prod.fst,σ' k=σ1 k)->zk I2 σ' (rows++h) w'/\Va I2 σ' (bl w') av v:=by
 let J:Nat->Prop:=λb=>I b\/(bor=true/\b∈fpH σ h)
 have hIJ:∀ b,I b->J b:=λb hb=>.inl hb
 have hin1:zk J σ [] w:=⟨trivial,nodup_nil,nodup_nil,λb hb=>(by cases hb),λb hb=>by
  rcases hb with hb | hb
  ·exact R.heap.low b hb
  ·exact (R.heap.apart b hb.2).2⟩
 have hva:=z5h (J:=J) (m:=[]) nodup_nil R.heap hIJ (λhbr b hb=>.inr ⟨hbr,hb⟩) avs args' vs hconv hargs;have hren:z1z [] σ=λ_ _=>none:=by funext k q;rfl
 have fin:Calls P f vs.toArray w λen w'=>∃ v σ1 I2,en = .returned v/\(∀ b,I b->I2 b)/\(∀ b,I2 b->I b\/w.heap.size<=b)/\zk I2 σ1 hout w'/\Va I2 σ1 (bl w') r v/\Le w w'/\(∀ b,b<w.heap.size->b∉fpH (z1z [] σ) []->bl w' b=bl w b)/\(∀ b∈fpH σ1 hout,b∈fpH (z1z [] σ) []\/w.heap.size<=b):=by
  rcases hok with hok | ⟨hbf,hok⟩
  ·refine (hok J (z1z [] σ) w vs ⟨trivial,nodup_nil,nodup_nil,λb hb=>(by cases hb),hin1.low⟩ hva).mono ?_;rintro en w' ⟨v,σ1,rfl,c1,c2,c3,c4,c5,c6⟩
   have hI1:zk I σ1 hout w'/\Va I σ1 (bl w') r v:=by
    by_cases hbr:bor=true
    ·obtain ⟨n1,n2⟩:=hbor hbr;exact ⟨zk.narrow hIJ n2 c1,Va.narrow r v n1 c2⟩
    ·have hJI:∀ b,J b->I b:=λb hb=>hb.elim id (λh=>absurd h.1 hbr);have hJ:J=I:=funext λb=>propext ⟨hJI b,hIJ b⟩;rw [hJ] at c1 c2;exact ⟨c1,c2⟩
   exact ⟨v,σ1,I,rfl,λ_ h=>h,λ_ h=>.inl h,hI1.1,hI1.2,c4,c5,c6⟩
  ·have hJI:∀ b,J b->I b:=λb hb=>hb.elim id (λh=>absurd h.1 (by rw [hbf];simp));have hJ:J=I:=funext λb=>propext ⟨hJI b,hIJ b⟩;rw [hJ] at hva;refine (hok I (z1z [] σ) w vs ⟨trivial,nodup_nil,nodup_nil,λb hb=>(by cases hb),R.heap.low⟩ hva).mono ?_;rintro en w' ⟨v,σ1,I2,rfl,d1,d2,c1,c2,c3,c4,c5,c6⟩;exact ⟨v,σ1,I2,rfl,d1,λb hb=>(d2 b hb).imp id λh=>h.resolve_left (by simp [fpH]),c1,c2,c4,c5,c6⟩
 refine fin.mono ?_;rintro en w' ⟨v,σ1,I2,rfl,d1,d2,hI1,hI2,c4,c5,c6⟩;obtain ⟨b1,b2,b3,b4,b5,b6⟩:=z4r bm hout rows left hI1 hsb hndb;have c5':∀ b,b<w.heap.size->bl w' b=bl w b:=λb hb=>c5 b hb (by simp [fpH]);have c6':∀ b∈fpH σ1 hout,w.heap.size<=b:=λb hb=>(c6 b hb).resolve_left (by simp [fpH])
 let σn:Pl:=λk q=>if k∈rows.map Prod.fst then z1z bm σ1 k q else σ k q
 have hn1:∀ k∈rows.map Prod.fst,∀ q,σn k q=z1z bm σ1 k q:=λk hk q=>if_pos hk;have hn2:∀ k∈h.map Prod.fst,∀ q,σn k q=σ k q:=λk hk q=>if_neg (λhm=>hkeys k hm hk);have hfp:fpH σn rows=fpH (z1z bm σ1) rows:=fpH.ren rows hn1;refine ⟨v,σn,I2,rfl,d1,d2,c4,c5',λk hk=>funext λq=>if_neg hk,λb hb=>?_,fun σ' hσ'=>⟨?_,?_⟩⟩
 ·rw [hfp] at hb;exact c6' b (b3 b hb).1
 ·have j1:=(zk.join b1 ((R.heap.grow c4.size c5').wide d1 (λb hb hI=>(d2 b hI).elim (R.heap.apart b hb).1 λh=>by have:=(R.heap.apart b hb).2;omega) hI1.low) (λk hk hk2=>hkeys k hk hk2) (λb hb hb2=>by have h1:=c6' b (b3 b hb).1;have h2:=(R.heap.apart b hb2).2;omega)).1
  exact j1.ren (λk hk q=>by rw [hσ' k hk])
 ·refine z69 (σ:=σ1) (λk n hn q=>?_) r av v hback hI2;have hm:n∈rows.map Prod.fst:=by rw [b6];exact zcg bm hn
  rw [hσ' n (by rw [map_append];exact mem_append_left _ hm),hn1 n hm q];exact z9a hndb hn q
theorem z4l.run (R:Rel I N σ e h a w){o:Oper}{k:IK}{f:Nat}{avs:List AV}(hc:z5l P o=some k)(hk:z4l P e k f avs):∃ vs:List Value,(execOp a.eval o).run P w = .ok (.enter f vs.toArray) w/\VaL I σ (bl w) avs vs:=by
 have hcall:(∃ args,k = .call f args/\avs=args.map (ev e))\/(∃ x args caps,k = .callv x args/\ev e x = .fn f caps/\zcf P f=true/\avs=args.map (ev e)++caps):=by cases hk with | call=>exact .inl ⟨_,rfl,rfl⟩ | callv h1 h2=>exact .inr ⟨_,_,_,rfl,h1,h2,rfl⟩
 unfold z5l at hc;split at hc
 ·cases hc;rcases hcall with ⟨_,h,_⟩ | ⟨_,_,_,h,_⟩<;>cases h
 ·split at hc
  ·cases hc;rcases hcall with ⟨_,h,_⟩ | ⟨_,_,_,h,_⟩<;>cases h
  ·split at hc
   ·cases hc;rcases hcall with ⟨_,h,_⟩ | ⟨_,_,_,h,_⟩<;>cases h
   ·split at hc
    ·split at hc
     ·cases hc;rcases hcall with ⟨_,h,_⟩ | ⟨_,_,_,h,_⟩<;>cases h
     ·cases hc
    ·split at hc
     ·cases hc;rcases hcall with ⟨_,h,_⟩ | ⟨_,_,_,h,_⟩<;>cases h
     ·cases hc
    ·rename_i g args _ ho;split at hc
     ·rename_i hf;cases hc;rcases hcall with ⟨as,h,rfl⟩ | ⟨_,_,_,h,_⟩
      ·cases h;refine ⟨args.toList.map a.eval,?_,zct R _⟩;have:(args.map a.eval)=(args.toList.map a.eval).toArray:=by apply Array.ext';rw [Array.toList_map]
       simp only [execOp,ho,resolve,Deferred.ofValue,Act.eval,Sem.run_bind,Sem.run_pure,Result.andThen_ok,invoke,Array.append_empty,Array.empty_append];rw [this,z5p hf]
      ·cases h
     ·cases hc
    ·rename_i t args _ ho;cases hc;rcases hcall with ⟨as,h,_⟩ | ⟨y,as,caps,h,hx,hf,rfl⟩
     ·cases h
     ·cases h;have hv:=zw R (.tmp t);rw [hx] at hv;obtain ⟨c,hc1,hc2⟩:=hv;refine ⟨args.toList.map a.eval++c.toList,?_,VaL.append _ _ _ _ (zct R _) hc2⟩;simp only [execOp,ho,resolve,hc1,Deferred.ofValue,Sem.run_bind,Sem.run_pure,Result.andThen_ok,invoke,Array.empty_append];rw [z5p hf];congr 2;apply Array.ext';simp
    ·split at hc
     ·cases hc;rcases hcall with ⟨_,h,_⟩ | ⟨_,_,_,h,_⟩<;>cases h
     ·split at hc
      ·cases hc;rcases hcall with ⟨_,h,_⟩ | ⟨_,_,_,h,_⟩<;>cases h
      ·cases hc
    ·split at hc
     ·cases hc;rcases hcall with ⟨_,h,_⟩ | ⟨_,_,_,h,_⟩<;>cases h
     ·cases hc
    ·split at hc
     ·cases hc;rcases hcall with ⟨_,h,_⟩ | ⟨_,_,_,h,_⟩<;>cases h
     ·cases hc
    ·cases hc
theorem z4l.congr {k:IK}{f:Nat}{avs:List AV}(h:∀ o∈z5x k,ev e o=ev e' o)(hk:z4l P e k f avs):z4l P e' k f avs:=by
 cases hk with
 | call =>rename_i args;have:args.map (ev e)=args.map (ev e'):=map_congr_left h;rw [this];exact .call
 | callv h1 h2 =>rename_i o as caps;have:as.map (ev e)=as.map (ev e'):=map_congr_left (λx hx=>h x (mem_cons_of_mem _ hx));rw [this];exact .callv (by rw [<- h o mem_cons_self];exact h1) h2
theorem y54 {o:Oper}{b:IB}(hc:z5l P o=some (.rd b)):zn7 P o=some b:=by
 unfold z5l at hc;split at hc
 ·cases hc;assumption
 ·split at hc
  ·cases hc
  ·split at hc
   ·cases hc
   ·split at hc
    ·split at hc<;>cases hc
    ·split at hc<;>cases hc
    ·split at hc<;>first | (cases hc;done) | (split at hc<;>cases hc)
    ·cases hc
    ·split at hc<;>first | (cases hc;done) | (split at hc<;>cases hc)
    ·split at hc<;>cases hc
    ·split at hc<;>cases hc
    ·cases hc
theorem y53 {o:Oper}{b:IB}(hc:z5l P o=some (.mk b)):zix P o=some b:=by
 unfold z5l at hc;split at hc
 ·cases hc
 ·split at hc
  ·cases hc;assumption
  ·split at hc
   ·cases hc
   ·split at hc
    ·split at hc<;>cases hc
    ·split at hc<;>cases hc
    ·split at hc<;>first | (cases hc;done) | (split at hc<;>cases hc)
    ·cases hc
    ·split at hc<;>first | (cases hc;done) | (split at hc<;>cases hc)
    ·split at hc<;>cases hc
    ·split at hc<;>cases hc
    ·cases hc
theorem DS.step (hL:zgd N l h0)(hst:z3w x.ins.op=false)(D:DS I N l E0 h0 σ0 w0 X a w)(hx:l[j]?=some x)(hX:X j=false)(hdep:∀ i∈x.dep,X i=true)(hcl:∀ (i:Nat) (y:DOp),l[i]?=some y->X i=true->j∉y.dep)
  (hok:DOk P (EX 0 l (λi=>decide (i<j)) E0) (HX 0 l (λi=>x.dep.contains i)++h0) x) {o:Oper} (ho:ops[j]?=some o) (hc:comp P N ops o=some x.ins) {K:Act->World->Prop}
  (hX':X' j=true) (hXX:∀ n,n≠j->X' n=X n) (hK:∀ a' w',DS I N l E0 h0 σ0 w0 X' a' w'->K a' w'):wpOp P ops Q j K a w:=by
 obtain ⟨I1,σ,r1,r2,p1,p2,p3⟩:=D.plc;have R:=p3 σ (λ_ _=>rfl);obtain ⟨g1,g2,g3⟩:=z3j hc;have hd:x.ins.dst<N:=(hL.le x (mem_of_getElem? hx)).resolve_left (by rw [hst];simp);have hdN:∀ x:DOp,l[j]?=some x->x.ins.dst<N:=λy hy=>by rw [hx] at hy;cases hy;exact hd
 have hw:∀ t,zx (EX 0 l (λi=>decide (i<j)) E0) x.ins.guard=some t->Region.wanted o (yielded ops a.tmps)=t:=λt ht=>z26 R g1 (by rw [zqv hL hx hdep hcl];exact ht);have hev:∀ y∈z5x x.ins.op,ev (EX 0 l (λi=>decide (i<j)) E0) y=ev (EX 0 l X E0) y:=λy hy=>(y4q hL hx hdep hcl hy).symm
 have hres:=zq7 (h:=HX 0 l (λi=>x.dep.contains i)++h0) R.heap.keys (λz hz=>by
  rw [mem_append] at hz ⊢;rcases hz with hz | hz
  ·obtain ⟨i,y,q1,q2,q3⟩:=(z7i l 0 _).1 hz;exact .inl ((z7i l 0 X).2 ⟨i,y,q1,by simpa using hdep i (by simpa using q2),q3⟩)
  ·exact .inr hz)
 have hresM:=zms (h:=HX 0 l (λi=>x.dep.contains i)++h0) R.heap.keys (λz hz=>by
  rw [mem_append] at hz ⊢;rcases hz with hz | hz
  ·obtain ⟨i,y,q1,q2,q3⟩:=(z7i l 0 _).1 hz;exact .inl ((z7i l 0 X).2 ⟨i,y,q1,by simpa using hdep i (by simpa using q2),q3⟩)
  ·exact .inr hz)
 have hPX:x.rows=[]->∀ σ':Pl,(∀ k,k∉PX 0 l X'->σ' k=σ k)->∀ k,k∉PX 0 l X->σ' k=σ k:=by
  intro hr σ' hσ' k hk;refine hσ' k (λhm=>hk ?_);obtain ⟨i,y,q1,q2,q3⟩:=(z5n l 0 X').1 hm;simp only [Nat.zero_add] at q2;have:i≠j:=by rintro rfl;rw [hX'] at q2;cases q2
  exact (z5n l 0 X).2 ⟨i,y,q1,by simpa [hXX i this] using q2,q3⟩
 unfold wpOp;simp only [ho];cases hok with
 | skip hg hav hr =>
  rw [hw _ hg];simp only [false_eq_true,if_false];refine hK _ _ ?_;rcases z65 g2 g3 with hdst | hdst
  ·rw [hdst];refine DS.next (σ1:=σ) hL hdN D hx hX hX' hXX p1 p2 r1 r2 (λ_ h=>h) (λ_ h=>.inl h) p3 (Le.refl _) (λ_ _=>rfl) (λ_ _=>rfl) (by simp [hr,fpH]) (fun σ' hσ'=>?_);rw [hr,hav];exact ⟨(p3 σ' (hPX hr σ' hσ')).heap,zmw _⟩
  ·
   exfalso;unfold z64 at g3;split at g3
   ·cases g3;omega
   ·rw [hdst.1] at g3;cases g3
 | rd hg hop hav hle hr =>
  rename_i b av;rw [hw _ hg];simp only [if_true];have hb:=y54 (hop ▸ g2)
  have hdst:o.dst=some x.ins.dst:=by
   rcases z65 g2 g3 with h | h
   ·exact h
   ·exfalso;unfold z64 at g3;split at g3
    ·cases g3;omega
    ·rw [h.1] at g3;cases g3
  rw [hop] at hev
  have hav':zi (ev (EX 0 l X E0)) (res (HX 0 l X++h0)) b=some av:=by rw [<- z57 b hev];exact zmr (λk p v hv=>hres k p v hv) (λk p v hv=>hresM k p v hv) hav
  obtain ⟨v,q1,q2⟩:=zib R hb hav';refine .inl ?_;unfold Oper.wp;rw [q1,Oper.upon_value,hdst];refine hK _ _ (DS.next (σ1:=σ) hL hdN D hx hX hX' hXX p1 p2 r1 r2 (λ_ h=>h) (λ_ h=>.inl h) p3 (Le.refl _) (λ_ _=>rfl) (λ_ _=>rfl) (by simp [hr,fpH]) (fun σ' hσ'=>?_));have R':=p3 σ' (hPX hr σ' hσ');obtain ⟨v',q3,q4⟩:=zib R' hb hav';rw [q1] at q3;cases q3;rw [hr];exact ⟨R'.heap,hle _ _ _ _ q4⟩
 | mk zf hg hop hav hzf =>
  rename_i b rows0;rw [hw _ hg];simp only [if_true];have hb:=y53 (hop ▸ g2)
  have hdst:o.dst=some x.ins.dst:=by
   rcases z65 g2 g3 with h | h
   ·exact h
   ·exfalso;unfold z64 at g3;split at g3
    ·cases g3;omega
    ·rw [h.1] at g3;cases g3
  rw [hop] at hev;rw [zjv b hev] at hav;obtain ⟨row,hrow0,hmk,hform⟩:=y6g hav (HX 0 l X++h0);have hrow:x.rows=[(x.ins.dst,⟨row.s,row.xs.map (zfA zf 0)⟩)]:=by rw [hzf,hrow0];rfl
  have hkey:=(z9z hL.keys hx).2 X hX;have hdk:x.ins.dst∉(HX 0 l X++h0).map Prod.fst:=hkey _ (by simp [hrow]);rw [zhf hdk] at hmk;obtain ⟨v,w',σ1,q1,q2,q3,q4,q5,q6⟩:=(zpo R hd hb hmk).run;have hren:∀ k∈(HX 0 l X++h0).map Prod.fst,∀ q,σ1 k q=σ k q:=λk hk q=>q6 k q (λe=>hdk (e ▸ hk));refine .inl ?_;unfold Oper.wp;rw [q1,Oper.upon_value,hdst];obtain ⟨z1,z2⟩:=zk.zf zf q2.heap;refine hK _ _ (DS.next (σ1:=σ1) hL hdN D hx hX hX' hXX p1 p2 r1 r2 (λ_ h=>h) (λ_ h=>.inl h) p3 q3 q4 (λk hk=>funext λq=>q6 k q (λe=>hk (by simp [hrow,e]))) (λb hb=>?_) (fun σ' hσ'=>?_))
  ·rw [hrow] at hb;have hnd:=q2.heap.nodup;rw [z1o,nodup_append] at hnd;have hb1:b∈fpR σ1 x.ins.dst row:=by rw [<- z2];simpa [fpH] using hb
   rcases q5 b (by rw [z1o];exact mem_append_left _ hb1) with h | h
   ·exact absurd rfl (hnd.2.2 b hb1 b (by rw [fpH.ren _ hren];exact h))
   ·exact h
  ·have hks:∀ k∈(x.rows++(HX 0 l X++h0)).map Prod.fst,k∉PX 0 l X':=by intro k hk;refine zjp hL.keys ?_;have hp:=(zcm l 0 j X X' x hx (by simpa using hX') (λn hn=>hXX n (by omega)) (by simpa using hX)).append_right h0;rw [append_assoc] at hp;exact ((hp.map Prod.fst).mem_iff).1 hk
   rw [hrow] at hks ⊢;refine ⟨z1.ren (λk hk q=>by rw [hσ' k (hks k (by simpa using hk))]),?_⟩;have hv:=q2.vals x.ins.dst;rw [Act.getD_put (by have:=R.size;omega),if_pos rfl] at hv;simp only [upd,if_true] at hv;have hσd:σ' x.ins.dst=σ1 x.ins.dst:=hσ' _ (hks _ (by simp));rcases hform with hf | ⟨n,hf⟩ | hf
   ·rw [hf] at hv ⊢;simpa only [Va,hσd] using hv
   ·rw [hf] at hv ⊢;simpa only [Va,hσd] using hv
   ·rw [hf] at hv ⊢;simpa only [Va,VaP,hσd] using hv
 | call hg hca hcv hok hsp hnd hbk hbor =>
  rename_i f avs args' bor r hout bm left;rw [hw _ hg];simp only [if_true]
  have hdst:o.dst=some x.ins.dst:=by
   rcases z65 g2 g3 with h | h
   ·exact h
   ·exfalso;unfold z64 at g3;split at g3
    ·cases g3;omega
    ·rw [h.1] at g3;cases g3
  obtain ⟨vs,q1,q2⟩:=z4l.run R g2 (hca.congr hev);have hcv':=z7o (λk p v hv=>hres k p v hv) avs args' hcv;have hkey:=(z9z hL.keys hx).2 X hX;refine .inl ?_;unfold Oper.wp;rw [q1,Oper.upon_enter];refine (y4p R q2 hcv' hok hsp hnd hbk hbor hkey).mono ?_;rintro en w' ⟨v,σ1,I2,rfl,d1,d2,c1,c2,c3,c4,c5⟩;simp only [hdst];refine hK _ _ (DS.next (σ1:=σ1) hL hdN D hx hX hX' hXX p1 p2 r1 r2 d1 d2 p3 c1 c2 c3 c4 (fun σ' hσ'=>c5 σ' (λk hk=>hσ' k ?_)));refine zjp hL.keys ?_;have hp:=(zcm l 0 j X X' x hx (by simpa using hX') (λn hn=>hXX n (by omega)) (by simpa using hX)).append_right h0;rw [append_assoc] at hp;exact ((hp.map Prod.fst).mem_iff).1 hk
end
def zfg (o:Oper):List Nat:=(o.after.toList.filter (Region.binds .any)).map (·.on)
def yko (l1 l2:List Nat):List Nat:=l1++l2.filter λx=>!l1.contains x
def zdi:List Oper->List (List Nat)->List (List Nat)
 | [],acc=>acc
 | o::os,acc=>zdi os (acc++[(zfg o).foldl (λr d=>yko r (d::acc.getD d [])) []])
def zav (Ds:List (List Nat)):Nat->Nat
 | 0=>0
 | n+1=>if (range n).all λd=>(Ds.getD n []).contains d then zav Ds n else n+1
def zpv (Ds:List (List Nat))(i:Nat)(o:Oper):Bool :=
 (zfg o).all (λe=>decide (e<i))&&(Ds.getD i []).all λd=>(zfg o).any λe=>d==e||(Ds.getD e []).contains d
def zk0 (Ds:List (List Nat)):Nat->List Oper->Bool
 | _,[]=>true
 | i,o::os=>zpv Ds i o&&zk0 Ds (i+1) os
def zn9 (ds:List Nat)(j:Nat)(x:Ins×List Nat):Bool :=
 x.2.all (λi=>decide (i<j))&&(z3r x.1).all λs=>!ds.contains s||x.2.any λi=>ds[i]? == some s
def zb2 (ds:List Nat):Nat->List (Ins×List Nat)->Bool
 | _,[]=>true
 | j,x::l=>zn9 ds j x&&zb2 ds (j+1) l
def zk2 (ds:List Nat)(pre:List (Ins×List Nat))(j:Nat)(x:Ins×List Nat):Bool :=
 x.2.all (λi=>decide (i<j))&&(z3r x.1).all λs=>!ds.contains s||((x.2.any λi=>ds[i]? == some s)||pre.all λy=>!(y.1.dst==s)||y.2.contains j)
def z6e (ds:List Nat)(pre:List (Ins×List Nat)):Nat->List (Ins×List Nat)->Bool
 | _,[]=>true
 | j,x::l=>zk2 ds pre j x&&z6e ds pre (j+1) l
def zu:List Nat->Bool
 | []=>true
 | x::l=>!l.contains x&&zu l
def z6h (Ds:List (List Nat)):Nat->List Ins->List (Ins×List Nat)
 | _,[]=>[]
 | i,x::l=>(x,Ds.getD i [])::z6h Ds (i+1) l
def z6a (P:Program)(N:Nat)(ops:Array Oper):List Oper->Option (List Ins)
 | []=>some []
 | o::os=>match comp P N ops o,z6a P N ops os with | some x,some l=>some (x::l) | _,_=>none
def z6y (P:Program)(N:Nat)(ops:Array Oper):Option (List (Ins×List Nat)×List Ins) :=
 match z6a P N ops ops.toList with
 | some l =>
  let Ds:=zdi ops.toList []
  let T:=zav Ds ops.size
  let pre:=z6h Ds 0 (l.take T)
  let ds:=pre.map (·.1.dst)
  if P.follows .mixedOrders&&zk0 Ds 0 ops.toList&&z6e ds pre 0 pre&&zu ds&&pre.all (λx=>z3w x.1.op||decide (x.1.dst<N))&&(range ops.size).all (λi=>decide (i<T)||(range i).all λd=>(Ds.getD i []).contains d) then some (pre,l.drop T) else none
 | none=>none
structure zbd (P:Program) (N:Nat) (ops:Array Oper) (Ds:List (List Nat)) (pre:List (Ins×List Nat)) (tail:List Ins):Prop where
 mixed:P.follows .mixedOrders=true
 comp:z1s P N ops (range' 0 ops.size) (pre.map Prod.fst++tail)
 lt:∀ i o,ops[i]?=some o->∀ e∈o.after,Region.binds .any e=true->e.on<i
 anc:∀ i o,ops[i]?=some o->∀ d∈Ds.getD i [],∃ e∈o.after,Region.binds .any e=true/\(d=e.on\/d∈Ds.getD e.on [])
 dep:∀ i x,pre[i]?=some x->x.2=Ds.getD i []
 late:∀ i,pre.length<=i->i<ops.size->∀ d,d<i->d∈Ds.getD i []
 nodup:(pre.map (·.1.dst)).Nodup
 le:∀ x∈pre,z3w x.1.op=true\/x.1.dst<N
 use:∀ (j:Nat) (x:Ins×List Nat),pre[j]?=some x->(∀ i∈x.2,i<j)/\∀ s∈z3r x.1,s∈pre.map (·.1.dst)->(∃ i∈x.2,∃ y,pre[i]?=some y/\y.1.dst=s)\/∀ (i:Nat) (y:Ins×List Nat),pre[i]?=some y->y.1.dst=s->j∈y.2
section
variable {P:Program}{I:Nat->Prop}{N:Nat}[Dfs N]{σ σ0 σ1 σ':Pl}{w w0 w':World}{h h0 h':H}{e e' E0:Env}{a a':Act}{l:List DOp}{X X':Nat->Bool}{ops:Array Oper}{Q:Exit->Act->World->Prop}{pre:List (Ins×List Nat)}{tail:List Ins}{Ds:List (List Nat)}
theorem z5q:∀ (os:List Oper) (n:Nat) (l:List Ins),(∀ j,j<os.length->ops[n+j]?=os[j]?)->z6a P N ops os=some l->z1s P N ops (range' n os.length) l
 | [],n,l,_,hc=>by simp only [z6a,Option.some.injEq] at hc;subst hc;trivial
 | o::os,n,l,ho,hc=>by
  unfold z6a at hc;split at hc
  ·rename_i x l' hx hl;cases hc;refine ⟨⟨o,by simpa using ho 0 (by simp),hx⟩,?_⟩
   exact z5q os (n+1) l' (λj hj=>by have:=ho (j+1) (by simp;omega);simp only [List.getElem?_cons_succ] at this;rw [<- this];congr 1;omega) hl
  ·cases hc
theorem z11:∀ (l:List Nat),zu l=true->l.Nodup
 | [],_=>nodup_nil
 | x::l,h=>by simp only [zu,and_eq_true,not_eq_true',contains_eq_mem,decide_eq_false_iff_not] at h;exact nodup_cons.2 ⟨h.1,z11 l h.2⟩
theorem zj1 {o:Oper}{d:Nat}:d∈zfg o↔∃ e∈o.after,Region.binds .any e=true/\d=e.on:=by
 unfold zfg;rw [mem_map];constructor
 ·rintro ⟨e,he,rfl⟩;rw [List.mem_filter] at he;exact ⟨e,by simpa using he.1,he.2,rfl⟩
 ·rintro ⟨e,he,hb,rfl⟩;exact ⟨e,List.mem_filter.2 ⟨by simpa using he,hb⟩,rfl⟩
theorem zk1:∀ (os:List Oper) (i:Nat),zk0 Ds i os=true->∀ (j:Nat) (o:Oper),os[j]?=some o->zpv Ds (i+j) o=true
 | [],_,_,_,_,h=>by simp at h
 | x::os,i,h,0,o,ho=>by simp only [getElem?_cons_zero,Option.some.injEq] at ho;subst ho;simp only [zk0,and_eq_true] at h;exact h.1
 | x::os,i,h,j+1,o,ho=>by
  simp only [zk0,and_eq_true] at h;have:=zk1 os (i+1) h.2 j o (by simpa using ho)
  rwa [show i+1+j=i+(j+1) by omega] at this
theorem zhi {ds:List Nat}:∀ (l:List (Ins×List Nat)) (i:Nat),zb2 ds i l=true->∀ (j:Nat) (x:Ins×List Nat),l[j]?=some x->zn9 ds (i+j) x=true
 | [],_,_,_,_,h=>by simp at h
 | x::os,i,h,0,o,ho=>by simp only [getElem?_cons_zero,Option.some.injEq] at ho;subst ho;simp only [zb2,and_eq_true] at h;exact h.1
 | x::os,i,h,j+1,o,ho=>by
  simp only [zb2,and_eq_true] at h;have:=zhi os (i+1) h.2 j o (by simpa using ho)
  rwa [show i+1+j=i+(j+1) by omega] at this
theorem zb3 {ds:List Nat}{pre:List (Ins×List Nat)}:∀ (l:List (Ins×List Nat)) (i:Nat),z6e ds pre i l=true->∀ (j:Nat) (x:Ins×List Nat),l[j]?=some x->zk2 ds pre (i+j) x=true
 | [],_,_,_,_,h=>by simp at h
 | x::os,i,h,0,o,ho=>by simp only [getElem?_cons_zero,Option.some.injEq] at ho;subst ho;simp only [z6e,and_eq_true] at h;exact h.1
 | x::os,i,h,j+1,o,ho=>by
  simp only [z6e,and_eq_true] at h;have:=zb3 os (i+1) h.2 j o (by simpa using ho)
  rwa [show i+1+j=i+(j+1) by omega] at this
theorem zgc:∀ (l:List Ins) (i:Nat),(z6h Ds i l).map Prod.fst=l/\∀ (j:Nat) (x:Ins×List Nat),(z6h Ds i l)[j]?=some x->x.2=Ds.getD (i+j) []
 | [],_=>⟨rfl,λj x h=>by simp [z6h] at h⟩
 | y::l,i=>by
  obtain ⟨h1,h2⟩:=zgc l (i+1);refine ⟨by simp [z6h,h1],λj x h=>?_⟩;cases j with
  | zero=>simp only [z6h,getElem?_cons_zero,Option.some.injEq] at h;subst h;rfl
  | succ j =>
   have:=h2 j x (by simpa [z6h] using h)
   rwa [show i+1+j=i+(j+1) by omega] at this
theorem z9h (hc:z6y P N ops=some (pre,tail)):∃ Ds,zbd P N ops Ds pre tail:=by
 unfold z6y at hc;cases hl:z6a P N ops ops.toList with
 | none=>simp [hl] at hc
 | some l =>
  simp only [hl] at hc;split at hc
  ·rename_i hck;simp only [Option.some.injEq,Prod.mk.injEq] at hc;obtain ⟨rfl,rfl⟩:=hc;simp only [and_eq_true] at hck;obtain ⟨⟨⟨⟨⟨k1,k2⟩,k3⟩,k4⟩,k5⟩,k6⟩:=hck;obtain ⟨z1,z2⟩:=zgc (Ds:=zdi ops.toList []) (l.take (zav (zdi ops.toList []) ops.size)) 0;have hcm:=z5q (P:=P) (N:=N) (ops:=ops) ops.toList 0 l (λj _=>by simp) hl
   have hlen:∀ (is:List Nat) (l:List Ins),z1s P N ops is l->is.length=l.length:=by
    intro is
    induction is with
    | nil=>intro l h;cases l with | nil=>rfl | cons _ _=>exact h.elim
    | cons i is ih=>intro l h;cases l with | nil=>exact h.elim | cons x l=>simp [ih l h.2]
   have hll:l.length=ops.size:=by have:=hlen _ _ hcm;simpa using this.symm
   have hat:∀ i o,ops[i]?=some o->zpv (zdi ops.toList []) i o=true:=λi o ho=>by have:=zk1 ops.toList 0 k2 i o (by simpa using ho);simpa using this
   refine ⟨zdi ops.toList [],k1,?_,?_,?_,λi x hx=>by simpa using z2 i x hx,?_,z11 _ k4,?_,?_⟩
   ·rw [z1,List.take_append_drop];simpa using hcm
   ·intro i o ho e he hb;have:=hat i o ho;simp only [zpv,and_eq_true,all_eq_true,decide_eq_true_eq] at this;exact this.1 e.on (zj1.2 ⟨e,he,hb,rfl⟩)
   ·intro i o ho d hd;have:=hat i o ho;simp only [zpv,and_eq_true,all_eq_true,List.any_eq_true,or_eq_true,beq_iff_eq,contains_eq_mem,decide_eq_true_eq] at this;obtain ⟨x,hx,hdx⟩:=this.2 d hd;obtain ⟨e,he,hb,rfl⟩:=zj1.1 hx;exact ⟨e,he,hb,hdx⟩
   ·intro i hi hi2 d hd;have:=all_eq_true.1 k6 i (mem_range.2 hi2);simp only [or_eq_true,decide_eq_true_eq,all_eq_true,mem_range,contains_eq_mem] at this
    have hpl:(z6h (zdi ops.toList []) 0 (l.take (zav (zdi ops.toList []) ops.size))).length=min (zav (zdi ops.toList []) ops.size) ops.size:=by have:=congrArg length z1;rw [length_map,length_take,hll] at this;exact this
    rcases this with h | h
    ·exfalso;rw [hpl] at hi;omega
    ·exact h d hd
   ·intro x hx;have:=all_eq_true.1 k5 x hx;simpa using this
   ·intro j x hx;have:=zb3 _ 0 k3 j x hx;simp only [Nat.zero_add,zk2,and_eq_true,all_eq_true,decide_eq_true_eq,or_eq_true,not_eq_true',contains_eq_mem,decide_eq_false_iff_not,List.any_eq_true,beq_iff_eq] at this;refine ⟨this.1,λs hs hds=>?_⟩;rcases this.2 s hs with h | ⟨i,hi,h⟩ | h
    ·exact absurd hds h
    ·rw [getElem?_map] at h;obtain ⟨y,hy,h⟩:=Option.map_eq_some_iff.1 h;exact .inl ⟨i,hi,y,hy,h⟩
    ·refine .inr λi y hy hys=>?_;rcases h y (mem_of_getElem? hy) with h | h
     ·rw [hys] at h;simp at h
     ·exact h
  ·cases hc
end
section
variable {P:Program}{I:Nat->Prop}{N:Nat}[Dfs N]{σ σ0 σ1 σ':Pl}{w w0 w':World}{h h0 h':H}{e e' E0:Env}{a a':Act}{l:List DOp}{X X':Nat->Bool}{ops:Array Oper}{Q:Exit->Act->World->Prop}{pre:List (Ins×List Nat)}{tail:List Ins}{Ds:List (List Nat)}{pro:List Nat}{listed:Array Bool}
def z7h (Ds:List (List Nat))(listed:Array Bool):Prop:=∀ i,listed.getD i false=true->∀ d∈Ds.getD i [],listed.getD d false=true
theorem z5i {i:Nat}(hi:i<listed.size):listed.getD i true=listed.getD i false:=by simp [Array.getD_eq_getD_getElem?,hi]
theorem z99 (hS:zbd P N ops Ds pre tail)(hc:z7h Ds listed){i:Nat}(hi:i∈Region.ready .any ops listed):∀ d∈Ds.getD i [],listed.getD d false=true:=by
 obtain ⟨_,o,ho,hall⟩:=mem_ready.1 hi;intro d hd;obtain ⟨e,he,hb,h⟩:=hS.anc i o ho d hd;rcases h with rfl | h
 ·exact hall e he hb
 ·exact hc e.on (hall e he hb) d h
theorem zb5 {i:Nat}(hi:i∈Region.ready .any ops listed):i<ops.size/\listed.getD i true=false:=by obtain ⟨h0,o,ho,_⟩:=mem_ready.1 hi;exact ⟨(Array.getElem?_eq_some_iff.1 ho).1,h0⟩
theorem z7m (hc:z7h Ds listed){i:Nat}(hd:∀ d∈Ds.getD i [],listed.getD d false=true):z7h Ds (listed.setIfInBounds i true):=by
 intro k hk d hdk;by_cases hki:i=k
 ·subst hki;exact getD_set_true (hd d hdk)
 ·rw [getD_set_ne false hki] at hk;exact getD_set_true (hc k hk d hdk)
theorem za3 (hS:zbd P N ops Ds pre tail){j:Nat}(hj:j<ops.size)(hl:listed.getD j true=false)(hb:∀ i,i<j->listed.getD i false=true):j∈Region.ready .any ops listed:=by
 obtain ⟨o,ho⟩:∃ o,ops[j]?=some o:=⟨ops[j],by simp [hj]⟩
 exact mem_ready.2 ⟨hl,o,ho,λe he hbd=>hb _ (hS.lt j o ho e he hbd)⟩
theorem z1s.drop:∀ (is:List Nat) (l:List Ins) (n:Nat),z1s P N ops is l->z1s P N ops (is.drop n) (l.drop n)
 | is,l,0,h=>h
 | [],[],n+1,_=>trivial
 | [],_::_,n+1,h=>h.elim
 | _::_,[],n+1,h=>h.elim
 | i::is,x::l,n+1,h=>z1s.drop is l n h.2
theorem z1s.get:∀ (n m:Nat) (l:List Ins),z1s P N ops (range' n m) l->∀ (j:Nat) (x:Ins),l[j]?=some x->∃ o,ops[n+j]?=some o/\comp P N ops o=some x
 | n,0,[],_,j,x,h=>by simp at h
 | n,0,_::_,h,_,_,_=>h.elim
 | n,m+1,[],h,_,_,_=>h.elim
 | n,m+1,y::l,hc,0,x,h=>by simp only [getElem?_cons_zero,Option.some.injEq] at h;subst h;exact hc.1
 | n,m+1,y::l,hc,j+1,x,h=>by
  have:=z1s.get (n+1) m l hc.2 j x (by simpa using h)
  rwa [show n+1+j=n+(j+1) by omega] at this
theorem zqn (hS:zbd P N ops Ds pre tail):∀ (l2:List Ins) (I:Nat->Prop) (fuel j:Nat) (listed:Array Bool) (σ:Pl) (e e':Env) (h h':H) (a:Act) (w:World),pre.length<=j->j+l2.length=ops.size->z1s P N ops (range' j l2.length) l2->listed.size=ops.size->z7h Ds listed ->
  (∀ i,i<ops.size->(listed.getD i false=true↔i<j))->l2.length<=fuel->z2g P pro l2 e h e' h'->Rel I N σ e h a w->(∀ a' w',zv P I N pro σ h w e' h' a' w'->Q .normal a' w')->wpAny P .any ops Q fuel listed a w:=by
 intro l2
 induction l2 with
 | nil =>
  intro I fuel j listed σ e e' h h' a w hpj hjn hcm hsz hcl hli hf hr R hQ
  have hnil:Region.ready .any ops listed=[]:=by
   cases hrd:Region.ready .any ops listed with
   | nil=>rfl
   | cons i is =>obtain ⟨h1,h2⟩:=zb5 (ops:=ops) (listed:=listed) (i:=i) (by rw [hrd];exact mem_cons_self);rw [z5i (by omega)] at h2;have:=(hli i h1).2 (by simp at hjn;omega);rw [this] at h2;cases h2
  have hq:Q .normal a w:=by obtain ⟨e1,h1,hg,rfl,rfl⟩:=hr.inv;exact hQ _ _ (hg I N σ a w R)
  cases fuel with
  | zero=>exact ⟨hnil,hq⟩
  | succ fuel=>exact ⟨λ_=>hq,λi hi=>by rw [hnil] at hi;cases hi⟩
 | cons x l2 ih =>
  intro I fuel j listed σ e e' h h' a w hpj hjn hcm hsz hcl hli hf hr R hQ;simp only [length_cons] at hjn hf;have hj:j<ops.size:=by omega
  have hjl:listed.getD j true=false:=by rw [z5i (by omega)];cases hx:listed.getD j false with | false=>rfl | true=>have:=(hli j hj).1 hx;omega
  have hrdj:=za3 hS hj hjl (λi hi=>(hli i (by omega)).2 hi);cases fuel with
  | zero=>omega
  | succ fuel =>
   refine ⟨λhn=>(by rw [hn] at hrdj;cases hrdj),λi hi=>?_⟩;obtain ⟨hi1,hi2⟩:=zb5 hi
   have hij:i=j:=by
    rw [z5i (by omega)] at hi2;have hge:¬ i<j:=λhlt=>by rw [(hli i hi1).2 hlt] at hi2;cases hi2
    rcases Nat.lt_or_ge j i with hlt | hle
    ·have:=z99 hS hcl hi j (hS.late i (by omega) hi1 j hlt);rw [z5i (by omega)] at hjl;rw [this] at hjl;cases hjl
    ·omega
   subst hij
   have hli':∀ k,k<ops.size->((listed.setIfInBounds i true).getD k false=true↔k<i+1):=by
    intro k hk;by_cases hki:i=k
    ·subst hki;simp [Array.getD_eq_getD_getElem?,hsz,hk]
    ·rw [getD_set_ne false hki,hli k hk];omega
   have hcl':=z7m hcl (z99 hS hcl hi);obtain ⟨⟨o,ho,hco⟩,hcm'⟩:=hcm;obtain ⟨g1,g2,g3⟩:=z3j hco;unfold wpOp;simp only [ho];obtain ⟨e0,h0,hgh,hr⟩:=hr.inv;obtain ⟨σ0,I0,i01,i02,R,p01,p02,p03,p04⟩:=(hgh I N σ a w R).out;have hQ:∀ a' w',zv P I0 N pro σ0 h0 w e' h' a' w'->Q .normal a' w':=λa' w' S=>hQ a' w' (zv.trans i01 i02 p01 p02 p03 p04 S);rcases hr with ⟨hw,hr⟩ | ⟨hw,e1,h1,hs,hr⟩
   ·rw [z26 R g1 hw];simp only [false_eq_true,if_false];exact ih I0 fuel (i+1) _ σ0 _ e' h0 h' _ w (by omega) (by omega) hcm' (by simpa using hsz) hcl' hli' (by omega) hr (R.skip (z65 g2 g3)) hQ
   ·rw [z26 R g1 hw];simp only [if_true];refine .inl (z2m.sound R g2 g3 hs λa1 w1 S=>?_);obtain ⟨σ1,I1,i1,i2,R1,p1,p2,p3,p4⟩:=S.out;exact ih I1 fuel (i+1) _ σ1 e1 e' h1 h' a1 w1 (by omega) (by omega) hcm' (by simpa using hsz) hcl' hli' (by omega) hr R1 λa' w' S'=>hQ a' w' (zv.trans i1 i2 p1 p2 p3 p4 S')
structure yc0 (P:Program) (pre:List (Ins×List Nat)) (l:List DOp) (E0:Env) (h0:H):Prop where
 is:l.map (λx=>(x.ins,x.dep))=pre
 keys:((HX 0 l (λ_=>true)++h0).map Prod.fst).Nodup
 ok:∀ (j:Nat) (x:DOp),l[j]?=some x->DOk P (EX 0 l (λi=>decide (i<j)) E0) (HX 0 l (λi=>x.dep.contains i)++h0) x
 nost:∀ x∈l,z3w x.ins.op=false
theorem zvw (hS:zbd P N ops Ds pre tail)(his:l.map (λx=>(x.ins,x.dep))=pre)(hk:((HX 0 l (λ_=>true)++h0).map Prod.fst).Nodup):zgd N l h0:=by
 subst his;have hd:z42 l=(l.map (λx=>(x.ins,x.dep))).map (·.1.dst):=by simp [z42]
 refine ⟨by rw [hd];exact hS.nodup,hk,λx hx=>?_,λj x hx=>?_⟩
 ·exact hS.le (x.ins,x.dep) (mem_map.2 ⟨x,hx,rfl⟩)
 ·obtain ⟨h1,h2⟩:=hS.use j (x.ins,x.dep) (by simp [hx]);refine ⟨h1,λs hs hds=>?_⟩;rcases h2 s hs (by rw [hd] at hds;exact hds) with ⟨i,hi,y,hy,hys⟩ | h3
  ·rw [getElem?_map] at hy;obtain ⟨z,hz,rfl⟩:=Option.map_eq_some_iff.1 hy;exact .inl ⟨i,hi,z,hz,hys⟩
  ·exact .inr λi y hy hys=>h3 i (y.ins,y.dep) (by simp [hy]) hys
theorem za9:∀ (l:List DOp) (i:Nat) (X X':Nat->Bool),(∀ n,i<=n->n<i+l.length->X n=X' n)->EX i l X E0=EX i l X' E0/\HX i l X=HX i l X'
 | [],_,_,_,_=>⟨rfl,rfl⟩
 | x::l,i,X,X',h=>by obtain ⟨h1,h2⟩:=za9 l (i+1) X X' (λn hn hn2=>h n (by omega) (by simp;omega));simp only [EX,HX,h i (Nat.le_refl _) (by simp),h1,h2,and_self]
theorem zus {U:Nat->Prop}(hS:zbd P N ops Ds pre tail)(his:l.map (λx=>(x.ins,x.dep))=pre)(hkeys:((HX 0 l (λ_=>true)++h0).map Prod.fst).Nodup)
  (hok:∀ (j:Nat) (x:DOp),U j->l[j]?=some x->DOk P (EX 0 l (λi=>decide (i<j)) E0) (HX 0 l (λi=>x.dep.contains i)++h0) x/\z3w x.ins.op=false) (hr:z2g P pro tail (EX 0 l (λ_=>true) E0) (HX 0 l (λ_=>true)++h0) e' h') (hpro:∀ k∈pro,k∉z3p l)
  (hQ:∀ a' w',zv P I N pro σ0 h0 w0 e' h' a' w'->Q .normal a' w') (hfp0:∀ σ:Pl,(∀ k,k∉z3p l->σ k=σ0 k)->fpH σ h0=fpH σ0 h0):∀ (fuel:Nat) (L:List Nat) (listed:Array Bool) (a:Act) (w:World),L.length<=fuel->(∀ i,i<ops.size->listed.getD i false=false->i∈L)->listed.size=ops.size->z7h Ds listed ->
  (∀ i,pre.length<=i->listed.getD i false=false)->(∀ i,listed.getD i false=false->U i)->DS I N l E0 h0 σ0 w0 (λi=>listed.getD i false) a w->wpAny P .any ops Q fuel listed a w:=by
 have hL:=zvw hS his hkeys;have hlen:l.length=pre.length:=by rw [<- his];simp
 have hcm:=hS.comp
 have hcl0:∀ (is:List Nat) (l:List Ins),z1s P N ops is l->is.length=l.length:=by
  intro is
  induction is with
  | nil=>intro l h;cases l with | nil=>rfl | cons _ _=>exact h.elim
  | cons i is ih=>intro l h;cases l with | nil=>exact h.elim | cons x l=>simp [ih l h.2]
 have hn:ops.size=pre.length+tail.length:=by have:=hcl0 _ _ hcm;simpa using this
 have done:∀ (fuel:Nat) (listed:Array Bool) (a:Act) (w:World),tail.length<=fuel->listed.size=ops.size->z7h Ds listed->(∀ i,i<ops.size->(listed.getD i false=true↔i<pre.length)) ->
   DS I N l E0 h0 σ0 w0 (λi=>listed.getD i false) a w->wpAny P .any ops Q fuel listed a w:=by
  intro fuel listed a w hf hsz hcl hli D;obtain ⟨I1,σ,r1,r2,p1,p2,p3⟩:=D.plc;have R:=p3 σ (λ_ _=>rfl);have hsame:=za9 (E0:=E0) l 0 (λi=>listed.getD i false) (λ_=>true) (λn _ hn2=>(hli n (by omega)).2 (by omega));rw [hsame.1,hsame.2] at R;rw [hsame.2] at p2
  have hcm2:z1s P N ops (range' pre.length tail.length) tail:=by
   have:=z1s.drop _ _ pre.length hcm;rw [drop_left' (by simp)] at this;rw [List.drop_range'] at this;have e1:ops.size - pre.length=tail.length:=by omega
   simpa [e1] using this
  refine zqn hS tail I1 fuel pre.length listed σ _ e' _ h' a w (Nat.le_refl _) (by omega) hcm2 hsz hcl hli hf hr R λa' w' S=>hQ a' w' ?_;refine zv.trans r1 (λb hb=>(r2 b hb).imp id .inr) (λk hk=>by rw [p1 k (hpro k hk)]) D.le (λb hb _=>D.same b hb) (λb hb=>?_) S;rw [z33,mem_append] at hb;rcases hb with hb | hb
  ·exact .inr (p2 b hb)
  ·rw [hfp0 σ p1] at hb;exact .inl hb
 intro fuel
 induction fuel with
 | zero =>
  intro L listed a w hf hLl hsz hcl hlate hU D
  have hall:∀ i,i<ops.size->listed.getD i false=true:=by
   intro i hi;cases hx:listed.getD i false with
   | true=>rfl
   | false=>have:=hLl i hi hx;cases L with | nil=>cases this | cons _ _=>simp at hf
  have ht:tail.length=0:=by
   rcases Nat.eq_zero_or_pos tail.length with h | h
   ·exact h
   ·have h1:=hall pre.length (by omega);rw [hlate pre.length (Nat.le_refl _)] at h1;cases h1
  exact done 0 listed a w (by omega) hsz hcl (λi hi=>⟨λ_=>by omega,λ_=>hall i hi⟩) D
 | succ fuel ih =>
  intro L listed a w hf hLl hsz hcl hlate hU D;by_cases hpall:∀ i,i<pre.length->listed.getD i false=true
  ·refine done (fuel+1) listed a w ?_ hsz hcl (λi hi=>⟨λhl=>?_,λhl=>hpall i hl⟩) D
   ·
    have hsub:∀ i∈range' pre.length tail.length,i∈L:=λi hi=>by rw [List.mem_range'_1] at hi;exact hLl i (by omega) (hlate i hi.1)
    have:=(List.nodup_range' (s:=pre.length) (n:=tail.length)).length_le_of_subset hsub;simp only [List.length_range'] at this;omega
   ·rcases Nat.lt_or_ge i pre.length with h | h
    ·exact h
    ·rw [hlate i h] at hl;cases hl
  ·
   have hex:∃ j,j<pre.length/\listed.getD j false=false/\∀ i,i<j->listed.getD i false=true:=by
    have key:∀ n,(∀ i,i<n->listed.getD i false=true)\/∃ j,j<n/\listed.getD j false=false/\∀ i,i<j->listed.getD i false=true:=by
     intro n
     induction n with
     | zero=>exact .inl λi hi=>by omega
     | succ n ihn =>
      rcases ihn with h | ⟨j,h1,h2,h3⟩
      ·cases hx:listed.getD n false with
       | true=>exact .inl λi hi=>by rcases Nat.lt_or_ge i n with h' | h'
                                    ·exact h i h'
                                    ·rw [show i=n by omega];exact hx
       | false=>exact .inr ⟨n,by omega,hx,h⟩
      ·exact .inr ⟨j,by omega,h2,h3⟩
    rcases key pre.length with h | h
    ·exact absurd h hpall
    ·exact h
   obtain ⟨j0,hj1,hj2,hj3⟩:=hex;have hrd0:=za3 hS (show j0<ops.size by omega) (by rw [z5i (by omega)];exact hj2) hj3;refine ⟨λhnil=>(by rw [hnil] at hrd0;cases hrd0),λi hi=>?_⟩;obtain ⟨hi1,hi2⟩:=zb5 hi;rw [z5i (by omega)] at hi2;have hanc:=z99 hS hcl hi
   have hip:i<pre.length:=by
    rcases Nat.lt_or_ge i pre.length with h | h
    ·exact h
    ·have:=hanc j0 (hS.late i h hi1 j0 (by omega));rw [hj2] at this;cases this
   obtain ⟨x,hx⟩:∃ x,l[i]?=some x:=⟨l[i],by simp [hlen,hip]⟩
   have hxp:pre[i]?=some (x.ins,x.dep):=by rw [<- his];simp [hx]
   have hdep:=hS.dep i _ hxp;simp only at hdep;obtain ⟨o,ho,hco⟩:=z1s.get 0 ops.size _ hcm i x.ins (by rw [List.getElem?_append_left (by simpa using hip)];simp [hxp]);simp only [Nat.zero_add] at ho;obtain ⟨hok1,hok2⟩:=hok i x (hU i hi2) hx;refine DS.step (X':=λk=>(listed.setIfInBounds i true).getD k false) hL hok2 D hx hi2 (λd hd=>hanc d (by rw [<- hdep];exact hd)) (λn y hy hl hm=>?_) hok1 ho hco ?_ (λn hn=>getD_set_ne false (Ne.symm hn)) λa' w' D'=>?_
   ·have hyp:pre[n]?=some (y.ins,y.dep):=by rw [<- his];simp [hy]
    have:=hS.dep n _ hyp;simp only at this;rw [this] at hm;rw [hcl n hl i hm] at hi2;cases hi2
   ·simp [Array.getD_eq_getD_getElem?,hsz,hi1]
   ·refine ih (L.erase i) _ a' w' ?_ (λk hk hkl=>?_) (by simpa using hsz) (z7m hcl hanc) (λk hk=>?_) (λk hk=>hU k ?_) D'
    ·have:=List.length_erase_of_mem (hLl i hi1 hi2);omega
    ·have hki:i≠k:=by rintro rfl;simp [Array.getD_eq_getD_getElem?,hsz,hi1] at hkl
     rw [getD_set_ne false hki] at hkl;exact (List.mem_erase_of_ne (Ne.symm hki)).2 (hLl k hk hkl)
    ·rw [getD_set_ne false (by omega)];exact hlate k hk
    ·by_cases hki:i=k
     ·subst hki;exact hi2
     ·rwa [getD_set_ne false hki] at hk
theorem zvx (hc:z6y P N ops=some (pre,tail))(R:Rel I N σ e h a w)(hp:yc0 P pre l (λt=>kill (λk _=>(pre.map (·.1.dst)).contains k) (e t)) (z1r h (pre.map (·.1.dst))))
  (hks:∀ k∈z3p l,k∈pre.map (·.1.dst)) (hpro:∀ k∈pro,k∉pre.map (·.1.dst))
  (hr:z2g P pro tail (EX 0 l (λ_=>true) (λt=>kill (λk _=>(pre.map (·.1.dst)).contains k) (e t))) (HX 0 l (λ_=>true)++z1r h (pre.map (·.1.dst))) e' h')
  (hQ:∀ a' w',zv P I N pro σ h w e' h' a' w'->Q .normal a' w') (id:Nat):(Code.region id ops true).wp P Q a w:=by
 obtain ⟨Ds,hS⟩:=z9h hc;refine wp_region_any hS.mixed ?_;obtain ⟨d1,d2,d3⟩:=z8q (pre.map (·.1.dst)) R.heap
 have hren:∀ σ':Pl,(∀ k,k∉z3p l->σ' k=σ k)->∀ k∈(z1r h (pre.map (·.1.dst))).map Prod.fst,∀ q,σ' k q=σ k q:=fun σ' hσ' k hk q=>by rw [hσ' k (λhm=>(d3 k hk).2 (hks k hm))]
 let w1:World:={ w with drawn:=w.drawn+1 }
 have hheap:zk I σ (z1r h (pre.map (·.1.dst))) w1:=⟨d1.ok,d1.keys,d1.nodup,d1.apart,d1.low⟩
 refine zus (I:=I) (σ0:=σ) (w0:=w1) (U:=λ_=>True) hS hp.is hp.keys (λj x _ hx=>⟨hp.ok j x hx,hp.nost x (mem_of_getElem? hx)⟩) hr (λk hk hm=>hpro k hk (hks k hm)) (λa' w' S=>hQ a' w' ?_) (fun σ' hσ'=>fpH.ren _ (hren σ' hσ')) ops.size (range ops.size) _ a w1 (by simp) (λi hi _=>mem_range.2 hi) (by simp) (λi hi=>?_) (λi _=>?_) (λ_ _=>trivial) ?_
 ·exact zv.trans (P:=P) (w1:=w1) (h1:=z1r h (pre.map (·.1.dst))) (σ1:=σ) (I1:=I) (λ_ h=>h) (λ_ h=>.inl h) (λ_ _=>rfl) ⟨Nat.le_refl _,rfl,rfl,rfl⟩ (λ_ _ _=>rfl) (λb hb=>.inl (d2 b hb)) S
 ·rw [Array.getD_eq_getD_getElem?,Array.getElem?_replicate] at hi;split at hi<;>simp at hi
 ·rw [Array.getD_eq_getD_getElem?,Array.getElem?_replicate];split<;>rfl
 ·have hX:(λi=>(Array.replicate ops.size false).getD i false)=λ_=>false:=by funext i;rw [Array.getD_eq_getD_getElem?,Array.getElem?_replicate];split<;>rfl
  rw [hX]
  have hHX:∀ (l:List DOp) (i:Nat),HX i l (λ_=>false)=[]:=by
   intro l
   induction l with | nil=>intro i;rfl | cons x l ih=>intro i;simp [HX,ih]
  have hEX:∀ (l:List DOp) (i:Nat) (E:Env),EX i l (λ_=>false) E=E:=by
   intro l
   induction l with | nil=>intro i E;rfl | cons x l ih=>intro i E;simp [EX,ih]
  have hPX:∀ k,k∉PX 0 l (λ_=>false)->k∉z3p l:=by intro k hk hm;obtain ⟨x,hx,hkx⟩:=mem_flatMap.1 hm;obtain ⟨j,hj⟩:=List.getElem?_of_mem hx;exact hk ((z5n l 0 _).2 ⟨j,x,hj,rfl,hkx⟩)
  refine ⟨Le.refl _,λ_ _=>rfl,I,σ,λ_ h=>h,λ_ h=>.inl h,λ_ _=>rfl,by rw [hHX];simp [fpH],fun σ' hσ'=>?_⟩;rw [hHX,hEX,nil_append]
  have hnk:∀ k,k∉pre.map (·.1.dst)->σ' k=σ k:=λk hk=>hσ' k (λhm=>by obtain ⟨j,x,h1,_,h3⟩:=(z5n l 0 _).1 hm;exact hk (hks k (mem_flatMap.2 ⟨x,mem_of_getElem? h1,h3⟩)))
  refine ⟨hheap.ren (λk hk q=>by rw [hnk k (d3 k hk).2]),R.size,λt=>?_,R.defers⟩;refine Va.kill (λk q hkq=>?_) _ _ (R.vals t);rw [hnk k (by simpa using hkq)]
end
section
variable {P:Program}{I:Nat->Prop}{N:Nat}[Dfs N]{σ σ0 σ1 σ':Pl}{w w0 w':World}{h h0 h1 h':H}{e e' E0 E0':Env}{a a':Act}{l l':List DOp}{X X':Nat->Bool}{ops:Array Oper}{Q:Exit->Act->World->Prop}{pre:List (Ins×List Nat)}{tail:List Ins}{Ds:List (List Nat)}{pro:List Nat}{listed:Array Bool}
theorem zii {φ:AV->AV}(hE:∀ t,E0' t=φ (E0 t)):∀ (l l':List DOp) (i:Nat),l.length=l'.length->(∀ n x x',l[n]?=some x->l'[n]?=some x'->X (i+n)=true->x'.ins.dst=x.ins.dst/\x'.av=φ x.av)->∀ t,EX i l' X E0' t=φ (EX i l X E0 t)
 | [],[],_,_,_,t=>hE t
 | [],_::_,_,h,_,_=>by cases h
 | _::_,[],_,h,_,_=>by cases h
 | x::l,x'::l',i,hl,h,t=>by
  have ih:=zii hE l l' (i+1) (by simpa using hl) (λn y y' hy hy' hX=>h (n+1) y y' (by simpa using hy) (by simpa using hy') (by rw [show i+(n+1)=i+1+n by omega];exact hX)) t;simp only [EX];cases hX:X i with
  | false=>simpa using ih
  | true =>
   obtain ⟨h1,h2⟩:=h 0 x x' rfl rfl (by simpa using hX);simp only [if_true,upd,h1,h2];split
   ·rfl
   ·exact ih
theorem zki:∀ (l:List DOp) (i:Nat) (X X':Nat->Bool),(∀ n x,l[n]?=some x->x.rows≠[]->X (i+n)=X' (i+n))->HX i l X=HX i l X'
 | [],_,_,_,_=>rfl
 | x::l,i,X,X',h=>by
  have ih:=zki l (i+1) X X' (λn y hy hr=>by
   have:=h (n+1) y (by simpa using hy) hr
   rwa [show i+(n+1)=i+1+n by omega] at this)
  simp only [HX,ih];by_cases hr:x.rows=[]
  ·simp [hr]
  ·have:=h 0 x rfl hr;rw [Nat.add_zero] at this;rw [this]
theorem z5f:∀ (l:List DOp) (i:Nat) (X:Nat->Bool),(∀ x∈l,x.rows=[])->HX i l X=[]
 | [],_,_,_=>rfl
 | x::l,i,X,h=>by simp only [HX,h x (by simp),nil_append,z5f l (i+1) X (λy hy=>h y (by simp [hy])),ite_self]
def zik (P:Program)(pro:List Nat)(x:Ins)(EA:Env)(HA:H)(φ:AV->AV)(av:AV)(h1:H):Prop :=
 ∀ (e:Env),(∀ s∈z3r x,e s=EA s)->zx e x.guard=some true/\∃ e0 h0' e1 h1',z9 P pro e HA e0 h0'/\z2m P pro e0 h0' x.dst x.op e1 h1'/\z9 P pro e1 h1' (upd (λt=>φ (e t)) x.dst av) h1
theorem y74 (hS:zbd P N ops Ds pre tail){j:Nat}{xj xj':DOp}{φ:AV->AV}(his:l.map (λx=>(x.ins,x.dep))=pre)(hkeys:((HX 0 l (λ_=>true)++h0).map Prod.fst).Nodup)
  (his':l'.map (λx=>(x.ins,x.dep))=pre) (hkeys':(h1.map Prod.fst).Nodup) (hj:l[j]?=some xj) (hj':l'[j]?=some xj')
  (hok:∀ (i:Nat) (x:DOp),i≠j->j∉x.dep->l[i]?=some x->DOk P (EX 0 l (λk=>decide (k<i)) E0) (HX 0 l (λk=>x.dep.contains k)++h0) x/\z3w x.ins.op=false)
  (hok':∀ (i:Nat) (x:DOp),i≠j->i∉xj.dep->l'[i]?=some x->DOk P (EX 0 l' (λk=>decide (k<i)) E0') (HX 0 l' (λk=>x.dep.contains k)++h1) x/\z3w x.ins.op=false)
  (hav:∀ (i:Nat) (x x':DOp),i≠j->j∉x.dep->l[i]?=some x->l'[i]?=some x'->x'.av=φ x.av)
  (hrow:∀ (i:Nat) (x:DOp),l[i]?=some x->x.rows≠[]->i∈xj.dep\/j∈x.dep) (hrow':∀ x∈l',x.rows=[]) (hE:∀ t,E0' t=φ (E0 t))
  (hT:zik P pro xj.ins (EX 0 l (λk=>decide (k<j)) E0) (HX 0 l (λk=>xj.dep.contains k)++h0) φ xj'.av h1)
  (hr:z2g P pro tail (EX 0 l' (λ_=>true) E0') (HX 0 l' (λ_=>true)++h1) e' h') (hpro:∀ k∈pro,k∉z3p l)
  (hQ:∀ a' w',zv P I N pro σ0 h0 w0 e' h' a' w'->Q .normal a' w') (hfp0:∀ σ:Pl,(∀ k,k∉z3p l->σ k=σ0 k)->fpH σ h0=fpH σ0 h0):∀ (fuel:Nat) (L:List Nat) (listed:Array Bool) (a:Act) (w:World),L.length<=fuel->(∀ i,i<ops.size->listed.getD i false=false->i∈L)->listed.size=ops.size->z7h Ds listed ->
  (∀ i,pre.length<=i->listed.getD i false=false)->listed.getD j false=false->DS I N l E0 h0 σ0 w0 (λi=>listed.getD i false) a w->wpAny P .any ops Q fuel listed a w:=by
 have hL:=zvw hS his hkeys;have hlen:l.length=pre.length:=by rw [<- his];simp
 have hlen':l'.length=pre.length:=by rw [<- his'];simp
 have hjp:j<pre.length:=by rw [<- hlen];exact (List.getElem?_eq_some_iff.1 hj).1
 have hcm:=hS.comp
 have hcl0:∀ (is:List Nat) (l:List Ins),z1s P N ops is l->is.length=l.length:=by
  intro is
  induction is with
  | nil=>intro l h;cases l with | nil=>rfl | cons _ _=>exact h.elim
  | cons i is ih=>intro l h;cases l with | nil=>exact h.elim | cons x l=>simp [ih l h.2]
 have hn:ops.size=pre.length+tail.length:=by have:=hcl0 _ _ hcm;simpa using this
 have hkeys2:((HX 0 l' (λ_=>true)++h1).map Prod.fst).Nodup:=by rw [z5f l' 0 _ hrow'];exact hkeys'
 have hL':=zvw hS his' hkeys2
 have same:∀ (i:Nat) (x x':DOp),l[i]?=some x->l'[i]?=some x'->x'.ins=x.ins/\x'.dep=x.dep:=λi x x' hx hx'=>by
  have e1:pre[i]?=some (x.ins,x.dep):=by rw [<- his];simp [hx]
  have e2:pre[i]?=some (x'.ins,x'.dep):=by rw [<- his'];simp [hx']
  rw [e1] at e2;simp only [Option.some.injEq,Prod.mk.injEq] at e2;exact ⟨e2.1.symm,e2.2.symm⟩
 obtain ⟨sj1,sj2⟩:=same j xj xj' hj hj'
 have hak:z3p l'=[]:=by unfold z3p;rw [List.flatMap_eq_nil_iff];intro x hx;rw [hrow' x hx];rfl
 intro fuel
 induction fuel with
 | zero =>intro L listed a w hf hLl hsz hcl hlate hjl D;have:=hLl j (by omega) hjl;cases L with | nil=>cases this | cons _ _=>simp at hf
 | succ fuel ih =>
  intro L listed a w hf hLl hsz hcl hlate hjl D
  have hex:∃ j0,j0<pre.length/\listed.getD j0 false=false/\∀ i,i<j0->listed.getD i false=true:=by
   have key:∀ n,(∀ i,i<n->listed.getD i false=true)\/∃ j,j<n/\listed.getD j false=false/\∀ i,i<j->listed.getD i false=true:=by
    intro n
    induction n with
    | zero=>exact .inl λi hi=>by omega
    | succ n ihn =>
     rcases ihn with h | ⟨j,h1,h2,h3⟩
     ·cases hx:listed.getD n false with
      | true=>exact .inl λi hi=>by rcases Nat.lt_or_ge i n with h' | h'
                                   ·exact h i h'
                                   ·rw [show i=n by omega];exact hx
      | false=>exact .inr ⟨n,by omega,hx,h⟩
     ·exact .inr ⟨j,by omega,h2,h3⟩
   rcases key pre.length with h | h
   ·rw [h j hjp] at hjl;cases hjl
   ·exact h
  obtain ⟨j0,hj1,hj2,hj3⟩:=hex;have hrd0:=za3 hS (show j0<ops.size by omega) (by rw [z5i (by omega)];exact hj2) hj3;refine ⟨λhnil=>(by rw [hnil] at hrd0;cases hrd0),λi hi=>?_⟩;obtain ⟨hi1,hi2⟩:=zb5 hi;rw [z5i (by omega)] at hi2;have hanc:=z99 hS hcl hi
  have hip:i<pre.length:=by
   rcases Nat.lt_or_ge i pre.length with h | h
   ·exact h
   ·have:=hanc j0 (hS.late i h hi1 j0 (by omega));rw [hj2] at this;cases this
  obtain ⟨x,hx⟩:∃ x,l[i]?=some x:=⟨l[i],by simp [hlen,hip]⟩
  have hxp:pre[i]?=some (x.ins,x.dep):=by rw [<- his];simp [hx]
  have hdep:=hS.dep i _ hxp;simp only at hdep;obtain ⟨o,ho,hco⟩:=z1s.get 0 ops.size _ hcm i x.ins (by rw [List.getElem?_append_left (by simpa using hip)];simp [hxp]);simp only [Nat.zero_add] at ho;by_cases hij:i=j
  ·subst hij;rw [hj] at hx;cases hx;obtain ⟨I1,σ,r1,r2,p1,p2,p3⟩:=D.plc;have R:=p3 σ (λ_ _=>rfl);have hXd:∀ d∈xj.dep,listed.getD d false=true:=λd hd=>hanc d (by rw [<- hdep];exact hd)
   have hnd:∀ (n:Nat) (y:DOp),l[n]?=some y->listed.getD n false=true->i∉y.dep:=λn y hy hl hm=>by
    have hyp:pre[n]?=some (y.ins,y.dep):=by rw [<- his];simp [hy]
    have:=hS.dep n _ hyp;simp only at this;rw [this] at hm;rw [hcl n hl i hm] at hi2;cases hi2
   have hH:HX 0 l (λk=>listed.getD k false)=HX 0 l (λk=>xj.dep.contains k):=zki l 0 _ _ (λn y hy hr=>by
    simp only [Nat.zero_add];rcases hrow n y hy hr with h | h
    ·rw [hXd n h];simpa using h
    ·cases hl:listed.getD n false with
     | true=>exact absurd h (hnd n y hy hl)
     | false =>
      have:n∉xj.dep:=λhm=>by rw [hXd n hm] at hl;cases hl
      simpa using this)
   rw [hH] at R;obtain ⟨hw,e0,h0',e1,h1',g1,hs,g2⟩:=hT (EX 0 l (λk=>listed.getD k false) E0) (λs hs=>zvj hL hj hXd (λn y hy hl=>hnd n y hy hl) hs);obtain ⟨c1,c2,c3⟩:=z3j hco;unfold wpOp;simp only [ho,z26 R c1 hw,if_true];obtain ⟨σa,Ia,ia1,ia2,Ra,pa1,pa2,pa3,pa4⟩:=(g1 I1 N σ a w R).out;refine .inl (z2m.sound Ra c2 c3 hs λa1 w1 S=>?_);obtain ⟨σb,Ib,ib1,ib2,Rb,pb1,pb2,pb3,pb4⟩:=S.out
   have S2:zv P I1 N pro σ (HX 0 l (λk=>xj.dep.contains k)++h0) w (upd (λt=>φ (EX 0 l (λk=>listed.getD k false) E0 t)) xj.ins.dst xj'.av) h1 a1 w1 :=
    zv.trans ia1 ia2 pa1 pa2 pa3 pa4 (zv.trans ib1 ib2 pb1 pb2 pb3 pb4 (g2 Ib N σb a1 w1 Rb))
   obtain ⟨σ',I',i1,i2,R',q1,q2,q3,q4⟩:=S2.out;have hset:∀ n,n≠i->(listed.setIfInBounds i true).getD n false=listed.getD n false:=λn hn=>getD_set_ne false (Ne.symm hn);have hseti:(listed.setIfInBounds i true).getD i false=true:=by simp [Array.getD_eq_getD_getElem?,hsz,hi1]
   have hEnv:EX 0 l' (λk=>(listed.setIfInBounds i true).getD k false) E0'=upd (λt=>φ (EX 0 l (λk=>listed.getD k false) E0 t)) xj.ins.dst xj'.av:=by
    rw [zih (E0:=E0') l' 0 i (λk=>listed.getD k false) _ xj' hL'.nodup hj' (by simpa using hseti) (λn hn=>hset n (by omega)) (by simpa using hi2),sj1]
    have:(λt=>φ (EX 0 l (λk=>listed.getD k false) E0 t))=EX 0 l' (λk=>listed.getD k false) E0':=by
     funext t
     exact (zii hE l l' 0 (by rw [hlen,hlen']) (λn y y' hy hy' hl=>by rw [Nat.zero_add] at hl;refine ⟨by rw [(same n y y' hy hy').1],hav n y y' (λe=>by subst e;rw [hi2] at hl;cases hl) (hnd n y hy hl) hy hy'⟩) t).symm
    rw [this]
   have hpk:∀ k,k∉PX 0 l' (λk=>(listed.setIfInBounds i true).getD k false):=λk hk=>by obtain ⟨n,y,h1,_,h3⟩:=(z5n l' 0 _).1 hk;rw [hrow' y (mem_of_getElem? h1)] at h3;cases h3
   have hfpw:∀ b∈fpH σ (HX 0 l (λk=>xj.dep.contains k)++h0),b∈fpH σ0 h0\/w0.heap.size<=b:=λb hb=>by
    rw [z33,mem_append] at hb;rcases hb with hb | hb
    ·rw [<- hH] at hb;exact .inr (p2 b hb)
    ·rw [hfp0 σ p1] at hb;exact .inl hb
   have hle:=D.le.size
   refine zus (I:=I') (σ0:=σ') (w0:=w1) (U:=λn=>n≠i/\n∉xj.dep) hS his' hkeys2 (λn y hU hy=>hok' n y hU.1 hU.2 hy) hr (by rw [hak];exact λ_ _=>not_mem_nil) (λa' w' S=>hQ a' w' ?_) (fun σ2 hσ2=>by have:σ2=σ':=funext λk=>hσ2 k (by rw [hak];exact not_mem_nil);rw [this]) fuel (L.erase i) _ a1 w1 ?_ (λk hk hkl=>?_) (by simpa using hsz) (z7m hcl hanc) (λk hk=>?_) (λk hk=>?_) ?_
   ·refine zv.trans (σ1:=σ') (w1:=w1) (h1:=h1) (λb hb=>i1 b (r1 b hb)) (λb hb=>?_) (λk hk=>?_) (D.le.trans q2) (λb hb hnb=>?_) (λb hb=>?_) S
    ·rcases i2 b hb with h | h | h
     ·exact (r2 b h).imp id .inr
     ·exact .inr (hfpw b h)
     ·exact .inr (.inr (by omega))
    ·rw [q1 k hk,p1 k (hpro k hk)]
    ·rw [q3 b (by omega) (λhm=>(hfpw b hm).elim hnb (λh=>by omega)),D.same b hb]
    ·rcases q4 b hb with h | h
     ·exact hfpw b h
     ·exact .inr (by omega)
   ·have:=List.length_erase_of_mem (hLl i hi1 hi2);omega
   ·have hki:i≠k:=by rintro rfl;rw [hseti] at hkl;cases hkl
    rw [hset k (Ne.symm hki)] at hkl;exact (List.mem_erase_of_ne (Ne.symm hki)).2 (hLl k hk hkl)
   ·rw [hset k (by omega)];exact hlate k hk
   ·refine ⟨(λe=>by subst e;rw [hseti] at hk;cases hk),λhm=>?_⟩;by_cases hki:k=i
    ·subst hki;rw [hseti] at hk;cases hk
    ·rw [hset k hki,hXd k hm] at hk;cases hk
   ·refine ⟨Le.refl _,λ_ _=>rfl,I',σ',λ_ h=>h,λ_ h=>.inl h,λ_ _=>rfl,by rw [z5f l' 0 _ hrow'];simp [fpH],fun σ2 hσ2=>?_⟩;have:σ2=σ':=funext λk=>hσ2 k (hpk k);subst this;rw [hEnv,z5f l' 0 _ hrow',nil_append];exact R'
  ·have hjd:j∉x.dep:=λhm=>by have:=hanc j (by rw [<- hdep];exact hm);rw [hjl] at this;cases this
   obtain ⟨hok1,hok2⟩:=hok i x hij hjd hx;refine DS.step (X':=λk=>(listed.setIfInBounds i true).getD k false) hL hok2 D hx hi2 (λd hd=>hanc d (by rw [<- hdep];exact hd)) (λn y hy hl hm=>?_) hok1 ho hco ?_ (λn hn=>getD_set_ne false (Ne.symm hn)) λa' w' D'=>?_
   ·have hyp:pre[n]?=some (y.ins,y.dep):=by rw [<- his];simp [hy]
    have:=hS.dep n _ hyp;simp only at this;rw [this] at hm;rw [hcl n hl i hm] at hi2;cases hi2
   ·simp [Array.getD_eq_getD_getElem?,hsz,hi1]
   ·refine ih (L.erase i) _ a' w' ?_ (λk hk hkl=>?_) (by simpa using hsz) (z7m hcl hanc) (λk hk=>?_) ?_ D'
    ·have:=List.length_erase_of_mem (hLl i hi1 hi2);omega
    ·have hki:i≠k:=by rintro rfl;simp [Array.getD_eq_getD_getElem?,hsz,hi1] at hkl
     rw [getD_set_ne false hki] at hkl;exact (List.mem_erase_of_ne (Ne.symm hki)).2 (hLl k hk hkl)
    ·rw [getD_set_ne false (by omega)];exact hlate k hk
    ·rw [getD_set_ne false hij];exact hjl
structure zr5 (P:Program) (pro:List Nat) (pre:List (Ins×List Nat)) (tail:List Ins) (ds:List Nat) (E0:Env) (h0:H) (e':Env) (h':H):Prop where
 ex:∃ (l l':List DOp) (j:Nat) (xj xj':DOp) (φ:AV->AV) (E0':Env) (h1:H),l.map (λx=>(x.ins,x.dep))=pre/\((HX 0 l (λ_=>true)++h0).map Prod.fst).Nodup/\l'.map (λx=>(x.ins,x.dep))=pre/\(h1.map Prod.fst).Nodup/\l[j]?=some xj/\l'[j]?=some xj' /\
  (∀ (i:Nat) (x:DOp),i≠j->j∉x.dep->l[i]?=some x->DOk P (EX 0 l (λk=>decide (k<i)) E0) (HX 0 l (λk=>x.dep.contains k)++h0) x/\z3w x.ins.op=false) /\
  (∀ (i:Nat) (x:DOp),i≠j->i∉xj.dep->l'[i]?=some x->DOk P (EX 0 l' (λk=>decide (k<i)) E0') (HX 0 l' (λk=>x.dep.contains k)++h1) x/\z3w x.ins.op=false) /\
  (∀ (i:Nat) (x x':DOp),i≠j->j∉x.dep->l[i]?=some x->l'[i]?=some x'->x'.av=φ x.av)/\(∀ (i:Nat) (x:DOp),l[i]?=some x->x.rows≠[]->i∈xj.dep\/j∈x.dep)/\(∀ x∈l',x.rows=[])/\(∀ t,E0' t=φ (E0 t)) /\
  zik P pro xj.ins (EX 0 l (λk=>decide (k<j)) E0) (HX 0 l (λk=>xj.dep.contains k)++h0) φ xj'.av h1/\(∀ k∈z3p l,k∈ds) /\
  z2g P pro tail (EX 0 l' (λ_=>true) E0') (HX 0 l' (λ_=>true)++h1) e' h'
theorem zxd (hc:z6y P N ops=some (pre,tail))(R:Rel I N σ e h a w)(hp:zr5 P pro pre tail (pre.map (·.1.dst)) (λt=>kill (λk _=>(pre.map (·.1.dst)).contains k) (e t)) (z1r h (pre.map (·.1.dst))) e' h')(hpro:∀ k∈pro,k∉pre.map (·.1.dst))
  (hQ:∀ a' w',zv P I N pro σ h w e' h' a' w'->Q .normal a' w') (id:Nat):(Code.region id ops true).wp P Q a w:=by
 obtain ⟨l,l',j,xj,xj',φ,E0',h1,t1,t2,t3,t4,t5,t6,t7,t8,t9,t10,t11,t12,t13,hks,hr⟩:=hp.ex;obtain ⟨Ds,hS⟩:=z9h hc;refine wp_region_any hS.mixed ?_;obtain ⟨d1,d2,d3⟩:=z8q (pre.map (·.1.dst)) R.heap
 have hren:∀ σ':Pl,(∀ k,k∉z3p l->σ' k=σ k)->∀ k∈(z1r h (pre.map (·.1.dst))).map Prod.fst,∀ q,σ' k q=σ k q:=fun σ' hσ' k hk q=>by rw [hσ' k (λhm=>(d3 k hk).2 (hks k hm))]
 let w1:World:={ w with drawn:=w.drawn+1 }
 have hheap:zk I σ (z1r h (pre.map (·.1.dst))) w1:=⟨d1.ok,d1.keys,d1.nodup,d1.apart,d1.low⟩
 refine y74 (I:=I) (σ0:=σ) (w0:=w1) hS t1 t2 t3 t4 t5 t6 t7 t8 t9 t10 t11 t12 t13 hr (λk hk hm=>hpro k hk (hks k hm)) (λa' w' S=>hQ a' w' ?_) (fun σ' hσ'=>fpH.ren _ (hren σ' hσ')) ops.size (range ops.size) _ a w1 (by simp) (λi hi _=>mem_range.2 hi) (by simp) (λi hi=>?_) (λi _=>?_) ?_ ?_
 ·exact zv.trans (P:=P) (w1:=w1) (h1:=z1r h (pre.map (·.1.dst))) (σ1:=σ) (I1:=I) (λ_ h=>h) (λ_ h=>.inl h) (λ_ _=>rfl) ⟨Nat.le_refl _,rfl,rfl,rfl⟩ (λ_ _ _=>rfl) (λb hb=>.inl (d2 b hb)) S
 ·rw [Array.getD_eq_getD_getElem?,Array.getElem?_replicate] at hi;split at hi<;>simp at hi
 ·rw [Array.getD_eq_getD_getElem?,Array.getElem?_replicate];split<;>rfl
 ·rw [Array.getD_eq_getD_getElem?,Array.getElem?_replicate];split<;>rfl
 ·have hX:(λi=>(Array.replicate ops.size false).getD i false)=λ_=>false:=by funext i;rw [Array.getD_eq_getD_getElem?,Array.getElem?_replicate];split<;>rfl
  rw [hX]
  have hHX:∀ (l:List DOp) (i:Nat),HX i l (λ_=>false)=[]:=by
   intro l
   induction l with | nil=>intro i;rfl | cons x l ih=>intro i;simp [HX,ih]
  have hEX:∀ (l:List DOp) (i:Nat) (E:Env),EX i l (λ_=>false) E=E:=by
   intro l
   induction l with | nil=>intro i E;rfl | cons x l ih=>intro i E;simp [EX,ih]
  refine ⟨Le.refl _,λ_ _=>rfl,I,σ,λ_ h=>h,λ_ h=>.inl h,λ_ _=>rfl,by rw [hHX];simp [fpH],fun σ' hσ'=>?_⟩;rw [hHX,hEX,nil_append]
  have hnk:∀ k,k∉pre.map (·.1.dst)->σ' k=σ k:=λk hk=>hσ' k (λhm=>by obtain ⟨j,x,h1,_,h3⟩:=(z5n l 0 _).1 hm;exact hk (hks k (mem_flatMap.2 ⟨x,mem_of_getElem? h1,h3⟩)))
  refine ⟨hheap.ren (λk hk q=>by rw [hnk k (d3 k hk).2]),R.size,λt=>?_,R.defers⟩;refine Va.kill (λk q hkq=>?_) _ _ (R.vals t);rw [hnk k (by simpa using hkq)]
end
def z5j (P:Program)(pro:List Nat)(pre:List (Ins×List Nat))(F:Env->H->Prop)(FX:Value->Prop):Nat->List Nat->Env->H->Prop
 | 0,D,e,h=>(∀ i,i<pre.length->i∈D)/\F e h
 | n+1,D,e,h=>((∀ i,i<pre.length->i∈D)/\F e h)\/((∃ i,i<pre.length/\i∉D)/\∀ i x,pre[i]?=some x->i∉D->(∀ d∈x.2,d∈D) ->
   ∃ e0 h0,z9 P pro e h e0 h0/\((zx e0 x.1.guard=some false/\z5j P pro pre F FX n (i::D) (upd e0 x.1.dst (z4k x.1.op)) h0) \/
    (zx e0 x.1.guard=some true/\∃ e1 h1,z2m P pro e0 h0 x.1.dst x.1.op e1 h1/\z5j P pro pre F FX n (i::D) e1 h1) \/
    (zx e0 x.1.guard=some true/\∃ u hx,z7j P e0 h0 x.1.op u hx/\FX u)))
section
variable {P:Program}{N:Nat}[Dfs N]{h':H}{e':Env}{ops:Array Oper}{Q:Exit->Act->World->Prop}{pre:List (Ins×List Nat)}{tail:List Ins}{Ds:List (List Nat)}{pro:List Nat}{F:Env->H->Prop}{FX:Value->Prop}
theorem zmj (D:List Nat):∀ n,(∀ i,i<n->i∈D)\/∃ j,j<n/\j∉D/\∀ i,i<j->i∈D
 | 0=>.inl λi hi=>by omega
 | n+1=>by
  rcases zmj D n with h | ⟨j,h1,h2,h3⟩
  ·by_cases hn:n∈D
   ·exact .inl λi hi=>by
     rcases Nat.lt_or_ge i n with h' | h'
     ·exact h i h'
     ·rw [show i=n by omega];exact hn
   ·exact .inr ⟨n,by omega,hn,h⟩
  ·exact .inr ⟨j,by omega,h2,h3⟩
theorem zps {D:List Nat}{m:Nat}(hn:D.Nodup)(hb:∀ i∈D,i<m):D.length<=m:=by have:=hn.length_le_of_subset (l₂:=range m) λi hi=>mem_range.2 (hb i hi);simpa using this
theorem ya1 (hS:zbd P N ops Ds pre tail)(hF:∀ e1 h1,F e1 h1->z2g P pro tail e1 h1 e' h'):∀ (n fuel:Nat) (D:List Nat) (listed:Array Bool) (I:Nat->Prop) (σ:Pl) (e:Env) (h:H) (a:Act) (w:World),
  z5j P pro pre F FX n D e h->listed.size=ops.size->z7h Ds listed->(∀ i,listed.getD i false=true↔i∈D)->(∀ i∈D,i<pre.length)->D.Nodup->ops.size<=fuel+D.length->Rel I N σ e h a w ->
  ((∃ e1 h1,F e1 h1)->∀ a' w',zv P I N pro σ h w e' h' a' w'->Q .normal a' w')->(∀ u,FX u->∀ a' w',zv P I N pro σ h w nE [] a' w'->Q (.panic [{ v:=u,recovered:=false }]) a' w')->wpAny P .any ops Q fuel listed a w:=by
 have hcm:=hS.comp
 have hlen:ops.size=pre.length+tail.length:=by
  have key:∀ (is:List Nat) (l:List Ins),z1s P N ops is l->is.length=l.length:=by
   intro is
   induction is with
   | nil=>intro l h;cases l with | nil=>rfl | cons x l=>exact h.elim
   | cons i is ih=>intro l h;cases l with | nil=>exact h.elim | cons x l=>simp [ih l h.2]
  have:=key _ _ hcm;simpa using this
 have fin:∀ (fuel:Nat) (D:List Nat) (listed:Array Bool) (I:Nat->Prop) (σ:Pl) (e:Env) (h:H) (a:Act) (w:World),(∀ i,i<pre.length->i∈D)->F e h->listed.size=ops.size->z7h Ds listed->(∀ i,listed.getD i false=true↔i∈D)->(∀ i∈D,i<pre.length)->D.Nodup->ops.size<=fuel+D.length->Rel I N σ e h a w ->
   (∀ a' w',zv P I N pro σ h w e' h' a' w'->Q .normal a' w')->wpAny P .any ops Q fuel listed a w:=by
  intro fuel D listed I σ e h a w hall hf hsz hcl hli hb hn hfu R hQ;have hd:=zps hn hb;refine zqn hS tail I fuel pre.length listed σ e e' h h' a w (Nat.le_refl _) (by omega) ?_ hsz hcl (λi _=>(hli i).trans ⟨λhi=>hb i hi,λhi=>hall i hi⟩) (by omega) (hF e h hf) R hQ;have:=z1s.drop _ _ pre.length hcm;rw [drop_left' (by simp)] at this;rw [List.drop_range'] at this;have e1:0+pre.length * 1=pre.length:=by omega
  have e2:ops.size - pre.length=tail.length:=by omega
  rw [e1,e2] at this;exact this
 intro n
 induction n with
 | zero =>intro fuel D listed I σ e h a w hr hsz hcl hli hb hn hfu R hQ hX;exact fin fuel D listed I σ e h a w hr.1 hr.2 hsz hcl hli hb hn hfu R (hQ ⟨_,_,hr.2⟩)
 | succ n ih =>
  intro fuel D listed I σ e h a w hr hsz hcl hli hb hn hfu R hQ hX;rcases hr with ⟨h1,h2⟩ | ⟨⟨i0,hi0,hi0D⟩,hall⟩
  ·exact fin fuel D listed I σ e h a w h1 h2 hsz hcl hli hb hn hfu R (hQ ⟨_,_,h2⟩)
  ·obtain ⟨j,hj1,hj2,hj3⟩:∃ j,j<pre.length/\j∉D/\∀ i,i<j->i∈D:=by
    rcases zmj D pre.length with h | h
    ·exact absurd (h i0 hi0) hi0D
    ·exact h
   have hjl:listed.getD j false=false:=by cases hx:listed.getD j false with | false=>rfl | true=>exact absurd ((hli j).1 hx) hj2
   have hrd:=za3 hS (show j<ops.size by omega) (by rw [z5i (by omega)];exact hjl) (λi hi=>(hli i).2 (hj3 i hi))
   have hDl:D.length<pre.length:=by
    have:=zps (D:=j::D) (m:=pre.length) (nodup_cons.2 ⟨hj2,hn⟩) (λi hi=>by
     rcases mem_cons.1 hi with rfl | hi
     ·exact hj1
     ·exact hb i hi)
    simp only [length_cons] at this;omega
   cases fuel with
   | zero=>omega
   | succ fuel =>
    refine ⟨λhnil=>(by rw [hnil] at hrd;cases hrd),λi hi=>?_⟩;obtain ⟨hi1,hi2⟩:=zb5 hi;rw [z5i (by omega)] at hi2;have hanc:=z99 hS hcl hi;have hiD:i∉D:=λhm=>by rw [(hli i).2 hm] at hi2;cases hi2
    have hip:i<pre.length:=by
     rcases Nat.lt_or_ge i pre.length with h | h
     ·exact h
     ·have:=hanc j (hS.late i h hi1 j (by omega));rw [hjl] at this;cases this
    obtain ⟨x,hx⟩:∃ x,pre[i]?=some x:=⟨pre[i],by simp [hip]⟩
    have hdep:=hS.dep i x hx;obtain ⟨o,ho,hco⟩:=z1s.get 0 ops.size _ hcm i x.1 (by rw [List.getElem?_append_left (by simpa using hip)];simp [hx]);simp only [Nat.zero_add] at ho;obtain ⟨g1,g2,g3⟩:=z3j hco;obtain ⟨e0,h0,hgh,hr⟩:=hall i x hx hiD (λd hd=>(hli d).1 (hanc d (by rw [<- hdep];exact hd)));obtain ⟨σ0,I0,i01,i02,R0,p01,p02,p03,p04⟩:=(hgh I N σ a w R).out;have hQ0:(∃ e1 h1,F e1 h1)->∀ a' w',zv P I0 N pro σ0 h0 w e' h' a' w'->Q .normal a' w':=λhf a' w' S=>hQ hf a' w' (zv.trans i01 i02 p01 p02 p03 p04 S);have hX0:∀ u,FX u->∀ a' w',zv P I0 N pro σ0 h0 w nE [] a' w'->Q (.panic [{ v:=u,recovered:=false }]) a' w':=λu hu a' w' S=>hX u hu a' w' (zv.trans i01 i02 p01 p02 p03 p04 S);have hcl':=z7m hcl hanc
    have hli':∀ k,(listed.setIfInBounds i true).getD k false=true↔k∈i::D:=λk=>by
     by_cases hki:i=k
     ·subst hki;simp [Array.getD_eq_getD_getElem?,hsz,hi1]
     ·rw [getD_set_ne false hki,hli k,mem_cons];exact ⟨.inr,λh=>h.resolve_left (λe=>hki e.symm)⟩
    have hb':∀ k∈i::D,k<pre.length:=λk hk=>by
     rcases mem_cons.1 hk with rfl | hk
     ·exact hip
     ·exact hb k hk
    have hn':(i::D).Nodup:=nodup_cons.2 ⟨hiD,hn⟩;have hfu':ops.size<=fuel+(i::D).length:=by simp only [length_cons];omega
    unfold wpOp;simp only [ho];rcases hr with ⟨hw,hr⟩ | ⟨hw,e1,h1,hs,hr⟩ | ⟨hw,u,hx1,hp,hu⟩
    ·rw [z26 R0 g1 hw];simp only [false_eq_true,if_false];exact ih fuel (i::D) _ I0 σ0 _ h0 _ w hr (by simpa using hsz) hcl' hli' hb' hn' hfu' (R0.skip (z65 g2 g3)) hQ0 hX0
    ·rw [z26 R0 g1 hw];simp only [if_true];refine .inl (z2m.sound R0 g2 g3 hs λa1 w1 S=>?_);obtain ⟨σ1,I1,i1,i2,R1,p1,p2,p3,p4⟩:=S.out;exact ih fuel (i::D) _ I1 σ1 e1 h1 a1 w1 hr (by simpa using hsz) hcl' hli' hb' hn' hfu' R1 (λhf a' w' S'=>hQ0 hf a' w' (zv.trans i1 i2 p1 p2 p3 p4 S')) (λu hu a' w' S'=>hX0 u hu a' w' (zv.trans i1 i2 p1 p2 p3 p4 S'))
    ·rw [z26 R0 g1 hw];simp only [if_true];refine .inl (z7j.sound (pro:=pro) R0 g2 hp λa1 w1 S=>?_);obtain ⟨σ1,I1,i1,i2,R1,p1,p2,p3,p4⟩:=S.out;exact hX0 u hu a1 w1 (zv.trans i1 i2 p1 p2 p3 p4 (z9.fell I1 N σ1 a1 w1 R1))
theorem zld {e:Env}{h:H}{I:Nat->Prop}{σ:Pl}{a:Act}{w:World}(hc:z6y P N ops=some (pre,tail))(R:Rel I N σ e h a w)(hF:∀ e1 h1,F e1 h1->z2g P pro tail e1 h1 e' h'){n:Nat}(hr:z5j P pro pre F FX n [] e h)
  (hQ:(∃ e1 h1,F e1 h1)->∀ a' w',zv P I N pro σ h w e' h' a' w'->Q .normal a' w') (hX:∀ u,FX u->∀ a' w',zv P I N pro σ h w nE [] a' w'->Q (.panic [{ v:=u,recovered:=false }]) a' w') (id:Nat):(Code.region id ops true).wp P Q a w:=by
 obtain ⟨Ds,hS⟩:=z9h hc;refine wp_region_any hS.mixed ?_;have hdr:zv P I N pro σ h w e h a { w with drawn:=w.drawn+1 }:=⟨σ,I,λ_ h=>h,λ_ h=>.inl h,⟨⟨R.heap.ok,R.heap.keys,R.heap.nodup,R.heap.apart,R.heap.low⟩,R.size,R.vals,R.defers⟩,λ_ _=>rfl,⟨Nat.le_refl _,rfl,rfl,rfl⟩,λ_ _ _=>rfl,λb hb=>.inl hb⟩
 have hno:∀ i,(Array.replicate ops.size false).getD i false=false:=λi=>by rw [Array.getD_eq_getD_getElem?,Array.getElem?_replicate];split<;>rfl
 refine ya1 hS hF n ops.size [] _ I σ e h a { w with drawn:=w.drawn+1 } hr (by simp) (λi hi=>by rw [hno] at hi;cases hi) (λi=>⟨λhi=>(by rw [hno] at hi;cases hi),λhi=>(nomatch hi)⟩) (λi hi=>(nomatch hi)) nodup_nil (by simp) ⟨⟨R.heap.ok,R.heap.keys,R.heap.nodup,R.heap.apart,R.heap.low⟩,R.size,R.vals,R.defers⟩ (λhf a' w' S=>?_) (λu hu a' w' S=>?_)
 ·exact hQ hf a' w' (zv.trans (P:=P) (w1:={ w with drawn:=w.drawn+1 }) (h1:=h) (σ1:=σ) (I1:=I) (λ_ h=>h) (λ_ h=>.inl h) (λ_ _=>rfl) ⟨Nat.le_refl _,rfl,rfl,rfl⟩ (λ_ _ _=>rfl) (λb hb=>.inl hb) S)
 ·exact hX u hu a' w' (zv.trans (P:=P) (w1:={ w with drawn:=w.drawn+1 }) (h1:=h) (σ1:=σ) (I1:=I) (λ_ h=>h) (λ_ h=>.inl h) (λ_ _=>rfl) ⟨Nat.le_refl _,rfl,rfl,rfl⟩ (λ_ _ _=>rfl) (λb hb=>.inl hb) S)
end
inductive IC where
 | reg (keep:List Nat) (l:List Ins)
 | draw (keep:List Nat) (pre:List (Ins×List Nat)) (tail:List Ins)
 | pan (l:List Ins) (d:Nat) (t:TypeId) (x:Operand)
 | bad
 | skip
 | seq (x y:IC)
 | cond (c:Operand) (x y:IC)
 | loop (x:IC)
 | block (id:Nat) (x:IC)
 | exit (id:Nat)
 | ret
inductive Out where
 | normal
 | exit (id:Nat)
 | ret
 | panic (u:Value)
def Out.ex:Out->Exit
 | .normal=>.normal
 | .exit id=>.exit id
 | .ret=>.ret
 | .panic u=>.panic [{ v:=u,recovered:=false }]
def zgj (P:Program)(N:Nat)(ops:Array Oper):Option (List Ins×Nat×TypeId×Operand) :=
 match ops.toList.reverse with
 | o2::o1::os =>
  match o2.op,o2.guard,o1.op,o1.guard,o1.dst with
  | .panic (.tmp s),none,.makeInterface t x,none,some d =>
   if s=d/\d<N/\P.concrete t=true then match z6a P N ops os.reverse with | some l=>some (l,d,t,x) | none=>none else none
  | _,_,_,_,_=>none
 | _=>none
def scL:List AV->Option (List Value)
 | []=>some []
 | .sc v::l=>match scL l with | some vs=>some (v::vs) | none=>none
 | _=>none
def zl6:AV->Option Value
 | .sc v=>some v
 | .ag cs=>match scL cs with | some vs=>some (.agg vs.toArray) | none=>none
 | _=>none
def z4t (P:Program)(N:Nat):Code->List (List Nat)->Option (IC×List (List Nat))
 | .region _ ops false,keep::ks=>match z6a P N ops ops.toList with | some l=>some (.reg keep l,ks) | none=>match zgj P N ops with | some (l,d,t,x)=>some (.pan l d t x,ks) | none=>some (.bad,ks)
 | .region _ ops true,keep::ks=>match z6y P N ops with | some (pre,tail)=>some (.draw keep pre tail,ks) | none=>none
 | .skip,ks=>some (.skip,ks)
 | .label _,ks=>some (.skip,ks)
 | .seq a b,ks=>match z4t P N a ks with | some (x,ks)=>(match z4t P N b ks with | some (y,ks)=>some (.seq x y,ks) | none=>none) | none=>none
 | .cond c a b,ks=>match z4t P N a ks with | some (x,ks)=>(match z4t P N b ks with | some (y,ks)=>some (.cond c x y,ks) | none=>none) | none=>none
 | .loop a,ks=>match z4t P N a ks with | some (x,ks)=>some (.loop x,ks) | none=>none
 | .block id a,ks=>match z4t P N a ks with | some (x,ks)=>some (.block id x,ks) | none=>none
 | .exit id,ks=>some (.exit id,ks)
 | .ret,ks=>some (.ret,ks)
 | _,_=>none
def zci (ds:List Nat)(e:Env):Env:=λt=>kill (λk _=>ds.contains k) (e t)
def z1a:List (Nat×AV)->Env
 | []=>λ_=>.un
 | (k,v)::l=>upd (z1a l) k v
def z6s (S:List Nat)(e:Env):Env:=z1a (S.map λt=>(t,e t))
inductive Ex (P:Program) (pro:List Nat):IC->Env->H->Out->Env->H->Prop
 | reg {keep l e h e' h'}:z2g P pro l e h e' h'->Ex P pro (.reg keep l) e h .normal (z6s keep e') h'
 | regX {keep l e h u ex hx}:z9f P pro u ex hx l e h->Ex P pro (.reg keep l) e h (.panic u) ex hx
 | pan {l d t x e h e' h' u}:z2g P pro l e h e' h'->zl6 (ev e' x)=some u->Ex P pro (.pan l d t x) e h (.panic (.iface t u)) (ptE (upd e' d .un)) h'
 | draw {keep pre tail e h l e' h'}:yc0 P pre l (zci (pre.map (·.1.dst)) e) (z1r h (pre.map (·.1.dst)))->(∀ k∈z3p l,k∈pre.map (·.1.dst))->(∀ k∈pro,k∉pre.map (·.1.dst)) ->
   z2g P pro tail (EX 0 l (λ_=>true) (zci (pre.map (·.1.dst)) e)) (HX 0 l (λ_=>true)++z1r h (pre.map (·.1.dst))) e' h'->Ex P pro (.draw keep pre tail) e h .normal (z6s keep e') h'
 | turn {keep pre tail e h e' h'}:zr5 P pro pre tail (pre.map (·.1.dst)) (zci (pre.map (·.1.dst)) e) (z1r h (pre.map (·.1.dst))) e' h'->(∀ k∈pro,k∉pre.map (·.1.dst))->Ex P pro (.draw keep pre tail) e h .normal (z6s keep e') h'
 | allN {keep pre tail e h n F e' h'}:(∀ e1 h1,F e1 h1->z2g P pro tail e1 h1 e' h')->z5j P pro pre F (λ_=>False) n [] e h->Ex P pro (.draw keep pre tail) e h .normal (z6s keep e') h'
 | allX {keep pre tail e h n u}:z5j P pro pre (λ_ _=>False) (λv=>v=u) n [] e h->Ex P pro (.draw keep pre tail) e h (.panic u) nE []
 | skip {e h}:Ex P pro .skip e h .normal e h
 | seq {x y e h e1 h1 o e' h'}:Ex P pro x e h .normal e1 h1->Ex P pro y e1 h1 o e' h'->Ex P pro (.seq x y) e h o e' h'
 | seqX {x y e h o e' h'}:o≠.normal->Ex P pro x e h o e' h'->Ex P pro (.seq x y) e h o e' h'
 | cond {c x y e h b o e' h'}:ev e c = .sc (.bool b)->Ex P pro (if b then x else y) e h o e' h'->Ex P pro (.cond c x y) e h o e' h'
 | loop {x e h e1 h1 o e' h'}:Ex P pro x e h .normal e1 h1->Ex P pro (.loop x) e1 h1 o e' h'->Ex P pro (.loop x) e h o e' h'
 | loopX {x e h o e' h'}:o≠.normal->Ex P pro x e h o e' h'->Ex P pro (.loop x) e h o e' h'
 | block {id x e h e' h'}:Ex P pro x e h .normal e' h'->Ex P pro (.block id x) e h .normal e' h'
 | blockX {id x e h e' h'}:Ex P pro x e h (.exit id) e' h'->Ex P pro (.block id x) e h .normal e' h'
 | blockE {id id' x e h e' h'}:id'≠id->Ex P pro x e h (.exit id') e' h'->Ex P pro (.block id x) e h (.exit id') e' h'
 | blockR {id x e h e' h'}:Ex P pro x e h .ret e' h'->Ex P pro (.block id x) e h .ret e' h'
 | blockP {id x e h u e' h'}:Ex P pro x e h (.panic u) e' h'->Ex P pro (.block id x) e h (.panic u) e' h'
 | exit {id e h}:Ex P pro (.exit id) e h (.exit id) e h
 | ret {e h}:Ex P pro .ret e h .ret e h
 | ghost {c e h e1 h1 o e' h'}:z9 P pro e h e1 h1->Ex P pro c e1 h1 o e' h'->Ex P pro c e h o e' h'
 | after {c e h e1 h1 o e' h'}:Ex P pro c e h o e1 h1->z9 P pro e1 h1 e' h'->Ex P pro c e h o e' h'
section
variable {P:Program}{I:Nat->Prop}{N:Nat}[Dfs N]{σ σ1 σ':Pl}{w w1 w':World}{h h1 h':H}{e e1 e':Env}{a a1 a':Act}{ops:Array Oper}{Q:Exit->Act->World->Prop}{pro:List Nat}
theorem zdt {B:zm}(hv:∀ t,Va I σ B (e t) (a.tmps.getD t undef)):∀ (S:List Nat) (t:Nat),Va I σ B (z1a (S.map λt=>(t,e t)) t) (a.tmps.getD t undef)
 | [],_=>trivial
 | s::S,t=>by
  simp only [map_cons,z1a,upd];split
  ·rename_i h;subst h;exact hv _
  ·exact zdt hv S t
theorem z9y {keep:List Nat}:z9 P pro e h (z6s keep e) h:=λI N _ σ a w R =>
 zv.of_rel ⟨R.heap,R.size,λt=>zdt R.vals keep t,R.defers⟩ rfl
def z3t (P:Program)(c:Code)(Q:Exit->Act->World->Prop)(a:Act)(w:World):Prop :=
 ∀ (b:Frame) (k:List Item) (cs:List Frame),∃ e a' w',Q e a' w'/\Arrives P (lone (b.at a (.code c :: .inLoop c::k)) cs w) b k cs e a' w'
theorem z3t.wp {c:Code}(hl:z3t P c Q a w):(Code.loop c).wp P Q a w:=λb k cs =>
 let ⟨e,a',w',q,r⟩:=hl b k cs;⟨e,a',w',q,.of_steps (.one step_loop) r⟩
theorem z3t.step {c:Code}(hw:c.wp P (Exit.then (z3t P c Q) Q) a w):z3t P c Q a w:=by
 intro b k cs;obtain ⟨e,a₁,w₁,hq,harr⟩:=hw b (.inLoop c::k) cs;cases e with
 | normal =>obtain ⟨e₂,a₂,w₂,hq₂,harr₂⟩:=hq b k cs;exact ⟨e₂,a₂,w₂,hq₂,.of_steps (Steps.trans harr (.one step_inLoop)) harr₂⟩
 | exit id=>exact ⟨_,a₁,w₁,hq,.pass (x:=.inLoop c) rfl (λ_ _=>.inl (by simp)) harr⟩
 | goto l=>exact ⟨_,a₁,w₁,hq,.pass (x:=.inLoop c) rfl (λ_ _=>.inl (by simp)) harr⟩
 | ret=>exact ⟨_,a₁,w₁,hq,.pass (x:=.inLoop c) rfl (λ_ _=>.inl (by simp)) harr⟩
 | panic ch=>exact ⟨_,a₁,w₁,hq,.pass (x:=.inLoop c) rfl (λ_ _=>.inl (by simp)) harr⟩
 | outgrown=>exact ⟨_,a₁,w₁,hq,.pass (x:=.inLoop c) rfl (λ_ _=>.inl (by simp)) harr⟩
def IsC (P:Program)(N:Nat)(code:Code)(c:IC):Prop:=∃ ks ks',z4t P N code ks=some (c,ks')
theorem IsC.inv {code:Code}{c:IC}(hc:IsC P N code c):match c with
  | .reg _ l=>∃ id ops,code = .region id ops false/\z6a P N ops ops.toList=some l
  | .draw _ pre tail=>∃ id ops,code = .region id ops true/\z6y P N ops=some (pre,tail)
  | .pan l d t x=>∃ id ops,code = .region id ops false/\zgj P N ops=some (l,d,t,x)
  | .bad=>∃ id ops,code = .region id ops false
  | .skip=>code = .skip\/∃ l,code = .label l
  | .seq x y=>∃ a b,code = .seq a b/\IsC P N a x/\IsC P N b y
  | .cond o x y=>∃ a b,code = .cond o a b/\IsC P N a x/\IsC P N b y
  | .loop x=>∃ a,code = .loop a/\IsC P N a x
  | .block id x=>∃ a,code = .block id a/\IsC P N a x
  | .exit id=>code = .exit id
  | .ret=>code = .ret:=by
 obtain ⟨ks,ks',hc⟩:=hc;unfold z4t at hc;split at hc
 ·split at hc
  ·cases hc;exact ⟨_,_,rfl,by assumption⟩
  ·split at hc
   ·cases hc;exact ⟨_,_,rfl,by assumption⟩
   ·cases hc;exact ⟨_,_,rfl⟩
 ·split at hc
  ·cases hc;exact ⟨_,_,rfl,by assumption⟩
  ·cases hc
 ·cases hc;exact .inl rfl
 ·cases hc;exact .inr ⟨_,rfl⟩
 ·split at hc
  ·rename_i h1;split at hc
   ·rename_i h2;cases hc;exact ⟨_,_,rfl,⟨_,_,h1⟩,⟨_,_,h2⟩⟩
   ·cases hc
  ·cases hc
 ·split at hc
  ·rename_i h1;split at hc
   ·rename_i h2;cases hc;exact ⟨_,_,rfl,⟨_,_,h1⟩,⟨_,_,h2⟩⟩
   ·cases hc
  ·cases hc
 ·split at hc
  ·rename_i h1;cases hc;exact ⟨_,rfl,⟨_,_,h1⟩⟩
  ·cases hc
 ·split at hc
  ·rename_i h1;cases hc;exact ⟨_,rfl,⟨_,_,h1⟩⟩
  ·cases hc
 ·cases hc;rfl
 ·cases hc;rfl
 ·cases hc
theorem y41 {B:zm}:∀ (l:List AV) (us vs:List Value),scL l=some us->VaC I σ B l vs->vs=us
 | [],us,vs,h,hv=>by cases h;exact hv
 | x::l,us,vs,h,hv=>by
  obtain ⟨v,cs,rfl,_,h1,h2⟩:=hv;cases x<;>simp only [scL] at h<;>first | (cases h;done) | skip
  split at h
  ·rename_i us' hu;cases h;obtain rfl:v=_:=h1;rw [y41 l _ _ hu h2]
  ·cases h
theorem ybx {B:zm}{x:AV}{u v:Value}(h:zl6 x=some u)(hv:Va I σ B x v):v=u:=by
 cases x<;>simp only [zl6] at h<;>first | (cases h;done) | skip
 ·cases h;exact hv
 ·split at h
  ·rename_i us hu;cases h;obtain ⟨a,rfl,h2⟩:=hv;rw [<- y41 _ _ _ hu h2]
  ·cases h
theorem y3q {l:List Ins}{d:Nat}{t:TypeId}{x:Operand}{u:Value}(hl:zgj P N ops=some (l,d,t,x))(R:Rel I N σ e h a w)(hr:z2g P pro l e h e' h')(hu:zl6 (ev e' x)=some u)
  (hQ:∀ a' w',zv P I N pro σ h w (ptE (upd e' d .un)) h' a' w'->Q (.panic [{ v:=.iface t u,recovered:=false }]) a' w'):wpOps P ops Q (range ops.size) a w:=by
 unfold zgj at hl;split at hl
 ·rename_i o2 o1 os hrev;split at hl
  ·rename_i s t' x' d' h1 h2 h3 h4 h5;split at hl
   ·rename_i hc;obtain ⟨rfl,hd,hcon⟩:=hc;split at hl
    ·rename_i l' hl';cases hl
     have hlist:ops.toList=os.reverse++[o1,o2]:=by have:=congrArg List.reverse hrev;simpa using this
     have hsz:ops.size=os.reverse.length+2:=by rw [<- Array.length_toList,hlist];simp
     have hg:∀ j,ops[j]?=(os.reverse++[o1,o2])[j]?:=λj=>by rw [<- hlist,Array.getElem?_toList]
     have hcm:=z5q (P:=P) (N:=N) (ops:=ops) os.reverse 0 _ (λj hj=>by rw [Nat.zero_add,hg,List.getElem?_append_left hj]) hl'
     have hrange:range ops.size=range' 0 os.reverse.length++[os.reverse.length,os.reverse.length+1]:=by rw [hsz,List.range_eq_range',show os.reverse.length+2=os.reverse.length+2 from rfl,<- List.range'_append_1];simp [range']
     rw [hrange];refine z2g.sound' hr I _ σ a w hcm R λa1 w1 S=>?_;obtain ⟨σ1,I1,i1,i2,R1,p1,p2,p3,p4⟩:=S.out;have e1:ops[os.reverse.length]?=some o1:=by rw [hg];simp
     have e2:ops[os.reverse.length+1]?=some o2:=by rw [hg,List.getElem?_append_right (by omega)];simp
     have hv:=ybx hu (zw R1 x);rw [wpOps_cons];unfold wpOp;have hw1:Region.wanted o1 (yielded ops a1.tmps)=true:=by simp [Region.wanted,h4]
     simp only [e1,hw1,if_true];refine .inl ?_;unfold Oper.wp
     have hx1:(execOp a1.eval o1).run P w1 = .ok (.value (.iface t u)) w1:=by simp only [execOp,h3,Sem.run_bind,run_makeInterface w1 t _ hcon,Result.andThen_ok,Sem.run_pure,hv]
     rw [hx1,Oper.upon_value,h5,wpOps_cons];unfold wpOp;have hw2:∀ a,Region.wanted o2 (yielded ops a)=true:=λa=>by simp [Region.wanted,h2]
     simp only [e2,hw2,if_true];refine .inl ?_;unfold Oper.wp
     have hev:(a1.put (some d) (.iface t u)).eval (.tmp d) = .iface t u:=by show (a1.put (some d) (.iface t u)).tmps.getD d undef=_;rw [Act.getD_put (Nat.lt_of_lt_of_le hd R1.size),if_pos rfl]
     have hx2:(execOp (a1.put (some d) (.iface t u)).eval o2).run P w1 = .halt (.panic (.iface t u)) w1:=by simp only [execOp,h1,hev,Sem.run_bind];rfl
     rw [hx2,Oper.upon_panic];exact hQ _ _ (zv.trans i1 i2 p1 p2 p3 p4 (z9.unE I1 N σ1 _ _ (Rel.put (v:=.iface t u) R1.heap R1.size R1.vals R1.defers hd (show Va I1 σ1 (bl w1) .un _ from trivial))))
    ·cases hl
   ·cases hl
  ·cases hl
 ·cases hl
def z4m (P:Program)(N:Nat)[Dfs N](pro:List Nat)(c:IC)(e:Env)(h:H)(o:Out)(e':Env)(h':H):Prop :=
 ∀ (code:Code),IsC P N code c->∀ (I:Nat->Prop) (σ:Pl) (a:Act) (w:World),Rel I N σ e h a w->∀ (Q:Exit->Act->World->Prop),
  (∀ a' w',zv P I N pro σ h w e' h' a' w'->Q o.ex a' w')->code.wp P Q a w/\∀ body,code = .loop body->z3t P body Q a w
theorem z4m.of_wp {c:IC}{o:Out}(hno:∀ x,c≠.loop x)(H:∀ (code:Code),IsC P N code c->∀ (I:Nat->Prop) (σ:Pl) (a:Act) (w:World),Rel I N σ e h a w->∀ (Q:Exit->Act->World->Prop),
  (∀ a' w',zv P I N pro σ h w e' h' a' w'->Q o.ex a' w')->code.wp P Q a w):z4m P N pro c e h o e' h':=λcode hc I σ a w R Q hQ =>
 ⟨H code hc I σ a w R Q hQ,λbody hb=>by
  subst hb;obtain ⟨ks,ks',hc⟩:=hc;simp only [z4t] at hc;split at hc
  ·cases hc;exact absurd rfl (hno _)
  ·cases hc⟩
theorem Ex.owes {c:IC}{o:Out}(hx:Ex P pro c e h o e' h'):z4m P N pro c e h o e' h':=by
 induction hx with
 | reg hr =>refine z4m.of_wp (λ_=>by simp) λcode hc I σ a w R Q hQ=>?_;obtain ⟨id,ops,rfl,hl⟩:=hc.inv;apply wp_region;have hcm:=z5q (P:=P) (N:=N) (ops:=ops) ops.toList 0 _ (λj _=>by simp) hl;rw [List.range_eq_range'];refine z2g.sound hr I _ σ a w (by simpa using hcm) R λa' w' S=>?_;obtain ⟨σ1,I1,i1,i2,R1,p1,p2,p3,p4⟩:=S.out;exact hQ a' w' (zv.trans i1 i2 p1 p2 p3 p4 (z9y I1 N σ1 a' w' R1))
 | regX hr =>refine z4m.of_wp (λ_=>by simp) λcode hc I σ a w R Q hQ=>?_;obtain ⟨id,ops,rfl,hl⟩:=hc.inv;apply wp_region;have hcm:=z5q (P:=P) (N:=N) (ops:=ops) ops.toList 0 _ (λj _=>by simp) hl;rw [List.range_eq_range'];exact z9f.sound hr I _ σ a w (by simpa using hcm) R hQ
 | pan hr hu =>refine z4m.of_wp (λ_=>by simp) λcode hc I σ a w R Q hQ=>?_;obtain ⟨id,ops,rfl,hl⟩:=hc.inv;apply wp_region;exact y3q hl R hr hu hQ
 | draw hp hks hpro hr =>refine z4m.of_wp (λ_=>by simp) λcode hc I σ a w R Q hQ=>?_;obtain ⟨id,ops,rfl,hl⟩:=hc.inv;refine zvx hl R hp hks hpro hr (λa' w' S=>?_) id;obtain ⟨σ1,I1,i1,i2,R1,p1,p2,p3,p4⟩:=S.out;exact hQ a' w' (zv.trans i1 i2 p1 p2 p3 p4 (z9y I1 N σ1 a' w' R1))
 | turn hp hpro =>refine z4m.of_wp (λ_=>by simp) λcode hc I σ a w R Q hQ=>?_;obtain ⟨id,ops,rfl,hl⟩:=hc.inv;refine zxd hl R hp hpro (λa' w' S=>?_) id;obtain ⟨σ1,I1,i1,i2,R1,p1,p2,p3,p4⟩:=S.out;exact hQ a' w' (zv.trans i1 i2 p1 p2 p3 p4 (z9y I1 N σ1 a' w' R1))
 | allN hF hr =>refine z4m.of_wp (λ_=>by simp) λcode hc I σ a w R Q hQ=>?_;obtain ⟨id,ops,rfl,hl⟩:=hc.inv;refine zld hl R hF hr (λ_ a' w' S=>?_) (λu hu=>hu.elim) id;obtain ⟨σ1,I1,i1,i2,R1,p1,p2,p3,p4⟩:=S.out;exact hQ a' w' (zv.trans i1 i2 p1 p2 p3 p4 (z9y I1 N σ1 a' w' R1))
 | allX hr =>refine z4m.of_wp (λ_=>by simp) λcode hc I σ a w R Q hQ=>?_;obtain ⟨id,ops,rfl,hl⟩:=hc.inv;exact zld (e':=nE) (h':=[]) hl R (λ_ _ hf=>hf.elim) hr (λ⟨_,_,hf⟩=>hf.elim) (λv hv a' w' S=>by rw [hv];exact hQ a' w' S) id
 | skip =>
  refine z4m.of_wp (λ_=>by simp) λcode hc I σ a w R Q hQ=>?_;rcases hc.inv with rfl | ⟨l,rfl⟩
  ·exact wp_skip (hQ _ _ (zv.of_rel R rfl))
  ·exact wp_label (hQ _ _ (zv.of_rel R rfl))
 | seq _ _ ih1 ih2 =>refine z4m.of_wp (λ_=>by simp) λcode hc I σ a w R Q hQ=>?_;obtain ⟨x,y,rfl,h1,h2⟩:=hc.inv;refine wp_seq (ih1 x h1 I σ a w R _ λa1 w1 S=>?_).1;obtain ⟨σ1,I1,i1,i2,R1,p1,p2,p3,p4⟩:=S.out;exact (ih2 y h2 I1 σ1 a1 w1 R1 Q λa' w' S'=>hQ a' w' (zv.trans i1 i2 p1 p2 p3 p4 S')).1
 | seqX hne _ ih1 =>refine z4m.of_wp (λ_=>by simp) λcode hc I σ a w R Q hQ=>?_;obtain ⟨x,y,rfl,h1,h2⟩:=hc.inv;refine wp_seq (ih1 x h1 I σ a w R _ λa1 w1 S=>?_).1;rename_i o _ _ _;cases o with | normal=>exact absurd rfl hne | exit id=>exact hQ _ _ S | ret=>exact hQ _ _ S | panic u=>exact hQ _ _ S
 | cond hb _ ih =>
  refine z4m.of_wp (λ_=>by simp) λcode hc I σ a w R Q hQ=>?_;obtain ⟨x,y,rfl,h1,h2⟩:=hc.inv;rename_i c x' y' e h b o e' h' _;have hv:=zw R c;rw [hb] at hv;refine wp_cond hv ?_;cases b
  ·exact (ih y h2 I σ a w R Q hQ).1
  ·exact (ih x h1 I σ a w R Q hQ).1
 | loop _ _ ih1 ih2 =>
  intro code hc I σ a w R Q hQ;have hcc:=hc;obtain ⟨x,rfl,h1⟩:=hc.inv
  have key:z3t P x Q a w:=by refine z3t.step (ih1 x h1 I σ a w R _ λa1 w1 S=>?_).1;obtain ⟨σ1,I1,i1,i2,R1,p1,p2,p3,p4⟩:=S.out;exact (ih2 _ hcc I1 σ1 a1 w1 R1 Q λa' w' S'=>hQ a' w' (zv.trans i1 i2 p1 p2 p3 p4 S')).2 x rfl
  exact ⟨key.wp,λbody hb=>by cases hb;exact key⟩
 | loopX hne _ ih1 =>
  intro code hc I σ a w R Q hQ;obtain ⟨x,rfl,h1⟩:=hc.inv
  have key:z3t P x Q a w:=by refine z3t.step (ih1 x h1 I σ a w R _ λa1 w1 S=>?_).1;rename_i o _ _ _;cases o with | normal=>exact absurd rfl hne | exit id=>exact hQ _ _ S | ret=>exact hQ _ _ S | panic u=>exact hQ _ _ S
  exact ⟨key.wp,λbody hb=>by cases hb;exact key⟩
 | block _ ih =>refine z4m.of_wp (λ_=>by simp) λcode hc I σ a w R Q hQ=>?_;obtain ⟨x,rfl,h1⟩:=hc.inv;exact wp_block (ih x h1 I σ a w R (Exit.inBlock _ Q) λa1 w1 S=>hQ a1 w1 S).1
 | blockX _ ih =>refine z4m.of_wp (λ_=>by simp) λcode hc I σ a w R Q hQ=>?_;obtain ⟨x,rfl,h1⟩:=hc.inv;exact wp_block (ih x h1 I σ a w R _ λa1 w1 S=>by simp only [Out.ex,Exit.inBlock,if_true];exact hQ _ _ S).1
 | blockE hne _ ih =>refine z4m.of_wp (λ_=>by simp) λcode hc I σ a w R Q hQ=>?_;obtain ⟨x,rfl,h1⟩:=hc.inv;exact wp_block (ih x h1 I σ a w R _ λa1 w1 S=>by simp only [Out.ex,Exit.inBlock,if_neg hne];exact hQ _ _ S).1
 | blockR _ ih =>refine z4m.of_wp (λ_=>by simp) λcode hc I σ a w R Q hQ=>?_;obtain ⟨x,rfl,h1⟩:=hc.inv;exact wp_block (ih x h1 I σ a w R (Exit.inBlock _ Q) λa1 w1 S=>hQ a1 w1 S).1
 | blockP _ ih =>refine z4m.of_wp (λ_=>by simp) λcode hc I σ a w R Q hQ=>?_;obtain ⟨x,rfl,h1⟩:=hc.inv;exact wp_block (ih x h1 I σ a w R (Exit.inBlock _ Q) λa1 w1 S=>hQ a1 w1 S).1
 | exit =>refine z4m.of_wp (λ_=>by simp) λcode hc I σ a w R Q hQ=>?_;have:=hc.inv;simp only at this;subst this;exact wp_exit (hQ _ _ (zv.of_rel R rfl))
 | ret =>refine z4m.of_wp (λ_=>by simp) λcode hc I σ a w R Q hQ=>?_;have:=hc.inv;simp only at this;subst this;exact wp_ret (hQ _ _ (zv.of_rel R rfl))
 | ghost hg _ ih =>intro code hc I σ a w R Q hQ;obtain ⟨σ1,I1,i1,i2,R1,p1,p2,p3,p4⟩:=(hg I N σ a w R).out;exact ih code hc I1 σ1 a w R1 Q λa' w' S'=>hQ a' w' (zv.trans i1 i2 p1 p2 p3 p4 S')
 | after _ hg ih =>intro code hc I σ a w R Q hQ;refine ih code hc I σ a w R Q λa1 w1 S=>?_;obtain ⟨σ1,I1,i1,i2,R1,p1,p2,p3,p4⟩:=S.out;exact hQ a1 w1 (zv.trans i1 i2 p1 p2 p3 p4 (hg I1 N σ1 a1 w1 R1))
end
def z89:Nat->List AV->Env
 | _,[]=>λ_=>.un
 | n,x::l=>upd (z89 (n+1) l) n x
inductive RS where
 | t (s:Nat)
 | c (s:Nat) (agg:Bool) (n:Nat)
def z3i (P:Program):List ResultVar->Option (List RS)
 | []=>some []
 | .tmp t::l=>match z3i P l with | some ts=>some (.t t::ts) | none=>none
 | .cell a t::l=>match z3i P l,z43 P t,szT P t with | some ts,some agg,some n=>some (.c a agg n::ts) | _,_,_=>none
def zl5 (e:Env)(h:H):RS->Option AV
 | .t s=>some (e s)
 | .c s agg n=>zi (ev e) (res h) (.load agg n (.tmp s))
def z8y (e:Env)(h:H):List RS->Option (List AV)
 | []=>some []
 | r::l=>match zl5 e h r,z8y e h l with | some x,some xs=>some (x::xs) | _,_=>none
def z81 (e:Env)(h:H)(l:List RS):Option AV :=
 match z8y e h l with
 | some [x]=>some x
 | some xs=>some (.tu xs)
 | none=>none
structure y4k (P:Program) (f:Nat) (N:Nat) (c:IC) (ts:List RS):Prop where
 is:∃ fn code,P.funcs[f]?=some fn/\fn.body=some code/\fn.ntmps=N/\z3i P fn.results.toList=some ts/\IsC P N code c
section
variable {P:Program}{I:Nat->Prop}{N:Nat}[Dfs N]{σ σ1 σ':Pl}{B:zm}{w w1 w':World}{h h1 h':H}{e e1 e':Env}{a a1 a':Act}{pro:List Nat}
theorem zgg:∀ (l:List AV) (n:Nat) (pre vs suf:List Value),pre.length=n->VaL I σ B l vs->∀ t,Va I σ B (z89 n l t) ((pre++vs++suf).getD t undef)
 | [],n,pre,vs,suf,_,_,t=>by simp only [z89];trivial
 | x::l,n,pre,_,suf,hn,h,t=>by
  obtain ⟨v,cs,rfl,h1,h2⟩:=h;simp only [z89,upd];split
  ·rename_i ht;subst ht hn;simpa using h1
  ·have:=zgg l (n+1) (pre++[v]) cs suf (by simp [hn]) h2 t;simpa using this
theorem y50 (R:Rel I N σ e h a w){s:Nat}{t:TypeId}{agg:Bool}{n:Nat}(ha:z43 P t=some agg)(hs:szT P t=some n){av:AV}(hr:zi (ev e) (res h) (.load agg n (.tmp s))=some av) :
  ∃ v,(do loadVar t (<- asAddr (a.tmps.getD s undef)):Sem Value).run P w = .ok v w/\Va I σ (bl w) av v:=by
 obtain ⟨v,h1,h2⟩:=zjt R ha hs hr;refine ⟨v,?_,h2⟩;have hx:=zw R (.tmp s)
 have hp:∃ A,a.eval (.tmp s) = .pointer (some A):=by
  simp only [zi] at hr;split at hr
  ·rename_i k p i c hk;rw [hk] at hx;obtain ⟨L,hL,hv⟩:=hx;exact ⟨_,hv⟩
  ·rename_i s' xs i c hk;rw [hk] at hx;obtain ⟨A,cur,E,fr,hv,_⟩:=hx;exact ⟨_,hv⟩
  ·rename_i b x' c hk;rw [hk] at hx;exact ⟨_,hx.1⟩
  ·rename_i k cs i hk;rw [hk] at hx;obtain ⟨L,A,cur,E,fr,hL,hv,_⟩:=hx;exact ⟨_,hv⟩
  ·cases hr
 obtain ⟨A,hA⟩:=hp;have hA':a.tmps.getD s undef = .pointer (some A):=hA;rw [hA] at h1;rw [hA'];simpa [Instr.loadAt,Instr.sureAddr,asAddr] using h1
theorem z8x (R:Rel I N σ e h a w)(fn:Func){ts:List RS}(hts:z3i P fn.results.toList=some ts){r:AV}(hr:z81 e h ts=some r):∃ v,(results fn a.tmps).run P w = .ok v w/\Va I σ (bl w) r v:=by
 have key:∀ (f:ResultVar->Sem Value),(∀ t,f (.tmp t)=pure (a.tmps.getD t undef))->(∀ s t,f (.cell s t)=do loadVar t (<- asAddr (a.tmps.getD s undef)))->∀ (l:List ResultVar) (ts:List RS) (xs:List AV),z3i P l=some ts->z8y e h ts=some xs ->
   ∃ vs,(l.mapM f:Sem (List Value)).run P w = .ok vs w/\VaL I σ (bl w) xs vs:=by
  intro f hf hf2 l
  induction l with
  | nil=>intro ts xs h1 h2;simp only [z3i,Option.some.injEq] at h1;subst h1;simp only [z8y,Option.some.injEq] at h2;subst h2;exact ⟨[],by simp,rfl⟩
  | cons x l ih =>
   intro ts xs h1 h2;cases x with
   | tmp t =>
    simp only [z3i] at h1;split at h1
    ·rename_i ts' h';cases h1;simp only [z8y,zl5] at h2;split at h2
     ·rename_i x xs' hx hxs;cases hx;cases h2;obtain ⟨vs,q1,q2⟩:=ih ts' xs' h' hxs;exact ⟨a.tmps.getD t undef::vs,by simp only [List.mapM_cons,hf,Sem.run_bind,Sem.run_pure,Result.andThen_ok,q1],_,_,rfl,R.vals t,q2⟩
     ·cases h2
    ·cases h1
   | cell s t =>
    simp only [z3i] at h1;split at h1
    ·rename_i ts' agg n h' ha hn;cases h1;simp only [z8y,zl5] at h2;split at h2
     ·rename_i x xs' hx hxs;cases h2;obtain ⟨vs,q1,q2⟩:=ih ts' xs' h' hxs;obtain ⟨v,q3,q4⟩:=y50 R ha hn hx;exact ⟨v::vs,by rw [List.mapM_cons,hf2,Sem.run_bind,q3,Result.andThen_ok];simp only [Sem.run_bind,Sem.run_pure,Result.andThen_ok,q1],_,_,rfl,q4,q2⟩
     ·cases h2
    ·cases h1
 unfold z81 at hr;cases hxs:z8y e h ts with
 | none=>simp [hxs] at hr
 | some xs =>
  let f:ResultVar->Sem Value:=λx=>match x with | .tmp t=>pure (a.tmps.getD t undef) | .cell s t=>do loadVar t (<- asAddr (a.tmps.getD s undef))
  obtain ⟨vs,q1,q2⟩:=key f (λt=>rfl) (λs t=>rfl) fn.results.toList ts xs hts hxs
  have hres:results fn a.tmps=(do
   let vs <- fn.results.mapM f
   pure (if h:vs.size=1 then vs[0] else .tuple vs)):=rfl
  rw [hres,Array.mapM_eq_mapM_toList];simp only [Sem.run_bind,Sem.run_map];rw [q1];simp only [Result.andThen_ok,Sem.run_pure];refine ⟨_,rfl,?_⟩;simp only [hxs] at hr
  match xs,vs,q2,hr with
  | [],vs,q2,hr =>simp only [VaL] at q2;subst q2;cases hr;exact ⟨_,rfl,rfl⟩
  | [x],vs,q2,hr =>obtain ⟨v,vs',rfl,q3,q4⟩:=q2;simp only [VaL] at q4;subst q4;cases hr;exact q3
  | x::y::xs,vs,q2,hr =>obtain ⟨v,vs',rfl,q3,q4⟩:=q2;obtain ⟨v2,vs2,rfl,q5,q6⟩:=q4;cases hr;exact ⟨_,by simp,_,_,rfl,q3,_,_,rfl,q5,q6⟩
omit [Dfs N] in
theorem CallG.of_ex {f:Nat}{args:List AV}{hin hout:H}{c:IC}{ts:List RS}{o:Out}{r:AV}(hf:y4k P f N c ts)(ho:(match o with | .exit _=>False | .panic _=>False | _=>True))(hx:Ex P (hin.map Prod.fst) c (z89 0 args) hin o e' hout)(hr:z81 e' hout ts=some r):CallG P f args hin r hout:=by
 intro I σ w vs hh hv
 letI:Dfs N:=Dfs.none N
 obtain ⟨fn,code,h1,h2,h3,h4,h5⟩:=hf.is;apply calls_of_wp h1 h2
 have R:Rel I N σ (z89 0 args) hin { tmps:=vs.toArray++Array.replicate (fn.ntmps - vs.toArray.size) undef,defers:=[] } w:=by
  refine ⟨hh,?_,λt=>?_,rfl⟩
  ·simp only [Array.size_append,Array.size_replicate,size_toArray];omega
  ·have:=zgg (I:=I) (σ:=σ) (B:=bl w) args 0 [] vs (replicate (fn.ntmps - vs.toArray.size) undef) rfl hv t
   have e2:(vs.toArray++Array.replicate (fn.ntmps - vs.toArray.size) undef)=(vs++replicate (fn.ntmps - vs.toArray.size) undef).toArray:=by apply Array.ext';simp
   simp only [e2];simpa [Array.getD_eq_getD_getElem?,List.getD_eq_getElem?_getD] using this
 refine (hx.owes (N:=N) code h5 I σ _ w R _ λa' w' S=>?_).1;obtain ⟨σ',I',i1,i2,R',p1,p2,p3,p4⟩:=S.out;cases o with
 | exit id=>exact ho.elim
 | panic u=>exact ho.elim
 | normal =>obtain ⟨v,q1,q2⟩:=z8x R' fn h4 hr;exact ⟨R'.defers,v,q1,v,σ',I',rfl,i1,i2,R'.heap,q2,p1,p2,p3,p4⟩
 | ret =>obtain ⟨v,q1,q2⟩:=z8x R' fn h4 hr;exact ⟨R'.defers,v,q1,v,σ',I',rfl,i1,i2,R'.heap,q2,p1,p2,p3,p4⟩
theorem CallG.narrow {f:Nat}{args:List AV}{hin hout:H}{r:AV}(hc:CallG P f args hin r hout)(n1:z45 r=true)(n2:z56 hout=true):z1q P f args hin r hout:=λI σ w vs hh hv =>
 (hc I σ w vs hh hv).mono λen w' ⟨v,σ',I',h1,i1,i2,h2,h3,h4,h5,h6,h7⟩=>⟨v,σ',h1,zk.narrow i1 n2 h2,Va.narrow r v n1 h3,h4,h5,h6,h7⟩
end
def W (P:Program)(pro:List Nat)(c:IC)(Q:Out->Env->H->Prop)(e:Env)(h:H):Prop:=∃ o e' h',Ex P pro c e h o e' h'/\Q o e' h'
def hx (D:List Nat):List (Nat×H)->H
 | []=>[]
 | (i,r)::l=>if D.contains i then r++hx D l else hx D l
def z3v:List (Nat×H)->H
 | []=>[]
 | (_,r)::l=>r++z3v l
def WDK (P:Program)(x:Ins×List Nat)(e:Env)(h:H)(K:AV->H->Prop):Prop:=∃ av rows,DOk P e h ⟨x.1,x.2,av,rows⟩/\K av rows
def WD (P:Program):List (Ins×List Nat)->Nat->Env->List (Nat×H)->H->(Env->H->Prop)->Prop
 | [],_,e,acc,h0,K=>zu ((z3v acc++h0).map Prod.fst)=true/\K e (z3v acc++h0)
 | x::l,i,e,acc,h0,K=>WDK P x e (hx x.2 acc++h0) λav rows=>WD P l (i+1) (upd e x.1.dst av) (acc++[(i,rows)]) h0 K
def y9v (K:Env->H->Prop)(Q:Out->Env->H->Prop):Out->Env->H->Prop
 | .normal=>K
 | o=>Q o
def ze8 (id:Nat)(Q:Out->Env->H->Prop):Out->Env->H->Prop
 | .exit id'=>if id'=id then Q .normal else Q (.exit id')
 | o=>Q o
section
variable {P:Program}{pro:List Nat}{e e1:Env}{h h1:H}{Q:Out->Env->H->Prop}
def z6p:Nat->List DOp->List (Nat×H)
 | _,[]=>[]
 | i,x::l=>(i,x.rows)::z6p (i+1) l
theorem zfc:∀ (l:List DOp) (i:Nat) (x:DOp),z6p i (l++[x])=z6p i l++[(i+l.length,x.rows)]
 | [],i,x=>by simp [z6p]
 | y::l,i,x=>by simp [z6p,zfc l (i+1) x];omega
theorem zme:∀ (l:List DOp) (i:Nat),z3v (z6p i l)=HX i l (λ_=>true)
 | [],_=>rfl
 | x::l,i=>by simp [z6p,z3v,HX,zme l (i+1)]
theorem y37 {D:List Nat}:∀ (l:List DOp) (i:Nat),hx D (z6p i l)=HX i l (λi=>D.contains i)
 | [],_=>rfl
 | x::l,i=>by simp only [z6p,hx,HX,y37 l (i+1)]
theorem znh {X:Nat->Bool}:∀ (l l2:List DOp) (i:Nat),(∀ n,i+l.length<=n->X n=false)->HX i (l++l2) X=HX i l X
 | [],l2,i,hX=>by
  have:∀ (l2:List DOp) (i:Nat),(∀ n,i<=n->X n=false)->HX i l2 X=[]:=by
   intro l2
   induction l2 with
   | nil=>intro i _;rfl
   | cons y l2 ih=>intro i h;simp only [HX,h i (Nat.le_refl _),false_eq_true,if_false];exact ih (i+1) λn hn=>h n (by omega)
  simpa [HX] using this l2 i (by simpa using hX)
 | x::l,l2,i,hX=>by have ih:=znh (X:=X) l l2 (i+1) (λn hn=>hX n (by simp;omega));simp only [cons_append,HX,ih]
def chE:Env->List DOp->Env
 | e,[]=>e
 | e,x::l=>chE (upd e x.ins.dst x.av) l
theorem z9o:∀ (l:List DOp) (e:Env) (x:DOp),chE e (l++[x])=upd (chE e l) x.ins.dst x.av
 | [],_,_=>rfl
 | _::l,_,x=>z9o l _ x
theorem zaj {E0:Env}:∀ (l l2:List DOp),(z42 (l++l2)).Nodup->EX 0 (l++l2) (λi=>decide (i<l.length)) E0=chE E0 l:=by
 intro l
 have key:∀ (n:Nat) (l l2:List DOp),l.length=n->(z42 (l++l2)).Nodup->EX 0 (l++l2) (λi=>decide (i<l.length)) E0=chE E0 l:=by
  intro n
  induction n with
  | zero =>
   intro l l2 hl hn;have:l=[]:=List.eq_nil_of_length_eq_zero hl;subst this
   have:∀ (l2:List DOp) (i:Nat),EX i l2 (λi=>decide (i<0)) E0=E0:=by
    intro l2
    induction l2 with | nil=>intro i;rfl | cons y l2 ih=>intro i;simp only [EX,Nat.not_lt_zero,decide_false,false_eq_true,if_false];exact ih (i+1)
   simpa [chE] using this l2 0
  | succ n ih =>
   intro l l2 hl hn;rcases List.eq_nil_or_concat l with rfl | ⟨l',x,rfl⟩
   ·cases hl
   ·have hl':l'.length=n:=by simpa using hl
    rw [List.concat_eq_append] at hn ⊢;have h1:=ih l' (x::l2) hl' (by simpa using hn);rw [append_assoc,List.singleton_append] at hn ⊢;rw [z9o,<- h1]
    exact zih (l'++x::l2) 0 l'.length _ _ x hn (by simp) (by simp) (λm hm=>by
     have:m≠l'.length:=by omega
     simp only [length_append,length_cons,length_nil];rw [Bool.eq_iff_iff];simp only [decide_eq_true_eq];omega) (by simp)
 exact λl2 hn=>key l.length l l2 rfl hn
theorem WD.sound {h0:H}{E0:Env}{K:Env->H->Prop}:∀ (pre:List (Ins×List Nat)) (l:List DOp),WD P pre l.length (chE E0 l) (z6p 0 l) h0 K->(l.map (·.ins.dst)++pre.map (·.1.dst)).Nodup ->
  (∀ (j:Nat) (x:Ins×List Nat),pre[j]?=some x->∀ i∈x.2,i<l.length+j) ->
  ∃ l2,l2.map (λx=>(x.ins,x.dep))=pre/\(∀ (j:Nat) (x:DOp),l2[j]?=some x->DOk P (EX 0 (l++l2) (λi=>decide (i<l.length+j)) E0) (HX 0 (l++l2) (λi=>x.dep.contains i)++h0) x) /\
   zu ((HX 0 (l++l2) (λ_=>true)++h0).map Prod.fst)=true/\K (EX 0 (l++l2) (λ_=>true) E0) (HX 0 (l++l2) (λ_=>true)++h0)
 | [],l,hw,hn,_=>by unfold WD at hw;rw [zme] at hw;refine ⟨[],rfl,λj x h=>by simp at h,by simpa using hw.1,?_⟩;have h1:=zaj (E0:=E0) l [] (by simpa [z42] using hn);rw [append_nil] at h1 ⊢;rw [(za9 (E0:=E0) l 0 (λ_=>true) (λi=>decide (i<l.length)) (λn _ hn2=>by simp;omega)).1,h1];exact hw.2
 | (xi,D)::pre,l,hw,hn,hd=>by
  have step:∀ (av:AV) (rows:H),DOk P (chE E0 l) (hx D (z6p 0 l)++h0) ⟨xi,D,av,rows⟩->WD P pre (l.length+1) (upd (chE E0 l) xi.dst av) (z6p 0 l++[(l.length,rows)]) h0 K ->
    ∃ l2,l2.map (λx=>(x.ins,x.dep))=(xi,D)::pre/\(∀ (j:Nat) (x:DOp),l2[j]?=some x->DOk P (EX 0 (l++l2) (λi=>decide (i<l.length+j)) E0) (HX 0 (l++l2) (λi=>x.dep.contains i)++h0) x) /\
     zu ((HX 0 (l++l2) (λ_=>true)++h0).map Prod.fst)=true/\K (EX 0 (l++l2) (λ_=>true) E0) (HX 0 (l++l2) (λ_=>true)++h0):=by
   intro av rows hok hw
   obtain ⟨l2,q1,q2,q3,q4⟩:=WD.sound pre (l++[⟨xi,D,av,rows⟩]) (by rw [length_append,z9o,zfc,Nat.zero_add];exact hw) (by simpa using hn) (λj x hx i hi=>by have:=hd (j+1) x (by simpa using hx) i hi;simp only [length_append,length_cons,length_nil];omega)
   rw [append_assoc,List.singleton_append] at q2 q3 q4;refine ⟨⟨xi,D,av,rows⟩::l2,by simp [q1],λj x hj=>?_,q3,q4⟩;cases j with
   | zero =>
    simp only [getElem?_cons_zero,Option.some.injEq] at hj;subst hj
    rw [Nat.add_zero,zaj l _ (by rw [<- q1] at hn;simpa [z42,Function.comp_def] using hn),znh l _ 0 (λn hn2=>by
     have:∀ i∈D,i<l.length:=by simpa using hd 0 (xi,D) rfl
     cases hc:D.contains n with
     | false=>rfl
     | true=>have:=this n (by simpa using hc);omega),<- y37]
    exact hok
   | succ j =>have:=q2 j x (by simpa using hj);rw [show (l++[(⟨xi,D,av,rows⟩:DOp)]).length+j=l.length+(j+1) by simp;omega] at this;exact this
  obtain ⟨av,rows,h1,h2⟩:=hw;exact step av rows h1 h2
theorem ybg {l:List DOp}{pre:List (Ins×List Nat)}(h1:l.map (λx=>(x.ins,x.dep))=pre)(h2:pre.all (λx=>!z3w x.1.op)=true):∀ x∈l,z3w x.ins.op=false:=λx hx=>by subst h1;have:=all_eq_true.1 h2 (x.ins,x.dep) (mem_map.2 ⟨x,hx,rfl⟩);simpa using this
theorem W.skip (hq:Q .normal e h):W P pro .skip Q e h:=⟨_,_,_,.skip,hq⟩
theorem W.ret (hq:Q .ret e h):W P pro .ret Q e h:=⟨_,_,_,.ret,hq⟩
theorem W.exit {id:Nat}(hq:Q (.exit id) e h):W P pro (.exit id) Q e h:=⟨_,_,_,.exit,hq⟩
theorem W.seq {x y:IC}(hw:W P pro x (y9v (W P pro y Q) Q) e h):W P pro (.seq x y) Q e h:=by
 obtain ⟨o,e',h',h1,h2⟩:=hw;cases o with
 | normal =>obtain ⟨o2,e2,h2',h3,h4⟩:=h2;exact ⟨_,_,_,.seq h1 h3,h4⟩
 | exit id=>exact ⟨_,_,_,.seqX (by simp) h1,h2⟩
 | panic u=>exact ⟨_,_,_,.seqX (by simp) h1,h2⟩
 | ret=>exact ⟨_,_,_,.seqX (by simp) h1,h2⟩
theorem W.cond {c:Operand}{b:Bool}{x y:IC}(hc:ev e c = .sc (.bool b))(ht:b=true->W P pro x Q e h)(hf:b=false->W P pro y Q e h):W P pro (.cond c x y) Q e h:=by
 cases b
 ·obtain ⟨o,e',h',h1,h2⟩:=hf rfl;exact ⟨_,_,_,.cond hc h1,h2⟩
 ·obtain ⟨o,e',h',h1,h2⟩:=ht rfl;exact ⟨_,_,_,.cond hc h1,h2⟩
theorem W.condT {c:Operand}{x y:IC}(hc:ev e c = .sc (.bool true))(ht:W P pro x Q e h):W P pro (.cond c x y) Q e h:=W.cond hc (λ_=>ht) (λh=>by cases h)
theorem W.condF {c:Operand}{x y:IC}(hc:ev e c = .sc (.bool false))(ht:W P pro y Q e h):W P pro (.cond c x y) Q e h:=W.cond hc (λh=>by cases h) (λ_=>ht)
theorem W.block {id:Nat}{x:IC}(hw:W P pro x (ze8 id Q) e h):W P pro (.block id x) Q e h:=by
 obtain ⟨o,e',h',h1,h2⟩:=hw;cases o with
 | normal=>exact ⟨_,_,_,.block h1,h2⟩
 | exit id' =>
  by_cases hid:id'=id
  ·subst hid;simp only [ze8,if_true] at h2;exact ⟨_,_,_,.blockX h1,h2⟩
  ·simp only [ze8,if_neg hid] at h2;exact ⟨_,_,_,.blockE hid h1,h2⟩
 | ret=>exact ⟨_,_,_,.blockR h1,h2⟩
 | panic u=>exact ⟨_,_,_,.blockP h1,h2⟩
theorem W.loop {x:IC}(hw:W P pro x (y9v (W P pro (.loop x) Q) Q) e h):W P pro (.loop x) Q e h:=by
 obtain ⟨o,e',h',h1,h2⟩:=hw;cases o with
 | normal =>obtain ⟨o2,e2,h2',h3,h4⟩:=h2;exact ⟨_,_,_,.loop h1 h3,h4⟩
 | exit id=>exact ⟨_,_,_,.loopX (by simp) h1,h2⟩
 | panic u=>exact ⟨_,_,_,.loopX (by simp) h1,h2⟩
 | ret=>exact ⟨_,_,_,.loopX (by simp) h1,h2⟩
theorem W.ghost {c:IC}(hg:z9 P pro e h e1 h1)(hw:W P pro c Q e1 h1):W P pro c Q e h:=by obtain ⟨o,e',h',h1,h2⟩:=hw;exact ⟨_,_,_,.ghost hg h1,h2⟩
theorem W.mono {c:IC}{Q':Out->Env->H->Prop}(hw:W P pro c Q e h)(hq:∀ o e h,Q o e h->Q' o e h):W P pro c Q' e h:=by obtain ⟨o,e',h',h1,h2⟩:=hw;exact ⟨_,_,_,h1,hq _ _ _ h2⟩
end
theorem zh8 {n:Int}(h1 : -9223372036854775808<=n)(h2:n<9223372036854775808):IntKind.i64.wrap n=n:=by rw [IntKind.wrap_i64];omega
section
variable {P:Program}{I:Nat->Prop}{N:Nat}[Dfs N]{σ σ':Pl}{w w':World}{h h':H}{e e':Env}{a a':Act}{pro:List Nat}
theorem CallG.norm {f:Nat}{args:List AV}{hin hout hb left:H}{r r':AV}(bm:List (Nat×Nat))(hc:CallG P f args hin r hout)(hs:z2c hout bm=some (hb,left))(hn:zu (bm.map Prod.fst)=true)(hbk:z2b bm r=some r')
  (hin':(hin.map Prod.fst).all (λk=>z36 bm k==some k)=true):CallG P f args hin r' hb:=by
 intro I σ w vs hh hv;refine (hc I σ w vs hh hv).mono ?_;rintro en w' ⟨v,σ1,I',rfl,i1,i2,c1,c2,c3,c4,c5,c6⟩;obtain ⟨b1,b2,b3,b4,b5,b6⟩:=z4r bm hout hb left c1 hs (z11 _ hn);refine ⟨v,z1z bm σ1,I',rfl,i1,i2,b1,?_,λk hk=>?_,c4,c5,λb hb=>c6 b (b3 b hb).1⟩
 ·exact z69 (σ:=σ1) (λk n hkn q=>z9a (z11 _ hn) hkn q) r r' v hbk c2
 ·have:=all_eq_true.1 hin' k hk;rw [beq_iff_eq] at this;simp only [z1z,this];exact c3 k hk
def zvf (ts:List RS)(hin:H)(r:AV)(hout:H)(o:Out)(e:Env)(h:H):Prop :=
 (match o with | .exit _=>False | .panic _=>False | _=>True)/\∃ (bm:List (Nat×Nat)) (r0:AV) (left:H),z81 e h ts=some r0/\z2c h bm=some (hout,left)/\zu (bm.map Prod.fst)=true/\z2b bm r0=some r/\(hin.map Prod.fst).all (λk=>z36 bm k==some k)=true
theorem CallG.of_E {f N:Nat}{args:List AV}{hin hout:H}{c:IC}{ts:List RS}{r:AV}(hf:y4k P f N c ts)(hw:W P (hin.map Prod.fst) c (zvf ts hin r hout) (z89 0 args) hin):CallG P f args hin r hout:=by obtain ⟨o,e',h',h1,h2,bm,r0,left,h3,h4,h5,h6,h7⟩:=hw;exact (CallG.of_ex hf h2 h1 h3).norm bm h4 h5 h6 h7
theorem zvf.ret {ts:List RS}{hin hout:H}{r:AV}(bm:List (Nat×Nat)){r0:AV}{left:H}(h1:z81 e h ts=some r0)(h2:z2c h bm=some (hout,left))(h3:zu (bm.map Prod.fst)=true)(h4:z2b bm r0=some r)(h5:(hin.map Prod.fst).all (λk=>z36 bm k==some k)=true) :
  zvf ts hin r hout .ret e h:=⟨trivial,bm,r0,left,h1,h2,h3,h4,h5⟩
theorem z9.nil {t d s:Nat}(hsm:s<MB)(ht:e t = .zs)(hd:d∉h.map Prod.fst)(hp:pro.all (λk=>k != d)=true):z9 P pro e h (upd (z1e (λk _=>k==d) e) t (.sl d [] 0 0)) ((d,⟨s,[]⟩)::h):=by
 intro I N _ σ a w R
 let σ1:Pl:=λk q=>if k=d then none else σ k q
 have hne:∀ k,k≠d->∀ q,σ1 k q=σ k q:=λk hk q=>if_neg hk
 have hrow:zy I σ1 (bl w) d ⟨s,[]⟩:=by unfold zy;simpa [σ1] using hsm
 have hfp:fpR σ1 d ⟨s,[]⟩=[]:=by unfold fpR;simp [σ1]
 have hh:=R.heap.add (σ':=σ1) (w':=w) (k:=d) (r:=⟨s,[]⟩) hd hne (λ_ _ _=>rfl) (Nat.le_refl _) hrow (by rw [hfp];exact nodup_nil) (by rw [hfp];intro b hb;cases hb);refine ⟨σ1,I,λ_ h=>h,λ_ h=>.inl h,⟨hh,R.size,λt'=>?_,R.defers⟩,λk hk=>?_,Le.refl _,λ_ _ _=>rfl,λb hb=>?_⟩
 ·unfold upd;split
  ·rename_i htt;subst htt;have:=R.vals t';rw [ht] at this;obtain ⟨x,hx⟩:=this;simp only [Va,σ1,if_true];exact ⟨trivial,trivial,x,hx⟩
  ·exact Va.kill (λk q hk=>hne k (by simpa using hk) q) _ _ (R.vals t')
 ·have:=all_eq_true.1 hp k hk;exact hne k (by simpa using this) []
 ·rw [z1o,hfp,nil_append,fpH.ren h (λk hk q=>hne k (λe=>hd (e ▸ hk)) q)] at hb;exact .inl hb
end
def idx {α:Type}(xs:List α)(i:Int):Option α:=if 0<=i then xs[i.toNat]? else none
def need {R:Type}(b:Prop)[Decidable b](x:Option R):Option R:=if b then x else none
inductive Bo (S T R:Type) where
 | go (s:S)
 | out (t:T)
 | ret (r:R)
def zl {S T R:Type}(body:S->Option (Bo S T R)):Nat->S->Option (Bo S T R)
 | 0,_=>none
 | k+1,s=>match body s with
  | some (.go s')=>zl body k s'
  | x=>x
def Bo.then {S T R R':Type}(f:T->Option R')(g:R->Option R'):Bo S T R->Option R'
 | .go _=>none
 | .out t=>f t
 | .ret r=>g r
abbrev I64 (n:Int):AV:=.sc (.int .i64 n)
abbrev Bl (b:Bool):AV:=.sc (.bool b)
abbrev St (s:ByteArray):AV:=.sc (.string s)
theorem z97 {R:Type}{b:Prop}[Decidable b]{x:Option R}{r:R}(h:need b x=some r):b/\x=some r:=by
 unfold need at h;split at h
 ·exact ⟨by assumption,h⟩
 ·cases h
theorem ze7 {α:Type}{xs:List α}{i:Int}{y:α}(h:idx xs i=some y):0<=i/\i.toNat<xs.length/\xs[i.toNat]?=some y:=by
 unfold idx at h;split at h
 ·exact ⟨by assumption,(List.getElem?_eq_some_iff.1 h).1,h⟩
 ·cases h
theorem ze {α β:Type}{x:Option α}{f:α->Option β}{r:β}(h:x.bind f=some r):∃ y,x=some y/\f y=some r:=Option.bind_eq_some_iff.1 h
def zdk (bm:List (Nat×Nat))(x:AV):AV:=match z2b bm x with | some y=>y | none=>.un
def zem (pro:List Nat)(bm:List (Nat×Nat))(S:List Nat)(e:Env)(h:H):Option (Env×H) :=
 match z2c h bm with
 | some (hs,_)=>if (zu (bm.map Prod.fst)&&pro.all (λk=>z36 bm k==some k))=true then some (z1a (S.map λt=>(t,zdk bm (e t))),hs) else none
 | none=>none
section
variable {P:Program}{I:Nat->Prop}{N:Nat}[Dfs N]{σ σ':Pl}{w w':World}{h h' h1:H}{e e' e1:Env}{a a':Act}{pro:List Nat}
theorem z9.norm {bm:List (Nat×Nat)}{S:List Nat}(hn:zem pro bm S e h=some (e1,h1)):z9 P pro e h e1 h1:=by
 unfold zem at hn;split at hn
 ·rename_i hs left hsp;split at hn
  ·rename_i hc;simp only [Option.some.injEq,Prod.mk.injEq] at hn;obtain ⟨rfl,rfl⟩:=hn;simp only [and_eq_true] at hc;intro I N _ σ a w R;obtain ⟨b1,b2,b3,b4,b5,b6⟩:=z4r bm h hs left R.heap hsp (z11 _ hc.1);refine ⟨z1z bm σ,I,λ_ h=>h,λ_ h=>.inl h,⟨b1,R.size,λt=>?_,R.defers⟩,λk hk=>?_,Le.refl _,λ_ _ _=>rfl,λb hb=>.inl (b3 b hb).1⟩
   ·refine zdt (e:=λt=>zdk bm (e t)) (λt=>?_) S t;show Va I (z1z bm σ) (bl w) (zdk bm (e t)) _;unfold zdk;split
    ·rename_i y hy;exact z69 (σ:=σ) (λk n hkn q=>z9a (z11 _ hc.1) hkn q) _ _ _ hy (R.vals t)
    ·trivial
   ·have:=all_eq_true.1 hc.2 k hk;rw [beq_iff_eq] at this;simp only [z1z,this]
  ·cases hn
 ·cases hn
theorem z9.ipOne {t s i c:Nat}{xs:Els}{x:List AV}(ht:e t = .ip s xs i c)(hx:xs[i]?=some x):z9 P pro e h (upd e t (.ip s [x] 0 c)) h:=by
 intro I N _ σ a w R;refine zv.of_rel ⟨R.heap,R.size,λt'=>?_,R.defers⟩ rfl;unfold upd;split
 ·rename_i htt;subst htt;have hv:=R.vals t';rw [ht] at hv;obtain ⟨A,cur,E,fr,h1,h2,h3,h4,h5⟩:=hv;have h6:=ImE.get xs _ h5 i x hx;refine ⟨⟨A.block,A.off+i * s,none⟩,cur,E,fr,?_,rfl,h3,h4,h6.1,?_,trivial⟩
  ·rw [h1];simp
  ·rw [List.drop_drop] at h6;exact h6.2
 ·exact R.vals t'
end
def RG (P:Program)(pro keep:List Nat)(Q:Out->Env->H->Prop)(l:List Ins)(e:Env)(h:H):Prop:=∃ e' h',z2g P pro l e h e' h'/\Q .normal (z6s keep e') h'
def runL (pro:List Nat):Nat->List Ins->Env->H->Option (Env×H)
 | 0,_,e,h=>some (e,h)
 | _+1,[],_,_=>none
 | n+1,x::l,e,h =>
  match zx e x.guard with
  | none=>none
  | some false=>runL pro n l (upd e x.dst (z4k x.op)) h
  | some true =>
   match z2w pro e h x.dst x.op with
   | some (e1,h1)=>runL pro n l e1 h1
   | none=>none
def zvv (pro:List Nat)(n:Nat)(bm:List (Nat×Nat))(S:List Nat)(l:List Ins)(e:Env)(h:H):Option (Env×H) :=
 match runL pro n l e h with
 | some (e',h')=>zem pro bm S e' h'
 | none=>none
def yeo (pro:List Nat)(keep:List Nat)(n:Nat)(bm:List (Nat×Nat))(l:List Ins)(e:Env)(h:H):Option (Env×H) :=
 match l.drop n with
 | []=>zvv pro n bm keep l e h
 | _=>none
section
variable {P:Program}{pro keep:List Nat}{e e1:Env}{h h1:H}{Q:Out->Env->H->Prop}{l:List Ins}
theorem W.regG (hw:RG P pro keep Q l e h):W P pro (.reg keep l) Q e h:=by obtain ⟨e',h',h1,h2⟩:=hw;exact ⟨_,_,_,.reg h1,h2⟩
theorem RG.ghost (hg:z9 P pro e h e1 h1)(hw:RG P pro keep Q l e1 h1):RG P pro keep Q l e h:=by obtain ⟨e',h',r,q⟩:=hw;exact ⟨e',h',.ghost hg r,q⟩
theorem RG.skip {x:Ins}(hx:zx e x.guard=some false)(hw:RG P pro keep Q l (upd e x.dst (z4k x.op)) h):RG P pro keep Q (x::l) e h:=by obtain ⟨e',h',r,q⟩:=hw;exact ⟨e',h',.skip hx r,q⟩
theorem RG.step {x:Ins}(hx:zx e x.guard=some true)(hs:z2m P pro e h x.dst x.op e1 h1)(hw:RG P pro keep Q l e1 h1):RG P pro keep Q (x::l) e h:=by obtain ⟨e',h',r,q⟩:=hw;exact ⟨e',h',.step hx hs r,q⟩
theorem RG.runL:∀ (n:Nat) (l:List Ins) (e:Env) (h:H),runL pro n l e h=some (e1,h1)->RG P pro keep Q (l.drop n) e1 h1->RG P pro keep Q l e h
 | 0,l,e,h,hr,hw=>by simp only [Loom.runL,Option.some.injEq,Prod.mk.injEq] at hr;obtain ⟨rfl,rfl⟩:=hr;exact hw
 | n+1,[],e,h,hr,hw=>by cases hr
 | n+1,x::l,e,h,hr,hw=>by
  unfold Loom.runL at hr;split at hr
  ·cases hr
  ·rename_i hx;exact RG.skip hx (RG.runL n l _ _ hr hw)
  ·rename_i hx;split at hr
   ·rename_i e2 h2 hs;exact RG.step hx (.plain hs) (RG.runL n l _ _ hr hw)
   ·cases hr
theorem RG.cut (n:Nat)(bm:List (Nat×Nat))(S:List Nat)(e1:Env)(h1:H)(hc:zvv pro n bm S l e h=some (e1,h1))(hw:RG P pro keep Q (l.drop n) e1 h1):RG P pro keep Q l e h:=by
 unfold zvv at hc;split at hc
 ·rename_i e2 h2 hr;exact RG.runL n l e h hr (RG.ghost (z9.norm hc) hw)
 ·cases hc
theorem zqz (S:List Nat)(f:Nat->AV):z6s S (z1a (S.map λt=>(t,f t)))=z1a (S.map λt=>(t,f t)):=by
 have key:∀ (S:List Nat) (t:Nat),z1a (S.map λt=>(t,f t)) t=if t∈S then f t else .un:=by
  intro S
  induction S with
  | nil=>intro t;rfl
  | cons s S ih =>
   intro t;simp only [map_cons,z1a,upd];by_cases hts:t=s
   ·subst hts;simp
   ·simp [hts,ih]
 have k2:∀ (S:List Nat) (g:Nat->AV),(∀ t∈S,g t=f t)->S.map (λt=>(t,g t))=S.map λt=>(t,f t):=λS g hg=>map_congr_left λt ht=>by rw [hg t ht]
 unfold z6s;rw [k2 S _ (λt ht=>by rw [key S t,if_pos ht])]
theorem RG.fin (n:Nat)(bm:List (Nat×Nat))(e1:Env)(h1:H)(hc:yeo pro keep n bm l e h=some (e1,h1))(hq:Q .normal e1 h1):RG P pro keep Q l e h:=by
 unfold yeo at hc;split at hc
 ·rename_i hl;refine RG.cut n bm keep e1 h1 hc ?_;rw [hl];refine ⟨e1,h1,.nil,?_⟩
  have:z6s keep e1=e1:=by
   unfold zvv at hc;split at hc
   ·unfold zem at hc;split at hc
    ·split at hc
     ·simp only [Option.some.injEq,Prod.mk.injEq] at hc;rw [<- hc.1];exact zqz keep _
     ·cases hc
    ·cases hc
   ·cases hc
  rw [this];exact hq
 ·cases hc
end
def loV:Option AV->Option Int
 | none=>some 0
 | some l=>zi7 l
def hiV (len:Nat):Option AV->Option Int
 | none=>some len
 | some l=>zi7 l
theorem zbg {len:Nat}{lo hi:Option AV}{a b:Int}(ha:loV lo=some a)(hb:hiV len hi=some b)(hc:0<=a/\a<=b/\b<=len):z6m len lo hi=some (a.toNat,b.toNat):=by unfold z6m;cases lo<;>cases hi<;>simp only [loV,hiV] at ha hb<;>simp only [ha,hb]<;>first | rw [if_pos hc] | (simp only [Option.some.injEq] at ha hb;subst ha;subst hb;rw [if_pos hc]) | (simp only [Option.some.injEq] at ha;subst ha;rw [if_pos hc]) | (simp only [Option.some.injEq] at hb;subst hb;rw [if_pos hc])
section
variable {P:Program}{pro keep:List Nat}{e e1:Env}{h h1:H}{Q:Out->Env->H->Prop}{l:List Ins}{R:Type}{r:R}{g:Option (Nat×Bool)}{d:Nat}
theorem RG.rd {b:IB}{av:AV}(hw:zx e g=some true)(hop:zi (ev e) (res h) b=some av)(hK:RG P pro keep Q l (upd e d av) h):RG P pro keep Q (⟨d,g,.rd b⟩::l) e h :=
 RG.step hw (.plain (by simp only [z2w,hop])) hK
theorem RG.iadIm {α:Type}{c:α->List AV}{xs:List α}{i:Int}{k:IntKind}{s:Nat}{x y:Operand}{E:α->Option R}(hw:zx e g=some true)(hx:ev e x = .im s (xs.map c))(hi:ev e y = .sc (.int k i))(hg:(idx xs i).bind E=some r)
  (hK:∀ z,idx xs i=some z->E z=some r->RG P pro keep Q l (upd e d (.ip s [c z] 0 0)) h):RG P pro keep Q (⟨d,g,.rd (.iad s x y)⟩::l) e h:=by
 obtain ⟨z,hz,hE⟩:=ze hg;obtain ⟨h0,h1,h2⟩:=ze7 hz;have hlt:i<(xs.map c).length:=by rw [length_map];omega
 refine RG.rd (av:=.ip s (xs.map c) i.toNat 0) hw (by simp only [zi,hx,hi];rw [if_pos ⟨trivial,h0,hlt⟩]) ?_;have hgh:z9 P pro (upd e d (.ip s (xs.map c) i.toNat 0)) h (upd (upd e d (.ip s (xs.map c) i.toNat 0)) d (.ip s [c z] 0 0)) h:=z9.ipOne (i:=i.toNat) (xs:=xs.map c) (by simp [upd]) (by simp [h2]);refine RG.ghost hgh ?_
 have:upd (upd e d (.ip s (xs.map c) i.toNat 0)) d (.ip s [c z] 0 0)=upd e d (.ip s [c z] 0 0):=by funext t;unfold upd;split<;>rfl
 rw [this];exact hK z hz hE
theorem zkg {f f':Els->Els}:∀ (p:Path) (xs:Els) (s s':Nat) (ys:Els),zp s xs p=some (s',ys)->f ys=f' ys->z1l xs p f=z1l xs p f'
 | [],xs,s,s',ys,h,hf=>by simp only [zp,Option.some.injEq,Prod.mk.injEq] at h;obtain ⟨_,rfl⟩:=h;exact hf
 | (i,c)::p,xs,s,s',ys,h,hf=>by
  simp only [zp,z1l] at h ⊢;split at h
  ·cases h
  ·rename_i x hx;split at h
   ·rename_i s2 zs hz;rw [zkg p zs s2 s' ys h hf]
   ·cases h
def zd (s:ByteArray)(m:Int):Int:=(s.data.toList.getD m.toNat 0).toNat
inductive Abs:H->List AV->List AV->H->Prop
 | nil {h:H}:Abs h [] [] h
 | one {h:H} {a a':AV} {h1:H} {l l':List AV} {h2:H}:z41 h a=some (a',h1)->Abs h1 l l' h2->Abs h (a::l) (a'::l') h2
 | row {h:H} {k s:Nat} {xs:Els} {l l':List AV} {h2:H}:z6 h k=some ⟨s,xs⟩->Abs (zc h k) l l' h2->Abs h (.sl k [] 0 xs.length::l) (.ow s xs::l') h2
end
def zvo (pro:List Nat)(m bm nm:List (Nat×Nat))(S:List Nat)(e:Env)(rest:H)(d:Nat)(r:AV)(hout:H):Option (Env×H) :=
 match z2c hout bm,z2b bm r with
 | some (hb,_),some r'=>zem pro nm S (upd (z1e (z78 m bm) e) d r') (hb++z1r rest (bm.map Prod.fst))
 | _,_=>none
section
variable {P:Program}{pro keep:List Nat}{e e1:Env}{h h1:H}{Q:Out->Env->H->Prop}{l:List Ins}{R:Type}{r:R}{g:Option (Nat×Bool)}{d:Nat}
theorem RG.callBy {T:Type}{f:Nat}{args:List AV}{op:IK}{gv:Option T}{E:T->Option R}(m bm nm:List (Nat×Nat))(S:List Nat)(bor:Bool)(args':List AV)(hin rest:H)(rr:T->AV)(hout:T->H)(e1:T->Env)(h1:T->H)(hw:zx e g=some true)
  (hop:∀ e1 h1,zai P pro e h d f args e1 h1->z2m P pro e h d op e1 h1)
  (hg:gv.bind E=some r) (hsp:z2c h m=some (hin,rest)) (hargs:z2d rest m bor args=some args') (hok:∀ v,gv=some v->CallG P f args' hin (rr v) (hout v))
  (hst:(zu (m.map Prod.fst)&&zu (bm.map Prod.fst)&&zd4 m bm&&zh1 pro m bm)=true) (hbk:∀ v,zvo pro m bm nm S e rest d (rr v) (hout v)=some (e1 v,h1 v)) (hn:bor=true->∀ v,z45 (rr v)=true/\z56 (hout v)=true)
  (hK:∀ v,gv=some v->E v=some r->RG P pro keep Q l (e1 v) (h1 v)):RG P pro keep Q (⟨d,g,op⟩::l) e h:=by
 obtain ⟨v,hv,hE⟩:=ze hg;simp only [and_eq_true] at hst;obtain ⟨⟨⟨k1,k2⟩,k3⟩,k4⟩:=hst;have hb:=hbk v;unfold zvo at hb;split at hb
 ·rename_i hb' left r' hs hr;refine RG.step hw (hop _ _ ⟨m,bm,bor,hin,rest,hout v,hb',left,args',rr v,r',hsp,z11 _ k1,hargs,hok v hv,hs,z11 _ k2,k3,k4,hr,λhb=>hn hb v,rfl,rfl⟩) ?_;exact RG.ghost (z9.norm hb) (hK v hv hE)
 ·cases hb
theorem RG.callP {T:Type}{f:Nat}{args:List Operand}{gv:Option T}{E:T->Option R}(bm nm:List (Nat×Nat))(S:List Nat)(bor:Bool)(args':List AV)(rr:T->AV)(hout:T->H)(e1:T->Env)(h1:T->H)(hw:zx e g=some true)
  (hg:gv.bind E=some r) (hargs:z2d h [] bor (args.map (ev e))=some args') (hok:∀ v,gv=some v->CallG P f args' [] (rr v) (hout v))
  (hst:(zu (bm.map Prod.fst)&&zd4 [] bm&&zh1 pro [] bm)=true) (hbk:∀ v,zvo pro [] bm nm S e h d (rr v) (hout v)=some (e1 v,h1 v)) (hn:bor=true->∀ v,z45 (rr v)=true/\z56 (hout v)=true)
  (hK:∀ v,gv=some v->E v=some r->RG P pro keep Q l (e1 v) (h1 v)):RG P pro keep Q (⟨d,g,.call f args⟩::l) e h :=
 RG.callBy [] bm nm S bor args' [] h rr hout e1 h1 hw (λ_ _ hc=>.call hc) hg rfl hargs hok (by simpa [zu] using hst) hbk hn hK
theorem W.condB {c:Operand}{b:Bool}{x y:Option R}{cx cy:IC}(hc:ev e c=Bl b)(hg:_root_.cond b x y=some r)(ht:x=some r->W P pro cx Q e h)(hf:y=some r->W P pro cy Q e h):W P pro (.cond c cx cy) Q e h:=by
 cases b
 ·exact W.condF hc (hf hg)
 ·exact W.condT hc (ht hg)
end
theorem z2u {α:Type}{o:α->List AV}(ho:∀ x,z21 (o x)=true):∀ (xs:List α),za1 (xs.map o)=true
 | []=>rfl
 | x::xs=>by simp [za1,ho,z2u ho xs]
theorem z3o {α:Type}{o c:α->List AV}(ho:∀ x,z2q (o x)=c x):∀ (xs:List α),z3f (xs.map o)=xs.map c
 | []=>rfl
 | x::xs=>by simp [z3f,ho,z3o ho xs]
section
variable {P:Program}{pro keep:List Nat}{e e1:Env}{h h0 h1:H}{Q:Out->Env->H->Prop}{l:List (Ins×List Nat)}{tail:List Ins}{R:Type}{r:R}{g:Option (Nat×Bool)}{d i:Nat}{D ds:List Nat}{acc:List (Nat×H)}{K:Env->H->Prop}
variable {ρ:Operand->AV}{rs:RR}
def zjn (ds:List Nat)(h0 h1:H):Bool:=(h1.map Prod.fst).all (λk=>ds.contains k||(h0.map Prod.fst).contains k)
def KD (P:Program)(pro keep ds:List Nat)(Q:Out->Env->H->Prop)(tail:List Ins)(h0:H)(e1:Env)(h1:H):Prop:=zjn ds h0 h1=true/\RG P pro keep Q tail e1 h1
theorem W.drawG (ds:List Nat){pre:List (Ins×List Nat)}(hds:pre.map (·.1.dst)=ds)(ck:(zu ds&&z6e ds pre 0 pre&&pro.all (λk=>!ds.contains k)&&pre.all (λx=>!z3w x.1.op))=true)
  (hw:WD P pre 0 (zci ds e) [] (z1r h ds) (KD P pro keep ds Q tail (z1r h ds))):W P pro (.draw keep pre tail) Q e h:=by
 subst hds;simp only [and_eq_true] at ck;obtain ⟨⟨⟨k1,k2⟩,k3⟩,k4⟩:=ck
 obtain ⟨l,q1,q2,q3,q4,q5⟩:=WD.sound (E0:=zci (pre.map (·.1.dst)) e) pre [] hw (by simpa using z11 _ k1) (λj x hx i hi=>by have:=zb3 _ 0 k2 j x hx;simp only [Nat.zero_add,zk2,and_eq_true,all_eq_true,decide_eq_true_eq] at this;have:=this.1 i hi;simpa using this)
 simp only [nil_append,length_nil,Nat.zero_add] at q2 q3 q4 q5;obtain ⟨e',h',r1,r2⟩:=q5;refine ⟨.normal,_,_,.draw ⟨q1,z11 _ q3,q2,ybg q1 k4⟩ (λk hk=>?_) (λk hk=>?_) r1,r2⟩
 ·obtain ⟨x,hx,hkx⟩:=mem_flatMap.1 hk;obtain ⟨z,hz,rfl⟩:=mem_map.1 hkx;obtain ⟨j,hj⟩:=List.getElem?_of_mem hx;have hz2:z∈HX 0 l (λ_=>true):=(z7i l 0 _).2 ⟨j,x,hj,rfl,hz⟩;have:=all_eq_true.1 q4 z.1 (mem_map.2 ⟨z,mem_append_left _ hz2,rfl⟩);rw [or_eq_true] at this;rcases this with h | h
  ·simpa using h
  ·exfalso;have hnd:=z11 _ q3;rw [map_append,nodup_append] at hnd;exact hnd.2.2 z.1 (mem_map.2 ⟨z,hz2,rfl⟩) z.1 (by simpa using h) rfl
 ·have:=all_eq_true.1 k3 k hk;simpa using this
end
section
variable {P:Program}{I:Nat->Prop}{N:Nat}[Dfs N]{σ σ':Pl}{w w':World}{h h' h1:H}{e e' e1:Env}{a a':Act}{pro:List Nat}
theorem zqg {α:Type}{l:List α}{c:Nat}{v:α}(h:l[c]?=some v):l.set c v=l:=by
 apply ext_getElem?;intro j;rw [List.getElem?_set];split
 ·rename_i hj;subst hj;split
  ·exact h.symm
  ·rename_i hlt;have:=(List.getElem?_eq_some_iff.1 h).1;omega
 ·rfl
theorem zk.cell {k i c:Nat}{r:Row}{x:List AV}{y y':AV}(hh:zk I σ h w)(hg:z6 h k=some r)(hx:r.xs[i]?=some x)(hy:x[c]?=some y)(hσ:∀ k' q,¬ (k'=k/\∃ q',q=(i,c)::q')->σ' k' q=σ k' q)
  (hC:∀ v,Ce I σ (bl w) k [] i c y v->Ce I σ' (bl w) k [] i c y' v) (hfp:fpA σ' k [] i c y'=[]) :
  zk I σ' ((k,⟨r.s,r.xs.set i (x.set c y')⟩)::zc h k) w/\(∀ b∈fpH σ' ((k,⟨r.s,r.xs.set i (x.set c y')⟩)::zc h k),b∈fpH σ h) /\
   (∀ b∈fpA σ k [] i c y,b∈fpH σ h/\b∉fpH σ' ((k,⟨r.s,r.xs.set i (x.set c y')⟩)::zc h k))/\(fpA σ k [] i c y).Nodup/\∃ v,Ce I σ (bl w) k [] i c y v:=by
 obtain ⟨d1,d2,d3,d4,d5,d6⟩:=hh.del hg;have hσ0:σ' k []=σ k []:=hσ k [] (λ⟨_,q,h⟩=>by cases h);have hσk:∀ k',k'≠k->∀ q,σ' k' q=σ k' q:=λk' hk q=>hσ k' q (λe=>hk e.1);unfold zy at d2;unfold fpR at d4 d5;cases hL:σ k [] with
 | none =>simp only [hL] at d2;rw [d2.1] at hx;simp at hx
 | some L =>
  simp only [hL] at d2 d4 d5;obtain ⟨f1,f2,cur,E,f3,f4,f5⟩:=d2;obtain ⟨hxl,hCx⟩:=CeE.get r.xs 0 _ f5 i x hx;simp only [Nat.zero_add] at hCx;obtain ⟨v,hv,hCe⟩:=CeC.get x 0 _ hCx c y hy;simp only [Nat.zero_add] at hCe
  have hC1:=CeC.setAt (σ':=σ') (B':=bl w) x 0 c _ y y' v hCx hy (by simpa using hC v hCe) (λc' a'' v' hne _ hce=>Ce.ren (λq=>hσ k _ (λ⟨_,q',hq⟩=>by simp only [nil_append,List.cons.injEq,Prod.mk.injEq] at hq;exact hne (by omega))) a'' v' hce)
  rw [zqg hv] at hC1;have hnl:((cur.toList.drop (i * esz r.s)).take (esz r.s)).length=esz r.s:=by rw [CeC.length x 0 _ hCx,hxl]
  have hE1:=CeE.setAt (σ':=σ') (B':=bl w) r.xs 0 i _ x (x.set c y') _ f5 hx (by simp [hxl]) hnl (by simpa using hC1) (λi' c' a'' v' hne _ hce=>Ce.ren (λq=>hσ k _ (λ⟨_,q',hq⟩=>by simp only [nil_append,List.cons.injEq,Prod.mk.injEq] at hq;exact hne (by omega))) a'' v' hce)
  rw [zid] at hE1;obtain ⟨m1,m2,hm,hm'⟩:=z6b (σ:=σ) (k:=k) (p:=[]) r.xs 0 i x hx;obtain ⟨n1,n2,hn,hn'⟩:=z8e (σ:=σ) (k:=k) (p:=[]) (i:=i) x 0 c y hy;simp only [Nat.zero_add] at hm hn hm' hn'
  have e1:=hm' σ' (x.set c y') (λi' c' a'' hne=>fpA.ren (λq=>hσ k _ (λ⟨_,q',hq⟩=>by simp only [nil_append,List.cons.injEq,Prod.mk.injEq] at hq;exact hne (by omega))) a'')
  have e2:=hn' σ' y' (λc' a'' hne=>fpA.ren (λq=>hσ k _ (λ⟨_,q',hq⟩=>by simp only [nil_append,List.cons.injEq,Prod.mk.injEq] at hq;exact hne (by omega))) a'')
  rw [hfp] at e2;rw [e2] at e1;rw [hm,hn] at d4 d5
  have hrow:zy I σ' (bl w) k ⟨r.s,r.xs.set i (x.set c y')⟩:=by unfold zy;rw [hσ0,hL];exact ⟨f1,by simpa using f2,cur,E,f3,by rw [z76 (ys:=r.xs) (by simp)];exact f4,hE1⟩
  have hfpr:fpR σ' k ⟨r.s,r.xs.set i (x.set c y')⟩=L.b::(m1++(n1++[]++n2)++m2):=by unfold fpR;rw [hσ0,hL];simp only;rw [e1]
  have hsub:(L.b::(m1++(n1++[]++n2)++m2)).Sublist (L.b::(m1++(n1++fpA σ k [] i c y++n2)++m2)):=by refine List.Sublist.cons_cons _ (List.Sublist.append (List.Sublist.append (List.Sublist.refl _) (List.Sublist.append (List.Sublist.append (List.Sublist.refl _) (List.nil_sublist _)) (List.Sublist.refl _))) (List.Sublist.refl _))
  have hadd:=d1.add (σ':=σ') (w':=w) (k:=k) (r:=⟨r.s,r.xs.set i (x.set c y')⟩) d3 hσk (λ_ _ _=>rfl) (Nat.le_refl _) hrow (by rw [hfpr];exact hsub.nodup d4) (λb hb=>by rw [hfpr] at hb;exact ⟨(d5 b (hsub.subset hb)).1,hh.apart b (d5 b (hsub.subset hb)).2⟩)
  have hfph:fpH σ' ((k,⟨r.s,r.xs.set i (x.set c y')⟩)::zc h k)=L.b::(m1++(n1++[]++n2)++m2)++fpH σ (zc h k):=by rw [z1o,hfpr,fpH.ren _ (λk' hk' q=>hσk k' (λe=>by subst e;exact d3 hk') q)]
  refine ⟨hadd,λb hb=>?_,λb hb=>⟨(d5 b (by simp [hb])).2,λhm2=>?_⟩,?_,v,hCe⟩
  ·rw [hfph] at hb;rcases mem_append.1 hb with hb | hb
   ·exact (d5 b (hsub.subset hb)).2
   ·exact d6 b hb
  ·rw [hfph] at hm2;rcases mem_append.1 hm2 with hm2 | hm2
   ·simp only [append_nil,nodup_cons,mem_append,nodup_append,not_or] at d4 hm2;simp only [mem_cons,mem_append] at hm2;obtain ⟨⟨⟨p1,⟨p2a,p2b⟩,p2c⟩,p3⟩,⟨q1,⟨⟨⟨q2,q3,q4⟩,q5,q6⟩,q7⟩⟩,q8,q9⟩:=d4;rcases hm2 with hm2 | (hm2 | hm2 | hm2) | hm2
    ·subst hm2;exact p2b hb
    ·exact q7 b hm2 b (.inl (.inr hb)) rfl
    ·exact q4 b hm2 b hb rfl
    ·exact q6 b (.inr hb) b hm2 rfl
    ·exact q9 b (.inr (.inl (.inr hb))) b hm2 rfl
   ·exact (d5 b (by simp [hb])).1 hm2
  ·simp only [nodup_cons,nodup_append] at d4;exact d4.2.1.2.1.1.2.1
end
mutual
def renV (k i c j:Nat):AV->AV
 | .sl k' p off len =>
  if k'=j then .un else
  match p with
  | []=>.sl k' [] off len
  | (i',c')::q=>if k'=k/\i'=i/\c'=c then .sl j q off len else .sl k' ((i',c')::q) off len
 | .pt k' p o c0 =>
  if k'=j then .un else
  match p with
  | []=>.pt k' [] o c0
  | (i',c')::q=>if k'=k/\i'=i/\c'=c then .pt j q o c0 else .pt k' ((i',c')::q) o c0
 | .ag cs=>.ag (zc3 k i c j cs)
 | .tu cs=>.tu (zc3 k i c j cs)
 | .fn f caps=>.fn f (zc3 k i c j caps)
 | .un=>.un
 | .sc v=>.sc v
 | .zs=>.zs
 | .im s xs=>.im s xs
 | .ip s xs i c=>.ip s xs i c
 | .ow s xs=>.ow s xs
 | .pp q=>z3k (λk' _=>k'==j) q
def zc3 (k i c j:Nat):List AV->List AV
 | []=>[]
 | x::l=>renV k i c j x::zc3 k i c j l
end
section
variable {I:Nat->Prop}{B:zm}{σ σ':Pl}{k i c j:Nat}
mutual
theorem Va.renV (h1:∀ q,σ' j q=σ k ((i,c)::q))(h2:∀ k',k'≠j->∀ q,σ' k' q=σ k' q):∀ (x:AV) (v:Value),Va I σ B x v->Va I σ' B (renV k i c j x) v
 | .un,_,_=>trivial
 | .sc _,_,h=>h
 | .zs,_,h=>h
 | .ag cs,_,h=>by obtain ⟨a,rfl,h⟩:=h;exact ⟨a,rfl,VaC.renV h1 h2 cs _ h⟩
 | .tu cs,_,h=>by obtain ⟨a,rfl,h⟩:=h;exact ⟨a,rfl,VaL.renV h1 h2 cs _ h⟩
 | .im _ _,_,h=>h
 | .ip _ _ _ _,_,h=>h
 | .pp q,v,h=>by have:=Va.kill (σ':=σ') (bad:=λk' _=>k'==j) (λk' p hb=>h2 k' (by simpa using hb) p) (.pp q) v h;exact this
 | .sl k' p off len,v,h=>by
  simp only [Loom.renV];split
  ·exact trivial
  ·rename_i hk;split
   ·simp only [Va,h2 k' hk] at h ⊢;exact h
   ·rename_i i' c' q;split
    ·rename_i hc;obtain ⟨rfl,rfl,rfl⟩:=hc;simp only [Va,h1] at h ⊢;exact h
    ·simp only [Va,h2 k' hk] at h ⊢;exact h
 | .pt k' p o c0,v,h=>by
  simp only [Loom.renV];split
  ·exact trivial
  ·rename_i hk;split
   ·simp only [Va,h2 k' hk] at h ⊢;exact h
   ·rename_i i' c' q;split
    ·rename_i hc;obtain ⟨rfl,rfl,rfl⟩:=hc;simp only [Va,h1] at h ⊢;exact h
    ·simp only [Va,h2 k' hk] at h ⊢;exact h
 | .fn _ caps,_,h=>by obtain ⟨a,rfl,h⟩:=h;exact ⟨a,rfl,VaL.renV h1 h2 caps _ h⟩
 | .ow _ _,_,h=>h.elim
theorem VaC.renV (h1:∀ q,σ' j q=σ k ((i,c)::q))(h2:∀ k',k'≠j->∀ q,σ' k' q=σ k' q):∀ (l:List AV) (cs:List Value),VaC I σ B l cs->VaC I σ' B (zc3 k i c j l) cs
 | [],_,h=>h
 | a::as,_,h=>by obtain ⟨v,cs',rfl,h0,h3,h4⟩:=h;exact ⟨v,cs',rfl,h0,Va.renV h1 h2 a v h3,VaC.renV h1 h2 as cs' h4⟩
theorem VaL.renV (h1:∀ q,σ' j q=σ k ((i,c)::q))(h2:∀ k',k'≠j->∀ q,σ' k' q=σ k' q):∀ (l:List AV) (cs:List Value),VaL I σ B l cs->VaL I σ' B (zc3 k i c j l) cs
 | [],_,h=>h
 | a::as,_,h=>by obtain ⟨v,cs',rfl,h3,h4⟩:=h;exact ⟨v,cs',rfl,Va.renV h1 h2 a v h3,VaL.renV h1 h2 as cs' h4⟩
end
end
section
variable {P:Program}{I:Nat->Prop}{N:Nat}[Dfs N]{σ σ':Pl}{w w':World}{h h' h1:H}{e e' e1:Env}{a a':Act}{pro:List Nat}
theorem z9.detach {k i c s:Nat}(j:Nat){r:Row}{x:List AV}{xs:Els}(hg:z6 h k=some r)(hx:r.xs[i]?=some x)(hy:x[c]?=some (.ow s xs))(hj:(h.map Prod.fst).contains j=false)(hp:pro.all (λk=>k != j)=true) :
  z9 P pro e h (λt=>renV k i c j (e t)) ((j,⟨s,xs⟩)::(k,⟨r.s,r.xs.set i (x.set c .un)⟩)::zc h k):=by
 intro I N _ σ a w R
 have hj':j∉h.map Prod.fst:=λhm=>by
  have:(h.map Prod.fst).contains j=true:=by simpa using hm
  rw [this] at hj;cases hj
 obtain ⟨c1,c2,c3,c4,v,c5⟩:=R.heap.cell (σ':=σ) (y':=.un) hg hx hy (λ_ _ _=>rfl) (λv hv=>by
   simp only [Ce] at hv ⊢;split at hv
   ·obtain ⟨_,_,a,rfl⟩:=hv;rfl
   ·obtain ⟨_,_,rfl,_⟩:=hv;unfold hdr;split<;>rfl) rfl
 let σ1:Pl:=λk' q=>if k'=j then σ k ((i,c)::q) else σ k' q
 have hne:∀ k',k'≠j->∀ q,σ1 k' q=σ k' q:=λk' hk q=>if_neg hk
 have hkey:j∉(((k,⟨r.s,r.xs.set i (x.set c .un)⟩)::zc h k:H)).map Prod.fst:=by simp only [map_cons,mem_cons,not_or];refine ⟨λe=>hj' ?_,λhm=>hj' ((z4d R.heap k).2.2.2 j hm)⟩;rw [e];exact ((z3x hg).map Prod.fst).mem_iff.2 (by simp)
 have hrow:zy I σ1 (bl w) j ⟨s,xs⟩/\fpR σ1 j ⟨s,xs⟩=fpA σ k [] i c (.ow s xs):=by
  unfold zy fpR;simp only [fpA,nil_append];have h0:σ1 j []=σ k [(i,c)]:=if_pos rfl;rw [h0];simp only [Ce,nil_append] at c5;cases hs:σ k [(i,c)] with
  | none=>simp only [hs] at c5 ⊢;exact ⟨⟨c5.1,c5.2.1⟩,trivial⟩
  | some L =>simp only [hs] at c5 ⊢;obtain ⟨g1,g2,g3,cur,E,g4,g5,g6⟩:=c5;exact ⟨⟨g1,g2,cur,E,g4,g5,CeE.ren (k:=k) (p:=[(i,c)]) (p':=[]) 0 (esz s) (λi' c' q=>if_pos rfl) xs _ g6⟩,by rw [fpE.ren (k:=k) (p:=[(i,c)]) (p':=[]) 0 (λi' c' q=>if_pos rfl) xs]⟩
 have hadd:=c1.add (σ':=σ1) (w':=w) (k:=j) (r:=⟨s,xs⟩) hkey hne (λ_ _ _=>rfl) (Nat.le_refl _) hrow.1 (by rw [hrow.2];exact c4) (λb hb=>by rw [hrow.2] at hb;exact ⟨(c3 b hb).2,R.heap.apart b (c3 b hb).1⟩)
 refine ⟨σ1,I,λ_ h=>h,λ_ h=>.inl h,⟨hadd,R.size,λt'=>?_,R.defers⟩,λk' hk'=>?_,Le.refl _,λ_ _ _=>rfl,λb hb=>.inl ?_⟩
 ·exact Va.renV (λq=>if_pos rfl) hne _ _ (R.vals t')
 ·have:=all_eq_true.1 hp k' hk';exact hne k' (by simpa using this) []
 ·rw [z1o,hrow.2,fpH.ren _ (λk' hk' q=>hne k' (λe=>hkey (e ▸ hk')) q)] at hb;rcases mem_append.1 hb with hb | hb
  ·exact (c3 b hb).1
  ·exact c2 b hb
end
mutual
inductive LeZ:AV->AV->Prop
 | refl (x:AV):LeZ x x
 | zs (s:Nat):LeZ .zs (.im s [])
 | ag {l l':List AV}:zfa l l'->LeZ (.ag l) (.ag l')
inductive zfa:List AV->List AV->Prop
 | nil:zfa [] []
 | cons {x y:AV} {l l':List AV}:LeZ x y->zfa l l'->zfa (x::l) (y::l')
end
section
variable {P:Program}{I:Nat->Prop}{σ:Pl}{B:zm}
theorem yna {s:Nat}{v:Value}(h:Va I σ B .zs v):Va I σ B (.im s []) v:=by obtain ⟨a,rfl⟩:=h;exact ⟨a,0,rfl,Nat.le_refl _,λhn=>absurd rfl hn⟩
mutual
theorem LeZ.va:∀ {x y:AV},LeZ x y->∀ (v:Value),Va I σ B x v->Va I σ B y v
 | _,_,.refl _,_,h=>h
 | _,_,.zs s,v,h=>yna h
 | _,_,.ag hl,v,h=>by obtain ⟨a,rfl,h⟩:=h;exact ⟨a,rfl,zfa.vaC hl _ h⟩
theorem zfa.vaC:∀ {l l':List AV},zfa l l'->∀ (cs:List Value),VaC I σ B l cs->VaC I σ B l' cs
 | _,_,.nil,_,h=>h
 | _,_,.cons h1 h2,_,h=>by obtain ⟨v,cs',rfl,h0,h3,h4⟩:=h;exact ⟨v,cs',rfl,h0,LeZ.va h1 v h3,zfa.vaC h2 cs' h4⟩
end
end
theorem Abs.zs {h h2:H}{l l':List AV}(t:Abs h l l' h2):Abs h (.zs::l) (.zs::l') h2:=.one rfl t
theorem Abs.im {h h2:H}{s:Nat}{xs:Els}{l l':List AV}(t:Abs h l l' h2):Abs h (.im s xs::l) (.im s xs::l') h2:=.one rfl t
end Loom
