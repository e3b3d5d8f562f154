/- Loom,an abstract machine over the kit's calculus: rows,z1n,stores,calls,regions,what they owe; and its evaluator (part 4 of 4). -/
import Derived.Test.YtoobnbnmmkkioaaLoomC
set_option linter.unusedVariables false
set_option linter.unusedSimpArgs false
set_option linter.unusedSectionVars false
namespace Loom
open Go
def Fact (e:Env) (h:H) (x:Ins):Prop :=
 (zo e x.guard=some false∧e x.dst=z4d x.op)∨(zo e x.guard=some true∧∀ b,x.op = .rd b→∃ hp av,(∀ z ∈ hp,z ∈ h)∧rdop (ev e) (res hp) b=some av∧AVle av (e x.dst))
def sepB:List Ins→Bool
 | []=>true
 | x::l=>!(z3a x).contains x.dst && l.all (fun y=>!(z3a x).contains y.dst && !(Nat.beq y.dst x.dst)) && sepB l
theorem Fact.next {e:Env} {h h':H} {x:Ins} {d:Nat} {av:AV} (h1:d ∉ z3a x) (h2:d ≠ x.dst) (hs:∀ z ∈ h,z ∈ h') (hf:Fact e h x):Fact (upd e d av) h' x:=by
 have hw:zo (upd e d av) x.guard=zo e x.guard:=zd6 fun s hs=>by
  unfold upd; rw [if_neg (by rintro rfl; exact h1 hs)]
 have hd:upd e d av x.dst=e x.dst:=by unfold upd; rw [if_neg (fun e=>h2 e.symm)]
 rcases hf with ⟨f1,f2⟩ | ⟨f1,f2⟩
 ·exact .inl ⟨hw.trans f1,hd.trans f2⟩
 ·refine .inr ⟨hw.trans f1,fun b hb=>?_⟩
  obtain ⟨hp,a,g1,g2,g3⟩:=f2 b hb
  refine ⟨hp,a,fun z hz=>hs z (g1 z hz),?_,by rw [hd]; exact g3⟩
  rw [← g2]
  exact z4r b fun o ho=>z4z (x:=x) (fun s hs=>by unfold upd; rw [if_neg (by rintro rfl; exact h1 hs)]) (by rw [hb]; exact ho)
theorem WD.facts {P:Program} {K:Env→H→Prop} {h0:H}:∀ (pre:List (Ins×List Nat)) (i:Nat) (e:Env) (acc:List (Nat×H)) (done:List Ins),WD P pre i e acc h0 K→sepB (pre.map Prod.fst)=true→(∀ x ∈ done,∀ y ∈ pre,y.1.dst ∉ z3a x∧y.1.dst ≠ x.dst) →
  (∀ x ∈ done,Fact e (z3e acc++h0) x)→WD P pre i e acc h0 (fun e' h'=>K e' h'∧∀ x ∈ done++pre.map Prod.fst,Fact e' h' x)
 | [],i,e,acc,done,hw,_,_,hf=>⟨hw.1,hw.2,fun x hx=>hf x (by simpa using hx)⟩
 | (x,D)::pre,i,e,acc,done,hw,hsep,hd,hf=>by
  obtain ⟨av,rows,hok,hw⟩:=hw
  simp only [List.map_cons,sepB,Bool.and_eq_true,Bool.not_eq_true'] at hsep
  obtain ⟨⟨s1,s2⟩,s3⟩:=hsep
  have hown:x.dst ∉ z3a x:=fun hm=>by
   have:(z3a x).contains x.dst=true:=by simpa using hm
   rw [this] at s1; cases s1
  have hall:∀ acc:List (Nat×H),z3e (acc++[(i,rows)])=z3e acc++rows:=by
   intro acc
   induction acc with
   | nil=>simp [z3e]
   | cons y l ih=>obtain ⟨j,r⟩:=y; simp [z3e,ih]
  have hmem:∀ z ∈ z3e acc++h0,z ∈ z3e (acc++[(i,rows)])++h0:=fun z hz=>by
   rw [hall]
   simp only [List.mem_append] at hz ⊢
   rcases hz with hz | hz
   ·exact .inl (.inl hz)
   ·exact .inr hz
  have hhx:∀ (acc:List (Nat×H)) (z:Nat×Row),z ∈ hx D acc→z ∈ z3e acc:=by
   intro acc
   induction acc with
   | nil=>intro z hz; cases hz
   | cons y l ih =>
    obtain ⟨j,r⟩:=y
    intro z hz
    simp only [hx] at hz
    simp only [z3e,List.mem_append]
    split at hz
    ·rw [List.mem_append] at hz; exact hz.imp id (ih z)
    ·exact .inr (ih z hz)
  refine ⟨av,rows,hok,?_⟩
  have hguard:zo (upd e x.dst av) x.guard=zo e x.guard:=zd6 fun s hs=>by
   unfold upd; rw [if_neg (by rintro rfl; exact hown hs)]
  have hdst:upd e x.dst av x.dst=av:=by simp [upd]
  have hnew:Fact (upd e x.dst av) (z3e (acc++[(i,rows)])++h0) x:=by
   have hrd:∀ (b:IB) (a:AV),x.op = .rd b→rdop (ev e) (res (hx D acc++h0)) b=some a→AVle a av→∃ hp av',(∀ z ∈ hp,z ∈ z3e (acc++[(i,rows)])++h0)∧rdop (ev (upd e x.dst av)) (res hp) b=some av'∧AVle av' (upd e x.dst av x.dst):=by
    intro b a hb h1 h2
    refine ⟨hx D acc++h0,a,fun z hz=>hmem z ?_,?_,by rw [hdst]; exact h2⟩
    ·rw [List.mem_append] at hz ⊢
     exact hz.imp (hhx acc z) id
    ·rw [← h1]
     exact z4r b fun o ho=>z4z (x:=x) (fun s hs=>by unfold upd; rw [if_neg (by rintro rfl; exact hown hs)]) (by rw [hb]; exact ho)
   cases hok with
   | skip g1 g2 g3=>exact .inl ⟨hguard.trans g1,hdst.trans g2⟩
   | rd g1 g2 g3 g4 g5 =>
    refine .inr ⟨hguard.trans g1,fun b hb=>?_⟩
    simp only at g2
    rw [g2] at hb
    cases hb
    exact hrd _ _ g2 g3 g4
   | mk zf g1 g2 g3 g4=>exact .inr ⟨hguard.trans g1,fun b hb=>by simp only at g2; rw [g2] at hb; cases hb⟩
   | call g1 g2=>exact .inr ⟨hguard.trans g1,fun b hb=>by
     simp only at g2
     rw [hb] at g2
     cases g2⟩
  have:=WD.facts pre (i+1) _ _ (done++[x]) hw s3 (fun y hy z hz=>by
   rcases List.mem_append.1 hy with hy | hy
   ·exact hd y hy z (by simp [hz])
   ·simp only [List.mem_singleton] at hy
    subst hy
    have:=List.all_eq_true.1 s2 z.1 (List.mem_map.2 ⟨z,hz,rfl⟩)
    simp only [Bool.and_eq_true,Bool.not_eq_true',z1b,decide_eq_false_iff_not] at this
    exact ⟨by simpa using this.1,this.2⟩) (fun y hy=>by
   rcases List.mem_append.1 hy with hy | hy
   ·obtain ⟨q1,q2⟩:=hd y hy (x,D) (by simp)
    exact (hf y hy).next q1 q2 hmem
   ·simp only [List.mem_singleton] at hy
    subst hy
    exact hnew)
  simpa only [List.append_assoc,List.singleton_append,List.map_cons] using this
def y3z:AV→Option Nat
 | .pt k _ _ _=>some k
 | .sl k _ _ _=>some k
 | _=>none
theorem y0j {f:Operand→AV} {r r':Nat→Path→Option (Nat×Els)} {b:IB} (h:∀ o ∈ z2y b,∀ k,y3z (f o)=some k→∀ p,r' k p=r k p):rdop f r' b=rdop f r b:=by
 cases b with
 | iad s x i =>
  have hx:=h x (by simp [z2y])
  simp only [rdop]
  cases hv:f x with
  | sl k p off len=>have h2:=hx k (by rw [hv]; rfl) p; split <;> simp_all
  | pt k p i c=>have h2:=hx k (by rw [hv]; rfl) p; split <;> simp_all
  | _=>split <;> simp_all
 | load agg n x =>
  have hx:=h x (by simp [z2y])
  simp only [rdop]
  cases hv:f x with
  | sl k p off len=>have h2:=hx k (by rw [hv]; rfl) p; split <;> simp_all
  | pt k p i c=>have h2:=hx k (by rw [hv]; rfl) p; split <;> simp_all
  | _=>split <;> simp_all
 | b2s x =>
  have hx:=h x (by simp [z2y])
  simp only [rdop]
  cases hv:f x with
  | sl k p off len=>have h2:=hx k (by rw [hv]; rfl) p; split <;> simp_all
  | pt k p i c=>have h2:=hx k (by rw [hv]; rfl) p; split <;> simp_all
  | _=>split <;> simp_all
 | slc s x lo hi =>
  have hx:=h x (by simp [z2y])
  simp only [rdop]
  cases hv:f x with
  | sl k p off len=>have h2:=hx k (by rw [hv]; rfl) p; split <;> simp_all
  | pt k p i c=>have h2:=hx k (by rw [hv]; rfl) p; split <;> simp_all
  | _=>split <;> simp_all
 | _=>rfl
section
variable {P:Program} {T:TT} {pro:List Nat} {L:Type}
mutual
def z1m (bad:Nat→Path→Bool):VT T→Bool
 | .sl k p _ _=>!bad k p
 | .sw k p=>!bad k p
 | .pt k p _ _=>!bad k p
 | .ag cs=>z46 bad cs
 | .tu cs=>z46 bad cs
 | .fn _ cs=>z46 bad cs
 | .un | .sc _ | .ik _ _ | .bk _ | .zs | .im _ _ | .ip _ _ _ | .ow _ _ _ | .oo _ _ _ _ _=>true
 | .pp (.xp _ _ _)=>true
 | .pp (.fs k _) | .pp (.fp k _ _) | .pp (.px k _)=>!bad k []
def z46 (bad:Nat→Path→Bool):List (VT T)→Bool
 | []=>true
 | x::l=>z1m bad x && z46 bad l
end
mutual
theorem z81 {bad:Nat→Path→Bool} {H0:H}:∀ (v:VT T),z1m bad v=true→kill bad (den T.toTT0 H0 v)=den T.toTT0 H0 v
 | .sl k p _ _,h=>by simp only [z1m,Bool.not_eq_true'] at h; simp only [den,kill,h,Bool.false_eq_true,if_false]
 | .sw k p,h=>by simp only [z1m,Bool.not_eq_true'] at h; simp only [den,kill,h,Bool.false_eq_true,if_false]
 | .pt k p _ _,h=>by simp only [z1m,Bool.not_eq_true'] at h; simp only [den,kill,h,Bool.false_eq_true,if_false]
 | .ag cs,h=>by simp only [z1m] at h; simp only [den,kill,z8q cs h]
 | .tu cs,h=>by simp only [z1m] at h; simp only [den,kill,z8q cs h]
 | .fn _ cs,h=>by simp only [z1m] at h; simp only [den,kill,z8q cs h]
 | .un,_ | .sc _,_ | .ik _ _,_ | .bk _,_ | .zs,_ | .im _ _,_ | .ip _ _ _,_ | .ow _ _ _,_ | .oo _ _ _ _ _,_ | .pp (.xp _ _ _),_=>rfl
 | .pp (.fs k _),h | .pp (.fp k _ _),h | .pp (.px k _),h=>by simp only [z1m,Bool.not_eq_true'] at h; simp only [den,denP,kill,z4p,h,Bool.false_eq_true,if_false]
theorem z8q {bad:Nat→Path→Bool} {H0:H}:∀ (v:List (VT T)),z46 bad v=true→z2n bad (denL T.toTT0 H0 v)=denL T.toTT0 H0 v
 | [],_=>rfl
 | x::l,h=>by
  simp only [z46,Bool.and_eq_true] at h
  simp only [denL,z2n,z81 x h.1,z8q l h.2]
end
def refT:VT T→Option Nat
 | .pt k _ _ _=>some k
 | .sl k _ _ _=>some k
 | .sw k _=>some k
 | .pp (.px k _)=>some k
 | _=>none
theorem y5o {H0:H} {v:VT T}:y3z (den T.toTT0 H0 v)=refT v:=by cases v <;> first | rfl | (rename_i q; cases q <;> rfl)
def y43:IB→Bool
 | .iad _ _ _ | .load _ _ _ | .slc _ _ _ _ | .b2s _=>true
 | _=>false
def zyx (st:StT T) (e:TE T.toTT0) (x:Ins):Bool :=
 match x.op with
 | .rd b=>(z2y b).all fun o=>z1m st.bad (evT e o) && (!y43 b || match refT (evT e o) with | some k=>!st.tch.contains k | none=>true)
 | _=>false
def eqP:Path→Path→Bool
 | [],[]=>true
 | (i,c)::p,(j,d)::q=>Nat.beq c d && (Nat.beq i j && eqP p q)
 | _,_=>false
theorem ztu:∀ (p q:Path),eqP p q=true→p=q
 | [],[],_=>rfl
 | (i,c)::p,(j,d)::q,h=>by
  simp only [eqP,Bool.and_eq_true] at h
  rw [Nat.eq_of_beq_eq_true h.1,Nat.eq_of_beq_eq_true h.2.1,ztu p q h.2.2]
 | [],_::_,h=>by cases h
 | _::_,[],h=>by cases h
def eqT:VT T→VT T→Bool
 | .sw k p,.sw k' p'=>Nat.beq k k' && eqP p p'
 | _,_=>false
theorem y6h:∀ (v w:VT T),eqT v w=true→v=w:=by
 intro v w h
 unfold eqT at h
 split at h
 ·simp only [Bool.and_eq_true] at h
  rw [Nat.eq_of_beq_eq_true h.1,ztu _ _ h.2]
 ·cases h
def zrm (st:StT T) (e:TE T.toTT0) (x:Ins):Bool :=
 match x.op with
 | .rd b=>(z2y b).all (fun o=>z1m (fun k p=>st.bad k p || st.bw k p) (evT e o)) && match rdT e st.h b with
  | .ok v=>eqT v (getE e x.dst) && z1m (fun k p=>st.bad k p || st.bw k p) v
  | _=>false
 | _=>false
def zbs (dep:List Nat) (st:StT T) (e:TE T.toTT0):List (Ins×List Nat)→Nat→Bool
 | [],_=>true
 | (x,_)::l,i=>(dep.contains i || (zyx st e x || zrm st e x)) && zbs dep st e l (i+1)
theorem z98 {e:Env} {g:Option (Nat×Bool)} {b:Bool} {bad:Nat→Path→Bool} (h:zo e g=some b):zo (fun t=>kill bad (e t)) g=some b:=by
 cases g with
 | none=>exact h
 | some sw =>
  obtain ⟨s,want⟩:=sw
  simp only [zo] at h ⊢
  split at h
  ·rename_i hb; rw [hb]; simpa [kill] using h
  ·rename_i hb; rw [hb]; simpa [kill] using h
  ·cases h
mutual
theorem zab {bad:Nat→Path→Bool} {H0 H1:H} (hl:∀ k p,bad k p=false→ze H1 k p=ze H0 k p):∀ (v:VT T),z1m bad v=true→den T.toTT0 H1 v=den T.toTT0 H0 v
 | .sw k p,h=>by simp only [z1m,Bool.not_eq_true'] at h; simp only [den,hl k p h]
 | .ag cs,h=>by simp only [z1m] at h; simp only [den,z8r hl cs h]
 | .tu cs,h=>by simp only [z1m] at h; simp only [den,z8r hl cs h]
 | .fn _ cs,h=>by simp only [z1m] at h; simp only [den,z8r hl cs h]
 | .un,_ | .sc _,_ | .ik _ _,_ | .bk _,_ | .zs,_ | .im _ _,_ | .ip _ _ _,_ | .sl _ _ _ _,_ | .pt _ _ _ _,_ | .ow _ _ _,_ | .oo _ _ _ _ _,_ | .pp _,_=>rfl
theorem z8r {bad:Nat→Path→Bool} {H0 H1:H} (hl:∀ k p,bad k p=false→ze H1 k p=ze H0 k p):∀ (v:List (VT T)),z46 bad v=true→denL T.toTT0 H1 v=denL T.toTT0 H0 v
 | [],_=>rfl
 | x::l,h=>by
  simp only [z46,Bool.and_eq_true] at h
  simp only [denL,zab hl x h.1,z8r hl l h.2]
end
mutual
theorem zac {bad bad':Nat→Path→Bool} (hb:∀ k p,bad k p=false→bad' k p=false):∀ (v:VT T),z1m bad v=true→z1m bad' v=true
 | .sl k p _ _,h=>by simp only [z1m,Bool.not_eq_true'] at h ⊢; exact hb k p h
 | .sw k p,h=>by simp only [z1m,Bool.not_eq_true'] at h ⊢; exact hb k p h
 | .pt k p _ _,h=>by simp only [z1m,Bool.not_eq_true'] at h ⊢; exact hb k p h
 | .ag cs,h=>by simp only [z1m] at h ⊢; exact z8s hb cs h
 | .tu cs,h=>by simp only [z1m] at h ⊢; exact z8s hb cs h
 | .fn _ cs,h=>by simp only [z1m] at h ⊢; exact z8s hb cs h
 | .un,_ | .sc _,_ | .ik _ _,_ | .bk _,_ | .zs,_ | .im _ _,_ | .ip _ _ _,_ | .ow _ _ _,_ | .oo _ _ _ _ _,_ | .pp (.xp _ _ _),_=>rfl
 | .pp (.fs k _),h | .pp (.fp k _ _),h | .pp (.px k _),h=>by simp only [z1m,Bool.not_eq_true'] at h ⊢; exact hb k [] h
theorem z8s {bad bad':Nat→Path→Bool} (hb:∀ k p,bad k p=false→bad' k p=false):∀ (v:List (VT T)),z46 bad v=true→z46 bad' v=true
 | [],_=>rfl
 | x::l,h=>by
  simp only [z46,Bool.and_eq_true] at h ⊢
  exact ⟨zac hb x h.1,z8s hb l h.2⟩
end
theorem zio {dep:List Nat} {st:StT T} {e:TE T.toTT0} {hA:TH T.toTT0} (hlen:∀ k p,st.bad k p=false→st.bw k p=false→ze (denH T.toTT0 st.h) k p=ze (denH T.toTT0 hA) k p) (hn:zn (hA.map Prod.fst)=true) (ht:∀ k,st.tch.contains k=false→za (denH T.toTT0 st.h) k=za (denH T.toTT0 hA) k):∀ (l:List (Ins×List Nat)) (i:Nat),zbs dep st e l i=true →
  (∀ x ∈ l.map Prod.fst,Fact (denE T.toTT0 (denH T.toTT0 hA) e) (denH T.toTT0 hA) x)→zgp dep (kill st.bad) (denE T.toTT0 (denH T.toTT0 hA) e) (denH T.toTT0 st.h) l i
 | [],_,_,_=>trivial
 | (x,D)::l,i,hs,hf=>by
  simp only [zbs,Bool.and_eq_true,Bool.or_eq_true] at hs
  refine ⟨?_,zio hlen hn ht l (i+1) hs.2 (fun y hy=>hf y (by simp [hy]))⟩
  rcases hs.1 with h1 | h1 | h1
  ·exact .inl h1
  rotate_left
  ·right
   unfold zrm at h1
   split at h1
   ·rename_i b hb
    rcases hf x (by simp) with ⟨f1,f2⟩ | ⟨f1,f2⟩
    ·refine .inl ⟨z98 f1,?_⟩
     rw [f2]
     cases x.op <;> rfl
    ·simp only [Bool.and_eq_true] at h1
     obtain ⟨h1,h2⟩:=h1
     split at h2
     ·rename_i v hv
      simp only [Bool.and_eq_true] at h2
      have hlen':∀ k p,(fun k p=>st.bad k p || st.bw k p) k p=false→ze (denH T.toTT0 st.h) k p=ze (denH T.toTT0 hA) k p:=fun k p hk=>by
       simp only [Bool.or_eq_false_iff] at hk
       exact hlen k p hk.1 hk.2
      have hsub:∀ k p,(fun k p=>st.bad k p || st.bw k p) k p=false→st.bad k p=false:=fun k p hk=>by
       simp only [Bool.or_eq_false_iff] at hk
       exact hk.1
      obtain ⟨av,r1,r2⟩:=zo7 (e:=e) (h:=st.h) (b:=b) (v:=v) (by rw [hv]; exact rfl)
      have hcl:∀ o ∈ z2y b,ev (fun t=>kill st.bad (denE T.toTT0 (denH T.toTT0 hA) e t)) o=ev (denE T.toTT0 (denH T.toTT0 st.h) e) o:=fun o ho=>by
       have:=List.all_eq_true.1 h1 o ho
       cases o with
       | tmp t =>
        have q1:=z81 (H0:=denH T.toTT0 hA) _ (zac hsub _ this)
        have q2:=zab hlen' _ this
        exact q1.trans q2.symm
       | _=>rfl
      refine .inr ⟨z98 f1,b,av,hb,(z4r b hcl).trans r1,?_⟩
      have e1:=y6h _ _ h2.1
      have q2:=zab hlen' _ h2.2
      have q1:=z81 (H0:=denH T.toTT0 hA) _ (zac hsub _ h2.2)
      rw [q2] at r2
      show AVle av (kill st.bad (den T.toTT0 (denH T.toTT0 hA) (getE e x.dst)))
      rw [← e1,q1]
      exact r2
     ·cases h2
   ·cases h1
  ·right
   unfold zyx at h1
   split at h1
   ·rename_i b hb
    rcases hf x (by simp) with ⟨f1,f2⟩ | ⟨f1,f2⟩
    ·refine .inl ⟨z98 f1,?_⟩
     rw [f2]
     cases x.op <;> rfl
    ·obtain ⟨hp,av,g1,g2,g3⟩:=f2 b hb
     refine .inr ⟨z98 f1,b,av,hb,?_,g3.trans (AVle.kill _ _)⟩
     have e1:rdop (ev (denE T.toTT0 (denH T.toTT0 hA) e)) (res (denH T.toTT0 hA)) b=some av :=
      zkz (fun k p v hv=>zob (by rw [z1e]; exact zw _ hn) g1 k p v hv) g2
     have hcl:∀ o ∈ z2y b,ev (fun t=>kill st.bad (denE T.toTT0 (denH T.toTT0 hA) e t)) o=ev (denE T.toTT0 (denH T.toTT0 hA) e) o:=fun o ho=>by
      have:=List.all_eq_true.1 h1 o ho
      simp only [Bool.and_eq_true] at this
      cases o with
      | tmp t=>exact z81 _ this.1
      | _=>rfl
     rw [z4r b hcl,← e1]
     cases hrb:y43 b with
     | false=>cases b <;> first | rfl | cases hrb
     | true =>
      refine y0j fun o ho k hk p=>?_
      have:=List.all_eq_true.1 h1 o ho
      simp only [Bool.and_eq_true,hrb,Bool.not_true,Bool.false_or] at this
      rw [zg,y5o] at hk
      rw [hk] at this
      simp only [Bool.not_eq_true'] at this
      unfold res
      rw [ht k this.2]
   ·cases h1
def ze5 (pro:List Nat) (cx:Cx P T) (x:Ins) (e:TE T.toTT0) (h:TH T.toTT0) (K:StT T→Raw P T pro L):Raw P T pro L :=
 match x.op with
 | .mk b=>Raw.ofRs K (mkT (cx.at x.dst) pro e h x.dst b)
 | .app s bytes a b=>Raw.ofRs K (appT (cx.at x.dst) pro e h x.dst s bytes a b)
 | .st n a v=>Raw.ofRs K (stT e h n a v)
 | _=>.no
def zt2 (pro:List Nat) (cx:Cx P T) (x:Ins) (e:TE T.toTT0) (h:TH T.toTT0) (K:StT T→Raw P T pro L):Raw P T pro L :=
 match x.guard with
 | none=>ze5 pro cx x e h K
 | some (s,want)=>match getE e s with | .bk true=>bif want then ze5 pro cx x e h K else .no | .bk false=>bif want then .no else ze5 pro cx x e h K | _=>.no
theorem y0o {cx:Cx P T} {x:Ins} {e:TE T.toTT0} {h:TH T.toTT0} {K:StT T→Raw P T pro L} {Q:L→Prop} (hs:Sat (zt2 pro cx x e h K) Q) :
  ∃ st,Sat (K st) Q∧StOk P pro T e h x st∧zo (denE T.toTT0 (denH T.toTT0 h) e) x.guard=some true:=by
 obtain ⟨d,g,op⟩:=x
 have go:Sat (ze5 pro cx ⟨d,g,op⟩ e h K) Q→∃ st,Sat (K st) Q∧StOk P pro T e h ⟨d,g,op⟩ st:=fun hs=>by
  unfold ze5 at hs
  dsimp only at hs
  split at hs
  ·obtain ⟨st,hv,hK⟩:=Sat.ofRs _ hs
   exact ⟨st,hK,zya hv⟩
  ·obtain ⟨st,hv,hK⟩:=Sat.ofRs _ hs
   exact ⟨st,hK,zp7 hv⟩
  ·obtain ⟨st,hv,hK⟩:=Sat.ofRs _ hs
   exact ⟨st,hK,zyw hv⟩
  ·exact hs.elim
 unfold zt2 at hs
 dsimp only at hs
 split at hs
 ·obtain ⟨st,q1,q2⟩:=go hs
  exact ⟨st,q1,q2,rfl⟩
 ·rename_i s want
  split at hs
  ·rename_i hv
   cases want with
   | false=>exact hs.elim
   | true =>
    obtain ⟨st,q1,q2⟩:=go hs
    exact ⟨st,q1,q2,by simp [zo,denE,hv,den]⟩
  ·rename_i hv
   cases want with
   | true=>exact hs.elim
   | false =>
    obtain ⟨st,q1,q2⟩:=go hs
    exact ⟨st,q1,q2,by simp [zo,denE,hv,den]⟩
  ·exact hs.elim
theorem StOk.turn {e:TE T.toTT0} {h:TH T.toTT0} {x:Ins} {st:StT T} (hst:StOk P pro T e h x st) (hw:zo (denE T.toTT0 (denH T.toTT0 h) e) x.guard=some true) :
  zgu P pro x (denE T.toTT0 (denH T.toTT0 h) e) (denH T.toTT0 h) (kill st.bad) (den T.toTT0 (denH T.toTT0 st.h) st.v) (denH T.toTT0 st.h):=fun e' he=>by
 obtain ⟨e0,h0',e1,h1',g1,gb,g2,g3⟩:=hst.1 e' he
 exact ⟨by rw [zd6 he]; exact hw,e0,h0',e1,h1',g1,g2,g3⟩
def zcn (keep:List Nat) (e:TE T.toTT0):TE T.toTT0:=keep.map fun t=>(t,getE e t)
theorem zdw {H0:H} (keep:List Nat) (e:TE T.toTT0):denE T.toTT0 H0 (zcn keep e)=z6e keep (denE T.toTT0 H0 e):=by
 unfold z6e zcn
 induction keep with
 | nil=>rfl
 | cons s l ih =>
  simp only [List.map_cons,z1l]
  rw [← ih]
  exact zy (e:=List.map (fun t=>(t,getE e t)) l)
def zip (ds:List Nat) (e:TE T.toTT0):TE T.toTT0:=z5g (fun k _=>ds.contains k) (fun _ _=>false) e
theorem ziq {ds:List Nat} {e:TE T.toTT0} {h:TH T.toTT0}:denE T.toTT0 (denH T.toTT0 (z2k h ds)) (zip ds e)=preE ds (denE T.toTT0 (denH T.toTT0 h) e):=by
 funext t
 simp only [denE,zip,z2v,preE]
 have hl:∀ k p,(fun k (_:Path)=>ds.contains k) k p=false→ze (denH T.toTT0 (z2k h ds)) k p=ze (denH T.toTT0 h) k p:=fun k p hk=>z1a (by rw [← z5d]; exact z7l _ _ _ hk)
 exact (zbm hl _).symm
def zy4 (cx:Cx P T) (x:Ins):Bool :=
 match x.op with
 | .st _ _ _ | .app _ _ _ _=>true
 | .mk _=>cx.tn.contains x.dst
 | _=>false
def zat (cx:Cx P T):List (Ins×List Nat)→Option (List (Ins×List Nat)×(Ins×List Nat)×List (Ins×List Nat))
 | []=>none
 | x::l=>match zat cx l with
  | some (p,y,q)=>some (x::p,y,q)
  | none=>bif zy4 cx x.1 then some ([],x,l) else none
theorem ze4 {cx:Cx P T}:∀ (l p:List (Ins×List Nat)) (y:Ins×List Nat) (q:List (Ins×List Nat)),zat cx l=some (p,y,q)→l=p++y::q
 | [],_,_,_,h=>by cases h
 | x::l,p,y,q,h=>by
  simp only [zat] at h
  split at h
  ·rename_i p' y' q' h'
   cases h
   rw [ze4 l _ _ _ h']; rfl
  ·cases ht:zy4 cx x.1 with
   | false=>rw [ht] at h; cases h
   | true=>rw [ht] at h; cases h; rfl
def zcy (bad:Nat→Path→Bool) (e1:TE T.toTT0):List (Ins×List Nat)→List Nat→TE T.toTT0→Option (TE T.toTT0)
 | [],_,e=>some e
 | (x,_)::l,fb,e=>match x.guard,x.op with
  | none,.rd (.mov (.tmp s))=>bif !fb.contains s && z1m bad (getE e1 s) then
    match getE e1 s with
    | .un=>none
    | v=>zcy bad e1 l (x.dst::fb) (putE e x.dst v)
   else none
  | none,.rd (.mov (.const u))=>match zae u with
    | .un=>none
    | v=>zcy bad e1 l (x.dst::fb) (putE e x.dst v)
  | _,_=>none
theorem zgj {bad0 bad:Nat→Path→Bool} {H0 H1:H} {e1:TE T.toTT0} (hsub:∀ k p,bad k p=false→bad0 k p=false) (hl:∀ k p,bad k p=false→ze H1 k p=ze H0 k p) {K:Env→Prop}:∀ (l:List (Ins×List Nat)) (fb:List Nat) (e e2:TE T.toTT0) (E:Env),zcy bad e1 l fb e=some e2 →
  (∀ t,fb.contains t=false→E t=kill bad0 (denE T.toTT0 H0 e1 t))→(∀ t,AVle (E t) (denE T.toTT0 H1 e t))→(∀ E2:Env,(∀ t,AVle (E2 t) (denE T.toTT0 H1 e2 t))→K E2)→za6 P H1 K l E
 | [],fb,e,e2,E,h,_,h2,hK=>by
  cases h
  exact hK E h2
 | (⟨d,g,op⟩,D)::l,fb,e,e2,E,h,h1,h2,hK=>by
  simp only [zcy] at h
  split at h
  ·rename_i s
   obtain ⟨hb,h⟩:(!fb.contains s && z1m bad (getE e1 s))=true∧(match getE e1 s with | .un=>none | v=>zcy bad e1 l (d::fb) (putE e d v))=some e2:=by
    cases hb:(!fb.contains s && z1m bad (getE e1 s)) with
    | false=>rw [hb] at h; cases h
    | true=>rw [hb] at h; exact ⟨rfl,h⟩
   simp only [Bool.and_eq_true,Bool.not_eq_true'] at hb
   have hE:E s=den T.toTT0 H1 (getE e1 s):=by
    rw [h1 s hb.1,denE,z81 _ (zac hsub _ hb.2),zab hl _ hb.2]
   have key:∀ v:VT T,getE e1 s=v→v ≠ .un→zcy bad e1 l (d::fb) (putE e d v)=some e2→za6 P H1 K ((⟨d,none,.rd (.mov (.tmp s))⟩,D)::l) E:=fun v hv hun h=>by
    rw [hv] at hE
    refine ⟨den T.toTT0 H1 v,.rd (b:=.mov (.tmp s)) (av:=den T.toTT0 H1 v) rfl rfl ?_ (AVle.refl _) rfl,?_⟩
    ·simp only [rdop,ev,hE]
     cases v <;> first | rfl | (rename_i q; cases q <;> rfl) | (exact absurd rfl hun)
    ·refine zgj hsub hl l (d::fb) _ e2 _ h (fun t ht=>?_) (fun t=>?_) hK
     ·simp only [List.contains_cons,Bool.or_eq_false_iff,beq_eq_false_iff_ne] at ht
      simp only [upd,if_neg ht.1]
      exact h1 t ht.2
     ·rw [zy]
      exact AVle.upd h2 (AVle.refl _) t
   split at h
   ·cases h
   ·rename_i v hne
    exact key _ rfl (fun he=>hne (by rw [he])) h
  ·rename_i u
   split at h
   ·cases h
   ·rename_i v hne
    have hun:(zae u:VT T) ≠ .un:=fun he=>hne (by rw [he])
    have hcv:ev E (.const u)=den T.toTT0 H1 (zae u:VT T):=(zdl H1 u).symm
    generalize (zae u:VT T)=v at *
    refine ⟨den T.toTT0 H1 v,.rd (b:=.mov (.const u)) (av:=den T.toTT0 H1 v) rfl rfl ?_ (AVle.refl _) rfl,?_⟩
    ·simp only [rdop,hcv]
     cases v <;> first | rfl | (rename_i q; cases q <;> rfl) | (exact absurd rfl hun)
    ·refine zgj hsub hl l (d::fb) _ e2 _ h (fun t ht=>?_) (fun t=>?_) hK
     ·simp only [List.contains_cons,Bool.or_eq_false_iff,beq_eq_false_iff_ne] at ht
      simp only [upd,if_neg ht.1]
      exact h1 t ht.2
     ·rw [zy]
      exact AVle.upd h2 (AVle.refl _) t
  ·cases h
def zi3 (ds:List Nat) (h0 h1:TH T.toTT0):Bool:=(h1.map Prod.fst).all (fun k=>ds.contains k || (h0.map Prod.fst).contains k)
def zmg (pro:List Nat) (cx:Cx P T) (keep:List Nat) (pre:List (Ins×List Nat)) (tail:List Ins) (e:TE T.toTT0) (h:TH T.toTT0) (K:TE T.toTT0→TH T.toTT0→Raw P T pro L):Raw P T pro L :=
 let ds:=pre.map (·.1.dst)
 let e0:=zip ds e
 let h0:=z2k h ds
 let Kt:TE T.toTT0→TH T.toTT0→Raw P T pro L:=fun e h=>evR pro cx tail e h fun e h=>K (zcn keep e) h
 let plain:Raw P T pro L:=bif zn ds && z5y ds pre 0 pre && pro.all (fun k=>!ds.contains k) && pre.all (fun x=>!isSt x.1.op) then evD cx pre 0 e0 [] h0 fun e1 h1=>bif zi3 ds h0 h1 then Kt e1 h1 else .no else .no
 match zat cx pre with
 | some (pre0,(x,dep),post) =>
   bif zn ds && z9v ds 0 pre && pro.all (fun k=>!ds.contains k) && pre0.all (fun x=>!isSt x.1.op) && z9x dep pre0 0 && !dep.contains pre0.length && dep.all (fun i=>decide (i<pre0.length)) && pre0.all (fun x=>!x.2.contains pre0.length) && post.all (fun y=>isRd y.1.op && y.2.contains pre0.length) && sepB (pre0.map Prod.fst) then
    evD cx pre0 0 e0 [] h0 fun e1 hA=>zt2 pro cx x e1 hA fun st =>
     bif zn (hA.map Prod.fst) && zi3 ds h0 hA && zn (st.h.map Prod.fst) && zbs dep st e1 pre0 0 then (match zcy (fun k p=>st.bad k p || st.bw k p) e1 post [x.dst] (st.env e1 x.dst) with | some e2=>Kt e2 st.h | none=>.no) else .no
   else .no
 | none=>plain
theorem ztv {cx:Cx P T} {keep:List Nat} {pre:List (Ins×List Nat)} {tail:List Ins} {e:TE T.toTT0} {h:TH T.toTT0} {K:TE T.toTT0→TH T.toTT0→Raw P T pro L} {Q:L→Prop} {Q':Out→Env→H→Prop}
  (hQ:∀ E H0,KP K Q E H0→Q' .normal E H0) (hs:Sat (zmg pro cx keep pre tail e h K) Q):W P pro (.draw keep pre tail) Q' (denE T.toTT0 (denH T.toTT0 h) e) (denH T.toTT0 h):=by
 have tl:∀ (e1:TE T.toTT0) (h1:TH T.toTT0),Sat (evR pro cx tail e1 h1 fun e h=>K (zcn keep e) h) Q→RG P pro keep Q' tail (denE T.toTT0 (denH T.toTT0 h1) e1) (denH T.toTT0 h1):=fun e1 h1 hs=>by
  obtain ⟨E,H',r,e2,h2,rfl,rfl,hK⟩:=zdn tail e1 h1 hs
  exact ⟨_,_,r,hQ _ _ ⟨_,_,(zdw keep e2).symm,rfl,hK⟩⟩
 have plain:Sat (bif zn (pre.map (·.1.dst)) && z5y (pre.map (·.1.dst)) pre 0 pre && pro.all (fun k=>!(pre.map (·.1.dst)).contains k) && pre.all (fun x=>!isSt x.1.op) then evD cx pre 0 (zip (pre.map (·.1.dst)) e) [] (z2k h (pre.map (·.1.dst))) fun e1 h1=>bif zi3 (pre.map (·.1.dst)) (z2k h (pre.map (·.1.dst))) h1 then evR pro cx tail e1 h1 (fun e h=>K (zcn keep e) h) else .no else .no:Raw P T pro L) Q →
   W P pro (.draw keep pre tail) Q' (denE T.toTT0 (denH T.toTT0 h) e) (denH T.toTT0 h):=fun hs=>by
  cases hb:(zn (pre.map (·.1.dst)) && z5y (pre.map (·.1.dst)) pre 0 pre && pro.all (fun k=>!(pre.map (·.1.dst)).contains k) && pre.all (fun x=>!isSt x.1.op)) with
  | false=>rw [hb] at hs; exact hs.elim
  | true =>
   rw [hb,cond_true] at hs
   refine W.drawG (pre.map (·.1.dst)) rfl hb ?_
   have:=zhd pre 0 _ [] hs
   simp only [z1d,List.nil_append,ziq,accA,List.map_nil] at this
   rw [z5d]
   refine WD.mono (fun E H0 hk=>?_) _ _ _ _ this
   obtain ⟨e1,h1,rfl,rfl,hK⟩:=hk
   dsimp only at hK
   cases hk2:zi3 (pre.map (·.1.dst)) (z2k h (pre.map (·.1.dst))) h1 with
   | false=>rw [hk2] at hK; exact hK.elim
   | true =>
    rw [hk2,cond_true] at hK
    refine ⟨?_,tl _ _ hK⟩
    unfold zi2
    rw [z1e,z1e]
    exact hk2
 unfold zmg at hs
 dsimp only at hs
 split at hs
 ·rename_i pre0 x dep post hsl
  have hpre:=ze4 _ _ _ _ hsl
  generalize hds:pre.map (·.1.dst)=ds at hs
  cases hb:(zn ds && z9v ds 0 pre && pro.all (fun k=>!ds.contains k) && pre0.all (fun x=>!isSt x.1.op) && z9x dep pre0 0 && !dep.contains pre0.length && dep.all (fun i=>decide (i<pre0.length)) && pre0.all (fun x=>!x.2.contains pre0.length) && post.all (fun y=>isRd y.1.op && y.2.contains pre0.length) && sepB (pre0.map Prod.fst)) with
  | false=>rw [hb] at hs; exact hs.elim
  | true =>
   rw [hb,cond_true] at hs
   simp only [Bool.and_eq_true] at hb
   obtain ⟨hb,hsep⟩:=hb
   rw [hpre] at hds hb ⊢
   refine W.turn post ds hds (by simpa only [Bool.and_eq_true] using hb) ?_
   have hwd:=zhd pre0 0 _ [] hs
   simp only [z1d,List.nil_append,ziq,accA,List.map_nil] at hwd
   rw [z5d]
   have hf:=WD.facts pre0 0 _ [] [] hwd hsep (fun _ h=>(by cases h)) (fun _ h=>(by cases h))
   refine WD.mono (fun E H0 hk=>?_) _ _ _ _ hf
   obtain ⟨⟨e1,hA,rfl,rfl,hK⟩,hfacts⟩:=hk
   obtain ⟨st,hK,hst,hw⟩:=y0o hK
   cases hc:(zn (hA.map Prod.fst) && zi3 ds (z2k h ds) hA && zn (st.h.map Prod.fst) && zbs dep st e1 pre0 0) with
   | false=>rw [hc] at hK; exact hK.elim
   | true =>
    rw [hc,cond_true] at hK
    simp only [Bool.and_eq_true] at hc
    obtain ⟨⟨⟨c1,c2⟩,c3⟩,c4⟩:=hc
    refine ⟨kill st.bad,den T.toTT0 (denH T.toTT0 st.h) st.v,denH T.toTT0 st.h,?_,by rw [z1e]; exact c3,hst.turn hw,zio hst.2.1 c1 hst.2.2 pre0 0 c4 (by simpa using hfacts),?_⟩
    ·unfold zi2
     rw [z1e,z1e]
     exact c2
    ·split at hK
     ·rename_i e2 hp
      refine zgj (bad0:=st.bad) (fun k p h=>(by simpa using h:st.bad k p=false∧_).1) (fun k p h=>hst.2.1 k p (by simpa using h:st.bad k p=false∧_).1 (by simpa using h:_∧st.bw k p=false).2) post _ _ _ _ hp (fun t ht=>?_) (fun t=>?_) (fun E2 h2=>RG.ghost (zc.le h2) (tl _ _ hK))
      ·simp only [List.contains_cons,List.contains_nil,Bool.or_false,beq_eq_false_iff_ne] at ht
       simp only [upd,if_neg ht]
      ·rw [StT.env,zy]
       refine AVle.upd (fun t=>?_) (AVle.refl _) t
       simp only [denE,z2v]
       exact z6r (fun _ _ h=>h) hst.2.1 _
     ·exact hK.elim
 ·exact plain hs
def zj1 (pro:List Nat) (cx:Cx P T) (keep:List Nat) (pre:List (Ins×List Nat)) (tail:List Ins) (e:TE T.toTT0) (h:TH T.toTT0) (K:TE T.toTT0→TH T.toTT0→Raw P T pro L):Raw P T pro L :=
 match frzL (match pre with | x::_=>cx.fzAt (800000+x.1.dst) | []=>[]) e h with
 | some (e,h)=>zmg pro cx keep pre tail e h K
 | none=>.no
theorem z8t {cx:Cx P T} {keep:List Nat} {pre:List (Ins×List Nat)} {tail:List Ins} {e:TE T.toTT0} {h:TH T.toTT0} {K:TE T.toTT0→TH T.toTT0→Raw P T pro L} {Q:L→Prop} {Q':Out→Env→H→Prop}
  (hQ:∀ E H0,KP K Q E H0→Q' .normal E H0) (hs:Sat (zj1 pro cx keep pre tail e h K) Q):W P pro (.draw keep pre tail) Q' (denE T.toTT0 (denH T.toTT0 h) e) (denH T.toTT0 h):=by
 unfold zj1 at hs
 split at hs
 ·rename_i e1 h1 hf
  exact W.ghost (z6q _ hf).1 (ztv hQ hs)
 ·exact hs.elim
end
inductive SD where
 | any
 | un
 | im (t:Nat)
 | own (c:Nat) (m:Bool) (t:Nat)
 | ref (c:Nat)
 | ag (l:List SD)
 | fn (l:List SD)
inductive RD where
 | any
 | fix (ks:List Kd)
 | typ (m:Bool) (t:Nat)
structure Dr where
 S:List (Nat×SD)
 R:List (Nat×RD)
section
variable {P:Program} {T:TT} {pro:List Nat} {L:Type}
mutual
def zbr:VT T→Option (VT T)
 | .un=>some .un
 | .sc v=>some (.sc v)
 | .ik k n=>some (.sc (.int k n))
 | .bk b=>some (.sc (.bool b))
 | .zs=>some .zs
 | .im t xs=>some (.im t xs)
 | .ip s cs c=>some (.ip s cs c)
 | .pp (.xp b x c)=>some (.pp (.xp b x c))
 | .pp _=>none
 | .ag cs=>match z9d cs with | some cs'=>some (.ag cs') | none=>none
 | .tu cs=>match z9d cs with | some cs'=>some (.tu cs') | none=>none
 | .fn f cs=>match z9d cs with | some cs'=>some (.fn f cs') | none=>none
 | .sl _ _ _ _ | .sw _ _ | .pt _ _ _ _ | .ow _ _ _ | .oo _ _ _ _ _=>none
def z9d:List (VT T)→Option (List (VT T))
 | []=>some []
 | x::l=>match zbr x,z9d l with | some x',some l'=>some (x'::l') | _,_=>none
end
mutual
theorem zky {H0:H}:∀ (v v':VT T),zbr v=some v'→den T.toTT0 H0 v=den T.toTT0 H0 v'
 | .un,_,h | .sc _,_,h | .ik _ _,_,h | .bk _,_,h | .zs,_,h | .im _ _,_,h | .ip _ _ _,_,h | .pp (.xp _ _ _),_,h=>by cases h; rfl
 | .pp (.fs _ _),_,h | .pp (.fp _ _ _),_,h | .pp (.px _ _),_,h=>by cases h
 | .ag cs,_,h=>by
  simp only [zbr] at h
  split at h
  ·rename_i cs' hc; cases h; simp only [den,z94 cs cs' hc]
  ·cases h
 | .tu cs,_,h=>by
  simp only [zbr] at h
  split at h
  ·rename_i cs' hc; cases h; simp only [den,z94 cs cs' hc]
  ·cases h
 | .fn f cs,_,h=>by
  simp only [zbr] at h
  split at h
  ·rename_i cs' hc; cases h; simp only [den,z94 cs cs' hc]
  ·cases h
 | .sl _ _ _ _,_,h | .sw _ _,_,h | .pt _ _ _ _,_,h | .ow _ _ _,_,h | .oo _ _ _ _ _,_,h=>by cases h
theorem z94 {H0:H}:∀ (v v':List (VT T)),z9d v=some v'→denL T.toTT0 H0 v=denL T.toTT0 H0 v'
 | [],_,h=>by cases h; rfl
 | x::l,_,h=>by
  simp only [z9d] at h
  split at h
  ·rename_i x' l' h1 h2
   cases h
   simp only [denL,zky x x' h1,z94 l l' h2]
  ·cases h
end
mutual
def zc4:SD→VT T→Option (VT T×List (Nat×Nat))
 | .any,v=>match zbr v with | some v'=>some (v',[]) | none=>none
 | .un,_=>some (.un,[])
 | .im t,.zs=>some (.im t [],[])
 | .im _,.im t xs=>some (.im t xs,[])
 | .im _,_=>none
 | .own c _ _,.sw k []=>some (.sw k [],[(c,k)])
 | .own _ _ _,_=>none
 | .ref c,.pt k p i cc=>some (.pt k p i cc,[(c,k)])
 | .ref c,.sw k p=>some (.sw k p,[(c,k)])
 | .ref c,.sl k p off len=>some (.sl k p off len,[(c,k)])
 | .ref c,.pp (.fs k cs)=>some (.pp (.fs k cs),[(c,k)])
 | .ref _,_=>none
 | .ag ds,.ag cs=>match zb5 ds cs with | some (cs',b)=>some (.ag cs',b) | none=>none
 | .ag ds,.tu cs=>match zb5 ds cs with | some (cs',b)=>some (.tu cs',b) | none=>none
 | .ag _,_=>none
 | .fn ds,.fn f cs=>match zb5 ds cs with | some (cs',b)=>some (.fn f cs',b) | none=>none
 | .fn _,_=>none
def zb5:List SD→List (VT T)→Option (List (VT T)×List (Nat×Nat))
 | [],[]=>some ([],[])
 | d::ds,v::vs=>match zc4 d v,zb5 ds vs with | some (v',b),some (vs',b')=>some (v'::vs',b++b') | _,_=>none
 | _,_=>none
end
mutual
theorem zmc {H0:H}:∀ (d:SD) (v v':VT T) (b:List (Nat×Nat)),zc4 d v=some (v',b)→AVle (den T.toTT0 H0 v) (den T.toTT0 H0 v')
 | .any,v,v',b,h=>by
  simp only [zc4] at h
  split at h
  ·rename_i w hw; cases h; rw [zky v _ hw]; exact AVle.refl _
  ·cases h
 | .un,v,v',b,h=>by cases h; exact AVle.un _
 | .im t,v,v',b,h=>by
  cases v <;> first | (cases h; done) | skip
  ·cases h; simp only [den,List.map_nil]; exact AVle.zsIm _
  ·cases h; exact AVle.refl _
 | .own c m t,v,v',b,h=>by
  cases v with
  | sw k p =>
   cases p with
   | nil=>cases h; exact AVle.refl _
   | cons _ _=>cases h
  | _=>cases h
 | .ref c,v,v',b,h=>by
  cases v <;> first | (cases h; done) | (rename_i q; cases q <;> first | (cases h; done) | (cases h; exact AVle.refl _)) | (cases h; exact AVle.refl _)
 | .ag ds,v,v',b,h=>by
  cases v with
  | ag cs =>
   simp only [zc4] at h
   split at h
   ·rename_i cs' b' hc; cases h; simp only [den]; exact AVle.ag (zad ds cs cs' _ hc).C
   ·cases h
  | tu cs =>
   simp only [zc4] at h
   split at h
   ·rename_i cs' b' hc; cases h; simp only [den]; exact AVle.tu (zad ds cs cs' _ hc).L
   ·cases h
  | _=>cases h
 | .fn ds,v,v',b,h=>by
  cases v with
  | fn f cs =>
   simp only [zc4] at h
   split at h
   ·rename_i cs' b' hc; cases h; simp only [den]; exact AVle.fn (zad ds cs cs' _ hc).L
   ·cases h
  | _=>cases h
theorem zad {H0:H}:∀ (d:List SD) (v v':List (VT T)) (b:List (Nat×Nat)),zb5 d v=some (v',b)→z53 (denL T.toTT0 H0 v) (denL T.toTT0 H0 v')
 | [],[],_,_,h=>by cases h; exact .nil
 | [],_::_,_,_,h=>by cases h
 | _::_,[],_,_,h=>by cases h
 | d::ds,v::vs,v',b,h=>by
  simp only [zb5] at h
  split at h
  ·rename_i v1 b1 vs1 b2 h1 h2
   cases h
   exact .cons (zmc d v v1 _ h1) (zad ds vs vs1 _ h2)
  ·cases h
end
def Gh (P:Program) (pro:List Nat) (T:TT) (e:TE T.toTT0) (h:TH T.toTT0) (e1:TE T.toTT0) (h1:TH T.toTT0):Prop:=zc P pro (denE T.toTT0 (denH T.toTT0 h) e) (denH T.toTT0 h) (denE T.toTT0 (denH T.toTT0 h1) e1) (denH T.toTT0 h1)
def zt1 (pro:List Nat) (e:TE T.toTT0) (h:TH T.toTT0) (t:Nat) (d:SD):Rs (TE T.toTT0×TH T.toTT0×List (Nat×Nat)) :=
 match d,getE e t with
 | .own c m ty,.zs =>
  bif pro.contains (500000+t) || (h.map Prod.fst).contains (500000+t) then .no
  else .ok (putE (z5g (fun k _=>Nat.beq k (500000+t)) (fun _ _=>false) e) t (.sw (500000+t) []),(500000+t,.typ m ty [])::h,[(c,500000+t)])
 | .own c _ _,.sl k [] 0 n =>
  match getT h k with
  | some (.typ m' t' xs)=>.need (n≤xs.length) (.ok (putE (z5g (fun _ _=>false) (fun k' _=>Nat.beq k' k) e) t (.sw k []),(k,.typ m' t' (xs.take n))::delT h k,[(c,k)]))
  | _=>.no
 | d,v=>match zc4 d v with | some (v',b)=>.ok (putE e t v',h,b) | none=>.no
theorem y0m {e e1:TE T.toTT0} {h h1:TH T.toTT0} {t:Nat} {d:SD} {b:List (Nat×Nat)} (hg:(zt1 pro e h t d).gives (e1,h1,b)):Gh P pro T e h e1 h1:=by
 unfold zt1 at hg
 split at hg
 ·rename_i c m ty hz
  cases hb:(pro.contains (500000+t) || (h.map Prod.fst).contains (500000+t)) with
  | true=>rw [hb] at hg; exact hg.elim
  | false =>
   rw [hb] at hg
   cases hg
   simp only [Bool.or_eq_false_iff] at hb
   have h1:=zc.nil (P:=P) (pro:=pro) (e:=denE T.toTT0 (denH T.toTT0 h) e) (h:=denH T.toTT0 h) (t:=t) (d:=500000+t) (s:=T.sz ty) (by simp only [denE,hz,den]) (by
    rw [z1e]
    intro hm
    have:(h.map Prod.fst).contains (500000+t)=true:=by simpa using hm
    rw [hb.2] at this; cases this) (by
    rw [List.all_eq_true]
    intro k hk
    simp only [bne_iff_ne,ne_eq]
    rintro rfl
    have:pro.contains (500000+t)=true:=by simpa using hk
    rw [hb.1] at this; cases this)
   have hh:denH T.toTT0 ((500000+t,.typ m ty [])::h)=(500000+t,⟨T.sz ty,[]⟩)::denH T.toTT0 h:=rfl
   unfold Gh
   rw [hh]
   refine h1.trans (zc.le fun u=>?_)
   rw [zy]
   refine AVle.upd (fun u=>?_) ?_ u
   ·simp only [z1i,denE,z2v]
    refine z6r (fun k p hk=>by simpa using hk) (fun k p hk _=>z1a ?_) _
    simp only [z1b,decide_eq_false_iff_not] at hk
    simp only [za]
    rw [if_neg (fun e=>hk e.symm)]
   ·have:ze ((500000+t,⟨T.sz ty,[]⟩)::denH T.toTT0 h) (500000+t) []=0:=by simp [ze,res,za,resE]
    simp only [den,this]; exact AVle.refl _
 ·rename_i c m ty k n hz
  split at hg
  ·rename_i m' t' xs hr
   obtain ⟨hc,hg⟩:=hg
   cases hg
   have hgr:za (denH T.toTT0 h) k=some ⟨T.sz t',xs.map (T.ca m' t')⟩:=by rw [z1p,hr]; rfl
   have h1:=zc.take (P:=P) (pro:=pro) (e:=denE T.toTT0 (denH T.toTT0 h) e) n hgr
   have hh:denH T.toTT0 ((k,.typ m' t' (xs.take n))::delT h k)=(k,⟨T.sz t',(xs.map (T.ca m' t')).take n⟩)::zd (denH T.toTT0 h) k:=by
    simp only [denH,denR,List.map_take,zu]
   unfold Gh
   rw [hh]
   refine h1.trans (zc.le fun u=>?_)
   rw [zy]
   unfold upd
   split
   ·rename_i hu
    subst hu
    have:ze ((k,⟨T.sz t',(xs.map (T.ca m' t')).take n⟩)::zd (denH T.toTT0 h) k) k []=n:=by
     simp only [ze,res,za,if_true,resE,List.length_take,List.length_map]; omega
    simp only [denE,hz,den,this]; exact AVle.refl _
   ·simp only [denE,z2v]
    have:=z6r (T:=T) (H0:=denH T.toTT0 h) (H1:=(k,⟨T.sz t',(xs.map (T.ca m' t')).take n⟩)::zd (denH T.toTT0 h) k) (b1:=fun _ _=>false) (bad:=fun _ _=>false) (bw:=fun k' _=>Nat.beq k' k) (fun _ _ h=>h) (fun k' p _ hk=>z1a (by
     simp only [z1b,decide_eq_false_iff_not] at hk
     simp only [za]
     rw [if_neg (fun e=>hk e.symm),zz hk])) (getE e u)
    rwa [zic] at this
  ·exact hg.elim
 ·split at hg
  ·rename_i v' b' hv
   cases hg
   unfold Gh
   refine zc.le fun u=>?_
   rw [zy]
   unfold upd
   split
   ·rename_i hu; subst hu; exact zmc _ _ _ _ hv
   ·exact AVle.refl _
  ·exact hg.elim
mutual
def y1d:SD→VT T→List Fz
 | .im _,.sw k []=>[.row k]
 | .im _,.sw k [(_,c)]=>[.col k [c]]
 | .ag ds,.ag cs=>zna ds cs
 | .ag ds,.tu cs=>zna ds cs
 | _,_=>[]
def zna:List SD→List (VT T)→List Fz
 | d::ds,v::vs=>y1d d v++zna ds vs
 | _,_=>[]
end
def y1c (h:TH T.toTT0) (k:Nat) (ks:List Kd):List Fz :=
 match getT h k with
 | some (.lit _ [cs])=>match frcC 0 ks cs with | []=>[] | l=>[.col k l]
 | _=>[]
where frcC:Nat→List Kd→List (VT T)→List Nat
 | c,.im _::ks,.ow _ _ _::l=>c::frcC (c+1) ks l
 | c,_::ks,_::l=>frcC (c+1) ks l
 | _,_,_=>[]
def y9f (h:TH T.toTT0) (k:Nat) (m:Bool):List Fz :=
 match m,getT h k with
 | false,some (.typ true _ _)=>[.nest k]
 | _,_=>[]
def zin (pro:List Nat):List (Nat×SD)→TE T.toTT0→TH T.toTT0→List (Nat×Nat)→Rs (TE T.toTT0×TH T.toTT0×List (Nat×Nat))
 | [],e,h,b=>.ok (e,h,b)
 | (t,d)::l,e,h,b=>match frzL (y1d d (getE e t)) e h with
  | some (e,h)=>(zt1 pro e h t d).bind fun (e,h,b')=>zin pro l e h (b'++b)
  | none=>.no
theorem zl4:∀ (l:List (Nat×SD)) (e e1:TE T.toTT0) (h h1:TH T.toTT0) (b b1:List (Nat×Nat)),(zin pro l e h b).gives (e1,h1,b1)→Gh P pro T e h e1 h1
 | [],_,_,_,_,_,_,hg=>by cases hg; exact zc.rfl'
 | (t,d)::l,e,e1,h,h1,b,b1,hg=>by
  simp only [zin] at hg
  split at hg
  ·rename_i e3 h3 hf
   obtain ⟨⟨e2,h2,b2⟩,q1,q2⟩:=Rs.bind_gives _ hg
   exact zc.trans (z6q _ hf).1 (zc.trans (y0m q1) (zl4 l _ _ _ _ _ _ q2))
  ·exact hg.elim
def zt5 (h:TH T.toTT0) (k:Nat) (m:Bool) (t:Nat):Option (TH T.toTT0) :=
 match getT h k with
 | some (.lit s xs)=>bif Nat.beq (T.sz t) s then match unL m t xs with | some ys=>some ((k,.typ m t ys)::delT h k) | none=>none else none
 | some _=>some h
 | none=>none
theorem y0q {e:TE T.toTT0} {h h1:TH T.toTT0} {k:Nat} {m:Bool} {t:Nat} (ht:zt5 h k m t=some h1):Gh P pro T e h e h1:=by
 unfold zt5 at ht
 split at ht
 ·rename_i s xs hr
  cases hb:Nat.beq (T.sz t) s with
  | false=>rw [hb] at ht; cases ht
  | true =>
   rw [hb,cond_true] at ht
   split at ht
   ·rename_i ys hy
    cases ht
    have hgr:za (denH T.toTT0 h) k=some ⟨s,xs.map (denL T.toTT0 [])⟩:=by rw [z1p,hr]; rfl
    have hrow:denR T.toTT0 (.typ m t ys)=⟨s,xs.map (denL T.toTT0 [])⟩:=by simp only [denR,ziu _ _ hy,Nat.eq_of_beq_eq_true hb]
    have hh:denH T.toTT0 ((k,.typ m t ys)::delT h k)=(k,⟨s,(xs.map (denL T.toTT0 [])).map (fixA (fun _=>none) 0)⟩)::zd (denH T.toTT0 h) k:=by
     rw [z5i]; simp only [denH,hrow,zu]
    have h1:=zc.fix (P:=P) (pro:=pro) (e:=denE T.toTT0 (denH T.toTT0 h) e) (fun _=>none) (fun _ _ h=>(by cases h)) hgr
    unfold Gh
    rw [hh]
    refine h1.trans (zc.le fun u=>?_)
    have hkill:z47 (fun _=>none) k=fun _ _=>false:=by
     funext k' q
     unfold z47
     cases q <;> simp
    simp only [z1i,hkill,zic,denE]
    have hl:∀ k' q,ze ((k,⟨s,(xs.map (denL T.toTT0 [])).map (fixA (fun _=>none) 0)⟩)::zd (denH T.toTT0 h) k) k' q=ze (denH T.toTT0 h) k' q:=fun k' q=>by
     refine z1a ?_
     by_cases hk:k'=k
     ·subst hk; rw [z5i,hgr]; simp [za]
     ·simp only [za]; rw [if_neg (fun e=>hk e.symm),zz hk]
    have:=zbm (T:=T) (bad:=fun _ _=>false) (fun k' q _=>hl k' q) (getE e u)
    rw [zic] at this
    have hid:z2i (fun _ _=>false) (fun _ _=>false) (getE e u)=getE e u:=zge _
    rw [this,hid]
    exact AVle.refl _
   ·cases ht
 ·cases ht; exact zc.rfl'
 ·cases ht
def zco (bm:List (Nat×Nat)) (c:Nat):Nat:=match look bm c with | some k=>k | none=>c
def zd1:List (Nat×RD)→TE T.toTT0→TH T.toTT0→List (Nat×Nat)→Option (TE T.toTT0×TH T.toTT0)
 | [],e,h,_=>some (e,h)
 | (c,.any)::l,e,h,b=>zd1 l e h b
 | (c,.fix ks)::l,e,h,b=>match frzL (y1c h (zco b c) ks) e h with
  | some (e,h)=>match zcg e h (zco b c) ks with | some (e,h)=>zd1 l e h b | none=>none
  | none=>none
 | (c,.typ m t)::l,e,h,b=>match frzL (y9f h (zco b c) m++y1c h (zco b c) (T.ks m t)) e h with
  | some (e,h)=>match zcg e h (zco b c) (T.ks m t) with
   | some (e,h)=>match zt5 h (zco b c) m t with | some h=>zd1 l e h b | none=>none
   | none=>none
  | none=>none
theorem zd2:∀ (l:List (Nat×RD)) (e e1:TE T.toTT0) (h h1:TH T.toTT0) (b:List (Nat×Nat)),zd1 l e h b=some (e1,h1)→Gh P pro T e h e1 h1
 | [],_,_,_,_,_,hg=>by cases hg; exact zc.rfl'
 | (c,.any)::l,e,e1,h,h1,b,hg=>zd2 l e e1 h h1 b hg
 | (c,.fix ks)::l,e,e1,h,h1,b,hg=>by
  simp only [zd1] at hg
  split at hg
  ·rename_i e3 h3 hz
   split at hg
   ·rename_i e2 h2 hf
    exact zc.trans (z6q _ hz).1 (zc.trans (zga hf) (zd2 l _ _ _ _ b hg))
   ·cases hg
  ·cases hg
 | (c,.typ m t)::l,e,e1,h,h1,b,hg=>by
  simp only [zd1] at hg
  split at hg
  ·rename_i e4 h4 hz
   split at hg
   ·rename_i e2 h2 hf
    split at hg
    ·rename_i h3 ht
     exact zc.trans (z6q _ hz).1 (zc.trans (zga hf) (zc.trans (y0q ht) (zd2 l _ _ _ _ b hg)))
    ·cases hg
   ·cases hg
  ·cases hg
def zsu (pro:List Nat) (bm:List (Nat×Nat)) (S:List Nat) (e:TE T.toTT0) (h:TH T.toTT0):Option (EH T) :=
 bif zn (bm.map Prod.fst) && zn (bm.map Prod.snd) && pro.all (fun k=>look bm k==some k) then
  match z7c h bm with
  | some (hs,_)=>some (S.map fun t=>(t,match z3d bm (getE e t) with | some v=>v | none=>.un),hs)
  | none=>none
 else none
theorem y0b {bm:List (Nat×Nat)} {S:List Nat} {e:TE T.toTT0} {h:TH T.toTT0} {eh:EH T} (hn:zsu pro bm S e h=some eh):Gh P pro T e h eh.1 eh.2:=by
 unfold zsu at hn
 cases hb:(zn (bm.map Prod.fst) && zn (bm.map Prod.snd) && pro.all (fun k=>look bm k==some k)) with
 | false=>rw [hb] at hn; cases hn
 | true =>
  rw [hb,cond_true] at hn
  simp only [Bool.and_eq_true] at hb
  split at hn
  ·rename_i hs rest hsp
   cases hn
   obtain ⟨s1,s2,s3⟩:=z4j bm h hs rest hsp
   have hkeys:=z7y _ _ _ _ s1
   have hno:zcv pro bm S (denE T.toTT0 (denH T.toTT0 h) e) (denH T.toTT0 h)=some (z1l (S.map fun t=>(t,zc0 bm (denE T.toTT0 (denH T.toTT0 h) e t))),denH T.toTT0 hs):=by
    unfold zcv
    rw [s1]
    simp only
    rw [if_pos (by simp only [Bool.and_eq_true]; exact ⟨hb.1.1,hb.2⟩)]
   refine zc.trans (zc.norm hno) (zc.le fun t=>?_)
   have hbl:∀ k n q,z1k bm k=some n→ze (denH T.toTT0 hs) n q=ze (denH T.toTT0 h) k q:=fun k n q hkn=>by
    have:=s3 n k hb.1.1 hb.1.2 (z5h bm hkn)
    unfold ze res
    rw [this]
   have hv:∀ t,AVle (zc0 bm (denE T.toTT0 (denH T.toTT0 h) e t)) (den T.toTT0 (denH T.toTT0 hs) (match z3d bm (getE e t) with | some v=>v | none=>.un)):=fun t=>by
    split
    ·rename_i v hv
     have:=z7f (T:=T) hbl _ _ hv
     unfold zc0
     simp only [denE,this]
     exact AVle.refl _
    ·exact AVle.un _
   clear hno
   induction S with
   | nil=>exact AVle.refl _
   | cons s S ih =>
    simp only [List.map_cons,z1l]
    rw [show denE T.toTT0 (denH T.toTT0 hs) ((s,match z3d bm (getE e s) with | some v=>v | none=>.un)::S.map fun t=>(t,match z3d bm (getE e t) with | some v=>v | none=>.un))=upd (denE T.toTT0 (denH T.toTT0 hs) (S.map fun t=>(t,match z3d bm (getE e t) with | some v=>v | none=>.un))) s (den T.toTT0 (denH T.toTT0 hs) (match z3d bm (getE e s) with | some v=>v | none=>.un)) from zy]
    unfold upd
    split
    ·exact hv s
    ·exact ih
  ·cases hn
def cnv (pro:List Nat) (D:Dr) (e:TE T.toTT0) (h:TH T.toTT0):Rs (EH T) :=
 (zin pro D.S e h []).bind fun (e,h,b) =>
  match zd1 D.R e h b with
  | some (e,h)=>match zsu pro (D.R.map fun x=>(x.1,zco b x.1)) (D.S.map Prod.fst) e h with
   | some eh=>.ok eh
   | none=>.no
  | none=>.no
theorem z3r {D:Dr} {e:TE T.toTT0} {h:TH T.toTT0} {eh:EH T} (hg:(cnv pro D e h).gives eh):Gh P pro T e h eh.1 eh.2:=by
 obtain ⟨⟨e1,h1,b⟩,q1,q2⟩:=Rs.bind_gives _ hg
 dsimp only at q2
 split at q2
 ·rename_i e2 h2 hr
  split at q2
  ·rename_i eh' hn
   cases q2
   exact zc.trans (zl4 _ _ _ _ _ _ _ q1) (zc.trans (zd2 _ _ _ _ _ _ hr) (y0b hn))
  ·exact q2.elim
 ·exact q2.elim
end
inductive An (P:Program) (T:TT) (pro:List Nat):Type 1 where
 | no
 | two (a b:An P T pro)
 | join (S:Type) (enc:S→EH T) (D:Dr) (a b:An P T pro)
 | loop (V:Type) (c:V→LCon P T pro) (ret:Bool) (D:Dr)
 | alls (S Z:Type) (enc:S→EH T) (encV:Z→Value) (D:Dr)
section
variable {P:Program} {T:TT} {pro:List Nat}
def An.l:An P T pro→An P T pro
 | .two a _=>a
 | _=>.no
def An.r:An P T pro→An P T pro
 | .two _ b=>b
 | _=>.no
def yc8 {L:Type} (pro:List Nat) (D:Dr) (K:Out→TE T.toTT0→TH T.toTT0→Raw P T pro L):Out→TE T.toTT0→TH T.toTT0→Raw P T pro (EH T⊕L)
 | .normal,e,h=>Raw.ofRs (fun eh=>.leaf (.inl eh)) (cnv pro D e h)
 | o,e,h=>(K o e h).map .inr
def seqK {L:Type} (A:TE T.toTT0→TH T.toTT0→Raw P T pro L) (K:Out→TE T.toTT0→TH T.toTT0→Raw P T pro L):Out→TE T.toTT0→TH T.toTT0→Raw P T pro L
 | .normal=>A
 | o=>K o
def zti {L:Type} (id:Nat) (K:Out→TE T.toTT0→TH T.toTT0→Raw P T pro L):Out→TE T.toTT0→TH T.toTT0→Raw P T pro L
 | .exit id'=>bif Nat.beq id' id then K .normal else K (.exit id')
 | o=>K o
def retK {L:Type} (K:Out→TE T.toTT0→TH T.toTT0→Raw P T pro L) (eh:EH T):Raw P T pro L :=
 match isX eh with
 | some u=>K (.panic u) [] []
 | none=>K .ret eh.1 eh.2
theorem KP.none {L:Type} {K:TE T.toTT0→TH T.toTT0→Raw P T pro L} {Q:L→Prop} (h:Sat (K [] []) Q):KP K Q nE []:=⟨[],[],rfl,rfl,h⟩
theorem y5q {L:Type} {K:Out→TE T.toTT0→TH T.toTT0→Raw P T pro L} {Q:L→Prop} {eh:EH T} {o:Out} {E:Env} {H0:H} (hr:zee eh o E H0) (hs:Sat (retK K eh) Q):KP (K o) Q E H0:=by
 unfold zee at hr
 unfold retK at hs
 cases hx:isX eh with
 | none =>
  rw [hx] at hr hs
  obtain ⟨rfl,rfl,rfl⟩:=hr
  exact ⟨_,_,rfl,rfl,hs⟩
 | some u =>
  rw [hx] at hr hs
  obtain ⟨rfl,rfl,rfl⟩:=hr
  exact KP.none hs
def scsT:List (VT T)→Option (List Value)
 | []=>some []
 | x::l=>match asc x,scsT l with | some v,some vs=>some (v::vs) | _,_=>none
def panV:VT T→Option Value
 | .ag cs=>match scsT cs with | some vs=>some (.agg vs.toArray) | none=>none
 | v=>asc v
theorem zrk {H0:H}:∀ (l:List (VT T)) (vs:List Value),scsT l=some vs→scL (denL T.toTT0 H0 l)=some vs
 | [],_,h=>by cases h; rfl
 | x::l,vs,h=>by
  unfold scsT at h
  split at h
  ·rename_i v vs' h1 h2
   cases h
   simp only [denL,z2s h1,scL,zrk l vs' h2]
  ·cases h
theorem y5i {H0:H} {v:VT T} {u:Value} (h:panV v=some u):scAV (den T.toTT0 H0 v)=some u:=by
 unfold panV at h
 split at h
 ·split at h
  ·rename_i vs hv
   cases h
   simp only [den,scAV,zrk _ _ hv]
  ·cases h
 ·rw [z2s h]; rfl
def zsf {L:Type}:List (Raw P T pro L)→Raw P T pro L
 | []=>.no
 | [a]=>a
 | a::l=>.both a (zsf l)
theorem zkj {L:Type} {Q:L→Prop}:∀ (l:List (Raw P T pro L)),Sat (zsf l) Q→∀ a ∈ l,Sat a Q
 | [],h,a,ha=>(nomatch ha)
 | [x],h,a,ha=>by
  have:a=x:=by simpa using ha
  rw [this]; exact h
 | x::y::l,h,a,ha=>by
  rcases List.mem_cons.1 ha with rfl | ha
  ·exact h.1
  ·exact zkj (y::l) h.2 a ha
def zo9 (pre:List (Ins×List Nat)) (D:List Nat):List Nat:=(List.range pre.length).filter fun i=>!D.contains i && (match pre[i]? with | some x=>x.2.all D.contains | none=>false)
def evA (pro:List Nat) (cx:Cx P T) (pre:List (Ins×List Nat)) (D:Dr):Nat→List Nat→TE T.toTT0→TH T.toTT0→Raw P T pro (EH T⊕Value)
 | 0,_,_,_=>.no
 | n+1,dn,e,h=>bif (List.range pre.length).all dn.contains then Raw.ofRs (fun eh=>.leaf (.inl eh)) (cnv pro D e h)
  else zsf ((zo9 pre dn).map fun i=>match pre[i]? with
   | some x=>zbh e x.1.guard (fun e=>zog pro cx x.1 e h (fun e h=>evA pro cx pre D n (i::dn) e h) (fun u _ _=>.leaf (.inr u))) (fun e=>evA pro cx pre D n (i::dn) (putE e x.1.dst (zim x.1.op)) h)
   | none=>.no)
def FN (P:Program) (pro:List Nat) (r:EH T⊕Value) (E:Env) (H0:H):Prop:=∃ eh,r = .inl eh∧zc P pro E H0 (denE T.toTT0 (denH T.toTT0 eh.2) eh.1) (denH T.toTT0 eh.2)
theorem RunA.mono {pre:List (Ins×List Nat)} {F F':Env→H→Prop} {FX FX':Value→Prop} (hF:∀ e h,F e h→F' e h) (hX:∀ u,FX u→FX' u):∀ (n:Nat) (D:List Nat) (e:Env) (h:H),RunA P pro pre F FX n D e h→RunA P pro pre F' FX' n D e h
 | 0,D,e,h,hr=>⟨hr.1,hF _ _ hr.2⟩
 | n+1,D,e,h,hr=>by
  rcases hr with ⟨h1,h2⟩ | ⟨h1,h2⟩
  ·exact .inl ⟨h1,hF _ _ h2⟩
  ·refine .inr ⟨h1,fun i x hx hi hd=>?_⟩
   obtain ⟨e0,h0,g,hr⟩:=h2 i x hx hi hd
   refine ⟨e0,h0,g,?_⟩
   rcases hr with ⟨hw,hr⟩ | ⟨hw,e1,h1',hs,hr⟩ | ⟨hw,u,hx,hp,hu⟩
   ·exact .inl ⟨hw,RunA.mono hF hX n _ _ _ hr⟩
   ·exact .inr (.inl ⟨hw,e1,h1',hs,RunA.mono hF hX n _ _ _ hr⟩)
   ·exact .inr (.inr ⟨hw,u,hx,hp,hX u hu⟩)
theorem RunA.ghost {pre:List (Ins×List Nat)} {F:Env→H→Prop} {FX:Value→Prop} (hF:∀ e h e1 h1,zc P pro e h e1 h1→F e1 h1→F e h) {n:Nat} {D:List Nat} {e e1:Env} {h h1:H} (g:zc P pro e h e1 h1) (hr:RunA P pro pre F FX n D e1 h1):RunA P pro pre F FX n D e h:=by
 cases n with
 | zero=>exact ⟨hr.1,hF _ _ _ _ g hr.2⟩
 | succ n =>
  rcases hr with ⟨h1,h2⟩ | ⟨h1,h2⟩
  ·exact .inl ⟨h1,hF _ _ _ _ g h2⟩
  ·refine .inr ⟨h1,fun i x hx hi hd=>?_⟩
   obtain ⟨e0,h0,g',hr⟩:=h2 i x hx hi hd
   exact ⟨e0,h0,g.trans g',hr⟩
theorem FN.ghost {r:EH T⊕Value} {E E1:Env} {H0 H1:H} (g:zc P pro E H0 E1 H1) (h:FN P pro r E1 H1):FN P pro r E H0:=by
 obtain ⟨eh,h1,h2⟩:=h
 exact ⟨eh,h1,g.trans h2⟩
theorem zmf {cx:Cx P T} {pre:List (Ins×List Nat)} {D:Dr} {r:EH T⊕Value}:∀ (n:Nat) (dn:List Nat) (e:TE T.toTT0) (h:TH T.toTT0),Sat (evA pro cx pre D n dn e h) (fun l=>l=r) →
  RunA P pro pre (FN P pro r) (fun u=>r = .inr u) n dn (denE T.toTT0 (denH T.toTT0 h) e) (denH T.toTT0 h)
 | 0,_,_,_,hs=>hs.elim
 | n+1,dn,e,h,hs=>by
  simp only [evA] at hs
  cases hb:(List.range pre.length).all dn.contains with
  | true =>
   rw [hb,cond_true] at hs
   obtain ⟨eh,q1,q2⟩:=Sat.ofRs _ hs
   have q2:Sum.inl eh=r:=q2
   exact .inl ⟨fun i hi=>by simpa using List.all_eq_true.1 hb i (List.mem_range.2 hi),eh,q2.symm,z3r q1⟩
  | false =>
   rw [hb,cond_false] at hs
   refine .inr ⟨?_,fun i x hx hi hd=>?_⟩
   ·rw [List.all_eq_false] at hb
    obtain ⟨i,h1,h2⟩:=hb
    exact ⟨i,List.mem_range.1 h1,by simpa using h2⟩
   ·have hlt:i<pre.length:=(List.getElem?_eq_some_iff.1 hx).1
    have hm:i ∈ zo9 pre dn:=by
     unfold zo9
     rw [List.mem_filter]
     refine ⟨List.mem_range.2 hlt,?_⟩
     simp only [hx,Bool.and_eq_true,Bool.not_eq_true',List.all_eq_true]
     exact ⟨by simpa using hi,fun d hdd=>by simpa using hd d hdd⟩
    have hone:=zkj _ hs _ (List.mem_map.2 ⟨i,hm,rfl⟩)
    simp only [hx] at hone
    obtain ⟨e',he,h1 | h1⟩:=zaj (H0:=denH T.toTT0 h) hone
    ·rcases zl5 h1.2 with ⟨e0,h0,e1,h1',e2,h2,g1,gb,g2,g3,e4,h4,rfl,rfl,hK⟩ | ⟨e0,h0,u,ex,hx,g1,gb,g2,_,hK⟩
     ·rw [he] at g1 gb
      have hK:Sat (evA pro cx pre D n (i::dn) e4 h4) (fun l=>l=r):=hK
      exact ⟨e0,h0,g1,.inr (.inl ⟨z97 h1.1 gb,e1,h1',g2,RunA.ghost (fun _ _ _ _=>FN.ghost) g3 (zmf n (i::dn) e4 h4 hK)⟩)⟩
     ·rw [he] at g1 gb
      have hK:Sum.inr u=r:=hK
      exact ⟨e0,h0,g1,.inr (.inr ⟨z97 h1.1 gb,u,_,g2,hK.symm⟩)⟩
    ·have:=zmf n (i::dn) _ h h1.2
     rw [zy,he,z8f] at this
     exact ⟨_,_,zc.rfl',.inl ⟨h1.1,this⟩⟩
def zsm (e:TE T.toTT0) (c:Operand) (b:Bool):TE T.toTT0:=match c with | .tmp s=>putE e s (.bk b) | _=>e
def evC (cx:Cx P T):IC→An P T pro→{L:Type}→TE T.toTT0→TH T.toTT0→(Out→TE T.toTT0→TH T.toTT0→Raw P T pro L)→Raw P T pro L
 | .reg keep l,_,_,e,h,K=>evRX pro cx l e h (fun e h=>K .normal (zcn keep e) h) (fun u e h=>K (.panic u) e h)
 | .pan l d t x,_,_,e,h,K=>evR pro cx l e h fun e h=>match panV (evT e x) with | some u=>K (.panic (.iface t u)) (ptT (putE e d .un)) h | none=>.no
 | .draw keep pre tail,an,_,e,h,K =>
  match an with
  | .alls S Z enc encV D=>.alls enc encV (evA pro cx pre D (pre.length+1) [] e h) (fun s=>evR pro cx tail (enc s).1 (enc s).2 fun e h=>K .normal (zcn keep e) h) (fun z=>K (.panic (encV z)) [] [])
  | _=>zj1 pro cx keep pre tail e h (K .normal)
 | .bad,_,_,_,_,_=>.no
 | .skip,_,_,e,h,K=>K .normal e h
 | .ret,_,_,e,h,K=>K .ret e h
 | .exit id,_,_,e,h,K=>K (.exit id) e h
 | .seq x y,an,_,e,h,K =>
  match an with
  | .join S enc D a b=>.join enc (evC cx x a e h (yc8 pro D K)) fun s=>evC cx y b (enc s).1 (enc s).2 K
  | an=>evC cx x an.l e h (seqK (fun e h=>evC cx y an.r e h K) K)
 | .cond c x y,an,_,e,h,K =>
  match evT e c with
  | .bk true=>evC cx x an.l e h K
  | .bk false=>evC cx y an.r e h K
  | .sc (.bool b)=>.ite b (evC cx x an.l (zsm e c true) h K) (evC cx y an.r (zsm e c false) h K)
  | _=>.no
 | .block id x,an,_,e,h,K=>evC cx x an.l e h (zti id K)
 | .loop x,an,_,e,h,K =>
  match an with
  | .loop _ c ret D=>Raw.ofRs (fun eh=>bif ret then .loopR c x eh (fun v y=>K (.exit (c v).id) ((c v).encY y).1 ((c v).encY y).2) (fun v z=>retK K ((c v).encZ z))
    else .loop c x eh (fun v y=>K (.exit (c v).id) ((c v).encY y).1 ((c v).encY y).2)) (cnv pro D e h)
  | _=>.no
theorem zno {e:TE T.toTT0} {H0:H} {c:Operand} {b:Bool} (hc:evT e c = .sc (.bool b)):denE T.toTT0 H0 (zsm e c b)=denE T.toTT0 H0 e:=by
 cases c with
 | tmp s=>exact z5l hc
 | _=>rfl
theorem z3j {cx:Cx P T}:∀ (c:IC) (an:An P T pro) {L:Type} (e:TE T.toTT0) (h:TH T.toTT0) (K:Out→TE T.toTT0→TH T.toTT0→Raw P T pro L) (Q:L→Prop),Sat (evC cx c an e h K) Q →
  W P pro c (fun o E H0=>KP (K o) Q E H0) (denE T.toTT0 (denH T.toTT0 h) e) (denH T.toTT0 h)
 | .reg keep l,_,_,e,h,K,Q,hs=>by
  rcases zj2 l e h hs with ⟨E,H',r,e2,h2,rfl,rfl,hK⟩ | ⟨u,E,ex,hx,r,hle,hK⟩
  ·exact W.regG ⟨_,_,r,_,_,(zdw keep e2).symm,rfl,hK⟩
  ·exact ⟨_,_,_,.after (.regX r) (zc.le hle),ex,hx,rfl,rfl,hK⟩
 | .pan l d t x,_,_,e,h,K,Q,hs=>by
  obtain ⟨E,H',r,e2,h2,rfl,rfl,hK⟩:=zdn l e h hs
  dsimp only at hK
  split at hK
  ·rename_i u hu
   exact ⟨_,_,_,.after (.pan r (by rw [zg]; exact y5i hu)) (zc.le fun t=>by
    have:=zyk (T:=T) (H0:=denH T.toTT0 h2) (H1:=denH T.toTT0 h2) (putE e2 d .un) t
    rwa [zy] at this),_,h2,rfl,rfl,hK⟩
  ·exact hK.elim
 | .draw keep pre tail,an,_,e,h,K,Q,hs=>by
  cases an with
  | alls S Z enc encV D =>
   obtain ⟨r,h1,h2⟩:=hs
   have ha:=zmf (r:=Sum.map enc encV r) (pre.length+1) [] e h h1
   cases r with
   | inl s =>
    obtain ⟨E,H',hr,e2,h2',rfl,rfl,hK⟩:=zdn tail _ _ h2
    refine ⟨.normal,_,_,.allN (F:=fun E H0=>zc P pro E H0 (denE T.toTT0 (denH T.toTT0 (enc s).2) (enc s).1) (denH T.toTT0 (enc s).2)) (fun e1 h1 g=>.ghost g hr) (RunA.mono (fun E H0 hf=>?_) (fun u hu=>?_) _ _ _ _ ha),_,_,(zdw keep e2).symm,rfl,hK⟩
    ·obtain ⟨eh,q1,q2⟩:=hf
     cases q1
     exact q2
    ·cases hu
   | inr z =>
    exact ⟨.panic (encV z),_,_,.allX (RunA.mono (fun E H0 hf=>by obtain ⟨eh,q1,q2⟩:=hf; cases q1) (fun u hu=>by cases hu; rfl) _ _ _ _ ha),KP.none h2⟩
  | no=>exact z8t (Q':=fun o E H0=>KP (K o) Q E H0) (fun E H0 hk=>hk) hs
  | two _ _=>exact z8t (Q':=fun o E H0=>KP (K o) Q E H0) (fun E H0 hk=>hk) hs
  | join _ _ _ _ _=>exact z8t (Q':=fun o E H0=>KP (K o) Q E H0) (fun E H0 hk=>hk) hs
  | loop _ _ _ _=>exact z8t (Q':=fun o E H0=>KP (K o) Q E H0) (fun E H0 hk=>hk) hs
 | .bad,_,_,_,_,_,_,hs=>hs.elim
 | .skip,_,_,e,h,K,Q,hs=>W.skip ⟨e,h,rfl,rfl,hs⟩
 | .ret,_,_,e,h,K,Q,hs=>W.ret ⟨e,h,rfl,rfl,hs⟩
 | .exit id,_,_,e,h,K,Q,hs=>W.exit ⟨e,h,rfl,rfl,hs⟩
 | .seq x y,an,L,e,h,K,Q,hs=>by
  have plain:∀ (a b:An P T pro),Sat (evC cx x a e h (seqK (fun e h=>evC cx y b e h K) K)) Q→W P pro (.seq x y) (fun o E H0=>KP (K o) Q E H0) (denE T.toTT0 (denH T.toTT0 h) e) (denH T.toTT0 h):=fun a b hs=>by
   refine W.seq (W.mono (z3j x a e h _ Q hs) fun o E H0 hk=>?_)
   cases o with
   | normal =>
    obtain ⟨e1,h1,rfl,rfl,hK⟩:=hk
    exact z3j y b e1 h1 K Q hK
   | exit id=>exact hk
   | ret=>exact hk
   | panic u=>exact hk
  cases an with
  | alls _ _ _ _ _=>exact plain _ _ hs
  | join S enc D a b =>
   have ih:=z3j x a e h _ _ hs
   refine W.seq (W.mono ih fun o E H0 hk=>?_)
   cases o with
   | normal =>
    obtain ⟨e1,h1,rfl,rfl,hK⟩:=hk
    obtain ⟨eh,q1,s,q2,q3⟩:=Sat.ofRs _ hK
    subst q2
    exact W.ghost (z3r q1) (z3j y b _ _ K Q q3)
   | exit id =>
    obtain ⟨e1,h1,rfl,rfl,hK⟩:=hk
    exact ⟨e1,h1,rfl,rfl,Sat.map (L:=L) (L':=EH T⊕L) Sum.inr (K _ e1 h1) _ hK⟩
   | ret =>
    obtain ⟨e1,h1,rfl,rfl,hK⟩:=hk
    exact ⟨e1,h1,rfl,rfl,Sat.map (L:=L) (L':=EH T⊕L) Sum.inr (K _ e1 h1) _ hK⟩
   | panic u =>
    obtain ⟨e1,h1,rfl,rfl,hK⟩:=hk
    exact ⟨e1,h1,rfl,rfl,Sat.map (L:=L) (L':=EH T⊕L) Sum.inr (K _ e1 h1) _ hK⟩
  | no=>exact plain _ _ hs
  | two a b=>exact plain _ _ hs
  | loop V c ret D=>exact plain _ _ hs
 | .cond c x y,an,_,e,h,K,Q,hs=>by
  simp only [evC] at hs
  split at hs
  ·rename_i hv
   exact W.condT (by rw [zg,hv]; rfl) (z3j x an.l e h K Q hs)
  ·rename_i hv
   exact W.condF (by rw [zg,hv]; rfl) (z3j y an.r e h K Q hs)
  ·rename_i b hv
   refine W.cond (b:=b) (by rw [zg,hv]; rfl) (fun hb=>?_) (fun hb=>?_)
   ·subst hb
    have:=z3j x an.l _ h K Q (hs.1 rfl)
    rwa [zno hv] at this
   ·subst hb
    have:=z3j y an.r _ h K Q (hs.2 rfl)
    rwa [zno hv] at this
  ·exact hs.elim
 | .block id x,an,_,e,h,K,Q,hs=>by
  refine W.block (W.mono (z3j x an.l e h _ Q hs) fun o E H0 hk=>?_)
  cases o with
  | normal=>exact hk
  | ret=>exact hk
  | panic u=>exact hk
  | exit id' =>
   simp only [zcm]
   simp only [zti,z1b] at hk
   split
   ·rename_i e; simpa [e] using hk
   ·rename_i e; simpa [e] using hk
 | .loop x,an,_,e,h,K,Q,hs=>by
  cases an with
  | loop V c ret D =>
   obtain ⟨eh,q1,q2⟩:=Sat.ofRs _ hs
   refine W.ghost (z3r q1) ?_
   cases ret with
   | true =>
    obtain ⟨v,hb,x',b,q3,q4,q5⟩:=q2
    subst hb q3
    refine W.mono ((c v).ok x' b q4) fun o E H0 hk=>?_
    cases b with
    | go _=>exact hk.elim
    | out y =>
     obtain ⟨rfl,rfl,rfl⟩:=hk
     exact ⟨_,_,rfl,rfl,q5⟩
    | ret z=>exact y5q hk.2 q5
   | false =>
    obtain ⟨v,hb,x',y,q3,_,q4,q5⟩:=q2
    subst hb q3
    refine W.mono ((c v).ok x' _ q4) fun o E H0 hk=>?_
    obtain ⟨rfl,rfl,rfl⟩:=hk
    exact ⟨_,_,rfl,rfl,q5⟩
  | no=>exact hs.elim
  | alls _ _ _ _ _=>exact hs.elim
  | two _ _=>exact hs.elim
  | join _ _ _ _ _=>exact hs.elim
def y3u (pro:List Nat) (id:Nat) (DX DY DZ:Dr):Out→TE T.toTT0→TH T.toTT0→Raw P T pro (Bo (EH T) (EH T) (EH T))
 | .normal,e,h=>Raw.ofRs (fun eh=>.leaf (.go eh)) (cnv pro DX e h)
 | .exit id',e,h=>bif Nat.beq id' id then Raw.ofRs (fun eh=>.leaf (.out eh)) (cnv pro DY e h) else .no
 | .ret,e,h=>Raw.ofRs (fun eh=>match isX eh with | none=>.leaf (.ret eh) | some _=>.no) (cnv pro DZ e h)
 | .panic u,_,_=>.leaf (.ret (ofX u))
def encB {X Y Z E:Type} (a:X→E) (b:Y→E) (c:Z→E):Bo X Y Z→Bo E E E
 | .go x=>.go (a x)
 | .out y=>.out (b y)
 | .ret z=>.ret (c z)
noncomputable def lcon {X Y Z:Type} (cx:Cx P T) (x:IC) (an:X→An P T pro) (id:Nat) (ret:Bool) (DX DY DZ:Dr) (encX:X→EH T) (encY:Y→EH T) (encZ:Z→EH T) (n:Nat) (t:X→Pt P T pro (Bo X Y Z)) (hret:ret=false→Z→False:=by first | (intro h; cases h; done) | (intro _ z; cases z))
  (ht:∀ s,evC cx x (an s) (encX s).1 (encX s).2 (y3u pro id DX DY DZ)=(t s).raw (encB encX encY encZ):=by intro s; kernel_rfl):LCon P T pro where
 body:=x
 X:=X
 Y:=Y
 Z:=Z
 encX:=encX
 encY:=encY
 encZ:=encZ
 id:=id
 ret:=ret
 G:=iter (fun s=>(t s).run) n
 ok:=by
  have round:∀ s b,(t s).run=some b→W P pro x (fun o E H0=>match b with
    | .go x'=>o = .normal∧∃ e h,Gh P pro T e h (encX x').1 (encX x').2∧E=denE T.toTT0 (denH T.toTT0 h) e∧H0=denH T.toTT0 h
    | .out y=>o = .exit id∧∃ e h,Gh P pro T e h (encY y).1 (encY y).2∧E=denE T.toTT0 (denH T.toTT0 h) e∧H0=denH T.toTT0 h
    | .ret z=>o ≠ .normal∧∃ E1 H1,zc P pro E H0 E1 H1∧zee (encZ z) o E1 H1) (denE T.toTT0 (denH T.toTT0 (encX s).2) (encX s).1) (denH T.toTT0 (encX s).2):=by
   intro s b hb
   have h1:=z1x (encB encX encY encZ) (t s) b hb
   rw [← ht s] at h1
   refine W.mono (z3j x (an s) _ _ _ _ h1) fun o E H0 hk=>?_
   obtain ⟨e,h,rfl,rfl,hK⟩:=hk
   cases o with
   | normal =>
    obtain ⟨eh,q1,q2⟩:=Sat.ofRs _ hK
    cases b <;> cases q2
    exact ⟨rfl,e,h,z3r q1,rfl,rfl⟩
   | exit id' =>
    simp only [y3u,z1b] at hK
    by_cases hid:id'=id
    ·subst hid
     simp only [decide_true,cond_true] at hK
     obtain ⟨eh,q1,q2⟩:=Sat.ofRs _ hK
     cases b <;> cases q2
     exact ⟨rfl,e,h,z3r q1,rfl,rfl⟩
    ·simp only [hid,decide_false,cond_false] at hK
     exact hK.elim
   | ret =>
    obtain ⟨eh,q1,q2⟩:=Sat.ofRs _ hK
    split at q2
    ·rename_i hx
     cases b <;> cases q2
     refine ⟨by simp,_,_,z3r q1,?_⟩
     unfold zee
     rw [hx]
     exact ⟨rfl,rfl,rfl⟩
    ·exact q2.elim
   | panic u =>
    have hK:Bo.ret (ofX u)=encB encX encY encZ b:=hK
    cases b with
    | go _=>cases hK
    | out _=>cases hK
    | ret z =>
     simp only [encB,Bo.ret.injEq] at hK
     refine ⟨by simp,nE,[],zc.fell,?_⟩
     unfold zee
     rw [← hK]
     exact ⟨rfl,rfl,rfl⟩
  intro s
  induction n generalizing s with
  | zero=>intro b hb; cases hb
  | succ k ih =>
   intro b hb
   unfold iter at hb
   split at hb
   ·rename_i s' hs
    refine W.loop (W.mono (round s _ hs) fun o E H0 hq=>?_)
    obtain ⟨rfl,e,h,g,rfl,rfl⟩:=hq
    exact W.ghost g (ih s' b hb)
   ·rename_i hne
    have hr:=round s _ hb
    cases b with
    | go s'=>exact absurd hb (hne s')
    | out y =>
     obtain ⟨o,E,H0,hex,rfl,e,h,g,rfl,rfl⟩:=hr
     exact ⟨_,_,_,.loopX (by simp) (.after hex g),rfl,rfl,rfl⟩
    | ret z =>
     obtain ⟨o,E,H0,hex,hno,E1,H1,g,hri⟩:=hr
     refine ⟨_,_,_,.loopX hno (.after hex g),?_,hri⟩
     cases hret':ret with
     | true=>rfl
     | false=>exact (hret hret' z).elim
end
def fnC (P:Program) (f:Nat) (ks:List (List Nat)):IC :=
 match P.funcs[f]? with
 | some fn=>match fn.body with
  | some code=>match z42 P fn.ntmps code ks with | some (c,_)=>c | none=>.skip
  | none=>.skip
 | none=>.skip
def fnTs (P:Program) (f:Nat):List RS :=
 match P.funcs[f]? with
 | some fn=>match z33 P fn.results.toList with | some ts=>ts | none=>[]
 | none=>[]
def fnN (P:Program) (f:Nat):Nat:=match P.funcs[f]? with | some fn=>fn.ntmps | none=>0
def zln (P:Program) (f:Nat) (ks:List (List Nat)):Bool :=
 match P.funcs[f]? with
 | some fn=>match fn.body with
  | some code=>(z42 P fn.ntmps code ks).isSome && (z33 P fn.results.toList).isSome
  | none=>false
 | none=>false
theorem zex {P:Program} {f:Nat} {ks:List (List Nat)} (h:zln P f ks=true):FnIs P f (fnN P f) (fnC P f ks) (fnTs P f):=by
 unfold zln at h
 split at h
 ·rename_i fn hfn
  split at h
  ·rename_i code hc
   simp only [Bool.and_eq_true,Option.isSome_iff_exists] at h
   obtain ⟨⟨⟨c,ks'⟩,h1⟩,⟨ts,h2⟩⟩:=h
   refine ⟨fn,code,hfn,hc,?_,?_,ks,ks',?_⟩
   ·simp [fnN,hfn]
   ·simp [fnTs,hfn,h2]
   ·have:fnC P f ks=c:=by simp [fnC,hfn,hc,h1]
    rw [this]
    simp only [fnN,hfn]
    exact h1
  ·cases h
 ·cases h
def subC:List Nat→IC→IC
 | [],c=>c
 | 0::p,.seq x _=>subC p x
 | 0::p,.cond _ x _=>subC p x
 | 0::p,.block _ x=>subC p x
 | 0::p,.loop x=>subC p x
 | _::p,.seq _ y=>subC p y
 | _::p,.cond _ _ y=>subC p y
 | _,c=>c
section
variable {P:Program} {T:TT} {pro:List Nat}
def argT:Nat→List (VT T)→TE T.toTT0
 | _,[]=>[]
 | n,x::l=>(n,x)::argT (n+1) l
theorem zbz {H0:H}:∀ (l:List (VT T)) (n:Nat),denE T.toTT0 H0 (argT n l)=argE n (denL T.toTT0 H0 l)
 | [],_=>rfl
 | x::l,n=>by
  simp only [argT,denL,argE,← zbz l (n+1)]
  exact zy (e:=argT (n+1) l)
def finK (pro:List Nat) (D:Dr):Out→TE T.toTT0→TH T.toTT0→Raw P T pro (EH T)
 | .exit _,_,_=>.no
 | .panic _,_,_=>.no
 | _,e,h=>Raw.ofRs .leaf (cnv pro D e h)
def yad (pro:List Nat) (D:Dr):Out→TE T.toTT0→TH T.toTT0→Raw P T pro (EH T)
 | .exit _,_,_=>.no
 | .panic u,_,_=>.leaf (ofX u)
 | _,e,h=>Raw.ofRs (fun eh=>match isX eh with | none=>.leaf eh | some _=>.no) (cnv pro D e h)
def rsT (e:TE T.toTT0) (h:TH T.toTT0):RS→Option (VT T)
 | .t s=>some (getE e s)
 | .c s agg n =>
  match getE e s with
  | .pt k [] i c=>match getT h k with
   | some (.lit _ xs)=>match xs[i]? with
    | some cs=>match zf3 agg n k [] i c cs with | .ok v=>some v | _=>none
    | none=>none
   | _=>none
  | _=>none
def rsTs (e:TE T.toTT0) (h:TH T.toTT0):List RS→Option (List (VT T))
 | []=>some []
 | r::l=>match rsT e h r,rsTs e h l with | some x,some xs=>some (x::xs) | _,_=>none
def retT (ts:List RS) (keys:List Nat) (eh:EH T):Option (VT T×TH T.toTT0) :=
 match rsTs eh.1 eh.2 ts,z7c eh.2 (keys.map fun k=>(k,k)) with
 | some l,some (ho,_)=>match z3d (keys.map fun k=>(k,k)) (match l with | [x]=>x | l=>.tu l) with
  | some r=>bif zn keys then some (r,ho) else none
  | none=>none
 | _,_=>none
theorem y9n {e:TE T.toTT0} {h:TH T.toTT0} {r:RS} {v:VT T} (hr:rsT e h r=some v):rsAV (denE T.toTT0 (denH T.toTT0 h) e) (denH T.toTT0 h) r=some (den T.toTT0 (denH T.toTT0 h) v):=by
 cases r with
 | t s=>cases hr; rfl
 | c s agg n =>
  simp only [rsT] at hr
  split at hr
  ·rename_i k i c hp
   split at hr
   ·rename_i s' xs hg
    split at hr
    ·rename_i cs hcs
     split at hr
     ·rename_i w hl
      cases hr
      have hgr:za (denH T.toTT0 h) k=some ⟨s',xs.map (denL T.toTT0 [])⟩:=by rw [z1p,hg]; rfl
      have hres:res (denH T.toTT0 h) k []=some (s',xs.map (denL T.toTT0 [])):=by unfold res; rw [hgr]; rfl
      have:=zcs (T:=T) (agg:=agg) (n:=n) (k:=k) (i:=i) (c:=c) (p:=[]) (cs:=cs) (v:=v) hres (by simp [hcs]) (by rw [hl]; exact rfl)
      simp only [rsAV,rdop,ev,denE,hp,den,hres]
      exact this
     ·cases hr
    ·cases hr
   ·cases hr
  ·cases hr
theorem zjh {e:TE T.toTT0} {h:TH T.toTT0}:∀ (ts:List RS) (l:List (VT T)),rsTs e h ts=some l→z7a (denE T.toTT0 (denH T.toTT0 h) e) (denH T.toTT0 h) ts=some (denL T.toTT0 (denH T.toTT0 h) l)
 | [],_,h=>by cases h; rfl
 | r::ts,l,hr=>by
  simp only [rsTs] at hr
  split at hr
  ·rename_i x xs h1 h2
   cases hr
   simp only [z7a,y9n h1,zjh ts xs h2,denL]
  ·cases hr
theorem zr7:∀ (ks:List Nat) (k:Nat),k ∈ ks→look (ks.map fun k=>(k,k)) k=some k
 | [],_,h=>by cases h
 | k'::ks,k,h=>by
  simp only [List.map_cons,look]
  split
  ·rename_i e; rw [e]
  ·rename_i hne
   refine zr7 ks k ?_
   rcases List.mem_cons.1 h with h | h
   ·exact absurd h.symm hne
   ·exact h
theorem zi8:∀ (ks:List Nat) (k n:Nat),z1k (ks.map fun k=>(k,k)) k=some n→n=k∧k ∈ ks
 | [],_,_,h=>by cases h
 | k'::ks,k,n,h=>by
  simp only [List.map_cons,z1k] at h
  split at h
  ·rename_i e; cases h; exact ⟨e,by simp [e]⟩
  ·obtain ⟨q1,q2⟩:=zi8 ks k n h
   exact ⟨q1,List.mem_cons_of_mem _ q2⟩
theorem zff {ts:List RS} {keys:List Nat} {eh:EH T} {r:VT T} {ho hin:TH T.toTT0} (hr:retT ts keys eh=some (r,ho)) (hin':(hin.map Prod.fst).all (fun k=>keys.contains k)=true) {o:Out} (hno:(match o with | .exit _=>False | .panic _=>False | _=>True)) :
  Ends ts (denH T.toTT0 hin) (den T.toTT0 (denH T.toTT0 ho) r) (denH T.toTT0 ho) o (denE T.toTT0 (denH T.toTT0 eh.2) eh.1) (denH T.toTT0 eh.2):=by
 unfold retT at hr
 split at hr
 ·rename_i l ho' left h1 h2
  split at hr
  ·rename_i r' hb
   cases hn:zn keys with
   | false=>rw [hn] at hr; cases hr
   | true =>
    rw [hn] at hr
    cases hr
    obtain ⟨s1,s2,s3⟩:=z4j _ _ _ _ h2
    have hk1:(keys.map fun k=>(k,k)).map Prod.fst=keys:=by rw [List.map_map]; exact List.map_id' _
    have hk2:(keys.map fun k=>(k,k)).map Prod.snd=keys:=by rw [List.map_map]; exact List.map_id' _
    refine ⟨hno,keys.map fun k=>(k,k),_,denH T.toTT0 left,?_,s1,by rw [hk1]; exact hn,z7f (Ho:=denH T.toTT0 eh.2) (fun k n q hkn=>?_) _ _ hb,?_⟩
    ·unfold z4s
     rw [zjh _ _ h1]
     cases l with
     | nil=>rfl
     | cons x l=>cases l <;> rfl
    ·obtain ⟨e1,hk⟩:=zi8 keys k n hkn
     subst e1
     have:=s3 n n (by rw [hk1]; exact hn) (by rw [hk2]; exact hn) (List.mem_map.2 ⟨n,hk,rfl⟩)
     unfold ze res
     rw [this]
    ·rw [z1e,List.all_eq_true]
     intro k hk
     have:=List.all_eq_true.1 hin' k hk
     rw [zr7 keys k (by simpa using this)]
     simp
  ·cases hr
 ·cases hr
noncomputable def zq {X R:Type} (cx:Cx P T) (f:Nat) (ks:List (List Nat)) (an:X→An P T pro) (A:List VD) (Hd:List (Nat×List Kd)) (Nk:List Nat) (D:Dr) (keys:List Nat) (strong:Bool)
  (encA:X→List (VT T)) (encH:X→TH T.toTT0) (encE:R→EH T) (encR:R→VT T) (encO:R→TH T.toTT0) (t:X→Pt P T pro R)
  (hf:zln P f ks=true:=by kernel_rfl)
  (ht:∀ x,evC cx (fnC P f ks) (an x) (argT 0 (encA x)) (encH x) (finK pro D)=(t x).raw encE:=by intro x; kernel_rfl)
  (hp:∀ x,(encH x).map Prod.fst=pro:=by intro x; kernel_rfl) (hk:pro.all (fun k=>keys.contains k)=true:=by kernel_rfl)
  (hr:∀ y,retT (fnTs P f) keys (encE y)=some (encR y,encO y):=by intro y; kernel_rfl)
  (hs:strong=true→∀ y,(z93 (encR y) && z87 (encO y))=true:=by first | (intro h; cases h; done) | (intro _ y; kernel_rfl)):Con P T where
 f:=f
 X:=X
 Y:=R
 A:=A
 H:=Hd
 N:=Nk
 encA:=encA
 encH:=encH
 G:=fun x=>(t x).run
 encR:=encR
 encO:=encO
 strong:=strong
 ok:=fun x y hx=>by
  have h1:=z1x encE (t x) y hx
  rw [← ht x] at h1
  have h2:=z3j _ (an x) _ _ _ _ h1
  rw [zbz] at h2
  have hG:CallG P f (denL T.toTT0 (denH T.toTT0 (encH x)) (encA x)) (denH T.toTT0 (encH x)) (den T.toTT0 (denH T.toTT0 (encO y)) (encR y)) (denH T.toTT0 (encO y)):=by
   refine .of_E (zex hf) ?_
   rw [z1e,hp x]
   obtain ⟨o,E,H0,hex,e,h,rfl,rfl,hK⟩:=h2
   cases o with
   | exit id=>exact hK.elim
   | panic u=>exact hK.elim
   | normal =>
    obtain ⟨eh,q1,q2⟩:=Sat.ofRs _ hK
    cases q2
    exact ⟨_,_,_,.after hex (z3r q1),zff (hr y) (by rw [hp x]; exact hk) trivial⟩
   | ret =>
    obtain ⟨eh,q1,q2⟩:=Sat.ofRs _ hK
    cases q2
    exact ⟨_,_,_,.after hex (z3r q1),zff (hr y) (by rw [hp x]; exact hk) trivial⟩
  refine ⟨fun hst=>?_,hG⟩
  have:=hs hst y
  simp only [Bool.and_eq_true] at this
  exact CallG.narrow hG (z9s _ this.1) (z88 _ this.2)
def yca {A B:Type}:A⊕B→Option A
 | .inl a=>some a
 | .inr _=>none
noncomputable def conX {X R Z:Type} (cx:Cx P T) (f:Nat) (ks:List (List Nat)) (an:X→An P T pro) (A:List VD) (Hd:List (Nat×List Kd)) (Nk:List Nat) (D:Dr) (keys:List Nat)
  (encA:X→List (VT T)) (encH:X→TH T.toTT0) (encE:R→EH T) (encR:R→VT T) (encO:R→TH T.toTT0) (encV:Z→Value) (t:X→Pt P T pro (R⊕Z))
  (hf:zln P f ks=true:=by kernel_rfl)
  (ht:∀ x,evC cx (fnC P f ks) (an x) (argT 0 (encA x)) (encH x) (yad pro D)=(t x).raw (sumE encE fun z=>ofX (encV z)):=by intro x; kernel_rfl)
  (hp:∀ x,(encH x).map Prod.fst=pro:=by intro x; kernel_rfl) (hk:pro.all (fun k=>keys.contains k)=true:=by kernel_rfl)
  (hr:∀ y,retT (fnTs P f) keys (encE y)=some (encR y,encO y):=by intro y; kernel_rfl)
  (hx:∀ y,isX (encE y)=none:=by intro y; kernel_rfl):Con P T :=
 have key:∀ x r,(t x).run=some r→match r with
   | .inl y=>CallG P f (denL T.toTT0 (denH T.toTT0 (encH x)) (encA x)) (denH T.toTT0 (encH x)) (den T.toTT0 (denH T.toTT0 (encO y)) (encR y)) (denH T.toTT0 (encO y))
   | .inr z=>z5p P f (denL T.toTT0 (denH T.toTT0 (encH x)) (encA x)) (denH T.toTT0 (encH x)) (encV z):=fun x r hrun=>by
  have h1:=z1x (sumE encE fun z=>ofX (encV z)) (t x) r hrun
  rw [← ht x] at h1
  have h2:=z3j _ (an x) _ _ _ _ h1
  rw [zbz] at h2
  obtain ⟨o,E,H0,hex,e,h,rfl,rfl,hK⟩:=h2
  have hkeys:(denH T.toTT0 (encH x)).map Prod.fst=pro:=by rw [z1e,hp x]
  have nor:∀ (r:R⊕Z),Sat (Raw.ofRs (fun eh=>match isX eh with | none=>(.leaf eh:Raw P T pro (EH T)) | some _=>.no) (cnv pro D e h)) (fun l=>l=sumE encE (fun z=>ofX (encV z)) r)→∃ y,r = .inl y∧(cnv pro D e h).gives (encE y):=fun r hK=>by
   obtain ⟨eh,q1,q2⟩:=Sat.ofRs _ hK
   split at q2
   ·rename_i hi
    have q2:eh=_:=q2
    subst q2
    cases r with
    | inl y=>exact ⟨y,rfl,q1⟩
    | inr z=>exact absurd hi (by simp [sumE,ofX,isX])
   ·exact q2.elim
  cases o with
  | exit id=>exact hK.elim
  | panic u =>
   have hK:ofX u=sumE encE (fun z=>ofX (encV z)) r:=hK
   cases r with
   | inl y =>
    have:=hx y
    simp only [sumE] at hK
    rw [← hK] at this
    exact absurd this (by simp [ofX,isX])
   | inr z =>
    simp only [sumE,ofX,Prod.mk.injEq,List.cons.injEq,TV.sc.injEq,and_true,true_and] at hK
    subst hK
    rw [← hkeys] at hex
    exact z5p.of_ex (zex hf) hex
  | normal =>
   obtain ⟨y,rfl,q1⟩:=nor r hK
   rw [← hkeys] at hex
   refine CallG.of_E (zex hf) ⟨_,_,_,.after hex (by rw [hkeys]; exact z3r q1),zff (hr y) (by rw [hp x]; exact hk) trivial⟩
  | ret =>
   obtain ⟨y,rfl,q1⟩:=nor r hK
   rw [← hkeys] at hex
   refine CallG.of_E (zex hf) ⟨_,_,_,.after hex (by rw [hkeys]; exact z3r q1),zff (hr y) (by rw [hp x]; exact hk) trivial⟩
 { f:=f,X:=X,Y:=R,A:=A,H:=Hd,N:=Nk,encA:=encA,encH:=encH,encR:=encR,encO:=encO,strong:=false,x:=true,V:=Z,encV:=encV,FX:=fun x=>(t x).run,okX:=key,G:=fun x=>(t x).run.bind yca,ok:=fun x y h=>⟨fun h=>(nomatch h),by
   obtain ⟨r,h1,h2⟩:=zh h
   cases r with
   | inl y'=>cases h2; exact key x _ h1
   | inr z=>cases h2⟩ }
def ya0 (P:Program) (T:TT) (f:Nat) {X R:Type} (encA:X→List (VT T)) (encR:R→VT T) (G:X→Option R):Prop :=
 ∀ x y,G x=some y→z28 P f (denL T.toTT0 [] (encA x)) [] (den T.toTT0 [] (encR y)) []
abbrev CtrQ (P:Program) (T:TT) (f:Nat) {X R:Type} (encA:X→List (VT T)) (encR:R→VT T):={G:X→Option R // ya0 P T f encA encR G}
def conB {X R:Type} (f:Nat) (A:List VD) (encA:X→List (VT T)) (encR:R→VT T) (q:CtrQ P T f encA encR):Con P T where
 f:=f
 X:=X
 Y:=R
 A:=A
 H:=[]
 N:=[]
 encA:=encA
 encH:=fun _=>[]
 G:=q.1
 encR:=encR
 encO:=fun _=>[]
 strong:=true
 ok:=fun x y h=>⟨fun _=>q.2 x y h,(q.2 x y h).toG⟩
def recQ {X R:Type} {f:Nat} {encA:X→List (VT T)} {encR:R→VT T} (s:CtrQ P T f encA encR→CtrQ P T f encA encR):Nat→CtrQ P T f encA encR
 | 0=>⟨fun _=>none,fun _ _ h=>nomatch h⟩
 | n+1=>s (recQ s n)
end
section
variable {El:Nat→Type} {T:TT0}
def gI (k:IntKind):TV El→Option Int
 | .sc (.int k' n)=>if k'=k then some n else none
 | .ik k' n=>if k'=k then some n else none
 | _=>none
def gB:TV El→Option Bool
 | .sc (.bool b)=>some b
 | .bk b=>some b
 | _=>none
def gS:TV El→Option ByteArray
 | .sc (.string b)=>some b
 | _=>none
def gM (t:Nat):TV El→Option (List (El t))
 | .im t' xs=>if h:t'=t then some (h ▸ xs) else none
 | _=>none
def gO (m:Bool) (t:Nat):TV El→Option (List (El t))
 | .ow m' t' xs=>if h:t'=t then (bif m==m' then some (h ▸ xs) else none) else none
 | _=>none
theorem z2r {k:IntKind} {v:TV T.El} {n:Int} {h:H} (hv:gI k v=some n):den T h v = .sc (.int k n):=by
 unfold gI at hv
 split at hv
 ·split at hv
  ·rename_i hk; cases hv; subst hk; rfl
  ·cases hv
 ·split at hv
  ·rename_i hk; cases hv; subst hk; rfl
  ·cases hv
 ·cases hv
theorem zsi {v:TV T.El} {b:Bool} {h:H} (hv:gB v=some b):den T h v = .sc (.bool b):=by
 unfold gB at hv
 split at hv
 ·cases hv; rfl
 ·cases hv; rfl
 ·cases hv
theorem yc7 {v:TV T.El} {b:ByteArray} {h:H} (hv:gS v=some b):den T h v = .sc (.string b):=by
 unfold gS at hv
 split at hv
 ·cases hv; rfl
 ·cases hv
theorem zf0 {t:Nat} {v:TV T.El} {xs:List (T.El t)} {h:H} (hv:gM t v=some xs):den T h v = .im (T.sz t) (xs.map (T.ca false t)):=by
 unfold gM at hv
 split at hv
 ·split at hv
  ·rename_i hk; subst hk; cases hv; rfl
  ·cases hv
 ·cases hv
theorem zf1 {m:Bool} {t:Nat} {v:TV T.El} {xs:List (T.El t)} {h:H} (hv:gO m t v=some xs):den T h v = .ow (T.sz t) (xs.map (T.ca m t)):=by
 unfold gO at hv
 split at hv
 ·split at hv
  ·rename_i m' _ _ hk
   subst hk
   cases hm:m==m' with
   | false=>rw [hm] at hv; cases hv
   | true =>
    rw [hm] at hv
    cases hv
    have:m=m':=by simpa using hm
    subst this; rfl
  ·cases hv
 ·cases hv
theorem z4b {l:List AV} (h:l.all (fun a=>!isZ a)=true):∀ a ∈ l,isZ a=false:=fun a ha=>by
 have:=List.all_eq_true.1 h a ha
 simpa using this
end
end Loom
namespace Loom
attribute [local instance] Dfs.none
open Go
section
variable {P:Program} {N:Nat}
end
theorem zp4 {I:Nat→Prop} {σ:Pl} {B:zj} {k:Nat} {p:Path} {i:Nat}:∀ (x:List Value) (c:Nat) (cs:List Value),CeC I σ B k p i c (x.map .sc) cs→cs=x∧∀ u ∈ x,u.oneCell'=true
 | [],_,_,h=>⟨h,fun _ h=>nomatch h⟩
 | u::x,c,cs,h=>by
  obtain ⟨v,cs',rfl,⟨rfl,h1⟩,h2⟩:=h
  obtain ⟨rfl,h3⟩:=zp4 x (c+1) cs' h2
  refine ⟨rfl,fun u hu=>?_⟩
  rcases List.mem_cons.1 hu with rfl | hu
  ·exact h1
  ·exact h3 u hu
theorem zlv {I:Nat→Prop} {σ:Pl} {B:zj} {k:Nat} {p:Path} {i:Nat}:∀ (x:List Value) (c:Nat),(∀ u ∈ x,u.oneCell'=true)→CeC I σ B k p i c (x.map .sc) x
 | [],_,_=>rfl
 | u::x,c,h=>⟨u,x,rfl,⟨rfl,h u (by simp)⟩,zlv x (c+1) fun v hv=>h v (by simp [hv])⟩
theorem zpl {σ:Pl} {k:Nat} {p:Path} {i:Nat}:∀ (x:List Value) (c:Nat),fpC σ k p i c (x.map .sc)=[]
 | [],_=>rfl
 | u::x,c=>by simp only [List.map_cons,fpC,fpA,zpl x (c+1),List.append_nil]
theorem zp5 {I:Nat→Prop} {σ:Pl} {B:zj} {k:Nat} {p:Path}:∀ (x:List Value) (i:Nat) (cs:List Value),CeE I σ B k p i 1 (x.map fun u=>[AV.sc u]) cs→cs.take x.length=x
 | [],_,_,_=>rfl
 | u::x,i,cs,h=>by
  obtain ⟨_,h1,h2⟩:=h
  obtain ⟨v,cs',h3,⟨rfl,_⟩,h4⟩:=h1
  have h5:=zp5 x (i+1) _ h2
  cases cs with
  | nil=>simp at h3
  | cons w cs =>
   simp only [List.take_succ_cons,List.cons.injEq] at h3
   obtain ⟨rfl,_⟩:=h3
   simp only [List.length_cons,List.take_succ_cons,List.cons.injEq,true_and]
   simpa using h5
theorem CallG.fields {P:Program} {f:Nat} {x:List Value} {cs:List Nat}
  (hc:∀ b,CallG P f [.pp (.xp b x 0)] [] (.sl 100000 [] 0 cs.length) [(100000,⟨1,cs.map fun c=>[.sc (.pointer (some ⟨b,c,none⟩))]⟩)]) :
  CallG P f [.pt 200000 [] 0 0] [(200000,⟨x.length,[x.map .sc]⟩)] (.pp (.fs 200000 cs)) [(200000,⟨x.length,[x.map .sc]⟩)]:=by
 intro I σ w vs hh hv
 obtain ⟨v,vs',rfl,⟨L,hL,rfl⟩,rfl⟩:=hv
 have hrow:zr I σ (bl w) 200000 ⟨x.length,[x.map .sc]⟩:=hh.ok.1
 have hrow0:=hrow
 unfold zr at hrow
 rw [hL] at hrow
 obtain ⟨hs,hcap,cur,E,hB,hsz,hE⟩:=hrow
 obtain ⟨_,hE1,_⟩:=hE
 obtain ⟨hx1,hx2⟩:=zp4 _ _ _ hE1
 have hfp:fpH σ [(200000,⟨x.length,[x.map .sc]⟩)]=[L.b]:=by
  simp only [fpH,fpR,hL,fpE,zpl,List.append_nil]
 have hLb:=hh.apart L.b (by rw [hfp]; simp)
 have hhi:HRel (fun b=>I b∨b=L.b) σ [] w:=⟨trivial,List.nodup_nil,List.nodup_nil,fun b h=>(nomatch h),fun b h=>by
  rcases h with h | rfl
  ·exact hh.low b h
  ·exact hLb.2⟩
 rw [show 0 * L.s+0=0 by omega]
 refine (hc L.b _ σ w [.pointer (some ⟨L.b,0,none⟩)] hhi ⟨_,[],rfl,⟨rfl,.inr rfl,cur,E.t,E.fr,hB,hx1,hx2⟩,rfl⟩).mono ?_
 rintro en w' ⟨v,σ',I',rfl,h1,h2,h3,h4,_,h6,h7,h8⟩
 have hsame:bl w' L.b=bl w L.b:=h7 _ hLb.2 (fun h=>nomatch h)
 have hnf:∀ b ∈ fpH σ' [(100000,⟨1,cs.map fun c=>[AV.sc (.pointer (some ⟨L.b,c,none⟩))]⟩)],w.heap.size≤b:=fun b hb=>by
  rcases h8 b hb with h | h
  ·cases h
  ·exact h
 have hI2:∀ b,I' b→I b∨b=L.b∨w.heap.size≤b:=fun b hb=>by
  rcases h2 b hb with (h | h) | h | h
  ·exact .inl h
  ·exact .inr (.inl h)
  ·cases h
  ·exact .inr (.inr h)
 refine ⟨v,σ,fun b=>(I' b∧b ≠ L.b)∨b ∈ fpH σ' [(100000,⟨1,cs.map fun c=>[AV.sc (.pointer (some ⟨L.b,c,none⟩))]⟩)],rfl,fun b hb=>.inl ⟨h1 b (.inl hb),fun e=>hLb.1 (e ▸ hb)⟩,fun b hb=>?_,⟨?_,hh.keys,hh.nodup,fun b hb=>?_,fun b hb=>?_⟩,?_,fun _ _=>rfl,h6,fun b hb hn=>h7 b hb (fun h=>nomatch h),fun b hb=>.inl hb⟩
 ·rcases hb with ⟨hb,hne⟩ | hb
  ·rcases hI2 b hb with h | h | h
   ·exact .inl h
   ·exact absurd h hne
   ·exact .inr (.inr h)
  ·exact .inr (.inr (hnf b hb))
 ·refine ⟨?_,trivial⟩
  unfold zr
  rw [hL]
  refine ⟨hs,hcap,cur,E,hsame.trans hB,hsz,?_,?_,trivial⟩
  ·simp
  ·dsimp only
   rw [hx1]
   exact zlv x 0 hx2
 ·rw [hfp] at hb
  have hb:b=L.b:=by simpa using hb
  subst hb
  refine ⟨fun h=>?_,Nat.lt_of_lt_of_le hLb.2 h6.size⟩
  rcases h with ⟨_,h⟩ | h
  ·exact h rfl
  ·exact absurd (hnf _ h) (by have:=hLb.2; omega)
 ·rcases hb with ⟨hb,_⟩ | hb
  ·exact h3.low b hb
  ·exact (h3.apart b hb).2
 ·refine ⟨L,?_⟩
  have hr:=h3.ok.1
  unfold zr at hr
  simp only [Va] at h4
  cases hσ:σ' 100000 [] with
  | none =>
   rw [hσ] at h4 hr
   obtain ⟨h5,_,a,rfl⟩:=h4
   simp only [List.map_eq_nil_iff] at hr
   subst hr
   exact ⟨a,0,hL,rfl,Nat.le_refl _,fun h=>absurd rfl h⟩
  | some L' =>
   rw [hσ] at h4 hr
   obtain ⟨a,c,rfl,h5,h9,ha⟩:=h4
   obtain ⟨s1,s2,cur',E',s3,s4,s5⟩:=hr
   refine ⟨some a,c,hL,rfl,h9,fun hne=>?_⟩
   have:=ha (by simp)
   subst this
   refine ⟨_,cur',E'.t,E'.fr,rfl,rfl,.inr ?_,s3,?_⟩
   ·simp only [fpH,fpR,hσ,List.mem_append,List.mem_cons]
    exact .inl (.inl trivial)
   ·have:=zp5 (cs.map fun c=>Value.pointer (some ⟨L.b,c,none⟩)) 0 cur'.toList (by rw [List.map_map]; exact s5)
    simp only [Nat.zero_mul,List.drop_zero]
    rw [List.length_map] at this
    exact this
theorem CallG.fields' {P:Program} {f:Nat} {x:List Value} {cs:List Nat}
  (hc:∀ b,CallG P f [.pp (.xp b x 0)] [] (.sl 100000 [] 0 ((cs.map fun c=>(⟨b,c,none⟩:Addr)).map fun a=>[AV.sc (.pointer (some a))]).length) [(100000,⟨1,(cs.map fun c=>(⟨b,c,none⟩:Addr)).map fun a=>[AV.sc (.pointer (some a))]⟩)]) :
  CallG P f [.pt 200000 [] 0 0] [(200000,⟨x.length,[x.map .sc]⟩)] (.pp (.fs 200000 cs)) [(200000,⟨x.length,[x.map .sc]⟩)] :=
 CallG.fields fun b=>by
  have:=hc b
  rw [List.length_map,List.length_map,List.map_map] at this
  exact this
def gP {El:Nat→Type}:TV El→Option Addr
 | .sc (.pointer (some a))=>some a
 | _=>none
theorem yc6 {T:TT0} {v:TV T.El} {a:Addr} {h:H} (hv:gP v=some a):den T h v = .sc (.pointer (some a)):=by
 unfold gP at hv
 split at hv
 ·cases hv; rfl
 ·cases hv
end Loom
