/- Loom,an abstract machine over the kit's calculus: rows,z1n,stores,calls,regions,what they owe; and its evaluator (part 4 of 4). -/
import Derived.Test.YtoobnbnmmkkioaaLoomC
set_option linter.unusedVariables false
set_option linter.unusedSimpArgs false
set_option linter.unusedSectionVars false
namespace Loom
open Go
def Fact (e:Env) (h:H) (x:Ins):Prop :=
 (zn e x.guard=some false∧e x.dst=z42 x.op)∨(zn e x.guard=some true∧∀ b,x.op = .rd b→∃ hp av,(∀ z ∈ hp,z ∈ h)∧rdop (ev e) (res hp) b=some av∧AVle av (e x.dst))
def sepB:List Ins→Bool
 | []=>true
 | x::l=>!(z34 x).contains x.dst && l.all (fun y=>!(z34 x).contains y.dst && !(Nat.beq y.dst x.dst)) && sepB l
theorem Fact.next {e:Env} {h h':H} {x:Ins} {d:Nat} {av:AV} (h1:d ∉ z34 x) (h2:d ≠ x.dst) (hs:∀ z ∈ h,z ∈ h') (hf:Fact e h x):Fact (upd e d av) h' x:=by
 have hw:zn (upd e d av) x.guard=zn e x.guard:=zcs fun s hs=>by
  unfold upd; rw [if_neg (by rintro rfl; exact h1 hs)]
 have hd:upd e d av x.dst=e x.dst:=by unfold upd; rw [if_neg (fun e=>h2 e.symm)]
 rcases hf with ⟨f1,f2⟩ | ⟨f1,f2⟩
 ·exact .inl ⟨hw.trans f1,hd.trans f2⟩
 ·refine .inr ⟨hw.trans f1,fun b hb=>?_⟩
  obtain ⟨hp,a,g1,g2,g3⟩:=f2 b hb
  refine ⟨hp,a,fun z hz=>hs z (g1 z hz),?_,by rw [hd]; exact g3⟩
  rw [← g2]
  exact z4d b fun o ho=>z4l (x:=x) (fun s hs=>by unfold upd; rw [if_neg (by rintro rfl; exact h1 hs)]) (by rw [hb]; exact ho)
theorem WD.facts {P:Program} {K:Env→H→Prop} {h0:H}:∀ (pre:List (Ins×List Nat)) (i:Nat) (e:Env) (acc:List (Nat×H)) (done:List Ins),WD P pre i e acc h0 K→sepB (pre.map Prod.fst)=true→(∀ x ∈ done,∀ y ∈ pre,y.1.dst ∉ z34 x∧y.1.dst ≠ x.dst) →
  (∀ x ∈ done,Fact e (z38 acc++h0) x)→WD P pre i e acc h0 (fun e' h'=>K e' h'∧∀ x ∈ done++pre.map Prod.fst,Fact e' h' x)
 | [],i,e,acc,done,hw,_,_,hf=>⟨hw.1,hw.2,fun x hx=>hf x (by simpa using hx)⟩
 | (x,D)::pre,i,e,acc,done,hw,hsep,hd,hf=>by
  obtain ⟨av,rows,hok,hw⟩:=hw
  simp only [List.map_cons,sepB,Bool.and_eq_true,Bool.not_eq_true'] at hsep
  obtain ⟨⟨s1,s2⟩,s3⟩:=hsep
  have hown:x.dst ∉ z34 x:=fun hm=>by
   have:(z34 x).contains x.dst=true:=by simpa using hm
   rw [this] at s1; cases s1
  have hall:∀ acc:List (Nat×H),z38 (acc++[(i,rows)])=z38 acc++rows:=by
   intro acc
   induction acc with
   | nil=>simp [z38]
   | cons y l ih=>obtain ⟨j,r⟩:=y; simp [z38,ih]
  have hmem:∀ z ∈ z38 acc++h0,z ∈ z38 (acc++[(i,rows)])++h0:=fun z hz=>by
   rw [hall]
   simp only [List.mem_append] at hz ⊢
   rcases hz with hz | hz
   ·exact .inl (.inl hz)
   ·exact .inr hz
  have hhx:∀ (acc:List (Nat×H)) (z:Nat×Row),z ∈ hx D acc→z ∈ z38 acc:=by
   intro acc
   induction acc with
   | nil=>intro z hz; cases hz
   | cons y l ih =>
    obtain ⟨j,r⟩:=y
    intro z hz
    simp only [hx] at hz
    simp only [z38,List.mem_append]
    split at hz
    ·rw [List.mem_append] at hz; exact hz.imp id (ih z)
    ·exact .inr (ih z hz)
  refine ⟨av,rows,hok,?_⟩
  have hguard:zn (upd e x.dst av) x.guard=zn e x.guard:=zcs fun s hs=>by
   unfold upd; rw [if_neg (by rintro rfl; exact hown hs)]
  have hdst:upd e x.dst av x.dst=av:=by simp [upd]
  have hnew:Fact (upd e x.dst av) (z38 (acc++[(i,rows)])++h0) x:=by
   have hrd:∀ (b:IB) (a:AV),x.op = .rd b→rdop (ev e) (res (hx D acc++h0)) b=some a→AVle a av→∃ hp av',(∀ z ∈ hp,z ∈ z38 (acc++[(i,rows)])++h0)∧rdop (ev (upd e x.dst av)) (res hp) b=some av'∧AVle av' (upd e x.dst av x.dst):=by
    intro b a hb h1 h2
    refine ⟨hx D acc++h0,a,fun z hz=>hmem z ?_,?_,by rw [hdst]; exact h2⟩
    ·rw [List.mem_append] at hz ⊢
     exact hz.imp (hhx acc z) id
    ·rw [← h1]
     exact z4d b fun o ho=>z4l (x:=x) (fun s hs=>by unfold upd; rw [if_neg (by rintro rfl; exact hown hs)]) (by rw [hb]; exact ho)
   cases hok with
   | skip g1 g2 g3=>exact .inl ⟨hguard.trans g1,hdst.trans g2⟩
   | rd g1 g2 g3 g4 g5 =>
    refine .inr ⟨hguard.trans g1,fun b hb=>?_⟩
    simp only at g2
    rw [g2] at hb
    cases hb
    exact hrd _ _ g2 g3 g4
   | mk zf g1 g2 g3 g4=>exact .inr ⟨hguard.trans g1,fun b hb=>by simp only at g2; rw [g2] at hb; cases hb⟩
   | call g1 g2=>exact .inr ⟨hguard.trans g1,fun b hb=>by
     simp only at g2
     rw [hb] at g2
     cases g2⟩
  have:=WD.facts pre (i+1) _ _ (done++[x]) hw s3 (fun y hy z hz=>by
   rcases List.mem_append.1 hy with hy | hy
   ·exact hd y hy z (by simp [hz])
   ·simp only [List.mem_singleton] at hy
    subst hy
    have:=List.all_eq_true.1 s2 z.1 (List.mem_map.2 ⟨z,hz,rfl⟩)
    simp only [Bool.and_eq_true,Bool.not_eq_true',z1a,decide_eq_false_iff_not] at this
    exact ⟨by simpa using this.1,this.2⟩) (fun y hy=>by
   rcases List.mem_append.1 hy with hy | hy
   ·obtain ⟨q1,q2⟩:=hd y hy (x,D) (by simp)
    exact (hf y hy).next q1 q2 hmem
   ·simp only [List.mem_singleton] at hy
    subst hy
    exact hnew)
  simpa only [List.append_assoc,List.singleton_append,List.map_cons] using this
def y37:AV→Option Nat
 | .pt k _ _ _=>some k
 | .sl k _ _ _=>some k
 | _=>none
theorem zzs {f:Operand→AV} {r r':Nat→Path→Option (Nat×Els)} {b:IB} (h:∀ o ∈ z2t b,∀ k,y37 (f o)=some k→∀ p,r' k p=r k p):rdop f r' b=rdop f r b:=by
 cases b with
 | iad s x i =>
  have hx:=h x (by simp [z2t])
  simp only [rdop]
  cases hv:f x with
  | sl k p off len=>have h2:=hx k (by rw [hv]; rfl) p; split <;> simp_all
  | pt k p i c=>have h2:=hx k (by rw [hv]; rfl) p; split <;> simp_all
  | _=>split <;> simp_all
 | load agg n x =>
  have hx:=h x (by simp [z2t])
  simp only [rdop]
  cases hv:f x with
  | sl k p off len=>have h2:=hx k (by rw [hv]; rfl) p; split <;> simp_all
  | pt k p i c=>have h2:=hx k (by rw [hv]; rfl) p; split <;> simp_all
  | _=>split <;> simp_all
 | b2s x =>
  have hx:=h x (by simp [z2t])
  simp only [rdop]
  cases hv:f x with
  | sl k p off len=>have h2:=hx k (by rw [hv]; rfl) p; split <;> simp_all
  | pt k p i c=>have h2:=hx k (by rw [hv]; rfl) p; split <;> simp_all
  | _=>split <;> simp_all
 | slc s x lo hi =>
  have hx:=h x (by simp [z2t])
  simp only [rdop]
  cases hv:f x with
  | sl k p off len=>have h2:=hx k (by rw [hv]; rfl) p; split <;> simp_all
  | pt k p i c=>have h2:=hx k (by rw [hv]; rfl) p; split <;> simp_all
  | _=>split <;> simp_all
 | _=>rfl
section
variable {P:Program} {T:TT} {pro:List Nat} {L:Type}
mutual
def z1l (bad:Nat→Path→Bool):VT T→Bool
 | .sl k p _ _=>!bad k p
 | .sw k p=>!bad k p
 | .pt k p _ _=>!bad k p
 | .ag cs=>z3x bad cs
 | .tu cs=>z3x bad cs
 | .fn _ cs=>z3x bad cs
 | .un | .sc _ | .ik _ _ | .bk _ | .zs | .im _ _ | .ip _ _ _ | .ow _ _ _ | .oo _ _ _ _ _=>true
 | .pp (.xp _ _ _)=>true
 | .pp (.fs k _) | .pp (.fp k _ _) | .pp (.px k _)=>!bad k []
def z3x (bad:Nat→Path→Bool):List (VT T)→Bool
 | []=>true
 | x::l=>z1l bad x && z3x bad l
end
mutual
theorem z7p {bad:Nat→Path→Bool} {H0:H}:∀ (v:VT T),z1l bad v=true→kill bad (den T.toTT0 H0 v)=den T.toTT0 H0 v
 | .sl k p _ _,h=>by simp only [z1l,Bool.not_eq_true'] at h; simp only [den,kill,h,Bool.false_eq_true,if_false]
 | .sw k p,h=>by simp only [z1l,Bool.not_eq_true'] at h; simp only [den,kill,h,Bool.false_eq_true,if_false]
 | .pt k p _ _,h=>by simp only [z1l,Bool.not_eq_true'] at h; simp only [den,kill,h,Bool.false_eq_true,if_false]
 | .ag cs,h=>by simp only [z1l] at h; simp only [den,kill,z8e cs h]
 | .tu cs,h=>by simp only [z1l] at h; simp only [den,kill,z8e cs h]
 | .fn _ cs,h=>by simp only [z1l] at h; simp only [den,kill,z8e cs h]
 | .un,_ | .sc _,_ | .ik _ _,_ | .bk _,_ | .zs,_ | .im _ _,_ | .ip _ _ _,_ | .ow _ _ _,_ | .oo _ _ _ _ _,_ | .pp (.xp _ _ _),_=>rfl
 | .pp (.fs k _),h | .pp (.fp k _ _),h | .pp (.px k _),h=>by simp only [z1l,Bool.not_eq_true'] at h; simp only [den,denP,kill,z4c,h,Bool.false_eq_true,if_false]
theorem z8e {bad:Nat→Path→Bool} {H0:H}:∀ (v:List (VT T)),z3x bad v=true→z2i bad (denL T.toTT0 H0 v)=denL T.toTT0 H0 v
 | [],_=>rfl
 | x::l,h=>by
  simp only [z3x,Bool.and_eq_true] at h
  simp only [denL,z2i,z7p x h.1,z8e l h.2]
end
def refT:VT T→Option Nat
 | .pt k _ _ _=>some k
 | .sl k _ _ _=>some k
 | .sw k _=>some k
 | .pp (.px k _)=>some k
 | _=>none
theorem y4v {H0:H} {v:VT T}:y37 (den T.toTT0 H0 v)=refT v:=by cases v <;> first | rfl | (rename_i q; cases q <;> rfl)
def y3b:IB→Bool
 | .iad _ _ _ | .load _ _ _ | .slc _ _ _ _ | .b2s _=>true
 | _=>false
def zy6 (st:StT T) (e:TE T.toTT0) (x:Ins):Bool :=
 match x.op with
 | .rd b=>(z2t b).all fun o=>z1l st.bad (evT e o) && (!y3b b || match refT (evT e o) with | some k=>!st.tch.contains k | none=>true)
 | _=>false
def eqP:Path→Path→Bool
 | [],[]=>true
 | (i,c)::p,(j,d)::q=>Nat.beq c d && (Nat.beq i j && eqP p q)
 | _,_=>false
theorem zt8:∀ (p q:Path),eqP p q=true→p=q
 | [],[],_=>rfl
 | (i,c)::p,(j,d)::q,h=>by
  simp only [eqP,Bool.and_eq_true] at h
  rw [Nat.eq_of_beq_eq_true h.1,Nat.eq_of_beq_eq_true h.2.1,zt8 p q h.2.2]
 | [],_::_,h=>by cases h
 | _::_,[],h=>by cases h
def eqT:VT T→VT T→Bool
 | .sw k p,.sw k' p'=>Nat.beq k k' && eqP p p'
 | _,_=>false
theorem y5l:∀ (v w:VT T),eqT v w=true→v=w:=by
 intro v w h
 unfold eqT at h
 split at h
 ·simp only [Bool.and_eq_true] at h
  rw [Nat.eq_of_beq_eq_true h.1,zt8 _ _ h.2]
 ·cases h
def zr6 (st:StT T) (e:TE T.toTT0) (x:Ins):Bool :=
 match x.op with
 | .rd b=>(z2t b).all (fun o=>z1l (fun k p=>st.bad k p || st.bw k p) (evT e o)) && match rdT e st.h b with
  | .ok v=>eqT v (getE e x.dst) && z1l (fun k p=>st.bad k p || st.bw k p) v
  | _=>false
 | _=>false
def zbc (dep:List Nat) (st:StT T) (e:TE T.toTT0):List (Ins×List Nat)→Nat→Bool
 | [],_=>true
 | (x,_)::l,i=>(dep.contains i || (zy6 st e x || zr6 st e x)) && zbc dep st e l (i+1)
theorem z8w {e:Env} {g:Option (Nat×Bool)} {b:Bool} {bad:Nat→Path→Bool} (h:zn e g=some b):zn (fun t=>kill bad (e t)) g=some b:=by
 cases g with
 | none=>exact h
 | some sw =>
  obtain ⟨s,want⟩:=sw
  simp only [zn] at h ⊢
  split at h
  ·rename_i hb; rw [hb]; simpa [kill] using h
  ·rename_i hb; rw [hb]; simpa [kill] using h
  ·cases h
mutual
theorem z9v {bad:Nat→Path→Bool} {H0 H1:H} (hl:∀ k p,bad k p=false→ze H1 k p=ze H0 k p):∀ (v:VT T),z1l bad v=true→den T.toTT0 H1 v=den T.toTT0 H0 v
 | .sw k p,h=>by simp only [z1l,Bool.not_eq_true'] at h; simp only [den,hl k p h]
 | .ag cs,h=>by simp only [z1l] at h; simp only [den,z8f hl cs h]
 | .tu cs,h=>by simp only [z1l] at h; simp only [den,z8f hl cs h]
 | .fn _ cs,h=>by simp only [z1l] at h; simp only [den,z8f hl cs h]
 | .un,_ | .sc _,_ | .ik _ _,_ | .bk _,_ | .zs,_ | .im _ _,_ | .ip _ _ _,_ | .sl _ _ _ _,_ | .pt _ _ _ _,_ | .ow _ _ _,_ | .oo _ _ _ _ _,_ | .pp _,_=>rfl
theorem z8f {bad:Nat→Path→Bool} {H0 H1:H} (hl:∀ k p,bad k p=false→ze H1 k p=ze H0 k p):∀ (v:List (VT T)),z3x bad v=true→denL T.toTT0 H1 v=denL T.toTT0 H0 v
 | [],_=>rfl
 | x::l,h=>by
  simp only [z3x,Bool.and_eq_true] at h
  simp only [denL,z9v hl x h.1,z8f hl l h.2]
end
mutual
theorem z9w {bad bad':Nat→Path→Bool} (hb:∀ k p,bad k p=false→bad' k p=false):∀ (v:VT T),z1l bad v=true→z1l bad' v=true
 | .sl k p _ _,h=>by simp only [z1l,Bool.not_eq_true'] at h ⊢; exact hb k p h
 | .sw k p,h=>by simp only [z1l,Bool.not_eq_true'] at h ⊢; exact hb k p h
 | .pt k p _ _,h=>by simp only [z1l,Bool.not_eq_true'] at h ⊢; exact hb k p h
 | .ag cs,h=>by simp only [z1l] at h ⊢; exact z8g hb cs h
 | .tu cs,h=>by simp only [z1l] at h ⊢; exact z8g hb cs h
 | .fn _ cs,h=>by simp only [z1l] at h ⊢; exact z8g hb cs h
 | .un,_ | .sc _,_ | .ik _ _,_ | .bk _,_ | .zs,_ | .im _ _,_ | .ip _ _ _,_ | .ow _ _ _,_ | .oo _ _ _ _ _,_ | .pp (.xp _ _ _),_=>rfl
 | .pp (.fs k _),h | .pp (.fp k _ _),h | .pp (.px k _),h=>by simp only [z1l,Bool.not_eq_true'] at h ⊢; exact hb k [] h
theorem z8g {bad bad':Nat→Path→Bool} (hb:∀ k p,bad k p=false→bad' k p=false):∀ (v:List (VT T)),z3x bad v=true→z3x bad' v=true
 | [],_=>rfl
 | x::l,h=>by
  simp only [z3x,Bool.and_eq_true] at h ⊢
  exact ⟨z9w hb x h.1,z8g hb l h.2⟩
end
theorem zia {dep:List Nat} {st:StT T} {e:TE T.toTT0} {hA:TH T.toTT0} (hlen:∀ k p,st.bad k p=false→st.bw k p=false→ze (denH T.toTT0 st.h) k p=ze (denH T.toTT0 hA) k p) (hn:zm (hA.map Prod.fst)=true) (ht:∀ k,st.tch.contains k=false→za (denH T.toTT0 st.h) k=za (denH T.toTT0 hA) k):∀ (l:List (Ins×List Nat)) (i:Nat),zbc dep st e l i=true →
  (∀ x ∈ l.map Prod.fst,Fact (denE T.toTT0 (denH T.toTT0 hA) e) (denH T.toTT0 hA) x)→zg8 dep (kill st.bad) (denE T.toTT0 (denH T.toTT0 hA) e) (denH T.toTT0 st.h) l i
 | [],_,_,_=>trivial
 | (x,D)::l,i,hs,hf=>by
  simp only [zbc,Bool.and_eq_true,Bool.or_eq_true] at hs
  refine ⟨?_,zia hlen hn ht l (i+1) hs.2 (fun y hy=>hf y (by simp [hy]))⟩
  rcases hs.1 with h1 | h1 | h1
  ·exact .inl h1
  rotate_left
  ·right
   unfold zr6 at h1
   split at h1
   ·rename_i b hb
    rcases hf x (by simp) with ⟨f1,f2⟩ | ⟨f1,f2⟩
    ·refine .inl ⟨z8w f1,?_⟩
     rw [f2]
     cases x.op <;> rfl
    ·simp only [Bool.and_eq_true] at h1
     obtain ⟨h1,h2⟩:=h1
     split at h2
     ·rename_i v hv
      simp only [Bool.and_eq_true] at h2
      have hlen':∀ k p,(fun k p=>st.bad k p || st.bw k p) k p=false→ze (denH T.toTT0 st.h) k p=ze (denH T.toTT0 hA) k p:=fun k p hk=>by
       simp only [Bool.or_eq_false_iff] at hk
       exact hlen k p hk.1 hk.2
      have hsub:∀ k p,(fun k p=>st.bad k p || st.bw k p) k p=false→st.bad k p=false:=fun k p hk=>by
       simp only [Bool.or_eq_false_iff] at hk
       exact hk.1
      obtain ⟨av,r1,r2⟩:=znv (e:=e) (h:=st.h) (b:=b) (v:=v) (by rw [hv]; exact rfl)
      have hcl:∀ o ∈ z2t b,ev (fun t=>kill st.bad (denE T.toTT0 (denH T.toTT0 hA) e t)) o=ev (denE T.toTT0 (denH T.toTT0 st.h) e) o:=fun o ho=>by
       have:=List.all_eq_true.1 h1 o ho
       cases o with
       | tmp t =>
        have q1:=z7p (H0:=denH T.toTT0 hA) _ (z9w hsub _ this)
        have q2:=z9v hlen' _ this
        exact q1.trans q2.symm
       | _=>rfl
      refine .inr ⟨z8w f1,b,av,hb,(z4d b hcl).trans r1,?_⟩
      have e1:=y5l _ _ h2.1
      have q2:=z9v hlen' _ h2.2
      have q1:=z7p (H0:=denH T.toTT0 hA) _ (z9w hsub _ h2.2)
      rw [q2] at r2
      show AVle av (kill st.bad (den T.toTT0 (denH T.toTT0 hA) (getE e x.dst)))
      rw [← e1,q1]
      exact r2
     ·cases h2
   ·cases h1
  ·right
   unfold zy6 at h1
   split at h1
   ·rename_i b hb
    rcases hf x (by simp) with ⟨f1,f2⟩ | ⟨f1,f2⟩
    ·refine .inl ⟨z8w f1,?_⟩
     rw [f2]
     cases x.op <;> rfl
    ·obtain ⟨hp,av,g1,g2,g3⟩:=f2 b hb
     refine .inr ⟨z8w f1,b,av,hb,?_,g3.trans (AVle.kill _ _)⟩
     have e1:rdop (ev (denE T.toTT0 (denH T.toTT0 hA) e)) (res (denH T.toTT0 hA)) b=some av :=
      zks (fun k p v hv=>znz (by rw [z1d]; exact zv _ hn) g1 k p v hv) g2
     have hcl:∀ o ∈ z2t b,ev (fun t=>kill st.bad (denE T.toTT0 (denH T.toTT0 hA) e t)) o=ev (denE T.toTT0 (denH T.toTT0 hA) e) o:=fun o ho=>by
      have:=List.all_eq_true.1 h1 o ho
      simp only [Bool.and_eq_true] at this
      cases o with
      | tmp t=>exact z7p _ this.1
      | _=>rfl
     rw [z4d b hcl,← e1]
     cases hrb:y3b b with
     | false=>cases b <;> first | rfl | cases hrb
     | true =>
      refine zzs fun o ho k hk p=>?_
      have:=List.all_eq_true.1 h1 o ho
      simp only [Bool.and_eq_true,hrb,Bool.not_true,Bool.false_or] at this
      rw [zg,y4v] at hk
      rw [hk] at this
      simp only [Bool.not_eq_true'] at this
      unfold res
      rw [ht k this.2]
   ·cases h1
def zdt (pro:List Nat) (cx:Cx P T) (x:Ins) (e:TE T.toTT0) (h:TH T.toTT0) (K:StT T→Raw P T pro L):Raw P T pro L :=
 match x.op with
 | .mk b=>Raw.ofRs K (mkT (cx.at x.dst) pro e h x.dst b)
 | .app s bytes a b=>Raw.ofRs K (appT (cx.at x.dst) pro e h x.dst s bytes a b)
 | .st n a v=>Raw.ofRs K (stT e h n a v)
 | _=>.no
def zsk (pro:List Nat) (cx:Cx P T) (x:Ins) (e:TE T.toTT0) (h:TH T.toTT0) (K:StT T→Raw P T pro L):Raw P T pro L :=
 match x.guard with
 | none=>zdt pro cx x e h K
 | some (s,want)=>match getE e s with | .bk true=>bif want then zdt pro cx x e h K else .no | .bk false=>bif want then .no else zdt pro cx x e h K | _=>.no
theorem zzx {cx:Cx P T} {x:Ins} {e:TE T.toTT0} {h:TH T.toTT0} {K:StT T→Raw P T pro L} {Q:L→Prop} (hs:Sat (zsk pro cx x e h K) Q) :
  ∃ st,Sat (K st) Q∧StOk P pro T e h x st∧zn (denE T.toTT0 (denH T.toTT0 h) e) x.guard=some true:=by
 obtain ⟨d,g,op⟩:=x
 have go:Sat (zdt pro cx ⟨d,g,op⟩ e h K) Q→∃ st,Sat (K st) Q∧StOk P pro T e h ⟨d,g,op⟩ st:=fun hs=>by
  unfold zdt at hs
  dsimp only at hs
  split at hs
  ·obtain ⟨st,hv,hK⟩:=Sat.ofRs _ hs
   exact ⟨st,hK,zxm hv⟩
  ·obtain ⟨st,hv,hK⟩:=Sat.ofRs _ hs
   exact ⟨st,hK,zos hv⟩
  ·obtain ⟨st,hv,hK⟩:=Sat.ofRs _ hs
   exact ⟨st,hK,zy5 hv⟩
  ·exact hs.elim
 unfold zsk at hs
 dsimp only at hs
 split at hs
 ·obtain ⟨st,q1,q2⟩:=go hs
  exact ⟨st,q1,q2,rfl⟩
 ·rename_i s want
  split at hs
  ·rename_i hv
   cases want with
   | false=>exact hs.elim
   | true =>
    obtain ⟨st,q1,q2⟩:=go hs
    exact ⟨st,q1,q2,by simp [zn,denE,hv,den]⟩
  ·rename_i hv
   cases want with
   | true=>exact hs.elim
   | false =>
    obtain ⟨st,q1,q2⟩:=go hs
    exact ⟨st,q1,q2,by simp [zn,denE,hv,den]⟩
  ·exact hs.elim
theorem StOk.turn {e:TE T.toTT0} {h:TH T.toTT0} {x:Ins} {st:StT T} (hst:StOk P pro T e h x st) (hw:zn (denE T.toTT0 (denH T.toTT0 h) e) x.guard=some true) :
  zgd P pro x (denE T.toTT0 (denH T.toTT0 h) e) (denH T.toTT0 h) (kill st.bad) (den T.toTT0 (denH T.toTT0 st.h) st.v) (denH T.toTT0 st.h):=fun e' he=>by
 obtain ⟨e0,h0',e1,h1',g1,gb,g2,g3⟩:=hst.1 e' he
 exact ⟨by rw [zcs he]; exact hw,e0,h0',e1,h1',g1,g2,g3⟩
def zc8 (keep:List Nat) (e:TE T.toTT0):TE T.toTT0:=keep.map fun t=>(t,getE e t)
theorem zdk {H0:H} (keep:List Nat) (e:TE T.toTT0):denE T.toTT0 H0 (zc8 keep e)=z5z keep (denE T.toTT0 H0 e):=by
 unfold z5z zc8
 induction keep with
 | nil=>rfl
 | cons s l ih =>
  simp only [List.map_cons,z1k]
  rw [← ih]
  exact zx (e:=List.map (fun t=>(t,getE e t)) l)
def zib (ds:List Nat) (e:TE T.toTT0):TE T.toTT0:=z51 (fun k _=>ds.contains k) (fun _ _=>false) e
theorem zic {ds:List Nat} {e:TE T.toTT0} {h:TH T.toTT0}:denE T.toTT0 (denH T.toTT0 (z2g h ds)) (zib ds e)=preE ds (denE T.toTT0 (denH T.toTT0 h) e):=by
 funext t
 simp only [denE,zib,z2q,preE]
 have hl:∀ k p,(fun k (_:Path)=>ds.contains k) k p=false→ze (denH T.toTT0 (z2g h ds)) k p=ze (denH T.toTT0 h) k p:=fun k p hk=>zz (by rw [← z4y]; exact z77 _ _ _ hk)
 exact (zb5 hl _).symm
def zxg (cx:Cx P T) (x:Ins):Bool :=
 match x.op with
 | .st _ _ _ | .app _ _ _ _=>true
 | .mk _=>cx.tn.contains x.dst
 | _=>false
def zad (cx:Cx P T):List (Ins×List Nat)→Option (List (Ins×List Nat)×(Ins×List Nat)×List (Ins×List Nat))
 | []=>none
 | x::l=>match zad cx l with
  | some (p,y,q)=>some (x::p,y,q)
  | none=>bif zxg cx x.1 then some ([],x,l) else none
theorem zds {cx:Cx P T}:∀ (l p:List (Ins×List Nat)) (y:Ins×List Nat) (q:List (Ins×List Nat)),zad cx l=some (p,y,q)→l=p++y::q
 | [],_,_,_,h=>by cases h
 | x::l,p,y,q,h=>by
  simp only [zad] at h
  split at h
  ·rename_i p' y' q' h'
   cases h
   rw [zds l _ _ _ h']; rfl
  ·cases ht:zxg cx x.1 with
   | false=>rw [ht] at h; cases h
   | true=>rw [ht] at h; cases h; rfl
def zcj (bad:Nat→Path→Bool) (e1:TE T.toTT0):List (Ins×List Nat)→List Nat→TE T.toTT0→Option (TE T.toTT0)
 | [],_,e=>some e
 | (x,_)::l,fb,e=>match x.guard,x.op with
  | none,.rd (.mov (.tmp s))=>bif !fb.contains s && z1l bad (getE e1 s) then
    match getE e1 s with
    | .un=>none
    | v=>zcj bad e1 l (x.dst::fb) (putE e x.dst v)
   else none
  | none,.rd (.mov (.const u))=>match z9y u with
    | .un=>none
    | v=>zcj bad e1 l (x.dst::fb) (putE e x.dst v)
  | _,_=>none
theorem zg2 {bad0 bad:Nat→Path→Bool} {H0 H1:H} {e1:TE T.toTT0} (hsub:∀ k p,bad k p=false→bad0 k p=false) (hl:∀ k p,bad k p=false→ze H1 k p=ze H0 k p) {K:Env→Prop}:∀ (l:List (Ins×List Nat)) (fb:List Nat) (e e2:TE T.toTT0) (E:Env),zcj bad e1 l fb e=some e2 →
  (∀ t,fb.contains t=false→E t=kill bad0 (denE T.toTT0 H0 e1 t))→(∀ t,AVle (E t) (denE T.toTT0 H1 e t))→(∀ E2:Env,(∀ t,AVle (E2 t) (denE T.toTT0 H1 e2 t))→K E2)→z9q P H1 K l E
 | [],fb,e,e2,E,h,_,h2,hK=>by
  cases h
  exact hK E h2
 | (⟨d,g,op⟩,D)::l,fb,e,e2,E,h,h1,h2,hK=>by
  simp only [zcj] at h
  split at h
  ·rename_i s
   obtain ⟨hb,h⟩:(!fb.contains s && z1l bad (getE e1 s))=true∧(match getE e1 s with | .un=>none | v=>zcj bad e1 l (d::fb) (putE e d v))=some e2:=by
    cases hb:(!fb.contains s && z1l bad (getE e1 s)) with
    | false=>rw [hb] at h; cases h
    | true=>rw [hb] at h; exact ⟨rfl,h⟩
   simp only [Bool.and_eq_true,Bool.not_eq_true'] at hb
   have hE:E s=den T.toTT0 H1 (getE e1 s):=by
    rw [h1 s hb.1,denE,z7p _ (z9w hsub _ hb.2),z9v hl _ hb.2]
   have key:∀ v:VT T,getE e1 s=v→v ≠ .un→zcj bad e1 l (d::fb) (putE e d v)=some e2→z9q P H1 K ((⟨d,none,.rd (.mov (.tmp s))⟩,D)::l) E:=fun v hv hun h=>by
    rw [hv] at hE
    refine ⟨den T.toTT0 H1 v,.rd (b:=.mov (.tmp s)) (av:=den T.toTT0 H1 v) rfl rfl ?_ (AVle.refl _) rfl,?_⟩
    ·simp only [rdop,ev,hE]
     cases v <;> first | rfl | (rename_i q; cases q <;> rfl) | (exact absurd rfl hun)
    ·refine zg2 hsub hl l (d::fb) _ e2 _ h (fun t ht=>?_) (fun t=>?_) hK
     ·simp only [List.contains_cons,Bool.or_eq_false_iff,beq_eq_false_iff_ne] at ht
      simp only [upd,if_neg ht.1]
      exact h1 t ht.2
     ·rw [zx]
      exact AVle.upd h2 (AVle.refl _) t
   split at h
   ·cases h
   ·rename_i v hne
    exact key _ rfl (fun he=>hne (by rw [he])) h
  ·rename_i u
   split at h
   ·cases h
   ·rename_i v hne
    have hun:(z9y u:VT T) ≠ .un:=fun he=>hne (by rw [he])
    have hcv:ev E (.const u)=den T.toTT0 H1 (z9y u:VT T):=(zd6 H1 u).symm
    generalize (z9y u:VT T)=v at *
    refine ⟨den T.toTT0 H1 v,.rd (b:=.mov (.const u)) (av:=den T.toTT0 H1 v) rfl rfl ?_ (AVle.refl _) rfl,?_⟩
    ·simp only [rdop,hcv]
     cases v <;> first | rfl | (rename_i q; cases q <;> rfl) | (exact absurd rfl hun)
    ·refine zg2 hsub hl l (d::fb) _ e2 _ h (fun t ht=>?_) (fun t=>?_) hK
     ·simp only [List.contains_cons,Bool.or_eq_false_iff,beq_eq_false_iff_ne] at ht
      simp only [upd,if_neg ht.1]
      exact h1 t ht.2
     ·rw [zx]
      exact AVle.upd h2 (AVle.refl _) t
  ·cases h
def zhq (ds:List Nat) (h0 h1:TH T.toTT0):Bool:=(h1.map Prod.fst).all (fun k=>ds.contains k || (h0.map Prod.fst).contains k)
def zm5 (pro:List Nat) (cx:Cx P T) (keep:List Nat) (pre:List (Ins×List Nat)) (tail:List Ins) (e:TE T.toTT0) (h:TH T.toTT0) (K:TE T.toTT0→TH T.toTT0→Raw P T pro L):Raw P T pro L :=
 let ds:=pre.map (·.1.dst)
 let e0:=zib ds e
 let h0:=z2g h ds
 let Kt:TE T.toTT0→TH T.toTT0→Raw P T pro L:=fun e h=>evR pro cx tail e h fun e h=>K (zc8 keep e) h
 let plain:Raw P T pro L:=bif zm ds && z5i ds pre 0 pre && pro.all (fun k=>!ds.contains k) && pre.all (fun x=>!isSt x.1.op) then evD cx pre 0 e0 [] h0 fun e1 h1=>bif zhq ds h0 h1 then Kt e1 h1 else .no else .no
 match zad cx pre with
 | some (pre0,(x,dep),post) =>
   bif zm ds && z9g ds 0 pre && pro.all (fun k=>!ds.contains k) && pre0.all (fun x=>!isSt x.1.op) && z9i dep pre0 0 && !dep.contains pre0.length && dep.all (fun i=>decide (i<pre0.length)) && pre0.all (fun x=>!x.2.contains pre0.length) && post.all (fun y=>isRd y.1.op && y.2.contains pre0.length) && sepB (pre0.map Prod.fst) then
    evD cx pre0 0 e0 [] h0 fun e1 hA=>zsk pro cx x e1 hA fun st =>
     bif zm (hA.map Prod.fst) && zhq ds h0 hA && zm (st.h.map Prod.fst) && zbc dep st e1 pre0 0 then (match zcj (fun k p=>st.bad k p || st.bw k p) e1 post [x.dst] (st.env e1 x.dst) with | some e2=>Kt e2 st.h | none=>.no) else .no
   else .no
 | none=>plain
theorem zt9 {cx:Cx P T} {keep:List Nat} {pre:List (Ins×List Nat)} {tail:List Ins} {e:TE T.toTT0} {h:TH T.toTT0} {K:TE T.toTT0→TH T.toTT0→Raw P T pro L} {Q:L→Prop} {Q':Out→Env→H→Prop}
  (hQ:∀ E H0,KP K Q E H0→Q' .normal E H0) (hs:Sat (zm5 pro cx keep pre tail e h K) Q):W P pro (.draw keep pre tail) Q' (denE T.toTT0 (denH T.toTT0 h) e) (denH T.toTT0 h):=by
 have tl:∀ (e1:TE T.toTT0) (h1:TH T.toTT0),Sat (evR pro cx tail e1 h1 fun e h=>K (zc8 keep e) h) Q→RG P pro keep Q' tail (denE T.toTT0 (denH T.toTT0 h1) e1) (denH T.toTT0 h1):=fun e1 h1 hs=>by
  obtain ⟨E,H',r,e2,h2,rfl,rfl,hK⟩:=zd8 tail e1 h1 hs
  exact ⟨_,_,r,hQ _ _ ⟨_,_,(zdk keep e2).symm,rfl,hK⟩⟩
 have plain:Sat (bif zm (pre.map (·.1.dst)) && z5i (pre.map (·.1.dst)) pre 0 pre && pro.all (fun k=>!(pre.map (·.1.dst)).contains k) && pre.all (fun x=>!isSt x.1.op) then evD cx pre 0 (zib (pre.map (·.1.dst)) e) [] (z2g h (pre.map (·.1.dst))) fun e1 h1=>bif zhq (pre.map (·.1.dst)) (z2g h (pre.map (·.1.dst))) h1 then evR pro cx tail e1 h1 (fun e h=>K (zc8 keep e) h) else .no else .no:Raw P T pro L) Q →
   W P pro (.draw keep pre tail) Q' (denE T.toTT0 (denH T.toTT0 h) e) (denH T.toTT0 h):=fun hs=>by
  cases hb:(zm (pre.map (·.1.dst)) && z5i (pre.map (·.1.dst)) pre 0 pre && pro.all (fun k=>!(pre.map (·.1.dst)).contains k) && pre.all (fun x=>!isSt x.1.op)) with
  | false=>rw [hb] at hs; exact hs.elim
  | true =>
   rw [hb,cond_true] at hs
   refine W.drawG (pre.map (·.1.dst)) rfl hb ?_
   have:=zgx pre 0 _ [] hs
   simp only [z1c,List.nil_append,zic,accA,List.map_nil] at this
   rw [z4y]
   refine WD.mono (fun E H0 hk=>?_) _ _ _ _ this
   obtain ⟨e1,h1,rfl,rfl,hK⟩:=hk
   dsimp only at hK
   cases hk2:zhq (pre.map (·.1.dst)) (z2g h (pre.map (·.1.dst))) h1 with
   | false=>rw [hk2] at hK; exact hK.elim
   | true =>
    rw [hk2,cond_true] at hK
    refine ⟨?_,tl _ _ hK⟩
    unfold zhp
    rw [z1d,z1d]
    exact hk2
 unfold zm5 at hs
 dsimp only at hs
 split at hs
 ·rename_i pre0 x dep post hsl
  have hpre:=zds _ _ _ _ hsl
  generalize hds:pre.map (·.1.dst)=ds at hs
  cases hb:(zm ds && z9g ds 0 pre && pro.all (fun k=>!ds.contains k) && pre0.all (fun x=>!isSt x.1.op) && z9i dep pre0 0 && !dep.contains pre0.length && dep.all (fun i=>decide (i<pre0.length)) && pre0.all (fun x=>!x.2.contains pre0.length) && post.all (fun y=>isRd y.1.op && y.2.contains pre0.length) && sepB (pre0.map Prod.fst)) with
  | false=>rw [hb] at hs; exact hs.elim
  | true =>
   rw [hb,cond_true] at hs
   simp only [Bool.and_eq_true] at hb
   obtain ⟨hb,hsep⟩:=hb
   rw [hpre] at hds hb ⊢
   refine W.turn post ds hds (by simpa only [Bool.and_eq_true] using hb) ?_
   have hwd:=zgx pre0 0 _ [] hs
   simp only [z1c,List.nil_append,zic,accA,List.map_nil] at hwd
   rw [z4y]
   have hf:=WD.facts pre0 0 _ [] [] hwd hsep (fun _ h=>(by cases h)) (fun _ h=>(by cases h))
   refine WD.mono (fun E H0 hk=>?_) _ _ _ _ hf
   obtain ⟨⟨e1,hA,rfl,rfl,hK⟩,hfacts⟩:=hk
   obtain ⟨st,hK,hst,hw⟩:=zzx hK
   cases hc:(zm (hA.map Prod.fst) && zhq ds (z2g h ds) hA && zm (st.h.map Prod.fst) && zbc dep st e1 pre0 0) with
   | false=>rw [hc] at hK; exact hK.elim
   | true =>
    rw [hc,cond_true] at hK
    simp only [Bool.and_eq_true] at hc
    obtain ⟨⟨⟨c1,c2⟩,c3⟩,c4⟩:=hc
    refine ⟨kill st.bad,den T.toTT0 (denH T.toTT0 st.h) st.v,denH T.toTT0 st.h,?_,by rw [z1d]; exact c3,hst.turn hw,zia hst.2.1 c1 hst.2.2 pre0 0 c4 (by simpa using hfacts),?_⟩
    ·unfold zhp
     rw [z1d,z1d]
     exact c2
    ·split at hK
     ·rename_i e2 hp
      refine zg2 (bad0:=st.bad) (fun k p h=>(by simpa using h:st.bad k p=false∧_).1) (fun k p h=>hst.2.1 k p (by simpa using h:st.bad k p=false∧_).1 (by simpa using h:_∧st.bw k p=false).2) post _ _ _ _ hp (fun t ht=>?_) (fun t=>?_) (fun E2 h2=>RG.ghost (zc.le h2) (tl _ _ hK))
      ·simp only [List.contains_cons,List.contains_nil,Bool.or_false,beq_eq_false_iff_ne] at ht
       simp only [upd,if_neg ht]
      ·rw [StT.env,zx]
       refine AVle.upd (fun t=>?_) (AVle.refl _) t
       simp only [denE,z2q]
       exact z6e (fun _ _ h=>h) hst.2.1 _
     ·exact hK.elim
 ·exact plain hs
def zin (pro:List Nat) (cx:Cx P T) (keep:List Nat) (pre:List (Ins×List Nat)) (tail:List Ins) (e:TE T.toTT0) (h:TH T.toTT0) (K:TE T.toTT0→TH T.toTT0→Raw P T pro L):Raw P T pro L :=
 match frzL (match pre with | x::_=>cx.fzAt (800000+x.1.dst) | []=>[]) e h with
 | some (e,h)=>zm5 pro cx keep pre tail e h K
 | none=>.no
theorem z8h {cx:Cx P T} {keep:List Nat} {pre:List (Ins×List Nat)} {tail:List Ins} {e:TE T.toTT0} {h:TH T.toTT0} {K:TE T.toTT0→TH T.toTT0→Raw P T pro L} {Q:L→Prop} {Q':Out→Env→H→Prop}
  (hQ:∀ E H0,KP K Q E H0→Q' .normal E H0) (hs:Sat (zin pro cx keep pre tail e h K) Q):W P pro (.draw keep pre tail) Q' (denE T.toTT0 (denH T.toTT0 h) e) (denH T.toTT0 h):=by
 unfold zin at hs
 split at hs
 ·rename_i e1 h1 hf
  exact W.ghost (z6d _ hf).1 (zt9 hQ hs)
 ·exact hs.elim
end
inductive SD where
 | any
 | un
 | im (t:Nat)
 | own (c:Nat) (m:Bool) (t:Nat)
 | ref (c:Nat)
 | ag (l:List SD)
 | fn (l:List SD)
inductive RD where
 | any
 | fix (ks:List Kd)
 | typ (m:Bool) (t:Nat)
structure Dr where
 S:List (Nat×SD)
 R:List (Nat×RD)
section
variable {P:Program} {T:TT} {pro:List Nat} {L:Type}
mutual
def zbb:VT T→Option (VT T)
 | .un=>some .un
 | .sc v=>some (.sc v)
 | .ik k n=>some (.sc (.int k n))
 | .bk b=>some (.sc (.bool b))
 | .zs=>some .zs
 | .im t xs=>some (.im t xs)
 | .ip s cs c=>some (.ip s cs c)
 | .pp (.xp b x c)=>some (.pp (.xp b x c))
 | .pp _=>none
 | .ag cs=>match z91 cs with | some cs'=>some (.ag cs') | none=>none
 | .tu cs=>match z91 cs with | some cs'=>some (.tu cs') | none=>none
 | .fn f cs=>match z91 cs with | some cs'=>some (.fn f cs') | none=>none
 | .sl _ _ _ _ | .sw _ _ | .pt _ _ _ _ | .ow _ _ _ | .oo _ _ _ _ _=>none
def z91:List (VT T)→Option (List (VT T))
 | []=>some []
 | x::l=>match zbb x,z91 l with | some x',some l'=>some (x'::l') | _,_=>none
end
mutual
theorem zkr {H0:H}:∀ (v v':VT T),zbb v=some v'→den T.toTT0 H0 v=den T.toTT0 H0 v'
 | .un,_,h | .sc _,_,h | .ik _ _,_,h | .bk _,_,h | .zs,_,h | .im _ _,_,h | .ip _ _ _,_,h | .pp (.xp _ _ _),_,h=>by cases h; rfl
 | .pp (.fs _ _),_,h | .pp (.fp _ _ _),_,h | .pp (.px _ _),_,h=>by cases h
 | .ag cs,_,h=>by
  simp only [zbb] at h
  split at h
  ·rename_i cs' hc; cases h; simp only [den,z8s cs cs' hc]
  ·cases h
 | .tu cs,_,h=>by
  simp only [zbb] at h
  split at h
  ·rename_i cs' hc; cases h; simp only [den,z8s cs cs' hc]
  ·cases h
 | .fn f cs,_,h=>by
  simp only [zbb] at h
  split at h
  ·rename_i cs' hc; cases h; simp only [den,z8s cs cs' hc]
  ·cases h
 | .sl _ _ _ _,_,h | .sw _ _,_,h | .pt _ _ _ _,_,h | .ow _ _ _,_,h | .oo _ _ _ _ _,_,h=>by cases h
theorem z8s {H0:H}:∀ (v v':List (VT T)),z91 v=some v'→denL T.toTT0 H0 v=denL T.toTT0 H0 v'
 | [],_,h=>by cases h; rfl
 | x::l,_,h=>by
  simp only [z91] at h
  split at h
  ·rename_i x' l' h1 h2
   cases h
   simp only [denL,zkr x x' h1,z8s l l' h2]
  ·cases h
end
mutual
def zbp:SD→VT T→Option (VT T×List (Nat×Nat))
 | .any,v=>match zbb v with | some v'=>some (v',[]) | none=>none
 | .un,_=>some (.un,[])
 | .im t,.zs=>some (.im t [],[])
 | .im _,.im t xs=>some (.im t xs,[])
 | .im _,_=>none
 | .own c _ _,.sw k []=>some (.sw k [],[(c,k)])
 | .own _ _ _,_=>none
 | .ref c,.pt k p i cc=>some (.pt k p i cc,[(c,k)])
 | .ref c,.sw k p=>some (.sw k p,[(c,k)])
 | .ref c,.sl k p off len=>some (.sl k p off len,[(c,k)])
 | .ref c,.pp (.fs k cs)=>some (.pp (.fs k cs),[(c,k)])
 | .ref _,_=>none
 | .ag ds,.ag cs=>match zap ds cs with | some (cs',b)=>some (.ag cs',b) | none=>none
 | .ag ds,.tu cs=>match zap ds cs with | some (cs',b)=>some (.tu cs',b) | none=>none
 | .ag _,_=>none
 | .fn ds,.fn f cs=>match zap ds cs with | some (cs',b)=>some (.fn f cs',b) | none=>none
 | .fn _,_=>none
def zap:List SD→List (VT T)→Option (List (VT T)×List (Nat×Nat))
 | [],[]=>some ([],[])
 | d::ds,v::vs=>match zbp d v,zap ds vs with | some (v',b),some (vs',b')=>some (v'::vs',b++b') | _,_=>none
 | _,_=>none
end
mutual
theorem zm1 {H0:H}:∀ (d:SD) (v v':VT T) (b:List (Nat×Nat)),zbp d v=some (v',b)→AVle (den T.toTT0 H0 v) (den T.toTT0 H0 v')
 | .any,v,v',b,h=>by
  simp only [zbp] at h
  split at h
  ·rename_i w hw; cases h; rw [zkr v _ hw]; exact AVle.refl _
  ·cases h
 | .un,v,v',b,h=>by cases h; exact AVle.un _
 | .im t,v,v',b,h=>by
  cases v <;> first | (cases h; done) | skip
  ·cases h; simp only [den,List.map_nil]; exact AVle.zsIm _
  ·cases h; exact AVle.refl _
 | .own c m t,v,v',b,h=>by
  cases v with
  | sw k p =>
   cases p with
   | nil=>cases h; exact AVle.refl _
   | cons _ _=>cases h
  | _=>cases h
 | .ref c,v,v',b,h=>by
  cases v <;> first | (cases h; done) | (rename_i q; cases q <;> first | (cases h; done) | (cases h; exact AVle.refl _)) | (cases h; exact AVle.refl _)
 | .ag ds,v,v',b,h=>by
  cases v with
  | ag cs =>
   simp only [zbp] at h
   split at h
   ·rename_i cs' b' hc; cases h; simp only [den]; exact AVle.ag (z9x ds cs cs' _ hc).C
   ·cases h
  | tu cs =>
   simp only [zbp] at h
   split at h
   ·rename_i cs' b' hc; cases h; simp only [den]; exact AVle.tu (z9x ds cs cs' _ hc).L
   ·cases h
  | _=>cases h
 | .fn ds,v,v',b,h=>by
  cases v with
  | fn f cs =>
   simp only [zbp] at h
   split at h
   ·rename_i cs' b' hc; cases h; simp only [den]; exact AVle.fn (z9x ds cs cs' _ hc).L
   ·cases h
  | _=>cases h
theorem z9x {H0:H}:∀ (d:List SD) (v v':List (VT T)) (b:List (Nat×Nat)),zap d v=some (v',b)→z4o (denL T.toTT0 H0 v) (denL T.toTT0 H0 v')
 | [],[],_,_,h=>by cases h; exact .nil
 | [],_::_,_,_,h=>by cases h
 | _::_,[],_,_,h=>by cases h
 | d::ds,v::vs,v',b,h=>by
  simp only [zap] at h
  split at h
  ·rename_i v1 b1 vs1 b2 h1 h2
   cases h
   exact .cons (zm1 d v v1 _ h1) (z9x ds vs vs1 _ h2)
  ·cases h
end
def Gh (P:Program) (pro:List Nat) (T:TT) (e:TE T.toTT0) (h:TH T.toTT0) (e1:TE T.toTT0) (h1:TH T.toTT0):Prop:=zc P pro (denE T.toTT0 (denH T.toTT0 h) e) (denH T.toTT0 h) (denE T.toTT0 (denH T.toTT0 h1) e1) (denH T.toTT0 h1)
def zsi (pro:List Nat) (e:TE T.toTT0) (h:TH T.toTT0) (t:Nat) (d:SD):Rs (TE T.toTT0×TH T.toTT0×List (Nat×Nat)) :=
 match d,getE e t with
 | .own c m ty,.zs =>
  bif pro.contains (500000+t) || (h.map Prod.fst).contains (500000+t) then .no
  else .ok (putE (z51 (fun k _=>Nat.beq k (500000+t)) (fun _ _=>false) e) t (.sw (500000+t) []),(500000+t,.typ m ty [])::h,[(c,500000+t)])
 | .own c _ _,.sl k [] 0 n =>
  match getT h k with
  | some (.typ m' t' xs)=>.need (n≤xs.length) (.ok (putE (z51 (fun _ _=>false) (fun k' _=>Nat.beq k' k) e) t (.sw k []),(k,.typ m' t' (xs.take n))::delT h k,[(c,k)]))
  | _=>.no
 | d,v=>match zbp d v with | some (v',b)=>.ok (putE e t v',h,b) | none=>.no
theorem zzv {e e1:TE T.toTT0} {h h1:TH T.toTT0} {t:Nat} {d:SD} {b:List (Nat×Nat)} (hg:(zsi pro e h t d).gives (e1,h1,b)):Gh P pro T e h e1 h1:=by
 unfold zsi at hg
 split at hg
 ·rename_i c m ty hz
  cases hb:(pro.contains (500000+t) || (h.map Prod.fst).contains (500000+t)) with
  | true=>rw [hb] at hg; exact hg.elim
  | false =>
   rw [hb] at hg
   cases hg
   simp only [Bool.or_eq_false_iff] at hb
   have h1:=zc.nil (P:=P) (pro:=pro) (e:=denE T.toTT0 (denH T.toTT0 h) e) (h:=denH T.toTT0 h) (t:=t) (d:=500000+t) (s:=T.sz ty) (by simp only [denE,hz,den]) (by
    rw [z1d]
    intro hm
    have:(h.map Prod.fst).contains (500000+t)=true:=by simpa using hm
    rw [hb.2] at this; cases this) (by
    rw [List.all_eq_true]
    intro k hk
    simp only [bne_iff_ne,ne_eq]
    rintro rfl
    have:pro.contains (500000+t)=true:=by simpa using hk
    rw [hb.1] at this; cases this)
   have hh:denH T.toTT0 ((500000+t,.typ m ty [])::h)=(500000+t,⟨T.sz ty,[]⟩)::denH T.toTT0 h:=rfl
   unfold Gh
   rw [hh]
   refine h1.trans (zc.le fun u=>?_)
   rw [zx]
   refine AVle.upd (fun u=>?_) ?_ u
   ·simp only [z1h,denE,z2q]
    refine z6e (fun k p hk=>by simpa using hk) (fun k p hk _=>zz ?_) _
    simp only [z1a,decide_eq_false_iff_not] at hk
    simp only [za]
    rw [if_neg (fun e=>hk e.symm)]
   ·have:ze ((500000+t,⟨T.sz ty,[]⟩)::denH T.toTT0 h) (500000+t) []=0:=by simp [ze,res,za,resE]
    simp only [den,this]; exact AVle.refl _
 ·rename_i c m ty k n hz
  split at hg
  ·rename_i m' t' xs hr
   obtain ⟨hc,hg⟩:=hg
   cases hg
   have hgr:za (denH T.toTT0 h) k=some ⟨T.sz t',xs.map (T.ca m' t')⟩:=by rw [z1p,hr]; rfl
   have h1:=zc.take (P:=P) (pro:=pro) (e:=denE T.toTT0 (denH T.toTT0 h) e) n hgr
   have hh:denH T.toTT0 ((k,.typ m' t' (xs.take n))::delT h k)=(k,⟨T.sz t',(xs.map (T.ca m' t')).take n⟩)::zd (denH T.toTT0 h) k:=by
    simp only [denH,denR,List.map_take,zu]
   unfold Gh
   rw [hh]
   refine h1.trans (zc.le fun u=>?_)
   rw [zx]
   unfold upd
   split
   ·rename_i hu
    subst hu
    have:ze ((k,⟨T.sz t',(xs.map (T.ca m' t')).take n⟩)::zd (denH T.toTT0 h) k) k []=n:=by
     simp only [ze,res,za,if_true,resE,List.length_take,List.length_map]; omega
    simp only [denE,hz,den,this]; exact AVle.refl _
   ·simp only [denE,z2q]
    have:=z6e (T:=T) (H0:=denH T.toTT0 h) (H1:=(k,⟨T.sz t',(xs.map (T.ca m' t')).take n⟩)::zd (denH T.toTT0 h) k) (b1:=fun _ _=>false) (bad:=fun _ _=>false) (bw:=fun k' _=>Nat.beq k' k) (fun _ _ h=>h) (fun k' p _ hk=>zz (by
     simp only [z1a,decide_eq_false_iff_not] at hk
     simp only [za]
     rw [if_neg (fun e=>hk e.symm),zy hk])) (getE e u)
    rwa [zhz] at this
  ·exact hg.elim
 ·split at hg
  ·rename_i v' b' hv
   cases hg
   unfold Gh
   refine zc.le fun u=>?_
   rw [zx]
   unfold upd
   split
   ·rename_i hu; subst hu; exact zm1 _ _ _ _ hv
   ·exact AVle.refl _
  ·exact hg.elim
mutual
def y0a:SD→VT T→List Fz
 | .im _,.sw k []=>[.row k]
 | .im _,.sw k [(_,c)]=>[.col k [c]]
 | .ag ds,.ag cs=>zmz ds cs
 | .ag ds,.tu cs=>zmz ds cs
 | _,_=>[]
def zmz:List SD→List (VT T)→List Fz
 | d::ds,v::vs=>y0a d v++zmz ds vs
 | _,_=>[]
end
def y09 (h:TH T.toTT0) (k:Nat) (ks:List Kd):List Fz :=
 match getT h k with
 | some (.lit _ [cs])=>match frcC 0 ks cs with | []=>[] | l=>[.col k l]
 | _=>[]
where frcC:Nat→List Kd→List (VT T)→List Nat
 | c,.im _::ks,.ow _ _ _::l=>c::frcC (c+1) ks l
 | c,_::ks,_::l=>frcC (c+1) ks l
 | _,_,_=>[]
def y8k (h:TH T.toTT0) (k:Nat) (m:Bool):List Fz :=
 match m,getT h k with
 | false,some (.typ true _ _)=>[.nest k]
 | _,_=>[]
def zi9 (pro:List Nat):List (Nat×SD)→TE T.toTT0→TH T.toTT0→List (Nat×Nat)→Rs (TE T.toTT0×TH T.toTT0×List (Nat×Nat))
 | [],e,h,b=>.ok (e,h,b)
 | (t,d)::l,e,h,b=>match frzL (y0a d (getE e t)) e h with
  | some (e,h)=>(zsi pro e h t d).bind fun (e,h,b')=>zi9 pro l e h (b'++b)
  | none=>.no
theorem zkx:∀ (l:List (Nat×SD)) (e e1:TE T.toTT0) (h h1:TH T.toTT0) (b b1:List (Nat×Nat)),(zi9 pro l e h b).gives (e1,h1,b1)→Gh P pro T e h e1 h1
 | [],_,_,_,_,_,_,hg=>by cases hg; exact zc.rfl'
 | (t,d)::l,e,e1,h,h1,b,b1,hg=>by
  simp only [zi9] at hg
  split at hg
  ·rename_i e3 h3 hf
   obtain ⟨⟨e2,h2,b2⟩,q1,q2⟩:=Rs.bind_gives _ hg
   exact zc.trans (z6d _ hf).1 (zc.trans (zzv q1) (zkx l _ _ _ _ _ _ q2))
  ·exact hg.elim
def zsm (h:TH T.toTT0) (k:Nat) (m:Bool) (t:Nat):Option (TH T.toTT0) :=
 match getT h k with
 | some (.lit s xs)=>bif Nat.beq (T.sz t) s then match unL m t xs with | some ys=>some ((k,.typ m t ys)::delT h k) | none=>none else none
 | some _=>some h
 | none=>none
theorem zzz {e:TE T.toTT0} {h h1:TH T.toTT0} {k:Nat} {m:Bool} {t:Nat} (ht:zsm h k m t=some h1):Gh P pro T e h e h1:=by
 unfold zsm at ht
 split at ht
 ·rename_i s xs hr
  cases hb:Nat.beq (T.sz t) s with
  | false=>rw [hb] at ht; cases ht
  | true =>
   rw [hb,cond_true] at ht
   split at ht
   ·rename_i ys hy
    cases ht
    have hgr:za (denH T.toTT0 h) k=some ⟨s,xs.map (denL T.toTT0 [])⟩:=by rw [z1p,hr]; rfl
    have hrow:denR T.toTT0 (.typ m t ys)=⟨s,xs.map (denL T.toTT0 [])⟩:=by simp only [denR,zig _ _ hy,Nat.eq_of_beq_eq_true hb]
    have hh:denH T.toTT0 ((k,.typ m t ys)::delT h k)=(k,⟨s,(xs.map (denL T.toTT0 [])).map (fixA (fun _=>none) 0)⟩)::zd (denH T.toTT0 h) k:=by
     rw [z53]; simp only [denH,hrow,zu]
    have h1:=zc.fix (P:=P) (pro:=pro) (e:=denE T.toTT0 (denH T.toTT0 h) e) (fun _=>none) (fun _ _ h=>(by cases h)) hgr
    unfold Gh
    rw [hh]
    refine h1.trans (zc.le fun u=>?_)
    have hkill:z3y (fun _=>none) k=fun _ _=>false:=by
     funext k' q
     unfold z3y
     cases q <;> simp
    simp only [z1h,hkill,zhz,denE]
    have hl:∀ k' q,ze ((k,⟨s,(xs.map (denL T.toTT0 [])).map (fixA (fun _=>none) 0)⟩)::zd (denH T.toTT0 h) k) k' q=ze (denH T.toTT0 h) k' q:=fun k' q=>by
     refine zz ?_
     by_cases hk:k'=k
     ·subst hk; rw [z53,hgr]; simp [za]
     ·simp only [za]; rw [if_neg (fun e=>hk e.symm),zy hk]
    have:=zb5 (T:=T) (bad:=fun _ _=>false) (fun k' q _=>hl k' q) (getE e u)
    rw [zhz] at this
    have hid:z2e (fun _ _=>false) (fun _ _=>false) (getE e u)=getE e u:=zfy _
    rw [this,hid]
    exact AVle.refl _
   ·cases ht
 ·cases ht; exact zc.rfl'
 ·cases ht
def zc9 (bm:List (Nat×Nat)) (c:Nat):Nat:=match look bm c with | some k=>k | none=>c
def zcm:List (Nat×RD)→TE T.toTT0→TH T.toTT0→List (Nat×Nat)→Option (TE T.toTT0×TH T.toTT0)
 | [],e,h,_=>some (e,h)
 | (c,.any)::l,e,h,b=>zcm l e h b
 | (c,.fix ks)::l,e,h,b=>match frzL (y09 h (zc9 b c) ks) e h with
  | some (e,h)=>match zc1 e h (zc9 b c) ks with | some (e,h)=>zcm l e h b | none=>none
  | none=>none
 | (c,.typ m t)::l,e,h,b=>match frzL (y8k h (zc9 b c) m++y09 h (zc9 b c) (T.ks m t)) e h with
  | some (e,h)=>match zc1 e h (zc9 b c) (T.ks m t) with
   | some (e,h)=>match zsm h (zc9 b c) m t with | some h=>zcm l e h b | none=>none
   | none=>none
  | none=>none
theorem zcn:∀ (l:List (Nat×RD)) (e e1:TE T.toTT0) (h h1:TH T.toTT0) (b:List (Nat×Nat)),zcm l e h b=some (e1,h1)→Gh P pro T e h e1 h1
 | [],_,_,_,_,_,hg=>by cases hg; exact zc.rfl'
 | (c,.any)::l,e,e1,h,h1,b,hg=>zcn l e e1 h h1 b hg
 | (c,.fix ks)::l,e,e1,h,h1,b,hg=>by
  simp only [zcm] at hg
  split at hg
  ·rename_i e3 h3 hz
   split at hg
   ·rename_i e2 h2 hf
    exact zc.trans (z6d _ hz).1 (zc.trans (zfu hf) (zcn l _ _ _ _ b hg))
   ·cases hg
  ·cases hg
 | (c,.typ m t)::l,e,e1,h,h1,b,hg=>by
  simp only [zcm] at hg
  split at hg
  ·rename_i e4 h4 hz
   split at hg
   ·rename_i e2 h2 hf
    split at hg
    ·rename_i h3 ht
     exact zc.trans (z6d _ hz).1 (zc.trans (zfu hf) (zc.trans (zzz ht) (zcn l _ _ _ _ b hg)))
    ·cases hg
   ·cases hg
  ·cases hg
def zsb (pro:List Nat) (bm:List (Nat×Nat)) (S:List Nat) (e:TE T.toTT0) (h:TH T.toTT0):Option (EH T) :=
 bif zm (bm.map Prod.fst) && zm (bm.map Prod.snd) && pro.all (fun k=>look bm k==some k) then
  match z70 h bm with
  | some (hs,_)=>some (S.map fun t=>(t,match z37 bm (getE e t) with | some v=>v | none=>.un),hs)
  | none=>none
 else none
theorem zzl {bm:List (Nat×Nat)} {S:List Nat} {e:TE T.toTT0} {h:TH T.toTT0} {eh:EH T} (hn:zsb pro bm S e h=some eh):Gh P pro T e h eh.1 eh.2:=by
 unfold zsb at hn
 cases hb:(zm (bm.map Prod.fst) && zm (bm.map Prod.snd) && pro.all (fun k=>look bm k==some k)) with
 | false=>rw [hb] at hn; cases hn
 | true =>
  rw [hb,cond_true] at hn
  simp only [Bool.and_eq_true] at hb
  split at hn
  ·rename_i hs rest hsp
   cases hn
   obtain ⟨s1,s2,s3⟩:=z48 bm h hs rest hsp
   have hkeys:=z7m _ _ _ _ s1
   have hno:zcg pro bm S (denE T.toTT0 (denH T.toTT0 h) e) (denH T.toTT0 h)=some (z1k (S.map fun t=>(t,zbl bm (denE T.toTT0 (denH T.toTT0 h) e t))),denH T.toTT0 hs):=by
    unfold zcg
    rw [s1]
    simp only
    rw [if_pos (by simp only [Bool.and_eq_true]; exact ⟨hb.1.1,hb.2⟩)]
   refine zc.trans (zc.norm hno) (zc.le fun t=>?_)
   have hbl:∀ k n q,z1j bm k=some n→ze (denH T.toTT0 hs) n q=ze (denH T.toTT0 h) k q:=fun k n q hkn=>by
    have:=s3 n k hb.1.1 hb.1.2 (z52 bm hkn)
    unfold ze res
    rw [this]
   have hv:∀ t,AVle (zbl bm (denE T.toTT0 (denH T.toTT0 h) e t)) (den T.toTT0 (denH T.toTT0 hs) (match z37 bm (getE e t) with | some v=>v | none=>.un)):=fun t=>by
    split
    ·rename_i v hv
     have:=z73 (T:=T) hbl _ _ hv
     unfold zbl
     simp only [denE,this]
     exact AVle.refl _
    ·exact AVle.un _
   clear hno
   induction S with
   | nil=>exact AVle.refl _
   | cons s S ih =>
    simp only [List.map_cons,z1k]
    rw [show denE T.toTT0 (denH T.toTT0 hs) ((s,match z37 bm (getE e s) with | some v=>v | none=>.un)::S.map fun t=>(t,match z37 bm (getE e t) with | some v=>v | none=>.un))=upd (denE T.toTT0 (denH T.toTT0 hs) (S.map fun t=>(t,match z37 bm (getE e t) with | some v=>v | none=>.un))) s (den T.toTT0 (denH T.toTT0 hs) (match z37 bm (getE e s) with | some v=>v | none=>.un)) from zx]
    unfold upd
    split
    ·exact hv s
    ·exact ih
  ·cases hn
def cnv (pro:List Nat) (D:Dr) (e:TE T.toTT0) (h:TH T.toTT0):Rs (EH T) :=
 (zi9 pro D.S e h []).bind fun (e,h,b) =>
  match zcm D.R e h b with
  | some (e,h)=>match zsb pro (D.R.map fun x=>(x.1,zc9 b x.1)) (D.S.map Prod.fst) e h with
   | some eh=>.ok eh
   | none=>.no
  | none=>.no
theorem z3j {D:Dr} {e:TE T.toTT0} {h:TH T.toTT0} {eh:EH T} (hg:(cnv pro D e h).gives eh):Gh P pro T e h eh.1 eh.2:=by
 obtain ⟨⟨e1,h1,b⟩,q1,q2⟩:=Rs.bind_gives _ hg
 dsimp only at q2
 split at q2
 ·rename_i e2 h2 hr
  split at q2
  ·rename_i eh' hn
   cases q2
   exact zc.trans (zkx _ _ _ _ _ _ _ q1) (zc.trans (zcn _ _ _ _ _ _ hr) (zzl hn))
  ·exact q2.elim
 ·exact q2.elim
end
inductive An (P:Program) (T:TT) (pro:List Nat):Type 1 where
 | no
 | two (a b:An P T pro)
 | join (S:Type) (enc:S→EH T) (D:Dr) (a b:An P T pro)
 | loop (V:Type) (c:V→LCon P T pro) (ret:Bool) (D:Dr)
 | alls (S Z:Type) (enc:S→EH T) (encV:Z→Value) (D:Dr)
section
variable {P:Program} {T:TT} {pro:List Nat}
def An.l:An P T pro→An P T pro
 | .two a _=>a
 | _=>.no
def An.r:An P T pro→An P T pro
 | .two _ b=>b
 | _=>.no
def yb6 {L:Type} (pro:List Nat) (D:Dr) (K:Out→TE T.toTT0→TH T.toTT0→Raw P T pro L):Out→TE T.toTT0→TH T.toTT0→Raw P T pro (EH T⊕L)
 | .normal,e,h=>Raw.ofRs (fun eh=>.leaf (.inl eh)) (cnv pro D e h)
 | o,e,h=>(K o e h).map .inr
def seqK {L:Type} (A:TE T.toTT0→TH T.toTT0→Raw P T pro L) (K:Out→TE T.toTT0→TH T.toTT0→Raw P T pro L):Out→TE T.toTT0→TH T.toTT0→Raw P T pro L
 | .normal=>A
 | o=>K o
def zsx {L:Type} (id:Nat) (K:Out→TE T.toTT0→TH T.toTT0→Raw P T pro L):Out→TE T.toTT0→TH T.toTT0→Raw P T pro L
 | .exit id'=>bif Nat.beq id' id then K .normal else K (.exit id')
 | o=>K o
def retK {L:Type} (K:Out→TE T.toTT0→TH T.toTT0→Raw P T pro L) (eh:EH T):Raw P T pro L :=
 match isX eh with
 | some u=>K (.panic u) [] []
 | none=>K .ret eh.1 eh.2
theorem KP.none {L:Type} {K:TE T.toTT0→TH T.toTT0→Raw P T pro L} {Q:L→Prop} (h:Sat (K [] []) Q):KP K Q nE []:=⟨[],[],rfl,rfl,h⟩
theorem y4x {L:Type} {K:Out→TE T.toTT0→TH T.toTT0→Raw P T pro L} {Q:L→Prop} {eh:EH T} {o:Out} {E:Env} {H0:H} (hr:ze2 eh o E H0) (hs:Sat (retK K eh) Q):KP (K o) Q E H0:=by
 unfold ze2 at hr
 unfold retK at hs
 cases hx:isX eh with
 | none =>
  rw [hx] at hr hs
  obtain ⟨rfl,rfl,rfl⟩:=hr
  exact ⟨_,_,rfl,rfl,hs⟩
 | some u =>
  rw [hx] at hr hs
  obtain ⟨rfl,rfl,rfl⟩:=hr
  exact KP.none hs
def scsT:List (VT T)→Option (List Value)
 | []=>some []
 | x::l=>match asc x,scsT l with | some v,some vs=>some (v::vs) | _,_=>none
def panV:VT T→Option Value
 | .ag cs=>match scsT cs with | some vs=>some (.agg vs.toArray) | none=>none
 | v=>asc v
theorem zr4 {H0:H}:∀ (l:List (VT T)) (vs:List Value),scsT l=some vs→scL (denL T.toTT0 H0 l)=some vs
 | [],_,h=>by cases h; rfl
 | x::l,vs,h=>by
  unfold scsT at h
  split at h
  ·rename_i v vs' h1 h2
   cases h
   simp only [denL,z2o h1,scL,zr4 l vs' h2]
  ·cases h
theorem y4p {H0:H} {v:VT T} {u:Value} (h:panV v=some u):scAV (den T.toTT0 H0 v)=some u:=by
 unfold panV at h
 split at h
 ·split at h
  ·rename_i vs hv
   cases h
   simp only [den,scAV,zr4 _ _ hv]
  ·cases h
 ·rw [z2o h]; rfl
def zrx {L:Type}:List (Raw P T pro L)→Raw P T pro L
 | []=>.no
 | [a]=>a
 | a::l=>.both a (zrx l)
theorem zkc {L:Type} {Q:L→Prop}:∀ (l:List (Raw P T pro L)),Sat (zrx l) Q→∀ a ∈ l,Sat a Q
 | [],h,a,ha=>(nomatch ha)
 | [x],h,a,ha=>by
  have:a=x:=by simpa using ha
  rw [this]; exact h
 | x::y::l,h,a,ha=>by
  rcases List.mem_cons.1 ha with rfl | ha
  ·exact h.1
  ·exact zkc (y::l) h.2 a ha
def znx (pre:List (Ins×List Nat)) (D:List Nat):List Nat:=(List.range pre.length).filter fun i=>!D.contains i && (match pre[i]? with | some x=>x.2.all D.contains | none=>false)
def evA (pro:List Nat) (cx:Cx P T) (pre:List (Ins×List Nat)) (D:Dr):Nat→List Nat→TE T.toTT0→TH T.toTT0→Raw P T pro (EH T⊕Value)
 | 0,_,_,_=>.no
 | n+1,dn,e,h=>bif (List.range pre.length).all dn.contains then Raw.ofRs (fun eh=>.leaf (.inl eh)) (cnv pro D e h)
  else zrx ((znx pre dn).map fun i=>match pre[i]? with
   | some x=>zb1 e x.1.guard (fun e=>zo3 pro cx x.1 e h (fun e h=>evA pro cx pre D n (i::dn) e h) (fun u _ _=>.leaf (.inr u))) (fun e=>evA pro cx pre D n (i::dn) (putE e x.1.dst (zi8 x.1.op)) h)
   | none=>.no)
def FN (P:Program) (pro:List Nat) (r:EH T⊕Value) (E:Env) (H0:H):Prop:=∃ eh,r = .inl eh∧zc P pro E H0 (denE T.toTT0 (denH T.toTT0 eh.2) eh.1) (denH T.toTT0 eh.2)
theorem RunA.mono {pre:List (Ins×List Nat)} {F F':Env→H→Prop} {FX FX':Value→Prop} (hF:∀ e h,F e h→F' e h) (hX:∀ u,FX u→FX' u):∀ (n:Nat) (D:List Nat) (e:Env) (h:H),RunA P pro pre F FX n D e h→RunA P pro pre F' FX' n D e h
 | 0,D,e,h,hr=>⟨hr.1,hF _ _ hr.2⟩
 | n+1,D,e,h,hr=>by
  rcases hr with ⟨h1,h2⟩ | ⟨h1,h2⟩
  ·exact .inl ⟨h1,hF _ _ h2⟩
  ·refine .inr ⟨h1,fun i x hx hi hd=>?_⟩
   obtain ⟨e0,h0,g,hr⟩:=h2 i x hx hi hd
   refine ⟨e0,h0,g,?_⟩
   rcases hr with ⟨hw,hr⟩ | ⟨hw,e1,h1',hs,hr⟩ | ⟨hw,u,hx,hp,hu⟩
   ·exact .inl ⟨hw,RunA.mono hF hX n _ _ _ hr⟩
   ·exact .inr (.inl ⟨hw,e1,h1',hs,RunA.mono hF hX n _ _ _ hr⟩)
   ·exact .inr (.inr ⟨hw,u,hx,hp,hX u hu⟩)
theorem RunA.ghost {pre:List (Ins×List Nat)} {F:Env→H→Prop} {FX:Value→Prop} (hF:∀ e h e1 h1,zc P pro e h e1 h1→F e1 h1→F e h) {n:Nat} {D:List Nat} {e e1:Env} {h h1:H} (g:zc P pro e h e1 h1) (hr:RunA P pro pre F FX n D e1 h1):RunA P pro pre F FX n D e h:=by
 cases n with
 | zero=>exact ⟨hr.1,hF _ _ _ _ g hr.2⟩
 | succ n =>
  rcases hr with ⟨h1,h2⟩ | ⟨h1,h2⟩
  ·exact .inl ⟨h1,hF _ _ _ _ g h2⟩
  ·refine .inr ⟨h1,fun i x hx hi hd=>?_⟩
   obtain ⟨e0,h0,g',hr⟩:=h2 i x hx hi hd
   exact ⟨e0,h0,g.trans g',hr⟩
theorem FN.ghost {r:EH T⊕Value} {E E1:Env} {H0 H1:H} (g:zc P pro E H0 E1 H1) (h:FN P pro r E1 H1):FN P pro r E H0:=by
 obtain ⟨eh,h1,h2⟩:=h
 exact ⟨eh,h1,g.trans h2⟩
theorem zm4 {cx:Cx P T} {pre:List (Ins×List Nat)} {D:Dr} {r:EH T⊕Value}:∀ (n:Nat) (dn:List Nat) (e:TE T.toTT0) (h:TH T.toTT0),Sat (evA pro cx pre D n dn e h) (fun l=>l=r) →
  RunA P pro pre (FN P pro r) (fun u=>r = .inr u) n dn (denE T.toTT0 (denH T.toTT0 h) e) (denH T.toTT0 h)
 | 0,_,_,_,hs=>hs.elim
 | n+1,dn,e,h,hs=>by
  simp only [evA] at hs
  cases hb:(List.range pre.length).all dn.contains with
  | true =>
   rw [hb,cond_true] at hs
   obtain ⟨eh,q1,q2⟩:=Sat.ofRs _ hs
   have q2:Sum.inl eh=r:=q2
   exact .inl ⟨fun i hi=>by simpa using List.all_eq_true.1 hb i (List.mem_range.2 hi),eh,q2.symm,z3j q1⟩
  | false =>
   rw [hb,cond_false] at hs
   refine .inr ⟨?_,fun i x hx hi hd=>?_⟩
   ·rw [List.all_eq_false] at hb
    obtain ⟨i,h1,h2⟩:=hb
    exact ⟨i,List.mem_range.1 h1,by simpa using h2⟩
   ·have hlt:i<pre.length:=(List.getElem?_eq_some_iff.1 hx).1
    have hm:i ∈ znx pre dn:=by
     unfold znx
     rw [List.mem_filter]
     refine ⟨List.mem_range.2 hlt,?_⟩
     simp only [hx,Bool.and_eq_true,Bool.not_eq_true',List.all_eq_true]
     exact ⟨by simpa using hi,fun d hdd=>by simpa using hd d hdd⟩
    have hone:=zkc _ hs _ (List.mem_map.2 ⟨i,hm,rfl⟩)
    simp only [hx] at hone
    obtain ⟨e',he,h1 | h1⟩:=za2 (H0:=denH T.toTT0 h) hone
    ·rcases zky h1.2 with ⟨e0,h0,e1,h1',e2,h2,g1,gb,g2,g3,e4,h4,rfl,rfl,hK⟩ | ⟨e0,h0,u,ex,hx,g1,gb,g2,_,hK⟩
     ·rw [he] at g1 gb
      have hK:Sat (evA pro cx pre D n (i::dn) e4 h4) (fun l=>l=r):=hK
      exact ⟨e0,h0,g1,.inr (.inl ⟨z8v h1.1 gb,e1,h1',g2,RunA.ghost (fun _ _ _ _=>FN.ghost) g3 (zm4 n (i::dn) e4 h4 hK)⟩)⟩
     ·rw [he] at g1 gb
      have hK:Sum.inr u=r:=hK
      exact ⟨e0,h0,g1,.inr (.inr ⟨z8v h1.1 gb,u,_,g2,hK.symm⟩)⟩
    ·have:=zm4 n (i::dn) _ h h1.2
     rw [zx,he,z85] at this
     exact ⟨_,_,zc.rfl',.inl ⟨h1.1,this⟩⟩
def zs3 (e:TE T.toTT0) (c:Operand) (b:Bool):TE T.toTT0:=match c with | .tmp s=>putE e s (.bk b) | _=>e
def evC (cx:Cx P T):IC→An P T pro→{L:Type}→TE T.toTT0→TH T.toTT0→(Out→TE T.toTT0→TH T.toTT0→Raw P T pro L)→Raw P T pro L
 | .reg keep l,_,_,e,h,K=>evRX pro cx l e h (fun e h=>K .normal (zc8 keep e) h) (fun u e h=>K (.panic u) e h)
 | .pan l d t x,_,_,e,h,K=>evR pro cx l e h fun e h=>match panV (evT e x) with | some u=>K (.panic (.iface t u)) (ptT (putE e d .un)) h | none=>.no
 | .draw keep pre tail,an,_,e,h,K =>
  match an with
  | .alls S Z enc encV D=>.alls enc encV (evA pro cx pre D (pre.length+1) [] e h) (fun s=>evR pro cx tail (enc s).1 (enc s).2 fun e h=>K .normal (zc8 keep e) h) (fun z=>K (.panic (encV z)) [] [])
  | _=>zin pro cx keep pre tail e h (K .normal)
 | .bad,_,_,_,_,_=>.no
 | .skip,_,_,e,h,K=>K .normal e h
 | .ret,_,_,e,h,K=>K .ret e h
 | .exit id,_,_,e,h,K=>K (.exit id) e h
 | .seq x y,an,_,e,h,K =>
  match an with
  | .join S enc D a b=>.join enc (evC cx x a e h (yb6 pro D K)) fun s=>evC cx y b (enc s).1 (enc s).2 K
  | an=>evC cx x an.l e h (seqK (fun e h=>evC cx y an.r e h K) K)
 | .cond c x y,an,_,e,h,K =>
  match evT e c with
  | .bk true=>evC cx x an.l e h K
  | .bk false=>evC cx y an.r e h K
  | .sc (.bool b)=>.ite b (evC cx x an.l (zs3 e c true) h K) (evC cx y an.r (zs3 e c false) h K)
  | _=>.no
 | .block id x,an,_,e,h,K=>evC cx x an.l e h (zsx id K)
 | .loop x,an,_,e,h,K =>
  match an with
  | .loop _ c ret D=>Raw.ofRs (fun eh=>bif ret then .loopR c x eh (fun v y=>K (.exit (c v).id) ((c v).encY y).1 ((c v).encY y).2) (fun v z=>retK K ((c v).encZ z))
    else .loop c x eh (fun v y=>K (.exit (c v).id) ((c v).encY y).1 ((c v).encY y).2)) (cnv pro D e h)
  | _=>.no
theorem znc {e:TE T.toTT0} {H0:H} {c:Operand} {b:Bool} (hc:evT e c = .sc (.bool b)):denE T.toTT0 H0 (zs3 e c b)=denE T.toTT0 H0 e:=by
 cases c with
 | tmp s=>exact z55 hc
 | _=>rfl
theorem z3c {cx:Cx P T}:∀ (c:IC) (an:An P T pro) {L:Type} (e:TE T.toTT0) (h:TH T.toTT0) (K:Out→TE T.toTT0→TH T.toTT0→Raw P T pro L) (Q:L→Prop),Sat (evC cx c an e h K) Q →
  W P pro c (fun o E H0=>KP (K o) Q E H0) (denE T.toTT0 (denH T.toTT0 h) e) (denH T.toTT0 h)
 | .reg keep l,_,_,e,h,K,Q,hs=>by
  rcases zio l e h hs with ⟨E,H',r,e2,h2,rfl,rfl,hK⟩ | ⟨u,E,ex,hx,r,hle,hK⟩
  ·exact W.regG ⟨_,_,r,_,_,(zdk keep e2).symm,rfl,hK⟩
  ·exact ⟨_,_,_,.after (.regX r) (zc.le hle),ex,hx,rfl,rfl,hK⟩
 | .pan l d t x,_,_,e,h,K,Q,hs=>by
  obtain ⟨E,H',r,e2,h2,rfl,rfl,hK⟩:=zd8 l e h hs
  dsimp only at hK
  split at hK
  ·rename_i u hu
   exact ⟨_,_,_,.after (.pan r (by rw [zg]; exact y4p hu)) (zc.le fun t=>by
    have:=zxu (T:=T) (H0:=denH T.toTT0 h2) (H1:=denH T.toTT0 h2) (putE e2 d .un) t
    rwa [zx] at this),_,h2,rfl,rfl,hK⟩
  ·exact hK.elim
 | .draw keep pre tail,an,_,e,h,K,Q,hs=>by
  cases an with
  | alls S Z enc encV D =>
   obtain ⟨r,h1,h2⟩:=hs
   have ha:=zm4 (r:=Sum.map enc encV r) (pre.length+1) [] e h h1
   cases r with
   | inl s =>
    obtain ⟨E,H',hr,e2,h2',rfl,rfl,hK⟩:=zd8 tail _ _ h2
    refine ⟨.normal,_,_,.allN (F:=fun E H0=>zc P pro E H0 (denE T.toTT0 (denH T.toTT0 (enc s).2) (enc s).1) (denH T.toTT0 (enc s).2)) (fun e1 h1 g=>.ghost g hr) (RunA.mono (fun E H0 hf=>?_) (fun u hu=>?_) _ _ _ _ ha),_,_,(zdk keep e2).symm,rfl,hK⟩
    ·obtain ⟨eh,q1,q2⟩:=hf
     cases q1
     exact q2
    ·cases hu
   | inr z =>
    exact ⟨.panic (encV z),_,_,.allX (RunA.mono (fun E H0 hf=>by obtain ⟨eh,q1,q2⟩:=hf; cases q1) (fun u hu=>by cases hu; rfl) _ _ _ _ ha),KP.none h2⟩
  | no=>exact z8h (Q':=fun o E H0=>KP (K o) Q E H0) (fun E H0 hk=>hk) hs
  | two _ _=>exact z8h (Q':=fun o E H0=>KP (K o) Q E H0) (fun E H0 hk=>hk) hs
  | join _ _ _ _ _=>exact z8h (Q':=fun o E H0=>KP (K o) Q E H0) (fun E H0 hk=>hk) hs
  | loop _ _ _ _=>exact z8h (Q':=fun o E H0=>KP (K o) Q E H0) (fun E H0 hk=>hk) hs
 | .bad,_,_,_,_,_,_,hs=>hs.elim
 | .skip,_,_,e,h,K,Q,hs=>W.skip ⟨e,h,rfl,rfl,hs⟩
 | .ret,_,_,e,h,K,Q,hs=>W.ret ⟨e,h,rfl,rfl,hs⟩
 | .exit id,_,_,e,h,K,Q,hs=>W.exit ⟨e,h,rfl,rfl,hs⟩
 | .seq x y,an,L,e,h,K,Q,hs=>by
  have plain:∀ (a b:An P T pro),Sat (evC cx x a e h (seqK (fun e h=>evC cx y b e h K) K)) Q→W P pro (.seq x y) (fun o E H0=>KP (K o) Q E H0) (denE T.toTT0 (denH T.toTT0 h) e) (denH T.toTT0 h):=fun a b hs=>by
   refine W.seq (W.mono (z3c x a e h _ Q hs) fun o E H0 hk=>?_)
   cases o with
   | normal =>
    obtain ⟨e1,h1,rfl,rfl,hK⟩:=hk
    exact z3c y b e1 h1 K Q hK
   | exit id=>exact hk
   | ret=>exact hk
   | panic u=>exact hk
  cases an with
  | alls _ _ _ _ _=>exact plain _ _ hs
  | join S enc D a b =>
   have ih:=z3c x a e h _ _ hs
   refine W.seq (W.mono ih fun o E H0 hk=>?_)
   cases o with
   | normal =>
    obtain ⟨e1,h1,rfl,rfl,hK⟩:=hk
    obtain ⟨eh,q1,s,q2,q3⟩:=Sat.ofRs _ hK
    subst q2
    exact W.ghost (z3j q1) (z3c y b _ _ K Q q3)
   | exit id =>
    obtain ⟨e1,h1,rfl,rfl,hK⟩:=hk
    exact ⟨e1,h1,rfl,rfl,Sat.map (L:=L) (L':=EH T⊕L) Sum.inr (K _ e1 h1) _ hK⟩
   | ret =>
    obtain ⟨e1,h1,rfl,rfl,hK⟩:=hk
    exact ⟨e1,h1,rfl,rfl,Sat.map (L:=L) (L':=EH T⊕L) Sum.inr (K _ e1 h1) _ hK⟩
   | panic u =>
    obtain ⟨e1,h1,rfl,rfl,hK⟩:=hk
    exact ⟨e1,h1,rfl,rfl,Sat.map (L:=L) (L':=EH T⊕L) Sum.inr (K _ e1 h1) _ hK⟩
  | no=>exact plain _ _ hs
  | two a b=>exact plain _ _ hs
  | loop V c ret D=>exact plain _ _ hs
 | .cond c x y,an,_,e,h,K,Q,hs=>by
  simp only [evC] at hs
  split at hs
  ·rename_i hv
   exact W.condT (by rw [zg,hv]; rfl) (z3c x an.l e h K Q hs)
  ·rename_i hv
   exact W.condF (by rw [zg,hv]; rfl) (z3c y an.r e h K Q hs)
  ·rename_i b hv
   refine W.cond (b:=b) (by rw [zg,hv]; rfl) (fun hb=>?_) (fun hb=>?_)
   ·subst hb
    have:=z3c x an.l _ h K Q (hs.1 rfl)
    rwa [znc hv] at this
   ·subst hb
    have:=z3c y an.r _ h K Q (hs.2 rfl)
    rwa [znc hv] at this
  ·exact hs.elim
 | .block id x,an,_,e,h,K,Q,hs=>by
  refine W.block (W.mono (z3c x an.l e h _ Q hs) fun o E H0 hk=>?_)
  cases o with
  | normal=>exact hk
  | ret=>exact hk
  | panic u=>exact hk
  | exit id' =>
   simp only [zc7]
   simp only [zsx,z1a] at hk
   split
   ·rename_i e; simpa [e] using hk
   ·rename_i e; simpa [e] using hk
 | .loop x,an,_,e,h,K,Q,hs=>by
  cases an with
  | loop V c ret D =>
   obtain ⟨eh,q1,q2⟩:=Sat.ofRs _ hs
   refine W.ghost (z3j q1) ?_
   cases ret with
   | true =>
    obtain ⟨v,hb,x',b,q3,q4,q5⟩:=q2
    subst hb q3
    refine W.mono ((c v).ok x' b q4) fun o E H0 hk=>?_
    cases b with
    | go _=>exact hk.elim
    | out y =>
     obtain ⟨rfl,rfl,rfl⟩:=hk
     exact ⟨_,_,rfl,rfl,q5⟩
    | ret z=>exact y4x hk.2 q5
   | false =>
    obtain ⟨v,hb,x',y,q3,_,q4,q5⟩:=q2
    subst hb q3
    refine W.mono ((c v).ok x' _ q4) fun o E H0 hk=>?_
    obtain ⟨rfl,rfl,rfl⟩:=hk
    exact ⟨_,_,rfl,rfl,q5⟩
  | no=>exact hs.elim
  | alls _ _ _ _ _=>exact hs.elim
  | two _ _=>exact hs.elim
  | join _ _ _ _ _=>exact hs.elim
def y32 (pro:List Nat) (id:Nat) (DX DY DZ:Dr):Out→TE T.toTT0→TH T.toTT0→Raw P T pro (Bo (EH T) (EH T) (EH T))
 | .normal,e,h=>Raw.ofRs (fun eh=>.leaf (.go eh)) (cnv pro DX e h)
 | .exit id',e,h=>bif Nat.beq id' id then Raw.ofRs (fun eh=>.leaf (.out eh)) (cnv pro DY e h) else .no
 | .ret,e,h=>Raw.ofRs (fun eh=>match isX eh with | none=>.leaf (.ret eh) | some _=>.no) (cnv pro DZ e h)
 | .panic u,_,_=>.leaf (.ret (ofX u))
def encB {X Y Z E:Type} (a:X→E) (b:Y→E) (c:Z→E):Bo X Y Z→Bo E E E
 | .go x=>.go (a x)
 | .out y=>.out (b y)
 | .ret z=>.ret (c z)
noncomputable def lcon {X Y Z:Type} (cx:Cx P T) (x:IC) (an:X→An P T pro) (id:Nat) (ret:Bool) (DX DY DZ:Dr) (encX:X→EH T) (encY:Y→EH T) (encZ:Z→EH T) (n:Nat) (t:X→Pt P T pro (Bo X Y Z)) (hret:ret=false→Z→False:=by first | (intro h; cases h; done) | (intro _ z; cases z))
  (ht:∀ s,evC cx x (an s) (encX s).1 (encX s).2 (y32 pro id DX DY DZ)=(t s).raw (encB encX encY encZ):=by intro s; kernel_rfl):LCon P T pro where
 body:=x
 X:=X
 Y:=Y
 Z:=Z
 encX:=encX
 encY:=encY
 encZ:=encZ
 id:=id
 ret:=ret
 G:=iter (fun s=>(t s).run) n
 ok:=by
  have round:∀ s b,(t s).run=some b→W P pro x (fun o E H0=>match b with
    | .go x'=>o = .normal∧∃ e h,Gh P pro T e h (encX x').1 (encX x').2∧E=denE T.toTT0 (denH T.toTT0 h) e∧H0=denH T.toTT0 h
    | .out y=>o = .exit id∧∃ e h,Gh P pro T e h (encY y).1 (encY y).2∧E=denE T.toTT0 (denH T.toTT0 h) e∧H0=denH T.toTT0 h
    | .ret z=>o ≠ .normal∧∃ E1 H1,zc P pro E H0 E1 H1∧ze2 (encZ z) o E1 H1) (denE T.toTT0 (denH T.toTT0 (encX s).2) (encX s).1) (denH T.toTT0 (encX s).2):=by
   intro s b hb
   have h1:=z1u (encB encX encY encZ) (t s) b hb
   rw [← ht s] at h1
   refine W.mono (z3c x (an s) _ _ _ _ h1) fun o E H0 hk=>?_
   obtain ⟨e,h,rfl,rfl,hK⟩:=hk
   cases o with
   | normal =>
    obtain ⟨eh,q1,q2⟩:=Sat.ofRs _ hK
    cases b <;> cases q2
    exact ⟨rfl,e,h,z3j q1,rfl,rfl⟩
   | exit id' =>
    simp only [y32,z1a] at hK
    by_cases hid:id'=id
    ·subst hid
     simp only [decide_true,cond_true] at hK
     obtain ⟨eh,q1,q2⟩:=Sat.ofRs _ hK
     cases b <;> cases q2
     exact ⟨rfl,e,h,z3j q1,rfl,rfl⟩
    ·simp only [hid,decide_false,cond_false] at hK
     exact hK.elim
   | ret =>
    obtain ⟨eh,q1,q2⟩:=Sat.ofRs _ hK
    split at q2
    ·rename_i hx
     cases b <;> cases q2
     refine ⟨by simp,_,_,z3j q1,?_⟩
     unfold ze2
     rw [hx]
     exact ⟨rfl,rfl,rfl⟩
    ·exact q2.elim
   | panic u =>
    have hK:Bo.ret (ofX u)=encB encX encY encZ b:=hK
    cases b with
    | go _=>cases hK
    | out _=>cases hK
    | ret z =>
     simp only [encB,Bo.ret.injEq] at hK
     refine ⟨by simp,nE,[],zc.fell,?_⟩
     unfold ze2
     rw [← hK]
     exact ⟨rfl,rfl,rfl⟩
  intro s
  induction n generalizing s with
  | zero=>intro b hb; cases hb
  | succ k ih =>
   intro b hb
   unfold iter at hb
   split at hb
   ·rename_i s' hs
    refine W.loop (W.mono (round s _ hs) fun o E H0 hq=>?_)
    obtain ⟨rfl,e,h,g,rfl,rfl⟩:=hq
    exact W.ghost g (ih s' b hb)
   ·rename_i hne
    have hr:=round s _ hb
    cases b with
    | go s'=>exact absurd hb (hne s')
    | out y =>
     obtain ⟨o,E,H0,hex,rfl,e,h,g,rfl,rfl⟩:=hr
     exact ⟨_,_,_,.loopX (by simp) (.after hex g),rfl,rfl,rfl⟩
    | ret z =>
     obtain ⟨o,E,H0,hex,hno,E1,H1,g,hri⟩:=hr
     refine ⟨_,_,_,.loopX hno (.after hex g),?_,hri⟩
     cases hret':ret with
     | true=>rfl
     | false=>exact (hret hret' z).elim
end
def fnC (P:Program) (f:Nat) (ks:List (List Nat)):IC :=
 match P.funcs[f]? with
 | some fn=>match fn.body with
  | some code=>match z3t P fn.ntmps code ks with | some (c,_)=>c | none=>.skip
  | none=>.skip
 | none=>.skip
def fnTs (P:Program) (f:Nat):List RS :=
 match P.funcs[f]? with
 | some fn=>match z2y P fn.results.toList with | some ts=>ts | none=>[]
 | none=>[]
def fnN (P:Program) (f:Nat):Nat:=match P.funcs[f]? with | some fn=>fn.ntmps | none=>0
def zlf (P:Program) (f:Nat) (ks:List (List Nat)):Bool :=
 match P.funcs[f]? with
 | some fn=>match fn.body with
  | some code=>(z3t P fn.ntmps code ks).isSome && (z2y P fn.results.toList).isSome
  | none=>false
 | none=>false
theorem zej {P:Program} {f:Nat} {ks:List (List Nat)} (h:zlf P f ks=true):FnIs P f (fnN P f) (fnC P f ks) (fnTs P f):=by
 unfold zlf at h
 split at h
 ·rename_i fn hfn
  split at h
  ·rename_i code hc
   simp only [Bool.and_eq_true,Option.isSome_iff_exists] at h
   obtain ⟨⟨⟨c,ks'⟩,h1⟩,⟨ts,h2⟩⟩:=h
   refine ⟨fn,code,hfn,hc,?_,?_,ks,ks',?_⟩
   ·simp [fnN,hfn]
   ·simp [fnTs,hfn,h2]
   ·have:fnC P f ks=c:=by simp [fnC,hfn,hc,h1]
    rw [this]
    simp only [fnN,hfn]
    exact h1
  ·cases h
 ·cases h
def subC:List Nat→IC→IC
 | [],c=>c
 | 0::p,.seq x _=>subC p x
 | 0::p,.cond _ x _=>subC p x
 | 0::p,.block _ x=>subC p x
 | 0::p,.loop x=>subC p x
 | _::p,.seq _ y=>subC p y
 | _::p,.cond _ _ y=>subC p y
 | _,c=>c
section
variable {P:Program} {T:TT} {pro:List Nat}
def argT:Nat→List (VT T)→TE T.toTT0
 | _,[]=>[]
 | n,x::l=>(n,x)::argT (n+1) l
theorem zbk {H0:H}:∀ (l:List (VT T)) (n:Nat),denE T.toTT0 H0 (argT n l)=argE n (denL T.toTT0 H0 l)
 | [],_=>rfl
 | x::l,n=>by
  simp only [argT,denL,argE,← zbk l (n+1)]
  exact zx (e:=argT (n+1) l)
def finK (pro:List Nat) (D:Dr):Out→TE T.toTT0→TH T.toTT0→Raw P T pro (EH T)
 | .exit _,_,_=>.no
 | .panic _,_,_=>.no
 | _,e,h=>Raw.ofRs .leaf (cnv pro D e h)
def y9d (pro:List Nat) (D:Dr):Out→TE T.toTT0→TH T.toTT0→Raw P T pro (EH T)
 | .exit _,_,_=>.no
 | .panic u,_,_=>.leaf (ofX u)
 | _,e,h=>Raw.ofRs (fun eh=>match isX eh with | none=>.leaf eh | some _=>.no) (cnv pro D e h)
def rsT (e:TE T.toTT0) (h:TH T.toTT0):RS→Option (VT T)
 | .t s=>some (getE e s)
 | .c s agg n =>
  match getE e s with
  | .pt k [] i c=>match getT h k with
   | some (.lit _ xs)=>match xs[i]? with
    | some cs=>match zeo agg n k [] i c cs with | .ok v=>some v | _=>none
    | none=>none
   | _=>none
  | _=>none
def rsTs (e:TE T.toTT0) (h:TH T.toTT0):List RS→Option (List (VT T))
 | []=>some []
 | r::l=>match rsT e h r,rsTs e h l with | some x,some xs=>some (x::xs) | _,_=>none
def retT (ts:List RS) (keys:List Nat) (eh:EH T):Option (VT T×TH T.toTT0) :=
 match rsTs eh.1 eh.2 ts,z70 eh.2 (keys.map fun k=>(k,k)) with
 | some l,some (ho,_)=>match z37 (keys.map fun k=>(k,k)) (match l with | [x]=>x | l=>.tu l) with
  | some r=>bif zm keys then some (r,ho) else none
  | none=>none
 | _,_=>none
theorem y8t {e:TE T.toTT0} {h:TH T.toTT0} {r:RS} {v:VT T} (hr:rsT e h r=some v):rsAV (denE T.toTT0 (denH T.toTT0 h) e) (denH T.toTT0 h) r=some (den T.toTT0 (denH T.toTT0 h) v):=by
 cases r with
 | t s=>cases hr; rfl
 | c s agg n =>
  simp only [rsT] at hr
  split at hr
  ·rename_i k i c hp
   split at hr
   ·rename_i s' xs hg
    split at hr
    ·rename_i cs hcs
     split at hr
     ·rename_i w hl
      cases hr
      have hgr:za (denH T.toTT0 h) k=some ⟨s',xs.map (denL T.toTT0 [])⟩:=by rw [z1p,hg]; rfl
      have hres:res (denH T.toTT0 h) k []=some (s',xs.map (denL T.toTT0 [])):=by unfold res; rw [hgr]; rfl
      have:=zcd (T:=T) (agg:=agg) (n:=n) (k:=k) (i:=i) (c:=c) (p:=[]) (cs:=cs) (v:=v) hres (by simp [hcs]) (by rw [hl]; exact rfl)
      simp only [rsAV,rdop,ev,denE,hp,den,hres]
      exact this
     ·cases hr
    ·cases hr
   ·cases hr
  ·cases hr
theorem zj7 {e:TE T.toTT0} {h:TH T.toTT0}:∀ (ts:List RS) (l:List (VT T)),rsTs e h ts=some l→z6y (denE T.toTT0 (denH T.toTT0 h) e) (denH T.toTT0 h) ts=some (denL T.toTT0 (denH T.toTT0 h) l)
 | [],_,h=>by cases h; rfl
 | r::ts,l,hr=>by
  simp only [rsTs] at hr
  split at hr
  ·rename_i x xs h1 h2
   cases hr
   simp only [z6y,y8t h1,zj7 ts xs h2,denL]
  ·cases hr
theorem zqs:∀ (ks:List Nat) (k:Nat),k ∈ ks→look (ks.map fun k=>(k,k)) k=some k
 | [],_,h=>by cases h
 | k'::ks,k,h=>by
  simp only [List.map_cons,look]
  split
  ·rename_i e; rw [e]
  ·rename_i hne
   refine zqs ks k ?_
   rcases List.mem_cons.1 h with h | h
   ·exact absurd h.symm hne
   ·exact h
theorem zhv:∀ (ks:List Nat) (k n:Nat),z1j (ks.map fun k=>(k,k)) k=some n→n=k∧k ∈ ks
 | [],_,_,h=>by cases h
 | k'::ks,k,n,h=>by
  simp only [List.map_cons,z1j] at h
  split at h
  ·rename_i e; cases h; exact ⟨e,by simp [e]⟩
  ·obtain ⟨q1,q2⟩:=zhv ks k n h
   exact ⟨q1,List.mem_cons_of_mem _ q2⟩
theorem zez {ts:List RS} {keys:List Nat} {eh:EH T} {r:VT T} {ho hin:TH T.toTT0} (hr:retT ts keys eh=some (r,ho)) (hin':(hin.map Prod.fst).all (fun k=>keys.contains k)=true) {o:Out} (hno:(match o with | .exit _=>False | .panic _=>False | _=>True)) :
  Ends ts (denH T.toTT0 hin) (den T.toTT0 (denH T.toTT0 ho) r) (denH T.toTT0 ho) o (denE T.toTT0 (denH T.toTT0 eh.2) eh.1) (denH T.toTT0 eh.2):=by
 unfold retT at hr
 split at hr
 ·rename_i l ho' left h1 h2
  split at hr
  ·rename_i r' hb
   cases hn:zm keys with
   | false=>rw [hn] at hr; cases hr
   | true =>
    rw [hn] at hr
    cases hr
    obtain ⟨s1,s2,s3⟩:=z48 _ _ _ _ h2
    have hk1:(keys.map fun k=>(k,k)).map Prod.fst=keys:=by rw [List.map_map]; exact List.map_id' _
    have hk2:(keys.map fun k=>(k,k)).map Prod.snd=keys:=by rw [List.map_map]; exact List.map_id' _
    refine ⟨hno,keys.map fun k=>(k,k),_,denH T.toTT0 left,?_,s1,by rw [hk1]; exact hn,z73 (Ho:=denH T.toTT0 eh.2) (fun k n q hkn=>?_) _ _ hb,?_⟩
    ·unfold z4e
     rw [zj7 _ _ h1]
     cases l with
     | nil=>rfl
     | cons x l=>cases l <;> rfl
    ·obtain ⟨e1,hk⟩:=zhv keys k n hkn
     subst e1
     have:=s3 n n (by rw [hk1]; exact hn) (by rw [hk2]; exact hn) (List.mem_map.2 ⟨n,hk,rfl⟩)
     unfold ze res
     rw [this]
    ·rw [z1d,List.all_eq_true]
     intro k hk
     have:=List.all_eq_true.1 hin' k hk
     rw [zqs keys k (by simpa using this)]
     simp
  ·cases hr
 ·cases hr
noncomputable def zp {X R:Type} (cx:Cx P T) (f:Nat) (ks:List (List Nat)) (an:X→An P T pro) (A:List VD) (Hd:List (Nat×List Kd)) (Nk:List Nat) (D:Dr) (keys:List Nat) (strong:Bool)
  (encA:X→List (VT T)) (encH:X→TH T.toTT0) (encE:R→EH T) (encR:R→VT T) (encO:R→TH T.toTT0) (t:X→Pt P T pro R)
  (hf:zlf P f ks=true:=by kernel_rfl)
  (ht:∀ x,evC cx (fnC P f ks) (an x) (argT 0 (encA x)) (encH x) (finK pro D)=(t x).raw encE:=by intro x; kernel_rfl)
  (hp:∀ x,(encH x).map Prod.fst=pro:=by intro x; kernel_rfl) (hk:pro.all (fun k=>keys.contains k)=true:=by kernel_rfl)
  (hr:∀ y,retT (fnTs P f) keys (encE y)=some (encR y,encO y):=by intro y; kernel_rfl)
  (hs:strong=true→∀ y,(z8r (encR y) && z7w (encO y))=true:=by first | (intro h; cases h; done) | (intro _ y; kernel_rfl)):Con P T where
 f:=f
 X:=X
 Y:=R
 A:=A
 H:=Hd
 N:=Nk
 encA:=encA
 encH:=encH
 G:=fun x=>(t x).run
 encR:=encR
 encO:=encO
 strong:=strong
 ok:=fun x y hx=>by
  have h1:=z1u encE (t x) y hx
  rw [← ht x] at h1
  have h2:=z3c _ (an x) _ _ _ _ h1
  rw [zbk] at h2
  have hG:CallG P f (denL T.toTT0 (denH T.toTT0 (encH x)) (encA x)) (denH T.toTT0 (encH x)) (den T.toTT0 (denH T.toTT0 (encO y)) (encR y)) (denH T.toTT0 (encO y)):=by
   refine .of_E (zej hf) ?_
   rw [z1d,hp x]
   obtain ⟨o,E,H0,hex,e,h,rfl,rfl,hK⟩:=h2
   cases o with
   | exit id=>exact hK.elim
   | panic u=>exact hK.elim
   | normal =>
    obtain ⟨eh,q1,q2⟩:=Sat.ofRs _ hK
    cases q2
    exact ⟨_,_,_,.after hex (z3j q1),zez (hr y) (by rw [hp x]; exact hk) trivial⟩
   | ret =>
    obtain ⟨eh,q1,q2⟩:=Sat.ofRs _ hK
    cases q2
    exact ⟨_,_,_,.after hex (z3j q1),zez (hr y) (by rw [hp x]; exact hk) trivial⟩
  refine ⟨fun hst=>?_,hG⟩
  have:=hs hst y
  simp only [Bool.and_eq_true] at this
  exact CallG.narrow hG (z9f _ this.1) (z7x _ this.2)
def yb8 {A B:Type}:A⊕B→Option A
 | .inl a=>some a
 | .inr _=>none
noncomputable def conX {X R Z:Type} (cx:Cx P T) (f:Nat) (ks:List (List Nat)) (an:X→An P T pro) (A:List VD) (Hd:List (Nat×List Kd)) (Nk:List Nat) (D:Dr) (keys:List Nat)
  (encA:X→List (VT T)) (encH:X→TH T.toTT0) (encE:R→EH T) (encR:R→VT T) (encO:R→TH T.toTT0) (encV:Z→Value) (t:X→Pt P T pro (R⊕Z))
  (hf:zlf P f ks=true:=by kernel_rfl)
  (ht:∀ x,evC cx (fnC P f ks) (an x) (argT 0 (encA x)) (encH x) (y9d pro D)=(t x).raw (sumE encE fun z=>ofX (encV z)):=by intro x; kernel_rfl)
  (hp:∀ x,(encH x).map Prod.fst=pro:=by intro x; kernel_rfl) (hk:pro.all (fun k=>keys.contains k)=true:=by kernel_rfl)
  (hr:∀ y,retT (fnTs P f) keys (encE y)=some (encR y,encO y):=by intro y; kernel_rfl)
  (hx:∀ y,isX (encE y)=none:=by intro y; kernel_rfl):Con P T :=
 have key:∀ x r,(t x).run=some r→match r with
   | .inl y=>CallG P f (denL T.toTT0 (denH T.toTT0 (encH x)) (encA x)) (denH T.toTT0 (encH x)) (den T.toTT0 (denH T.toTT0 (encO y)) (encR y)) (denH T.toTT0 (encO y))
   | .inr z=>z59 P f (denL T.toTT0 (denH T.toTT0 (encH x)) (encA x)) (denH T.toTT0 (encH x)) (encV z):=fun x r hrun=>by
  have h1:=z1u (sumE encE fun z=>ofX (encV z)) (t x) r hrun
  rw [← ht x] at h1
  have h2:=z3c _ (an x) _ _ _ _ h1
  rw [zbk] at h2
  obtain ⟨o,E,H0,hex,e,h,rfl,rfl,hK⟩:=h2
  have hkeys:(denH T.toTT0 (encH x)).map Prod.fst=pro:=by rw [z1d,hp x]
  have nor:∀ (r:R⊕Z),Sat (Raw.ofRs (fun eh=>match isX eh with | none=>(.leaf eh:Raw P T pro (EH T)) | some _=>.no) (cnv pro D e h)) (fun l=>l=sumE encE (fun z=>ofX (encV z)) r)→∃ y,r = .inl y∧(cnv pro D e h).gives (encE y):=fun r hK=>by
   obtain ⟨eh,q1,q2⟩:=Sat.ofRs _ hK
   split at q2
   ·rename_i hi
    have q2:eh=_:=q2
    subst q2
    cases r with
    | inl y=>exact ⟨y,rfl,q1⟩
    | inr z=>exact absurd hi (by simp [sumE,ofX,isX])
   ·exact q2.elim
  cases o with
  | exit id=>exact hK.elim
  | panic u =>
   have hK:ofX u=sumE encE (fun z=>ofX (encV z)) r:=hK
   cases r with
   | inl y =>
    have:=hx y
    simp only [sumE] at hK
    rw [← hK] at this
    exact absurd this (by simp [ofX,isX])
   | inr z =>
    simp only [sumE,ofX,Prod.mk.injEq,List.cons.injEq,TV.sc.injEq,and_true,true_and] at hK
    subst hK
    rw [← hkeys] at hex
    exact z59.of_ex (zej hf) hex
  | normal =>
   obtain ⟨y,rfl,q1⟩:=nor r hK
   rw [← hkeys] at hex
   refine CallG.of_E (zej hf) ⟨_,_,_,.after hex (by rw [hkeys]; exact z3j q1),zez (hr y) (by rw [hp x]; exact hk) trivial⟩
  | ret =>
   obtain ⟨y,rfl,q1⟩:=nor r hK
   rw [← hkeys] at hex
   refine CallG.of_E (zej hf) ⟨_,_,_,.after hex (by rw [hkeys]; exact z3j q1),zez (hr y) (by rw [hp x]; exact hk) trivial⟩
 { f:=f,X:=X,Y:=R,A:=A,H:=Hd,N:=Nk,encA:=encA,encH:=encH,encR:=encR,encO:=encO,strong:=false,x:=true,V:=Z,encV:=encV,FX:=fun x=>(t x).run,okX:=key,G:=fun x=>(t x).run.bind yb8,ok:=fun x y h=>⟨fun h=>(nomatch h),by
   obtain ⟨r,h1,h2⟩:=zh h
   cases r with
   | inl y'=>cases h2; exact key x _ h1
   | inr z=>cases h2⟩ }
def y93 (P:Program) (T:TT) (f:Nat) {X R:Type} (encA:X→List (VT T)) (encR:R→VT T) (G:X→Option R):Prop :=
 ∀ x y,G x=some y→z1x P f (denL T.toTT0 [] (encA x)) [] (den T.toTT0 [] (encR y)) []
abbrev CtrQ (P:Program) (T:TT) (f:Nat) {X R:Type} (encA:X→List (VT T)) (encR:R→VT T):={G:X→Option R // y93 P T f encA encR G}
def conB {X R:Type} (f:Nat) (A:List VD) (encA:X→List (VT T)) (encR:R→VT T) (q:CtrQ P T f encA encR):Con P T where
 f:=f
 X:=X
 Y:=R
 A:=A
 H:=[]
 N:=[]
 encA:=encA
 encH:=fun _=>[]
 G:=q.1
 encR:=encR
 encO:=fun _=>[]
 strong:=true
 ok:=fun x y h=>⟨fun _=>q.2 x y h,(q.2 x y h).toG⟩
def recQ {X R:Type} {f:Nat} {encA:X→List (VT T)} {encR:R→VT T} (s:CtrQ P T f encA encR→CtrQ P T f encA encR):Nat→CtrQ P T f encA encR
 | 0=>⟨fun _=>none,fun _ _ h=>nomatch h⟩
 | n+1=>s (recQ s n)
end
section
variable {El:Nat→Type} {T:TT0}
def gI (k:IntKind):TV El→Option Int
 | .sc (.int k' n)=>if k'=k then some n else none
 | .ik k' n=>if k'=k then some n else none
 | _=>none
def gB:TV El→Option Bool
 | .sc (.bool b)=>some b
 | .bk b=>some b
 | _=>none
def gS:TV El→Option ByteArray
 | .sc (.string b)=>some b
 | _=>none
def gM (t:Nat):TV El→Option (List (El t))
 | .im t' xs=>if h:t'=t then some (h ▸ xs) else none
 | _=>none
def gO (m:Bool) (t:Nat):TV El→Option (List (El t))
 | .ow m' t' xs=>if h:t'=t then (bif m==m' then some (h ▸ xs) else none) else none
 | _=>none
theorem z30 {k:IntKind} {v:TV T.El} {n:Int} {h:H} (hv:gI k v=some n):den T h v = .sc (.int k n):=by
 unfold gI at hv
 split at hv
 ·split at hv
  ·rename_i hk; cases hv; subst hk; rfl
  ·cases hv
 ·split at hv
  ·rename_i hk; cases hv; subst hk; rfl
  ·cases hv
 ·cases hv
theorem y2y {v:TV T.El} {b:Bool} {h:H} (hv:gB v=some b):den T h v = .sc (.bool b):=by
 unfold gB at hv
 split at hv
 ·cases hv; rfl
 ·cases hv; rfl
 ·cases hv
theorem yb5 {v:TV T.El} {b:ByteArray} {h:H} (hv:gS v=some b):den T h v = .sc (.string b):=by
 unfold gS at hv
 split at hv
 ·cases hv; rfl
 ·cases hv
theorem zel {t:Nat} {v:TV T.El} {xs:List (T.El t)} {h:H} (hv:gM t v=some xs):den T h v = .im (T.sz t) (xs.map (T.ca false t)):=by
 unfold gM at hv
 split at hv
 ·split at hv
  ·rename_i hk; subst hk; cases hv; rfl
  ·cases hv
 ·cases hv
theorem zem {m:Bool} {t:Nat} {v:TV T.El} {xs:List (T.El t)} {h:H} (hv:gO m t v=some xs):den T h v = .ow (T.sz t) (xs.map (T.ca m t)):=by
 unfold gO at hv
 split at hv
 ·split at hv
  ·rename_i m' _ _ hk
   subst hk
   cases hm:m==m' with
   | false=>rw [hm] at hv; cases hv
   | true =>
    rw [hm] at hv
    cases hv
    have:m=m':=by simpa using hm
    subst this; rfl
  ·cases hv
 ·cases hv
theorem z4h {l:List AV} (h:l.all (fun a=>!isZ a)=true):∀ a ∈ l,isZ a=false:=fun a ha=>by
 have:=List.all_eq_true.1 h a ha
 simpa using this
end
end Loom
namespace Loom
attribute [local instance] Dfs.none
open Go
section
variable {P:Program} {N:Nat}
end
theorem zop {I:Nat→Prop} {σ:Pl} {B:zj} {k:Nat} {p:Path} {i:Nat}:∀ (x:List Value) (c:Nat) (cs:List Value),CeC I σ B k p i c (x.map .sc) cs→cs=x∧∀ u ∈ x,u.oneCell'=true
 | [],_,_,h=>⟨h,fun _ h=>nomatch h⟩
 | u::x,c,cs,h=>by
  obtain ⟨v,cs',rfl,⟨rfl,h1⟩,h2⟩:=h
  obtain ⟨rfl,h3⟩:=zop x (c+1) cs' h2
  refine ⟨rfl,fun u hu=>?_⟩
  rcases List.mem_cons.1 hu with rfl | hu
  ·exact h1
  ·exact h3 u hu
theorem zln {I:Nat→Prop} {σ:Pl} {B:zj} {k:Nat} {p:Path} {i:Nat}:∀ (x:List Value) (c:Nat),(∀ u ∈ x,u.oneCell'=true)→CeC I σ B k p i c (x.map .sc) x
 | [],_,_=>rfl
 | u::x,c,h=>⟨u,x,rfl,⟨rfl,h u (by simp)⟩,zln x (c+1) fun v hv=>h v (by simp [hv])⟩
theorem zp4 {σ:Pl} {k:Nat} {p:Path} {i:Nat}:∀ (x:List Value) (c:Nat),fpC σ k p i c (x.map .sc)=[]
 | [],_=>rfl
 | u::x,c=>by simp only [List.map_cons,fpC,fpA,zp4 x (c+1),List.append_nil]
theorem zoq {I:Nat→Prop} {σ:Pl} {B:zj} {k:Nat} {p:Path}:∀ (x:List Value) (i:Nat) (cs:List Value),CeE I σ B k p i 1 (x.map fun u=>[AV.sc u]) cs→cs.take x.length=x
 | [],_,_,_=>rfl
 | u::x,i,cs,h=>by
  obtain ⟨_,h1,h2⟩:=h
  obtain ⟨v,cs',h3,⟨rfl,_⟩,h4⟩:=h1
  have h5:=zoq x (i+1) _ h2
  cases cs with
  | nil=>simp at h3
  | cons w cs =>
   simp only [List.take_succ_cons,List.cons.injEq] at h3
   obtain ⟨rfl,_⟩:=h3
   simp only [List.length_cons,List.take_succ_cons,List.cons.injEq,true_and]
   simpa using h5
theorem CallG.fields {P:Program} {f:Nat} {x:List Value} {cs:List Nat}
  (hc:∀ b,CallG P f [.pp (.xp b x 0)] [] (.sl 100000 [] 0 cs.length) [(100000,⟨1,cs.map fun c=>[.sc (.pointer (some ⟨b,c,none⟩))]⟩)]) :
  CallG P f [.pt 200000 [] 0 0] [(200000,⟨x.length,[x.map .sc]⟩)] (.pp (.fs 200000 cs)) [(200000,⟨x.length,[x.map .sc]⟩)]:=by
 intro I σ w vs hh hv
 obtain ⟨v,vs',rfl,⟨L,hL,rfl⟩,rfl⟩:=hv
 have hrow:zq I σ (bl w) 200000 ⟨x.length,[x.map .sc]⟩:=hh.ok.1
 have hrow0:=hrow
 unfold zq at hrow
 rw [hL] at hrow
 obtain ⟨hs,hcap,cur,E,hB,hsz,hE⟩:=hrow
 obtain ⟨_,hE1,_⟩:=hE
 obtain ⟨hx1,hx2⟩:=zop _ _ _ hE1
 have hfp:fpH σ [(200000,⟨x.length,[x.map .sc]⟩)]=[L.b]:=by
  simp only [fpH,fpR,hL,fpE,zp4,List.append_nil]
 have hLb:=hh.apart L.b (by rw [hfp]; simp)
 have hhi:HRel (fun b=>I b∨b=L.b) σ [] w:=⟨trivial,List.nodup_nil,List.nodup_nil,fun b h=>(nomatch h),fun b h=>by
  rcases h with h | rfl
  ·exact hh.low b h
  ·exact hLb.2⟩
 rw [show 0 * L.s+0=0 by omega]
 refine (hc L.b _ σ w [.pointer (some ⟨L.b,0,none⟩)] hhi ⟨_,[],rfl,⟨rfl,.inr rfl,cur,E.t,E.fr,hB,hx1,hx2⟩,rfl⟩).mono ?_
 rintro en w' ⟨v,σ',I',rfl,h1,h2,h3,h4,_,h6,h7,h8⟩
 have hsame:bl w' L.b=bl w L.b:=h7 _ hLb.2 (fun h=>nomatch h)
 have hnf:∀ b ∈ fpH σ' [(100000,⟨1,cs.map fun c=>[AV.sc (.pointer (some ⟨L.b,c,none⟩))]⟩)],w.heap.size≤b:=fun b hb=>by
  rcases h8 b hb with h | h
  ·cases h
  ·exact h
 have hI2:∀ b,I' b→I b∨b=L.b∨w.heap.size≤b:=fun b hb=>by
  rcases h2 b hb with (h | h) | h | h
  ·exact .inl h
  ·exact .inr (.inl h)
  ·cases h
  ·exact .inr (.inr h)
 refine ⟨v,σ,fun b=>(I' b∧b ≠ L.b)∨b ∈ fpH σ' [(100000,⟨1,cs.map fun c=>[AV.sc (.pointer (some ⟨L.b,c,none⟩))]⟩)],rfl,fun b hb=>.inl ⟨h1 b (.inl hb),fun e=>hLb.1 (e ▸ hb)⟩,fun b hb=>?_,⟨?_,hh.keys,hh.nodup,fun b hb=>?_,fun b hb=>?_⟩,?_,fun _ _=>rfl,h6,fun b hb hn=>h7 b hb (fun h=>nomatch h),fun b hb=>.inl hb⟩
 ·rcases hb with ⟨hb,hne⟩ | hb
  ·rcases hI2 b hb with h | h | h
   ·exact .inl h
   ·exact absurd h hne
   ·exact .inr (.inr h)
  ·exact .inr (.inr (hnf b hb))
 ·refine ⟨?_,trivial⟩
  unfold zq
  rw [hL]
  refine ⟨hs,hcap,cur,E,hsame.trans hB,hsz,?_,?_,trivial⟩
  ·simp
  ·dsimp only
   rw [hx1]
   exact zln x 0 hx2
 ·rw [hfp] at hb
  have hb:b=L.b:=by simpa using hb
  subst hb
  refine ⟨fun h=>?_,Nat.lt_of_lt_of_le hLb.2 h6.size⟩
  rcases h with ⟨_,h⟩ | h
  ·exact h rfl
  ·exact absurd (hnf _ h) (by have:=hLb.2; omega)
 ·rcases hb with ⟨hb,_⟩ | hb
  ·exact h3.low b hb
  ·exact (h3.apart b hb).2
 ·refine ⟨L,?_⟩
  have hr:=h3.ok.1
  unfold zq at hr
  simp only [Va] at h4
  cases hσ:σ' 100000 [] with
  | none =>
   rw [hσ] at h4 hr
   obtain ⟨h5,_,a,rfl⟩:=h4
   simp only [List.map_eq_nil_iff] at hr
   subst hr
   exact ⟨a,0,hL,rfl,Nat.le_refl _,fun h=>absurd rfl h⟩
  | some L' =>
   rw [hσ] at h4 hr
   obtain ⟨a,c,rfl,h5,h9,ha⟩:=h4
   obtain ⟨s1,s2,cur',E',s3,s4,s5⟩:=hr
   refine ⟨some a,c,hL,rfl,h9,fun hne=>?_⟩
   have:=ha (by simp)
   subst this
   refine ⟨_,cur',E'.t,E'.fr,rfl,rfl,.inr ?_,s3,?_⟩
   ·simp only [fpH,fpR,hσ,List.mem_append,List.mem_cons]
    exact .inl (.inl trivial)
   ·have:=zoq (cs.map fun c=>Value.pointer (some ⟨L.b,c,none⟩)) 0 cur'.toList (by rw [List.map_map]; exact s5)
    simp only [Nat.zero_mul,List.drop_zero]
    rw [List.length_map] at this
    exact this
theorem CallG.fields' {P:Program} {f:Nat} {x:List Value} {cs:List Nat}
  (hc:∀ b,CallG P f [.pp (.xp b x 0)] [] (.sl 100000 [] 0 ((cs.map fun c=>(⟨b,c,none⟩:Addr)).map fun a=>[AV.sc (.pointer (some a))]).length) [(100000,⟨1,(cs.map fun c=>(⟨b,c,none⟩:Addr)).map fun a=>[AV.sc (.pointer (some a))]⟩)]) :
  CallG P f [.pt 200000 [] 0 0] [(200000,⟨x.length,[x.map .sc]⟩)] (.pp (.fs 200000 cs)) [(200000,⟨x.length,[x.map .sc]⟩)] :=
 CallG.fields fun b=>by
  have:=hc b
  rw [List.length_map,List.length_map,List.map_map] at this
  exact this
def gP {El:Nat→Type}:TV El→Option Addr
 | .sc (.pointer (some a))=>some a
 | _=>none
theorem yb4 {T:TT0} {v:TV T.El} {a:Addr} {h:H} (hv:gP v=some a):den T h v = .sc (.pointer (some a)):=by
 unfold gP at hv
 split at hv
 ·cases hv; rfl
 ·cases hv
end Loom
