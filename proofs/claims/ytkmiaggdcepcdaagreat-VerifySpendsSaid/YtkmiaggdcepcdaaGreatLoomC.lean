/- Loom,an abstract machine over the kit's calculus: rows,z19,stores,calls,regions,what they owe; and its evaluator (part 3 of 3). -/
import Derived.Test.YtkmiaggdcepcdaaGreatLoomB
set_option linter.unusedVariables false
set_option linter.unusedSimpArgs false
namespace Loom
open Go
section
variable {T:TT}
theorem za6 {h:H} {x v:VT T} (hg:(nnT x).gives v):nn (den T.toTT0 h x)=some (den T.toTT0 h v):=by
 cases x <;> first | exact hg.elim | (cases hg; rfl) | (cases hg; simp [den,nn])
theorem zv {X:Type} {b:Bool} {x:Rs X} {v:X} (hg:(bif b then x else .no).gives v):b=true∧x.gives v:=by
 cases b
 ·exact hg.elim
 ·exact ⟨rfl,hg⟩
theorem z8u {X:Type} {p:Prop} [Decidable p] {x:Rs X} {v:X} (hg:(if p then x else .no).gives v):p∧x.gives v:=by
 split at hg
 ·exact ⟨by assumption,hg⟩
 ·exact hg.elim
theorem z8d {kn:Bool} {u:Value} {v:VT T} (h:H) (hg:(scR (T:=T) kn (some u)).gives v):den T.toTT0 h v = .sc u:=by
 obtain ⟨u',h1,h2⟩:=zfn h hg
 cases h1; exact h2
theorem zvj {h:H} {e:TE T.toTT0} {o:Option Operand} {r:Option Int} (ho:z4r o e=some r):loV (o.map (ev (denE T.toTT0 h e)))=some (r.getD 0):=by
 unfold z4r at ho
 cases o with
 | none=>cases ho; rfl
 | some x =>
  simp only at ho
  split at ho
  ·rename_i n hn
   cases ho
   simp only [Option.map_some,loV,zg,zhk hn,Option.getD_some]
  ·cases ho
theorem zvi {h:H} {e:TE T.toTT0} {o:Option Operand} {r:Option Int} {len:Nat} (ho:z4r o e=some r):hiV len (o.map (ev (denE T.toTT0 h e)))=some (r.getD len):=by
 unfold z4r at ho
 cases o with
 | none=>cases ho; rfl
 | some x =>
  simp only at ho
  split at ho
  ·rename_i n hn
   cases ho
   simp only [Option.map_some,hiV,zg,zhk hn,Option.getD_some]
  ·cases ho
theorem zcv {h:H} {e:TE T.toTT0} {len:Nat} {lo hi:Option Operand} {a b:Option Int} {K:Nat→Nat→RT T} {whole:RT T} {v:VT T} (ha:z4r lo e=some a) (hb:z4r hi e=some b) (hg:(cutT len a b K whole).gives v) :
  ∃ l m:Nat,z43 len (lo.map (ev (denE T.toTT0 h e))) (hi.map (ev (denE T.toTT0 h e)))=some (l,m)∧l≤m∧m≤len∧((K l m).gives v∨(l=0∧m=len∧whole.gives v)):=by
 have h1:=zvj (h:=h) ha
 have h2:=zvi (h:=h) (len:=len) hb
 unfold cutT at hg
 split at hg
 ·refine ⟨0,len,by simpa using z6p h1 h2 (by simp),Nat.zero_le _,Nat.le_refl _,.inr ⟨rfl,rfl,hg⟩⟩
 ·obtain ⟨hc,hg⟩:=hg
  exact ⟨_,_,by simpa using z6p h1 h2 (by simp; omega),Nat.zero_le _,by omega,.inl hg⟩
 ·obtain ⟨hc,hg⟩:=hg
  exact ⟨_,_,by simpa using z6p h1 h2 (by simp; omega),by omega,Nat.le_refl _,.inl hg⟩
 ·obtain ⟨hc,hg⟩:=hg
  exact ⟨_,_,by simpa using z6p h1 h2 (by simp; omega),by omega,by omega,.inl hg⟩
theorem zww {α β:Type} (f:α→β) (xs:List α) (a b:Nat):(part xs a b).map f=((xs.map f).take b).drop a:=by simp [part,List.map_drop,List.map_take]
theorem zlk {e:TE T.toTT0} {h:TH T.toTT0} {b:IB} {v:VT T} (hg:(rdT e h b).gives v) :
  ∃ av,rdop (ev (denE T.toTT0 (denH T.toTT0 h) e)) (res (denH T.toTT0 h)) b=some av∧AVle av (den T.toTT0 (denH T.toTT0 h) v):=by
 have fin:∀ {o:Option AV} {w:VT T},o=some (den T.toTT0 (denH T.toTT0 h) w)→∃ av,o=some av∧AVle av (den T.toTT0 (denH T.toTT0 h) w):=fun ho=>⟨_,ho,AVle.refl _⟩
 have sc:∀ {o:Option AV} {w:VT T} {u:Value},o=some (.sc u)→den T.toTT0 (denH T.toTT0 h) w = .sc u→∃ av,o=some av∧AVle av (den T.toTT0 (denH T.toTT0 h) w):=fun ho hw=>⟨_,ho,by rw [hw]; exact AVle.refl _⟩
 cases b with
 | mov x=>exact fin (by simp only [rdop,zg]; exact za6 hg)
 | pick c a b =>
  simp only [rdT] at hg
  split at hg
  ·rename_i hc
   exact fin (by simp only [rdop,zg,hc,den,if_true]; exact za6 hg)
  ·rename_i hc
   exact fin (by simp only [rdop,zg,hc,den,Bool.false_eq_true,if_false]; exact za6 hg)
  ·rename_i t hc
   rcases hg with ⟨rfl,hg⟩ | ⟨rfl,hg⟩
   ·exact fin (by simp only [rdop,zg,hc,den,if_true]; exact za6 hg)
   ·exact fin (by simp only [rdop,zg,hc,den,Bool.false_eq_true,if_false]; exact za6 hg)
  ·exact hg.elim
 | bin op x y =>
  simp only [rdT] at hg
  split at hg
  ·rename_i a b ha hb
   have key:∃ u,sbin op a b=some u∧den T.toTT0 (denH T.toTT0 h) v = .sc u:=by
    cases hk:z3d (evT e y) with
    | true=>rw [hk,cond_true] at hg; exact zfn _ hg
    | false=>rw [hk,cond_false] at hg; exact y03 _ hg
   obtain ⟨u,h1,h2⟩:=key
   exact sc (by simp only [rdop,zg,z2w ha,z2w hb,h1]) h2
  ·exact hg.elim
 | beq neg x y =>
  simp only [rdT] at hg
  split at hg
  ·rename_i a b ha hb
   exact sc (by simp only [rdop,zg,z2w ha,z2w hb]) (z8d _ hg)
  ·exact hg.elim
 | eqs neg n plan x y =>
  simp only [rdT] at hg
  split at hg
  ·rename_i xs ys hx hy
   obtain ⟨h1,hg⟩:=zv hg
   simp only [Bool.and_eq_true] at h1
   split at hg
   ·rename_i r hr
    cases hg
    exact fin (by
     simp only [rdop,zg,hx,hy,den,z2t]
     rw [if_pos ⟨Nat.eq_of_beq_eq_true h1.1,Nat.eq_of_beq_eq_true h1.2⟩,zdk _ _ hr])
   ·exact hg.elim
  ·exact hg.elim
 | un1 op x =>
  simp only [rdT] at hg
  split at hg
  ·rename_i b hb
   exact sc (by simp only [rdop,zg,z2w hb]) (z8d _ hg)
  ·rename_i k n hb
   exact sc (by simp only [rdop,zg,z2w hb]) (z8d _ hg)
  ·exact hg.elim
 | cvt k x =>
  simp only [rdT] at hg
  split at hg
  ·rename_i k' n hb
   exact sc (by simp only [rdop,zg,z2w hb]) (z8d _ hg)
  ·exact hg.elim
 | fad off x =>
  simp only [rdT] at hg
  split at hg
  ·rename_i k p i c hx
   cases hg
   exact fin (by simp only [rdop,zg,hx,den])
  ·rename_i s cs c hx
   cases hg
   exact fin (by simp only [rdop,zg,hx,den])
  ·exact hg.elim
 | iad s x i =>
  simp only [rdT] at hg
  split at hg
  ·exact hg.elim
  ·rename_i n hn
   obtain ⟨kk,hi⟩:=z54 (h:=denH T.toTT0 h) hn
   split at hg
   ·rename_i t xs hx
    obtain ⟨hs,hg⟩:=zv hg
    obtain ⟨y,hy,hg⟩:=hg
    cases hg
    obtain ⟨h0,h1,h2⟩:=zb3 hy
    have hlt:n<((xs.map (T.ca false t)).length:Int):=by rw [List.length_map]; omega
    refine ⟨.ip s (xs.map (T.ca false t)) n.toNat 0,?_,?_⟩
    ·simp only [rdop,zg,hx,hi,den]
     rw [if_pos ⟨Nat.eq_of_beq_eq_true hs,h0,hlt⟩]
    ·have:den T.toTT0 (denH T.toTT0 h) (.ip s (T.ct false t y) 0) = .ip s [T.ca false t y] 0 0:=by simp only [den,T.ct_ok]
     rw [this]
     exact AVle.ip (by rw [List.getElem?_map,h2]; rfl)
   ·rename_i k p hx
    obtain ⟨r',hr,hg⟩:=z4n hg
    have hl:zd (denH T.toTT0 h) k p=(denR T.toTT0 r').xs.length:=by unfold zd; rw [hr]
    have key:∀ (s':Nat) (len:Nat),(denR T.toTT0 r').s=s'→(denR T.toTT0 r').xs.length=len→s'=s→0≤n∧n<(len:Int)→∃ av,rdop (ev (denE T.toTT0 (denH T.toTT0 h) e)) (res (denH T.toTT0 h)) (.iad s x i)=some av∧AVle av (den T.toTT0 (denH T.toTT0 h) (.pt k p n.toNat 0)):=by
     intro s' len e1 e2 e3 e4
     refine fin ?_
     simp only [rdop,zg,hx,hi,den,hl,e2]
     rw [if_pos e4,hr]
     simp [e1,e3]
    split at hg
    ·rename_i s' xs
     obtain ⟨hs,hg⟩:=zv hg
     have:(0≤n∧n<(xs.length:Int))∧v = .pt k p n.toNat 0:=by
      cases hk:z3d (evT e i) with
      | true=>rw [hk] at hg; exact z8u hg
      | false=>rw [hk] at hg; exact hg
     obtain ⟨hc,rfl⟩:=this
     exact key s' xs.length rfl (by simp [denR]) (Nat.eq_of_beq_eq_true hs) hc
    ·rename_i m t xs
     obtain ⟨hs,hc,rfl⟩:=zv hg
     exact key _ xs.length rfl (by simp [denR]) (Nat.eq_of_beq_eq_true hs) hc
    ·rename_i m t xs _ _
     obtain ⟨hs,hc,rfl⟩:=zv hg
     exact key _ xs.length rfl (by simp [denR]) (Nat.eq_of_beq_eq_true hs) hc
   ·rename_i k p off len hx
    obtain ⟨r',hr,hg⟩:=z4n hg
    obtain ⟨hs,hc,rfl⟩:=zv hg
    refine fin ?_
    simp only [rdop,zg,hx,hi,den]
    rw [if_pos hc,hr]
    simp [Nat.eq_of_beq_eq_true hs]
   ·exact hg.elim
 | load agg n x =>
  simp only [rdT] at hg
  split at hg
  ·rename_i k p i c hx
   obtain ⟨r',hr,hg⟩:=z4n hg
   refine fin ?_
   simp only [rdop,zg,hx,den,hr]
   split at hg
   ·rename_i s xs
    split at hg
    ·rename_i cs hcs
     exact zb8 (T:=T) hr (by simp [denR,hcs]) hg
    ·exact hg.elim
   ·rename_i m t xs
    obtain ⟨y,hy,hg⟩:=hg
    exact zb8 (T:=T) hr (by simp [denR,hy,T.ct_ok]) hg
   ·rename_i m t xs j cs
    obtain ⟨⟨rfl,hj⟩,hg⟩:=hg
    exact zb8 (T:=T) hr (by simp only [denR]; rw [List.getElem?_set_self (by simpa using hj)]) hg
  ·rename_i s cs c hx
   obtain ⟨hi,hg⟩:=zv hg
   split at hg
   ·rename_i ds hd
    obtain ⟨hid,hg⟩:=zv hg
    obtain ⟨q1,q2⟩:=z99 (h:=[]) hd
    refine fin ?_
    simp only [rdop,zg,hx,den,z4g,List.getElem?_cons_zero]
    rw [if_pos q1,q2]
    have:=z7k (h:=denH T.toTT0 h) hg
    rwa [zmc (denH T.toTT0 h) [] ds hid] at this
   ·exact hg.elim
  ·exact hg.elim
 | fld agg off n x =>
  simp only [rdT] at hg
  split at hg
  ·rename_i cs hx
   split at hg
   ·rename_i ds hd
    obtain ⟨q1,q2⟩:=z99 (h:=denH T.toTT0 h) hd
    refine fin ?_
    simp only [rdop,zg,hx,den]
    rw [if_pos q1,q2]
    exact z7k hg
   ·exact hg.elim
  ·exact hg.elim
 | aad len n x i =>
  simp only [rdT] at hg
  split at hg
  ·rename_i k p o c m hx hm
   obtain ⟨kk,hi⟩:=z54 (h:=denH T.toTT0 h) hm
   have nth:∀ (j:Nat),m=(j:Int)→m<len→v = .pt k p o (c+j * n)→∃ av,rdop (ev (denE T.toTT0 (denH T.toTT0 h) e)) (res (denH T.toTT0 h)) (.aad len n x i)=some av∧AVle av (den T.toTT0 (denH T.toTT0 h) v):=by
    clear hg
    intro j hj hlt hg
    subst hj hg
    refine fin ?_
    simp only [rdop,zg,hx,hi,den]
    rw [if_pos ⟨by omega,hlt⟩]
    simp only [Int.toNat_natCast]
   cases hk:z3d (evT e i) with
   | true =>
    rw [hk] at hg
    obtain ⟨hc,hg⟩:=z8u hg
    exact nth m.toNat (by omega) (by omega) hg
   | false =>
    rw [hk] at hg
    obtain ⟨j,_,q2,q3,q4⟩:=zdr _ _ hg
    exact nth j q3 (by omega) q4
  ·exact hg.elim
 | ida agg len n x i =>
  simp only [rdT] at hg
  split at hg
  ·rename_i cs m hx hm
   obtain ⟨kk,hi⟩:=z54 (h:=denH T.toTT0 h) hm
   have nth:∀ (j:Nat),m=(j:Int)→m<len→(nthT agg n cs j).gives v→∃ av,rdop (ev (denE T.toTT0 (denH T.toTT0 h) e)) (res (denH T.toTT0 h)) (.ida agg len n x i)=some av∧AVle av (den T.toTT0 (denH T.toTT0 h) v):=by
    clear hg
    intro j hj hlt hg
    subst hj
    unfold nthT at hg
    split at hg
    ·rename_i ds hd
     obtain ⟨q1,q2⟩:=z99 (h:=denH T.toTT0 h) hd
     refine fin ?_
     simp only [rdop,zg,hx,hi,den]
     rw [if_pos ⟨by omega,hlt,by simpa using q1⟩]
     simp only [Int.toNat_natCast,q2]
     exact z7k hg
    ·exact hg.elim
   unfold idaT at hg
   cases hk:z3d (evT e i) with
   | true =>
    rw [hk] at hg
    obtain ⟨hc,hg⟩:=z8u hg
    exact nth m.toNat (by omega) (by omega) hg
   | false =>
    rw [hk] at hg
    simp only [cond_false] at hg
    split at hg
    ·rename_i k ns hns
     obtain ⟨hl,y,hy,rfl⟩:=zv hg
     have hl:=Nat.eq_of_beq_eq_true hl
     obtain ⟨h0,h1,h2⟩:=zb3 hy
     refine fin ?_
     have hcs:=zhl (h:=denH T.toTT0 h) cs k ns hns
     simp only [rdop,zg,hx,hi,den,hcs,Nat.mul_one,List.length_map]
     rw [if_pos ⟨h0,by omega,by omega⟩]
     have:(((ns.map fun n=>AV.sc (.int k n)).drop m.toNat).take 1)=[.sc (.int k y)]:=by
      rw [List.take_one]
      simp [List.head?_drop,h2]
     rw [this]
     rfl
    ·obtain ⟨j,_,q2,q3,q4⟩:=zdr _ _ hg
     exact nth j q3 (by omega) q4
  ·exact hg.elim
 | ids x i =>
  simp only [rdT] at hg
  split at hg
  ·rename_i s m hx hm
   obtain ⟨kk,hi⟩:=z54 (h:=denH T.toTT0 h) hm
   obtain ⟨hc,rfl⟩:=hg
   exact fin (by simp only [rdop,zg,hx,hi,den,za]; rw [if_pos hc])
  ·exact hg.elim
 | len x =>
  simp only [rdT] at hg
  split at hg
  ·rename_i k p off len hx
   cases hg
   exact fin (by simp only [rdop,zg,hx,den])
  ·rename_i k p hx
   obtain ⟨r',hr,hg⟩:=z4n hg
   have hl:zd (denH T.toTT0 h) k p=(denR T.toTT0 r').xs.length:=by unfold zd; rw [hr]
   split at hg <;> (cases hg; exact fin (by simp [rdop,zg,hx,den,hl,denR]))
  ·rename_i t xs hx
   cases hg
   exact fin (by simp [rdop,zg,hx,den])
  ·rename_i hx
   cases hg
   exact fin (by simp only [rdop,zg,hx,den])
  ·exact hg.elim
 | lens x =>
  simp only [rdT] at hg
  split at hg
  ·rename_i s hx
   cases hg
   exact fin (by simp only [rdop,zg,hx,den])
  ·exact hg.elim
 | ext n x =>
  simp only [rdT] at hg
  split at hg
  ·rename_i vs hx
   split at hg
   ·rename_i a ha
    exact fin (by simp only [rdop,zg,hx,den,z2p,ha,Option.map_some]; exact za6 hg)
   ·exact hg.elim
  ·exact hg.elim
 | nchk x =>
  simp only [rdT] at hg
  split at hg
  all_goals first
   | (rename_i hx; cases hg; exact fin (by simp only [rdop,zg,hx,den]))
   | exact hg.elim
 | slc s x lo hi =>
  simp only [rdT] at hg
  split at hg
  ·rename_i a b ha hb
   have slice:∀ (k:Nat) (p:Path) (off len:Nat) (r':TR T.El) (v1:VT T),den T.toTT0 (denH T.toTT0 h) (evT e x) = .sl k p off len→res (denH T.toTT0 h) k p=some ((denR T.toTT0 r').s,(denR T.toTT0 r').xs)→(denR T.toTT0 r').s=s →
     (cutT len a b (fun a b=>.ok (.sl k p (off+a) (b - a))) (.ok v1)).gives v→den T.toTT0 (denH T.toTT0 h) v1 = .sl k p off len→∃ av,rdop (ev (denE T.toTT0 (denH T.toTT0 h) e)) (res (denH T.toTT0 h)) (.slc s x lo hi)=some av∧AVle av (den T.toTT0 (denH T.toTT0 h) v):=by
    intro k p off len r' v1 hx hr hs hg h1
    obtain ⟨l,m,q1,q2,q3,q4⟩:=zcv (h:=denH T.toTT0 h) ha hb hg
    have:rdop (ev (denE T.toTT0 (denH T.toTT0 h) e)) (res (denH T.toTT0 h)) (.slc s x lo hi)=some (.sl k p (off+l) (m - l)):=by
     simp only [rdop,zg,hx,hr,hs,if_true,q1]
    rcases q4 with hv | ⟨rfl,rfl,hv⟩
    ·cases hv; exact ⟨_,this,AVle.refl _⟩
    ·cases hv
     exact ⟨_,this,by rw [h1,Nat.add_zero,Nat.sub_zero]; exact AVle.refl _⟩
   split at hg
   ·rename_i k p off len hx
    obtain ⟨r',hr,hg⟩:=z4n hg
    obtain ⟨hs,hg⟩:=zv hg
    exact slice k p off len r' (.sl k p off len) (by rw [hx]; rfl) hr (Nat.eq_of_beq_eq_true hs) hg rfl
   ·rename_i k p hx
    obtain ⟨r',hr,hg⟩:=z4n hg
    have hl:zd (denH T.toTT0 h) k p=(denR T.toTT0 r').xs.length:=by unfold zd; rw [hr]
    have cut0:∀ {len:Nat} {w:RT T},(cutT len a b (fun a b=>.ok (.sl k p a (b - a))) w).gives v→(cutT len a b (fun a b=>.ok (.sl k p (0+a) (b - a))) w).gives v:=fun hg=>by
     simpa only [Nat.zero_add] using hg
    split at hg
    all_goals
     obtain ⟨hs,hg⟩:=zv hg
     exact slice k p 0 _ _ (.sw k p) (by rw [hx]; simp only [den,hl]; rfl) hr (Nat.eq_of_beq_eq_true hs) (by simpa [denR] using cut0 hg) (by simp only [den,hl])
   ·rename_i t xs hx
    obtain ⟨hs,hg⟩:=zv hg
    obtain ⟨l,m,q1,q2,q3,q4⟩:=zcv (h:=denH T.toTT0 h) ha hb hg
    have:rdop (ev (denE T.toTT0 (denH T.toTT0 h) e)) (res (denH T.toTT0 h)) (.slc s x lo hi)=some (.im s (((xs.map (T.ca false t)).take m).drop l)):=by
     simp only [rdop,zg,hx,den,Nat.eq_of_beq_eq_true hs,if_true,List.length_map,q1]
    refine ⟨_,this,?_⟩
    rcases q4 with hv | ⟨rfl,rfl,hv⟩
    ·cases hv
     simp only [den,zww,Nat.eq_of_beq_eq_true hs]; exact AVle.refl _
    ·cases hv
     simp only [den,Nat.eq_of_beq_eq_true hs,List.drop_zero]
     rw [List.take_of_length_le (by simp)]; exact AVle.refl _
   ·rename_i hx
    obtain ⟨l,m,q1,q2,q3,q4⟩:=zcv (h:=denH T.toTT0 h) ha hb hg
    have:v = .zs:=by
     rcases q4 with hv | ⟨_,_,hv⟩ <;> exact hv
    subst this
    exact fin (by simp only [rdop,zg,hx,den,q1])
   ·exact hg.elim
  ·exact hg.elim
 | slc0 x =>
  simp only [rdT] at hg
  split at hg
  all_goals first
   | (rename_i hx; cases hg; exact fin (by simp only [rdop,zg,hx,den]))
   | exact hg.elim
 | sls x lo hi =>
  simp only [rdT] at hg
  split at hg
  ·rename_i a b s ha hb hx
   obtain ⟨l,m,q1,q2,q3,q4⟩:=zcv (h:=denH T.toTT0 h) ha hb hg
   have:rdop (ev (denE T.toTT0 (denH T.toTT0 h) e)) (res (denH T.toTT0 h)) (.sls x lo hi)=some (.sc (.string (s.extract l m))):=by
    simp only [rdop,zg,hx,den,q1]
   refine ⟨_,this,?_⟩
   rcases q4 with hv | ⟨rfl,rfl,hv⟩
   ·cases hv; exact AVle.refl _
   ·cases hv
    have:s.extract 0 s.size=s:=by simp
    rw [this]; exact AVle.refl _
  ·exact hg.elim
 | build zero parts =>
  simp only [rdT] at hg
  split at hg
  ·rename_i cs hcs
   cases hg
   have:=zat (h:=denH T.toTT0 h) _ _ _ hcs
   rw [z6s,List.map_map] at this
   refine fin ?_
   simp only [rdop,den]
   have e1:(parts.map fun (o,n,x)=>(o,n,ev (denE T.toTT0 (denH T.toTT0 h) e) x))=parts.map ((fun (o,n,x)=>(o,n,den T.toTT0 (denH T.toTT0 h) x)) ∘ fun (o,n,x)=>(o,n,evT e x)) :=
    List.map_congr_left fun ⟨o,n,x⟩ _=>by simp only [Function.comp,zg]
   rw [e1,this]
  ·exact hg.elim
 | mkf f caps =>
  simp only [rdT] at hg
  obtain ⟨hc,hg⟩:=zv hg
  cases hg
  refine fin ?_
  simp only [rdop,den]
  rw [if_pos,z11,List.map_map]
  ·congr 2
   exact List.map_congr_left fun x _=>zg x
  ·rw [List.all_eq_true] at hc ⊢
   intro x hx
   have:=hc x hx
   rw [zg]
   cases hv:evT e x <;> rw [hv] at this <;> simp_all [den,nn]
 | mm isMax x y =>
  simp only [rdT] at hg
  split at hg
  ·rename_i k a k' b ha hb
   obtain ⟨hk,hg⟩:=z8u hg
   exact sc (by simp only [rdop,zg,z2w ha,z2w hb]; rw [if_pos hk]) (z8d _ hg)
  ·exact hg.elim
 | box _ _=>exact hg.elim
 | bsl _ _ _ _=>exact hg.elim
 | mks _ _ _ _=>exact hg.elim
 | app _ _ _ _=>exact hg.elim
 | store _ _ _=>exact hg.elim
 | call _ _=>exact hg.elim
 | callv _ _=>exact hg.elim
end
section
variable {T:TT}
theorem AVle.ag {l l':List AV} (h:∀ (I:Nat→Prop) (σ:Pl) (B:zm) (v:List Value),VaC I σ B l v→VaC I σ B l' v):AVle (.ag l) (.ag l'):=fun I σ B v ⟨a,h1,h2⟩=>⟨a,h1,h I σ B _ h2⟩
theorem AVle.tu {l l':List AV} (h:∀ (I:Nat→Prop) (σ:Pl) (B:zm) (v:List Value),VaL I σ B l v→VaL I σ B l' v):AVle (.tu l) (.tu l'):=fun I σ B v ⟨a,h1,h2⟩=>⟨a,h1,h I σ B _ h2⟩
theorem AVle.fn {f:Nat} {l l':List AV} (h:∀ (I:Nat→Prop) (σ:Pl) (B:zm) (v:List Value),VaL I σ B l v→VaL I σ B l' v):AVle (.fn f l) (.fn f l'):=fun I σ B v ⟨a,h1,h2⟩=>⟨a,h1,h I σ B _ h2⟩
inductive z4e:List AV→List AV→Prop
 | nil:z4e [] []
 | cons {a b:AV} {l l':List AV}:AVle a b→z4e l l'→z4e (a::l) (b::l')
theorem z4e.C {l l':List AV} (h:z4e l l'):∀ (I:Nat→Prop) (σ:Pl) (B:zm) (v:List Value),VaC I σ B l v→VaC I σ B l' v:=by
 induction h with
 | nil=>exact fun _ _ _ _ h=>h
 | cons h1 _ ih=>exact fun I σ B v ⟨u,cs,h2,h3,h4,h5⟩=>⟨u,cs,h2,h3,h1 I σ B u h4,ih I σ B cs h5⟩
theorem z4e.L {l l':List AV} (h:z4e l l'):∀ (I:Nat→Prop) (σ:Pl) (B:zm) (v:List Value),VaL I σ B l v→VaL I σ B l' v:=by
 induction h with
 | nil=>exact fun _ _ _ _ h=>h
 | cons h1 _ ih=>exact fun I σ B v ⟨u,cs,h2,h4,h5⟩=>⟨u,cs,h2,h1 I σ B u h4,ih I σ B cs h5⟩
theorem z18 {h h':H} {k:Nat} {p:Path} (hg:z6 h' k=z6 h k):zd h' k p=zd h k p:=by
 unfold zd res; rw [hg]
mutual
theorem z5f {H0 H1:H} {b1 bad bw:Nat→Path→Bool} (hb:∀ k p,b1 k p=true→bad k p=true) (hl:∀ k p,bad k p=false→bw k p=false→zd H1 k p=zd H0 k p):∀ (v:VT T),AVle (kill b1 (den T.toTT0 H0 v)) (den T.toTT0 H1 (z24 bad bw v))
 | .un | .sc _ | .ik _ _ | .bk _ | .zs | .im _ _ | .ip _ _ _ | .ow _ _ _ | .oo _ _ _ _ _=>AVle.refl _
 | .ag cs=>by simp only [den,kill,z24]; exact AVle.ag (zb7 hb hl cs).C
 | .tu cs=>by simp only [den,kill,z24]; exact AVle.tu (zb7 hb hl cs).L
 | .fn f cs=>by simp only [den,kill,z24]; exact AVle.fn (zb7 hb hl cs).L
 | .sl k p off len=>by
  simp only [den,kill,z24]
  cases h1:bad k p with
  | true=>simp only [cond_true,den]; exact AVle.un _
  | false =>
   have:b1 k p=false:=by cases h2:b1 k p with | false=>rfl | true=>rw [hb k p h2] at h1; cases h1
   simp only [this,Bool.false_eq_true,if_false,cond_false,den]; exact AVle.refl _
 | .pt k p i c=>by
  simp only [den,kill,z24]
  cases h1:bad k p with
  | true=>simp only [cond_true,den]; exact AVle.un _
  | false =>
   have:b1 k p=false:=by cases h2:b1 k p with | false=>rfl | true=>rw [hb k p h2] at h1; cases h1
   simp only [this,Bool.false_eq_true,if_false,cond_false,den]; exact AVle.refl _
 | .sw k p=>by
  simp only [den,kill,z24]
  cases h1:bad k p with
  | true=>simp only [Bool.true_or,cond_true,den]; exact AVle.un _
  | false =>
   have:b1 k p=false:=by cases h2:b1 k p with | false=>rfl | true=>rw [hb k p h2] at h1; cases h1
   simp only [this,Bool.false_eq_true,if_false,Bool.false_or]
   cases h3:bw k p with
   | true=>simp only [cond_true,den]; exact AVle.un _
   | false=>simp only [cond_false,den,hl k p h1 h3]; exact AVle.refl _
theorem zb7 {H0 H1:H} {b1 bad bw:Nat→Path→Bool} (hb:∀ k p,b1 k p=true→bad k p=true) (hl:∀ k p,bad k p=false→bw k p=false→zd H1 k p=zd H0 k p):∀ (l:List (VT T)),z4e (z23 b1 (denL T.toTT0 H0 l)) (denL T.toTT0 H1 (z5q bad bw l))
 | []=>.nil
 | x::l=>.cons (z5f hb hl x) (zb7 hb hl l)
end
theorem zie (a:AV):kill (fun _ _=>false) a=a:=by
 have key:(∀ a:AV,kill (fun _ _=>false) a=a)∧(∀ l:List AV,z23 (fun _ _=>false) l=l):=by
  constructor
  ·intro a
   induction a using AV.rec (motive_2:=fun l=>z23 (fun _ _=>false) l=l) (motive_3:=fun _=>True) with
   | un | sc _ | zs | im _ _ _ | ip _ _ _ _ _ | ow _ _ _=>rfl
   | ag cs ih=>simp only [kill,ih]
   | tu cs ih=>simp only [kill,ih]
   | sl k p off len=>simp [kill]
   | pt k p i c=>simp [kill]
   | fn f cs ih=>simp only [kill,ih]
   | nil=>rfl
   | cons a l h1 h2=>simp only [z23,h1,h2]
   | _=>trivial
  ·intro l
   induction l with
   | nil=>rfl
   | cons x l ih =>
    simp only [z23,ih]
    congr 1
    induction x using AV.rec (motive_2:=fun l=>z23 (fun _ _=>false) l=l) (motive_3:=fun _=>True) with
    | un | sc _ | zs | im _ _ _ | ip _ _ _ _ _ | ow _ _ _=>rfl
    | ag cs ih=>simp only [kill,ih]
    | tu cs ih=>simp only [kill,ih]
    | sl k p off len=>simp [kill]
    | pt k p i c=>simp [kill]
    | fn f cs ih=>simp only [kill,ih]
    | nil=>rfl
    | cons a l h1 h2=>simp only [z23,h1,h2]
    | _=>trivial
 exact key.1 a
structure StT (T:TT) where
 v:VT T
 bad:Nat→Path→Bool
 bw:Nat→Path→Bool
 tch:List Nat
 h:TH T.toTT0
def StOk (P:Program) (pro:List Nat) (T:TT) (e:TE T.toTT0) (h:TH T.toTT0) (x:Ins) (s:StT T):Prop :=
 (∀ (e':Env),(∀ t ∈ z2n x,e' t=denE T.toTT0 (denH T.toTT0 h) e t)→∃ e0 h0' e1 h1',z9 P pro e' (denH T.toTT0 h) e0 h0'∧(∀ t b,e' t=Bl b→e0 t=Bl b)∧z2g P pro e0 h0' x.dst x.op e1 h1'∧z9 P pro e1 h1' (upd (fun t=>kill s.bad (e' t)) x.dst (den T.toTT0 (denH T.toTT0 s.h) s.v)) (denH T.toTT0 s.h)) ∧
 (∀ k p,s.bad k p=false→s.bw k p=false→zd (denH T.toTT0 s.h) k p=zd (denH T.toTT0 h) k p) ∧
 (∀ k,s.tch.contains k=false→z6 (denH T.toTT0 s.h) k=z6 (denH T.toTT0 h) k)
def StT.env (s:StT T) (e:TE T.toTT0) (d:Nat):TE T.toTT0:=putE (z45 s.bad s.bw e) d s.v
theorem StT.env_ghost {P:Program} {pro:List Nat} {e:TE T.toTT0} {h:TH T.toTT0} {d:Nat} {s:StT T} (hl:∀ k p,s.bad k p=false→s.bw k p=false→zd (denH T.toTT0 s.h) k p=zd (denH T.toTT0 h) k p) :
  z9 P pro (upd (fun t=>kill s.bad (denE T.toTT0 (denH T.toTT0 h) e t)) d (den T.toTT0 (denH T.toTT0 s.h) s.v)) (denH T.toTT0 s.h) (denE T.toTT0 (denH T.toTT0 s.h) (s.env e d)) (denH T.toTT0 s.h):=by
 refine z9.le fun t=>?_
 rw [StT.env,z1d]
 refine AVle.upd (fun t=>?_) (AVle.refl _) t
 simp only [denE,z2a]
 exact z5f (fun _ _ h=>h) hl _
theorem z16 {k k':Nat} (hk:k' ≠ k):∀ (h:H),z6 (zb h k) k'=z6 h k'
 | []=>rfl
 | (k1,r)::h=>by
  simp only [zb,z6]
  by_cases e:k1=k
  ·subst e
   simp only [if_true]
   rw [if_neg (fun e=>hk e.symm)]
  ·rw [if_neg e]
   simp only [z6,z16 hk h]
def absT (h:TH T.toTT0) (g:List Nat):VT T→Option (VT T×List Nat×TH T.toTT0)
 | .sc u=>bif u.oneCell' then some (.sc u,g,h) else none
 | .ik k n=>some (.sc (.int k n),g,h)
 | .bk b=>some (.sc (.bool b),g,h)
 | .zs=>some (.zs,g,h)
 | .im t xs=>some (.im t xs,g,h)
 | .sw k []=>bif g.contains k then none else
  match getT h k with
  | some (.typ m t xs)=>some (.ow m t xs,k::g,delT h k)
  | some (.opn m t xs i cs)=>some (.oo m t xs i cs,k::g,delT h k)
  | _=>none
 | _=>none
def zej (h:TH T.toTT0) (g:List Nat):List (VT T)→Option (List (VT T)×List Nat×TH T.toTT0)
 | []=>some ([],g,h)
 | v::l =>
  match absT h g v with
  | some (v',g1,h1)=>match zej h1 g1 l with
   | some (l',g2,h2)=>some (v'::l',g2,h2)
   | none=>none
  | none=>none
def zag (h:TH T.toTT0) (g:List Nat):List (List (VT T))→Option (List (List (VT T))×List Nat×TH T.toTT0)
 | []=>some ([],g,h)
 | v::l =>
  match zej h g v with
  | some (v',g1,h1)=>match zag h1 g1 l with
   | some (l',g2,h2)=>some (v'::l',g2,h2)
   | none=>none
  | none=>none
structure Gone (H0:H) (h:TH T.toTT0) (g g':List Nat) (h':TH T.toTT0):Prop where
 sub:∀ k,g.contains k=true→g'.contains k=true
 same:∀ k,g'.contains k=false→z6 (denH T.toTT0 h') k=z6 H0 k
theorem y02 {H0:H} {h h':TH T.toTT0} {g g':List Nat} {v v':VT T} (hs:∀ k,g.contains k=false→z6 (denH T.toTT0 h) k=z6 H0 k) (ha:absT h g v=some (v',g',h')) :
  absC (denH T.toTT0 h) (den T.toTT0 H0 v)=some (den T.toTT0 [] v',denH T.toTT0 h')∧Gone (T:=T) H0 h g g' h':=by
 have triv:Gone (T:=T) H0 h g g h:=⟨fun _ h=>h,hs⟩
 unfold absT at ha
 split at ha
 ·rename_i u
  cases hu:u.oneCell' with
  | false=>rw [hu] at ha; cases ha
  | true=>rw [hu] at ha; cases ha; exact ⟨by simp [den,absC,hu],triv⟩
 ·cases ha; exact ⟨by simp [den,absC,Value.oneCell'],triv⟩
 ·cases ha; exact ⟨by simp [den,absC,Value.oneCell'],triv⟩
 ·cases ha; exact ⟨by simp [den,absC],triv⟩
 ·cases ha; exact ⟨by simp [den,absC],triv⟩
 ·rename_i k
  cases hc:g.contains k with
  | true=>rw [hc] at ha; cases ha
  | false =>
   rw [hc] at ha
   simp only [cond_false] at ha
   have row:∀ (r:TR T.El) (w:VT T),getT h k=some r→den T.toTT0 [] w = .ow (denR T.toTT0 r).s (denR T.toTT0 r).xs→absC (denH T.toTT0 h) (den T.toTT0 H0 (.sw k []))=some (den T.toTT0 [] w,denH T.toTT0 (delT h k))∧Gone (T:=T) H0 h g (k::g) (delT h k):=by
    intro r w hr hw
    have h1:z6 (denH T.toTT0 h) k=some (denR T.toTT0 r):=by rw [z1u,hr]; rfl
    have h2:zd H0 k []=(denR T.toTT0 r).xs.length:=by
     unfold zd res
     rw [← hs k hc,h1]
     rfl
    refine ⟨?_,?_,fun k' hk'=>?_⟩
    ·simp only [den,absC,h1,h2]
     rw [if_pos ⟨trivial,trivial⟩,if_pos (Nat.le_refl _),List.take_length,zx,hw]
    ·intro k' hk'; simp [hk']; exact .inr (by simpa using hk')
    ·simp only [List.contains_cons,Bool.or_eq_false_iff,beq_eq_false_iff_ne] at hk'
     rw [← zx,z16 hk'.1,hs k' hk'.2]
   split at ha
   ·rename_i m t xs hr
    cases ha
    exact row _ _ hr rfl
   ·rename_i m t xs i cs hr
    cases ha
    exact row _ _ hr rfl
   ·cases ha
 ·cases ha
theorem zdq {H0:H}:∀ (l l':List (VT T)) (h h':TH T.toTT0) (g g':List Nat),(∀ k,g.contains k=false→z6 (denH T.toTT0 h) k=z6 H0 k)→zej h g l=some (l',g',h') →
  absL (denH T.toTT0 h) (denL T.toTT0 H0 l)=some (denL T.toTT0 [] l',denH T.toTT0 h')∧Gone (T:=T) H0 h g g' h'
 | [],_,h,_,g,_,hs,ha=>by cases ha; exact ⟨rfl,fun _ h=>h,hs⟩
 | v::l,_,h,_,g,_,hs,ha=>by
  unfold zej at ha
  split at ha
  ·rename_i v' g1 h1 hv
   split at ha
   ·rename_i l' g2 h2 hl
    cases ha
    obtain ⟨q1,q2⟩:=y02 hs hv
    obtain ⟨q3,q4⟩:=zdq l l' h1 _ g1 _ q2.same hl
    exact ⟨by simp only [denL,absL,q1,q3],fun k hk=>q4.sub k (q2.sub k hk),q4.same⟩
   ·cases ha
  ·cases ha
theorem z7x {H0:H}:∀ (l l':List (List (VT T))) (h h':TH T.toTT0) (g g':List Nat),(∀ k,g.contains k=false→z6 (denH T.toTT0 h) k=z6 H0 k)→zag h g l=some (l',g',h') →
  absE (denH T.toTT0 h) (l.map (denL T.toTT0 H0))=some (l'.map (denL T.toTT0 []),denH T.toTT0 h')∧Gone (T:=T) H0 h g g' h'∧l'.length=l.length
 | [],_,h,_,g,_,hs,ha=>by cases ha; exact ⟨rfl,⟨fun _ h=>h,hs⟩,rfl⟩
 | v::l,_,h,_,g,_,hs,ha=>by
  unfold zag at ha
  split at ha
  ·rename_i v' g1 h1 hv
   split at ha
   ·rename_i l' g2 h2 hl
    cases ha
    obtain ⟨q1,q2⟩:=zdq _ _ _ _ _ _ hs hv
    obtain ⟨q3,q4,q5⟩:=z7x l l' h1 _ g1 _ q2.same hl
    exact ⟨by simp only [List.map_cons,absE,q1,q3],⟨fun k hk=>q4.sub k (q2.sub k hk),q4.same⟩,by simp [q5]⟩
   ·cases ha
  ·cases ha
theorem z7h {h:TH T.toTT0} {k:Nat}:∀ k',[k].contains k'=false→z6 (denH T.toTT0 (delT h k)) k'=z6 (denH T.toTT0 h) k':=fun k' hk=>by
 rw [← zx,z16]
 simpa using hk
end
def fix1 (o:Option AV):AV→AV
 | .zs=>o.getD .zs
 | y=>y
def fixA (tg:Nat→Option AV):Nat→List AV→List AV
 | _,[]=>[]
 | c,y::ys=>fix1 (tg c) y::fixA tg (c+1) ys
def tgOk (tg:Nat→Option AV):Prop:=∀ c a,tg c=some a→∃ s,a = .im s []∨a = .ow s []
theorem zjk (tg:Nat→Option AV):∀ (l:List AV) (c:Nat),(fixA tg c l).length=l.length
 | [],_=>rfl
 | y::l,c=>by simp [fixA,zjk tg l]
def zsAt (tg:Nat→Option AV) (xs:Els) (i c:Nat):Bool :=
 match (xs[i]?).bind (·[c]?) with
 | some y=>isZ y && (tg c).isSome
 | none=>false
def z3h (tg:Nat→Option AV) (k:Nat) (k':Nat) (q:Path):Bool:=k'==k && match q with | (_,c)::_=>(tg c).isSome | []=>false
section
variable {I:Nat→Prop} {σ σ1:Pl} {B:zm} {k:Nat} {tg:Nat→Option AV}
theorem CeC.fix (ht:tgOk tg) (i:Nat):∀ (ys:List AV) (c:Nat) (cs:List Value),
  (∀ j y,ys[j]? = some y→(y = .zs→(tg (c+j)).isSome=true→σ1 k [(i,c+j)]=none)∧((y = .zs→(tg (c+j)).isSome=false)→∀ q,σ1 k ((i,c+j)::q)=σ k ((i,c+j)::q))) →
  CeC I σ B k [] i c ys cs→CeC I σ1 B k [] i c (fixA tg c ys) cs∧fpC σ1 k [] i c (fixA tg c ys)=fpC σ k [] i c ys
 | [],c,cs,_,h=>⟨h,rfl⟩
 | y::ys,c,_,hj,h=>by
  obtain ⟨v,cs',rfl,h1,h2⟩:=h
  obtain ⟨t1,t2⟩:=CeC.fix ht i ys (c+1) cs' (fun j y' hy=>by
   have:=hj (j+1) y' (by simpa using hy)
   rwa [show c+(j+1)=c+1+j by omega] at this) h2
  have h0:=hj 0 y rfl
  rw [Nat.add_zero] at h0
  have keep:((y = .zs→(tg c).isSome=false))→Ce I σ1 B k [] i c y v∧fpA σ1 k [] i c y=fpA σ k [] i c y:=fun hk =>
   ⟨Ce.ren (p:=[]) (p':=[]) (fun q=>h0.2 hk q) y v h1,fpA.ren (p:=[]) (p':=[]) (fun q=>h0.2 hk q) y⟩
  have key:Ce I σ1 B k [] i c (fix1 (tg c) y) v∧fpA σ1 k [] i c (fix1 (tg c) y)=fpA σ k [] i c y:=by
   cases y with
   | zs =>
    simp only [fix1]
    cases hc:tg c with
    | none=>simp only [Option.getD_none]; exact keep (fun _=>by simp [hc])
    | some a =>
     simp only [Option.getD_some]
     have hn:=h0.1 rfl (by simp [hc])
     obtain ⟨s,rfl | rfl⟩:=ht c a hc
     ·refine ⟨?_,rfl⟩
      obtain ⟨x,hx⟩:=h1
      exact ⟨x,0,hx,Nat.le_refl _,fun hn=>absurd rfl hn⟩
     ·refine ⟨?_,by simp only [fpA,List.nil_append,hn]⟩
      simp only [Ce,List.nil_append,hn]
      exact ⟨trivial,h1⟩
   | _=>exact keep (fun h=>by cases h)
  exact ⟨⟨v,cs',rfl,key.1,t1⟩,by rw [fixA,fpC,fpC,t2,key.2]⟩
theorem CeE.fix (ht:tgOk tg) (s:Nat):∀ (xs:Els) (i:Nat) (cs:List Value),
  (∀ n x j y,xs[n]? = some x→x[j]? = some y→(y = .zs→(tg j).isSome=true→σ1 k [(i+n,j)]=none)∧((y = .zs→(tg j).isSome=false)→∀ q,σ1 k ((i+n,j)::q)=σ k ((i+n,j)::q))) →
  CeE I σ B k [] i s xs cs→CeE I σ1 B k [] i s (xs.map (fixA tg 0)) cs∧fpE σ1 k [] i (xs.map (fixA tg 0))=fpE σ k [] i xs
 | [],_,_,_,h=>⟨trivial,rfl⟩
 | x::xs,i,cs,hj,h=>by
  obtain ⟨t1,t2⟩:=CeE.fix ht s xs (i+1) _ (fun n x' j y hx hy=>by
   have:=hj (n+1) x' j y (by simpa using hx) hy
   rwa [show i+(n+1)=i+1+n by omega] at this) h.2.2
  obtain ⟨u1,u2⟩:=CeC.fix (σ1:=σ1) ht i x 0 _ (fun j y hy=>by
   have:=hj 0 x j y rfl hy
   simpa using this) h.2.1
  exact ⟨⟨by rw [zjk]; exact h.1,u1,t1⟩,by rw [List.map_cons,fpE,fpE,t2,u2]⟩
end
section
variable {P:Program} {pro:List Nat} {e:Env} {h:H}
theorem z9.fix {k:Nat} {r:Row} (tg:Nat→Option AV) (ht:tgOk tg) (hg:z6 h k=some r) :
  z9 P pro e h (zy (z3h tg k) e) ((k,⟨r.s,r.xs.map (fixA tg 0)⟩)::zb h k):=by
 intro I N σ a w R
 let σ1:Pl:=fun k' q=>match q with | [(i,c)]=>if k'=k∧zsAt tg r.xs i c=true then none else σ k' q | q=>σ k' q
 have hne:∀ k',k' ≠ k→∀ q,σ1 k' q=σ k' q:=fun k' hk q=>by
  simp only [σ1]
  split
  ·rw [if_neg (fun h=>hk h.1)]
  ·rfl
 have hσ0:σ1 k []=σ k []:=rfl
 obtain ⟨d1,d2,d3,d4,d5,d6⟩:=R.heap.del hg
 have hcell:∀ n x j y,r.xs[n]? = some x→x[j]? = some y→(y = .zs→(tg j).isSome=true→σ1 k [(n,j)]=none)∧((y = .zs→(tg j).isSome=false)→∀ q,σ1 k ((n,j)::q)=σ k ((n,j)::q)):=by
  intro n x j y hx hy
  have hz:zsAt tg r.xs n j=(isZ y && (tg j).isSome):=by
   unfold zsAt
   simp only [hx,Option.bind_some,hy]
  refine ⟨fun h1 h2=>?_,fun h1 q=>?_⟩
  ·simp only [σ1]
   rw [if_pos ⟨trivial,by rw [hz,h1,h2]; rfl⟩]
  ·cases q with
   | nil =>
    simp only [σ1]
    rw [if_neg]
    rintro ⟨_,h2⟩
    rw [hz,Bool.and_eq_true] at h2
    have:y = .zs:=by cases y <;> first | rfl | (simp [isZ] at h2)
    have:=h1 this
    rw [this] at h2
    simp at h2
   | cons _ _=>rfl
 have hrow:zt I σ1 (bl w) k ⟨r.s,r.xs.map (fixA tg 0)⟩∧fpR σ1 k ⟨r.s,r.xs.map (fixA tg 0)⟩=fpR σ k r:=by
  unfold zt at d2 ⊢
  unfold fpR
  rw [hσ0]
  cases hL:σ k [] with
  | none =>
   simp only [hL] at d2 ⊢
   exact ⟨by simp [d2],trivial⟩
  | some L =>
   simp only [hL] at d2 ⊢
   obtain ⟨f1,f2,cur,E,f3,f4,f5⟩:=d2
   obtain ⟨t1,t2⟩:=CeE.fix (σ1:=σ1) ht r.s r.xs 0 _ (fun n x j y hx hy=>by simpa using hcell n x j y hx hy) f5
   exact ⟨⟨f1,by simpa using f2,cur,E,f3,f4,t1⟩,by rw [t2]⟩
 have hadd:=d1.add (σ':=σ1) (w':=w) (k:=k) (r:=⟨r.s,r.xs.map (fixA tg 0)⟩) d3 hne (fun _ _ _=>rfl) (Nat.le_refl _) hrow.1 (by rw [hrow.2]; exact d4) (fun b hb=>by
  rw [hrow.2] at hb
  exact ⟨(d5 b hb).1,R.heap.apart b (d5 b hb).2⟩)
 refine ⟨σ1,I,fun _ h=>h,fun _ h=>.inl h,⟨hadd,R.size,fun t=>?_,R.defers⟩,fun k' _=>?_,Le.refl _,fun _ _ _=>rfl,fun b hb=>.inl ?_⟩
 ·refine Va.kill (fun k' q hb=>?_) _ _ (R.vals t)
  simp only [σ1]
  split
  ·rename_i i c
   rw [if_neg]
   rintro ⟨e1,e2⟩
   subst e1
   have:(tg c).isSome=true:=by
    unfold zsAt at e2
    split at e2
    ·simp only [Bool.and_eq_true] at e2; exact e2.2
    ·cases e2
   simp [z3h,this] at hb
  ·rfl
 ·rfl
 ·rw [z1a,hrow.2,fpH.ren _ (fun k' hk' q=>hne k' (fun e=>by subst e; exact d3 hk') q)] at hb
  rcases List.mem_append.1 hb with hb | hb
  ·exact (d5 b hb).2
  ·exact d6 b hb
end
section
variable {T:TT}
def kdAV (T:TT):Kd→Option AV
 | .no=>none
 | .im t=>some (.im (T.sz t) [])
 | .ow m t=>some (.ow (T.sz t) [])
def tgOf (T:TT) (ks:List Kd) (c:Nat):Option AV:=(ks[c]?).bind (kdAV T)
theorem zab (ks:List Kd):tgOk (tgOf T ks):=fun c a h=>by
 unfold tgOf at h
 cases hk:ks[c]? with
 | none=>rw [hk] at h; cases h
 | some k =>
  rw [hk] at h
  cases k <;> cases h
  ·exact ⟨_,.inl rfl⟩
  ·exact ⟨_,.inr rfl⟩
def fixT:List Kd→List (VT T)→List (VT T)
 | k::ks,v::vs=>(match v with | .zs=>(match k with | .im t=>.im t [] | .ow m t=>.ow m t [] | .no=>.zs) | v=>v)::fixT ks vs
 | [],vs=>vs
 | _,[]=>[]
theorem z6v:∀ (l:List AV) (tg:Nat→Option AV) (c:Nat),(∀ j,tg (c+j)=none)→fixA tg c l=l
 | [],_,_,_=>rfl
 | y::l,tg,c,h=>by
  have h0:=h 0
  rw [Nat.add_zero] at h0
  rw [fixA,z6v l tg (c+1) (fun j=>by rw [show c+1+j=c+(j+1) by omega]; exact h _),h0]
  cases y <;> rfl
theorem y1r {h:H} {v:VT T} (hv:v ≠ .zs) (o:Option AV):fix1 o (den T.toTT0 h v)=den T.toTT0 h v:=by
 cases v <;> first | exact absurd rfl hv | rfl
theorem z9o {h:H} (ks:List Kd):∀ (vs:List (VT T)) (c:Nat),denL T.toTT0 h (fixT (ks.drop c) vs)=fixA (tgOf T ks) c (denL T.toTT0 h vs)
 | [],c=>by
  cases ks.drop c <;> rfl
 | v::vs,c=>by
  have ih:=z9o (h:=h) ks vs (c+1)
  cases hd:ks.drop c with
  | nil =>
   have:∀ j,tgOf T ks (c+j)=none:=fun j=>by
    unfold tgOf
    have hl:ks.length≤c:=by simpa using hd
    rw [List.getElem?_eq_none (by omega)]; rfl
   rw [z6v _ _ _ this]
   rfl
  | cons k ks' =>
   have hk:ks[c]? = some k:=by
    have:=congrArg (·[0]?) hd
    simpa using this
   have hd':ks.drop (c+1)=ks':=by
    rw [← List.drop_drop,hd]; rfl
   rw [hd'] at ih
   have htg:tgOf T ks c=kdAV T k:=by unfold tgOf; rw [hk]; rfl
   simp only [fixT,denL,fixA,ih,htg]
   congr 1
   split
   ·cases k <;> rfl
   ·rename_i hv
    rw [y1r hv]
def unL (m:Bool) (t:Nat):List (List (VT T))→Option (List (T.El t))
 | []=>some []
 | x::l=>match T.un m t x,unL m t l with | some y,some ys=>some (y::ys) | _,_=>none
theorem zfw {m:Bool} {t:Nat}:∀ (l:List (List (VT T))) (ys:List (T.El t)),unL m t l=some ys→l.map (denL T.toTT0 [])=ys.map (T.ca m t)
 | [],ys,h=>by cases h; rfl
 | x::l,ys,h=>by
  unfold unL at h
  split at h
  ·rename_i y ys' h1 h2
   cases h
   rw [List.map_cons,List.map_cons,T.un_ok _ _ _ _ h1,zfw l ys' h2]
  ·cases h
def rowT (ty:Option (Bool×Nat)) (s:Nat) (xs:List (List (VT T))):Option (TR T.El) :=
 match ty with
 | none=>some (.lit s xs)
 | some (m,t)=>bif Nat.beq (T.sz t) s then match unL m t (xs.map (fixT (T.ks m t))) with | some ys=>some (.typ m t ys) | none=>none else none
theorem zoz {ty:Option (Bool×Nat)} {s:Nat} {xs:List (List (VT T))} {r:TR T.El} (hr:rowT ty s xs=some r):∃ tg,tgOk tg∧denR T.toTT0 r=⟨s,(xs.map (denL T.toTT0 [])).map (fixA tg 0)⟩:=by
 unfold rowT at hr
 split at hr
 ·cases hr
  refine ⟨fun _=>none,fun _ _ h=>(by cases h),?_⟩
  simp only [denR,List.map_map]
  congr 1
  exact List.map_congr_left fun x _=>(z6v _ _ _ (fun _=>rfl)).symm
 ·rename_i m t
  cases hb:Nat.beq (T.sz t) s with
  | false=>rw [hb] at hr; cases hr
  | true =>
   rw [hb] at hr
   simp only [cond_true] at hr
   split at hr
   ·rename_i ys hy
    cases hr
    have:=zfw _ _ hy
    refine ⟨tgOf T (T.ks m t),zab _,?_⟩
    simp only [denR,← this,List.map_map,Nat.eq_of_beq_eq_true hb]
    congr 1
    exact List.map_congr_left fun x _=>by
     have:=z9o (h:=[]) (T.ks m t) x 0
     simpa using this
   ·cases hr
def z5z {α:Type} (s:Nat):Nat→List α→List (List α)
 | 0,_=>[]
 | n+1,l=>l.take s::z5z s n (l.drop s)
theorem zak {h:H} {s:Nat}:∀ (n:Nat) (l:List (VT T)),(z5z s n l).map (denL T.toTT0 h)=z34 s n (denL T.toTT0 h l)
 | 0,l=>rfl
 | n+1,l=>by
  rw [z5z,z34,List.map_cons,zak n]
  congr 1
  ·simp [z11,List.map_take]
  ·simp [z11,List.map_drop]
theorem z9e {α:Type} {s:Nat}:∀ (n:Nat) (l:List α),(z5z s n l).length=n
 | 0,_=>rfl
 | n+1,l=>by simp [z5z,z9e n]
def mkT (ty:Option (Bool×Nat)) (pro:List Nat) (e:TE T.toTT0) (h:TH T.toTT0) (d:Nat) (b:IB):Rs (StT T) :=
 bif pro.contains d then .no else
 match b with
 | .box s x =>
  match z51 (evT e x) with
  | none=>.no
  | some cs=>bif Nat.beq cs.length s then
   match zag (delT h d) [d] [cs] with
   | none=>.no
   | some (xs,g,h')=>match rowT ty s xs with
    | none=>.no
    | some r=>.ok ⟨.pt d [] 0 0,fun k _=>g.contains k,fun _ _=>false,g,(d,r)::h'⟩
   else .no
 | .bsl s len zero parts =>
  match zas (List.replicate len (z4o zero)).flatten (parts.map fun (i,x)=>(i * s,s,evT e x)) with
  | none=>.no
  | some cs =>
   match zag (delT h d) [d] (z5z s len cs) with
   | none=>.no
   | some (xs,g,h')=>match rowT ty s xs with
    | none=>.no
    | some r=>.ok ⟨.sw d [],fun k _=>g.contains k,fun _ _=>false,g,(d,r)::h'⟩
 | .mks s bytes zero l =>
  match z6e (evT e l),ty with
  | some n,some (m,t)=>bif Nat.beq (T.sz t) s then
   match T.un m t (fixT (T.ks m t) (z4o zero)) with
   | some z=>.need (0≤n∧n * (bytes:Int)≤140737488355328) (.ok ⟨.sw d [],fun k _=>[d].contains k,fun _ _=>false,[d],(d,.typ m t (List.replicate n.toNat z))::delT h d⟩)
   | none=>.no
   else .no
  | _,_=>.no
 | _=>.no
structure MkOk (T:TT) (e:TE T.toTT0) (h:TH T.toTT0) (d:Nat) (b:IB) (s:StT T):Prop where
 ex:∃ (av:AV) (r:Row) (rest:H) (tg:Nat→Option AV),mkop (ev (denE T.toTT0 (denH T.toTT0 h) e)) (denH T.toTT0 h) d b=some (av,(d,r)::rest)∧tgOk tg∧denH T.toTT0 s.h=(d,⟨r.s,r.xs.map (fixA tg 0)⟩)::rest ∧
  av=den T.toTT0 (denH T.toTT0 s.h) s.v∧(∀ k,kill (z3h tg k) av=av)∧(∀ k p,k=d→s.bad k p=true)∧(∀ k p,s.bad k p=false→s.bw k p=false→zd (denH T.toTT0 s.h) k p=zd (denH T.toTT0 h) k p)∧∀ k,s.tch.contains k=false→z6 (denH T.toTT0 s.h) k=z6 (denH T.toTT0 h) k
theorem ze1 {h h':TH T.toTT0} {d:Nat} {g:List Nat} {r:TR T.El} (hG:Gone (T:=T) (denH T.toTT0 h) (delT h d) [d] g h') :
  (∀ (k:Nat) (p:Path),k=d→g.contains k=true)∧(∀ (k:Nat) (p:Path),g.contains k=false→zd (denH T.toTT0 ((d,r)::h')) k p=zd (denH T.toTT0 h) k p) ∧
   ∀ (k:Nat),g.contains k=false→z6 (denH T.toTT0 ((d,r)::h')) k=z6 (denH T.toTT0 h) k:=by
 have h1:∀ (k:Nat) (p:Path),k=d→g.contains k=true:=fun k p hk=>hG.sub k (by simp [hk])
 have h2:∀ (k:Nat),g.contains k=false→z6 (denH T.toTT0 ((d,r)::h')) k=z6 (denH T.toTT0 h) k:=fun k hk=>by
  have hkd:k ≠ d:=fun e=>by rw [h1 k [] e] at hk; cases hk
  simp only [denH,z6]
  rw [if_neg (fun e=>hkd e.symm)]
  exact hG.same k hk
 exact ⟨h1,fun k p hk=>z18 (h2 k hk),h2⟩
theorem y6v {ty:Option (Bool×Nat)} {pro:List Nat} {e:TE T.toTT0} {h:TH T.toTT0} {d:Nat} {b:IB} {s:StT T} (hg:(mkT ty pro e h d b).gives s):pro.contains d=false∧MkOk T e h d b s:=by
 unfold mkT at hg
 cases hp:pro.contains d with
 | true=>rw [hp] at hg; exact hg.elim
 | false =>
 refine ⟨rfl,?_⟩
 rw [hp] at hg
 simp only [cond_false] at hg
 split at hg
 ·rename_i s' x
  split at hg
  ·exact hg.elim
  ·rename_i cs hcs
   obtain ⟨hl,hg⟩:=zv hg
   split at hg
   ·exact hg.elim
   ·rename_i xs g h' ha
    split at hg
    ·exact hg.elim
    ·rename_i r hr
     cases hg
     obtain ⟨q1,q2,q3⟩:=z7x (H0:=denH T.toTT0 h) _ _ _ _ _ _ z7h ha
     obtain ⟨tg,t1,t2⟩:=zoz hr
     obtain ⟨l1,l2,l3⟩:=ze1 (r:=r) q2
     have hc:=z67 (h:=denH T.toTT0 h) hcs
     refine ⟨⟨.pt d [] 0 0,⟨s',xs.map (denL T.toTT0 [])⟩,denH T.toTT0 h',tg,?_,t1,?_,rfl,fun k=>rfl |>.trans ?_,l1,fun k p hk _=>l2 k p hk,l3⟩⟩
     ·simp only [mkop,zg,hc,z2t]
      rw [if_pos (Nat.eq_of_beq_eq_true hl)]
      simp only [List.map_cons,List.map_nil] at q1
      rw [zx,q1]
     ·simp only [denH,t2]
     ·simp [kill,z3h]
 ·rename_i s' len zero parts
  split at hg
  ·exact hg.elim
  ·rename_i cs hcs
   split at hg
   ·exact hg.elim
   ·rename_i xs g h' ha
    split at hg
    ·exact hg.elim
    ·rename_i r hr
     cases hg
     obtain ⟨q1,q2,q3⟩:=z7x (H0:=denH T.toTT0 h) _ _ _ _ _ _ z7h ha
     obtain ⟨tg,t1,t2⟩:=zoz hr
     obtain ⟨l1,l2,l3⟩:=ze1 (r:=r) q2
     have hf:=zat (h:=denH T.toTT0 h) _ _ _ hcs
     rw [List.map_map] at hf
     have hxl:xs.length=len:=by rw [q3,z9e]
     have hlen:zd (denH T.toTT0 ((d,r)::h')) d []=len:=by
      unfold zd res
      simp only [denH,z6,if_true,resE,t2,List.length_map,hxl]
     refine ⟨⟨.sl d [] 0 len,⟨s',xs.map (denL T.toTT0 [])⟩,denH T.toTT0 h',tg,?_,t1,?_,?_,fun k=>rfl |>.trans ?_,l1,fun k p hk _=>l2 k p hk,l3⟩⟩
     ·have e0:denL T.toTT0 (denH T.toTT0 h) (List.replicate len (z4o zero)).flatten=(List.replicate len (zero.map cval)).flatten:=by
       rw [z11,List.map_flatten,List.map_replicate,← z11,z6s]
      have e1:(parts.map fun (i,x)=>(i * s',s',ev (denE T.toTT0 (denH T.toTT0 h) e) x))=parts.map ((fun (o,n,x)=>(o,n,den T.toTT0 (denH T.toTT0 h) x)) ∘ fun (i,x)=>(i * s',s',evT e x)) :=
       List.map_congr_left fun ⟨i,x⟩ _=>by simp only [Function.comp,zg]
      simp only [mkop]
      rw [e1,← e0,hf]
      simp only
      rw [zak] at q1
      rw [zx,q1]
     ·simp only [denH,t2]
     ·simp only [den,hlen]
     ·simp [kill,z3h]
 ·rename_i s' bytes zero l
  split at hg
  ·rename_i n m t hn
   obtain ⟨hs,hg⟩:=zv hg
   split at hg
   ·rename_i z hz
    obtain ⟨hc,rfl⟩:=hg
    obtain ⟨kk,hi⟩:=z54 (h:=denH T.toTT0 h) hn
    have hG:Gone (T:=T) (denH T.toTT0 h) (delT h d) [d] [d] (delT h d):=⟨fun _ h=>h,z7h⟩
    obtain ⟨l1,l2,l3⟩:=ze1 (r:=.typ m t (List.replicate n.toNat z)) hG
    have hz2:fixA (tgOf T (T.ks m t)) 0 (zero.map cval)=T.ca m t z:=by
     rw [← T.un_ok _ _ _ _ hz,← z6s (T:=T) [] zero]
     have:=z9o (T:=T) (h:=[]) (T.ks m t) (z4o zero) 0
     simpa using this.symm
    refine ⟨⟨.sl d [] 0 n.toNat,⟨s',List.replicate n.toNat (zero.map cval)⟩,denH T.toTT0 (delT h d),tgOf T (T.ks m t),?_,zab _,?_,?_,fun k=>rfl |>.trans ?_,l1,fun k p hk _=>l2 k p hk,l3⟩⟩
    ·simp only [mkop,zg,hi]
     rw [if_pos hc,zx]
    ·simp only [denH,denR,Nat.eq_of_beq_eq_true hs,List.map_replicate,hz2]
    ·simp only [den]
     congr 1
     unfold zd res
     simp only [denH,z6,if_true,resE,denR,List.length_map,List.length_replicate]
    ·simp [kill,z3h]
   ·exact hg.elim
  ·exact hg.elim
 ·exact hg.elim
theorem zcb {b bad:Nat→Path→Bool} (hb:∀ k p,b k p=true→bad k p=true) (x:AV):AVle (kill b x) (kill bad x):=by
 have h1:kill bad (kill b x)=kill bad x:=by
  rw [z8w.1]
  congr 1
  funext k p
  cases h:b k p with
  | false=>rfl
  | true=>simp [hb k p h]
 rw [← h1]
 exact AVle.kill bad _
theorem zv4 {P:Program} {ty:Option (Bool×Nat)} {pro:List Nat} {e:TE T.toTT0} {h:TH T.toTT0} {d:Nat} {g:Option (Nat×Bool)} {b:IB} {s:StT T} (hg:(mkT ty pro e h d b).gives s):StOk P pro T e h ⟨d,g,.mk b⟩ s:=by
 obtain ⟨hp,⟨av,r,rest,tg,m1,m2,m3,m4,m5,m6,m7⟩⟩:=y6v hg
 refine ⟨fun e' he=>?_,m7⟩
 have hcg:mkop (ev e') (denH T.toTT0 h) d b=some (av,(d,r)::rest):=by
  rw [← m1]
  exact zba b fun o ho=>by
   have:=z2x (x:=⟨d,g,.mk b⟩) (e:=e') (EA:=denE T.toTT0 (denH T.toTT0 h) e) he (o:=o) (by simpa [opsK] using ho)
   exact this
 refine ⟨e',_,upd (zy (fun k _=>k==d) e') d av,(d,r)::rest,z9.rfl',fun _ _ h=>h,.plain (by simp only [z27,hp,Bool.false_eq_true,if_false,hcg]),?_⟩
 refine z9.trans (z9.fix (k:=d) (r:=r) tg m2 (by simp [z6])) ?_
 rw [show zb ((d,r)::rest) d=rest by simp [zb],← m3]
 refine z9.le fun t=>?_
 simp only [zy,upd]
 split
 ·rw [m5,← m4]; exact AVle.refl _
 ·rw [z8w.1]
  refine zcb (fun k p hk=>?_) _
  simp only [Bool.or_eq_true,beq_iff_eq,z3h,Bool.and_eq_true] at hk
  exact m6 k p (hk.elim id (·.1))
end
def lenR (s:Nat) (xs:Els) (q:Path):Nat:=match resE s xs q with | some (_,ys)=>ys.length | none=>0
theorem z3n {h:H} {k:Nat} {r:Row} {q:Path} (hg:z6 h k=some r):zd h k q=lenR r.s r.xs q:=by
 unfold zd lenR res; rw [hg]; first | done | rfl
theorem z5g {s i c:Nat} {xs:Els} {q:Path}:lenR s xs ((i,c)::q)=match (xs[i]?).bind (·[c]?) with | some (.ow s' ys)=>lenR s' ys q | _=>0:=by
 unfold lenR
 simp only [resE]
 cases h1:xs[i]? with
 | none=>simp
 | some x =>
  simp only [Option.bind_some]
  cases h2:x[c]? with
  | none=>simp
  | some y=>cases y <;> simp
theorem zjj (tg:Nat→Option AV):∀ (l:List AV) (c j:Nat),(fixA tg c l)[j]? = (l[j]?).map (fix1 (tg (c+j)))
 | [],_,_=>by simp [fixA]
 | y::l,c,0=>by simp [fixA]
 | y::l,c,j+1=>by simp only [fixA,List.getElem?_cons_succ]; rw [zjj tg l (c+1) j,show c+1+j=c+(j+1) by omega]
theorem zjl {tg:Nat→Option AV} (ht:tgOk tg) {s:Nat} {xs:Els} (q:Path):lenR s (xs.map (fixA tg 0)) q=lenR s xs q:=by
 cases q with
 | nil=>simp [lenR,resE]
 | cons x q =>
  obtain ⟨i,c⟩:=x
  rw [z5g,z5g,List.getElem?_map]
  cases h1:xs[i]? with
  | none=>rfl
  | some x =>
   simp only [Option.map_some,Option.bind_some,zjj,Nat.zero_add]
   cases h2:x[c]? with
   | none=>rfl
   | some y =>
    simp only [Option.map_some]
    cases y with
    | zs =>
     simp only [fix1]
     cases h3:tg c with
     | none=>rfl
     | some a =>
      obtain ⟨s',rfl | rfl⟩:=ht c a h3
      ·rfl
      ·simp only [Option.getD_some]
       cases q with
       | nil=>rfl
       | cons z q=>obtain ⟨i',c'⟩:=z; rfl
    | _=>rfl
theorem y1a {l vs:List AV} {c n c':Nat} (h:c+n≤l.length) (hv:vs.length=n) (hc:¬ (c≤c'∧c'<c+n)):(l.take c++vs++l.drop (c+n))[c']? = l[c']?:=by
 rcases Nat.lt_or_ge c' c with h1 | h1
 ·rw [List.append_assoc,List.getElem?_append_left (by rw [List.length_take]; omega),List.getElem?_take,if_pos h1]
 ·have h2:c+n≤c':=by omega
  rw [List.getElem?_append_right (by simp only [List.length_append,List.length_take]; omega),List.getElem?_drop]
  congr 1
  simp only [List.length_append,List.length_take]
  omega
theorem ze0 {k i c n:Nat} {vs:List AV} (hv:vs.length=n):∀ (p:Path) (s s1:Nat) (xs ys:Els) (x0:List AV) (q:Path),resE s xs p=some (s1,ys)→ys[i]? = some x0→c+n≤x0.length→under k p c n k q=false →
  lenR s (updE xs p (z14 i c n vs)) q=lenR s xs q
 | [],s,s1,xs,ys,x0,q,hr,hx,hl,hu=>by
  simp only [resE,Option.some.injEq,Prod.mk.injEq] at hr
  obtain ⟨_,rfl⟩:=hr
  simp only [updE,z14,hx]
  cases q with
  | nil=>simp [lenR,resE]
  | cons z q =>
   obtain ⟨i',c'⟩:=z
   have hc:¬ (c≤c'∧c'<c+n):=fun ⟨h1,h2⟩=>by simp [under,h1,h2] at hu
   rw [z5g,z5g,List.getElem?_set]
   by_cases hi:i=i'
   ·subst hi
    have hlt:=(List.getElem?_eq_some_iff.1 hx).1
    rw [if_pos rfl,if_pos hlt,hx]
    simp only [Option.bind_some,y1a hl hv hc]
   ·rw [if_neg hi]
 | (i0,c0)::p,s,s1,xs,ys,x0,q,hr,hx,hl,hu=>by
  simp only [resE] at hr
  split at hr
  ·cases hr
  ·rename_i x hx0
   split at hr
   ·rename_i s2 zs hz
    simp only [updE,hx0,hz]
    cases q with
    | nil=>simp [lenR,resE]
    | cons z q =>
     obtain ⟨i',c'⟩:=z
     rw [z5g,z5g,List.getElem?_set]
     have hlt:=(List.getElem?_eq_some_iff.1 hx0).1
     have hlt2:=(List.getElem?_eq_some_iff.1 hz).1
     by_cases hi:i0=i'
     ·subst hi
      rw [if_pos rfl,if_pos hlt,hx0]
      simp only [Option.bind_some,List.getElem?_set]
      by_cases hc:c0=c'
      ·subst hc
       rw [if_pos rfl,if_pos hlt2,hz]
       simp only
       refine ze0 (k:=k) hv p s2 s1 zs ys x0 q hr hx hl ?_
       simp only [under,List.length_cons,List.take_succ_cons,List.map_cons,List.drop_succ_cons,beq_self_eq_true,Bool.true_and] at hu ⊢
       have hc:∀ A B:List Nat,(c0::A==c0::B)=(A==B):=fun A B=>by
        rw [Bool.eq_iff_iff]; simp
       rw [hc] at hu
       exact hu
      ·rw [if_neg hc]
     ·rw [if_neg hi]
   ·cases hr
section
variable {T:TT}
def Rs.bind {X Y:Type}:Rs X→(X→Rs Y)→Rs Y
 | .ok v,f=>f v
 | .no,_=>.no
 | .bnd x K,f=>.bnd x fun a=>(K a).bind f
 | @Rs.need _ p _ K,f=>.need p (K.bind f)
 | .ite b x y,f=>.ite b (x.bind f) (y.bind f)
theorem Rs.bind_gives {X Y:Type} {f:X→Rs Y} {y:Y}:∀ (r:Rs X),(r.bind f).gives y→∃ x,r.gives x∧(f x).gives y
 | .ok v,h=>⟨v,rfl,h⟩
 | .no,h=>h.elim
 | .bnd x K,⟨a,h1,h2⟩=>by
  obtain ⟨x',h3,h4⟩:=Rs.bind_gives (K a) h2
  exact ⟨x',⟨a,h1,h3⟩,h4⟩
 | @Rs.need _ p _ K,⟨h1,h2⟩=>by
  obtain ⟨x',h3,h4⟩:=Rs.bind_gives K h2
  exact ⟨x',⟨h1,h3⟩,h4⟩
 | .ite b x y',h=>by
  rcases h with ⟨h1,h2⟩ | ⟨h1,h2⟩
  ·obtain ⟨x',h3,h4⟩:=Rs.bind_gives x h2
   exact ⟨x',.inl ⟨h1,h3⟩,h4⟩
  ·obtain ⟨x',h3,h4⟩:=Rs.bind_gives y' h2
   exact ⟨x',.inr ⟨h1,h3⟩,h4⟩
def zen:TR T.El→Option (VT T)
 | .typ m t xs=>some (.ow m t xs)
 | .opn m t xs i cs=>some (.oo m t xs i cs)
 | .lit _ _=>none
theorem zai {h:H} {r:TR T.El} {v:VT T} (hr:zen r=some v):den T.toTT0 h v = .ow (denR T.toTT0 r).s (denR T.toTT0 r).xs:=by
 cases r <;> cases hr <;> rfl
theorem zdt {h:H} {cs:List (VT T)} {c:Nat} {v:VT T}:denL T.toTT0 h (cs.set c v)=(denL T.toTT0 h cs).set c (den T.toTT0 h v):=by simp [z11,List.map_set]
theorem ziy {s:Nat} {xs:List (List (VT T))}:denR T.toTT0 (.lit s xs)=⟨s,xs.map (denL T.toTT0 [])⟩:=rfl
theorem zw6 {m:Bool} {t i:Nat} {xs:List (T.El t)} {cs:List (VT T)}:denR T.toTT0 (.opn m t xs i cs)=⟨T.sz t,(xs.map (T.ca m t)).set i (denL T.toTT0 [] cs)⟩:=rfl
def zda:VT T→Option (TR T.El)
 | .ow m t xs=>some (.typ m t xs)
 | .oo m t xs i cs=>some (.opn m t xs i cs)
 | _=>none
theorem z72 {h:H} {r:TR T.El} {v:VT T} (hr:zda v=some r):den T.toTT0 h v = .ow (denR T.toTT0 r).s (denR T.toTT0 r).xs:=by
 cases v <;> cases hr <;> rfl
def zfo (m:Bool) (t:Nat) (xs:List (T.El t)) (j:Nat) (cs:List (VT T)):TR T.El :=
 match T.un m t cs with
 | some y=>.typ m t (xs.set j y)
 | none=>.opn m t xs j cs
theorem zcj {m:Bool} {t:Nat} {xs:List (T.El t)} {j:Nat} {cs:List (VT T)}:denR T.toTT0 (zfo m t xs j cs)=⟨T.sz t,(xs.map (T.ca m t)).set j (denL T.toTT0 [] cs)⟩:=by
 unfold zfo
 split
 ·rename_i y hy
  simp only [denR,List.map_set,T.un_ok _ _ _ _ hy]
 ·rfl
def updT (f:TR T.El→Rs (TR T.El)):Path→TR T.El→Rs (TR T.El)
 | [],r=>f r
 | (i,c)::p,.lit s xs =>
  match xs[i]? with
  | none=>.no
  | some x=>match (x[c]?).bind zda with
   | none=>.no
   | some r0=>(updT f p r0).bind fun r1=>match zen r1 with | some v=>.ok (.lit s (xs.set i (x.set c v))) | none=>.no
 | (i,c)::p,.typ m t xs =>
  .bnd (xs[i]?) fun y=>match ((T.ct m t y)[c]?).bind zda with
   | none=>.no
   | some r0=>(updT f p r0).bind fun r1=>match zen r1 with | some v=>.ok (zfo m t xs i ((T.ct m t y).set c v)) | none=>.no
 | (i,c)::p,.opn m t xs j cs =>
  .need (i=j∧j<xs.length) (match (cs[c]?).bind zda with
   | none=>.no
   | some r0=>(updT f p r0).bind fun r1=>match zen r1 with | some v=>.ok (zfo m t xs i (cs.set c v)) | none=>.no)
theorem zac {f:TR T.El→Rs (TR T.El)} {F:Els→Els} {G:Nat→Els→Prop} (hf:∀ r r',(f r).gives r'→G (denR T.toTT0 r).s (denR T.toTT0 r).xs∧denR T.toTT0 r'=⟨(denR T.toTT0 r).s,F (denR T.toTT0 r).xs⟩) :
  ∀ (p:Path) (r r':TR T.El),(updT f p r).gives r'→∃ s ys,resE (denR T.toTT0 r).s (denR T.toTT0 r).xs p=some (s,ys)∧G s ys∧denR T.toTT0 r'=⟨(denR T.toTT0 r).s,updE (denR T.toTT0 r).xs p F⟩
 | [],r,r',hg=>by
  obtain ⟨h1,h2⟩:=hf r r' hg
  exact ⟨_,_,rfl,h1,h2⟩
 | (i,c)::p,.lit s xs,r',hg=>by
  simp only [updT] at hg
  split at hg
  ·exact hg.elim
  ·rename_i x hx
   split at hg
   ·exact hg.elim
   ·rename_i r0 h0
    obtain ⟨r1,q1,q2⟩:=Rs.bind_gives _ hg
    obtain ⟨y,hy,hr0⟩:=Option.bind_eq_some_iff.1 h0
    obtain ⟨s1,ys,t1,t2,t3⟩:=zac hf p r0 r1 q1
    split at q2
    ·rename_i v hv
     cases q2
     have hxe:(denR T.toTT0 (.lit s xs)).xs[i]? = some (denL T.toTT0 [] x):=by simp [denR,hx]
     have hce:(denL T.toTT0 [] x)[c]? = some (.ow (denR T.toTT0 r0).s (denR T.toTT0 r0).xs):=by rw [z2p,hy,Option.map_some,z72 hr0]
     refine ⟨s1,ys,by simp only [resE,hxe,hce]; exact t1,t2,?_⟩
     have hv':=zai (T:=T) (h:=[]) hv
     rw [t3] at hv'
     simp only [updE,hxe,hce]
     rw [ziy,List.map_set,zdt,hv']
     rfl
    ·exact q2.elim
 | (i,c)::p,.typ m t xs,r',hg=>by
  obtain ⟨z,hz,hg⟩:=hg
  dsimp only at hg
  split at hg
  ·exact hg.elim
  ·rename_i r0 h0
   obtain ⟨r1,q1,q2⟩:=Rs.bind_gives _ hg
   obtain ⟨y,hy,hr0⟩:=Option.bind_eq_some_iff.1 h0
   obtain ⟨s1,ys,t1,t2,t3⟩:=zac hf p r0 r1 q1
   split at q2
   ·rename_i v hv
    cases q2
    have hxe:(denR T.toTT0 (.typ m t xs)).xs[i]? = some (T.ca m t z):=by simp [denR,hz]
    have hce:(T.ca m t z)[c]? = some (.ow (denR T.toTT0 r0).s (denR T.toTT0 r0).xs):=by rw [zqi,hy,Option.map_some,z72 hr0]
    refine ⟨s1,ys,by simp only [resE,hxe,hce]; exact t1,t2,?_⟩
    have hv':=zai (T:=T) (h:=[]) hv
    rw [t3] at hv'
    simp only [updE,hxe,hce,zcj]
    rw [zdt,hv',T.ct_ok]
    rfl
   ·exact q2.elim
 | (i,c)::p,.opn m t xs j cs,r',hg=>by
  obtain ⟨⟨rfl,hj⟩,hg⟩:=hg
  split at hg
  ·exact hg.elim
  ·rename_i r0 h0
   obtain ⟨r1,q1,q2⟩:=Rs.bind_gives _ hg
   obtain ⟨y,hy,hr0⟩:=Option.bind_eq_some_iff.1 h0
   obtain ⟨s1,ys,t1,t2,t3⟩:=zac hf p r0 r1 q1
   split at q2
   ·rename_i v hv
    cases q2
    have hxe:(denR T.toTT0 (.opn m t xs i cs)).xs[i]? = some (denL T.toTT0 [] cs):=by
     simp only [denR]; rw [List.getElem?_set_self (by simpa using hj)]
    have hce:(denL T.toTT0 [] cs)[c]? = some (.ow (denR T.toTT0 r0).s (denR T.toTT0 r0).xs):=by rw [z2p,hy,Option.map_some,z72 hr0]
    refine ⟨s1,ys,by simp only [resE,hxe,hce]; exact t1,t2,?_⟩
    have hv':=zai (T:=T) (h:=[]) hv
    rw [t3] at hv'
    simp only [updE,hxe,hce,zcj]
    rw [zdt,hv',zw6,List.set_set]
   ·exact q2.elim
def putT (fx:Bool) (i c n:Nat) (vs:List (VT T)):TR T.El→Rs (TR T.El)
 | .lit s xs =>
  match xs[i]? with
  | some x0=>bif Nat.ble (c+n) x0.length then .ok (.lit s (xs.set i (x0.take c++vs++x0.drop (c+n)))) else .no
  | none=>.no
 | .typ m t xs=>.bnd (xs[i]?) fun y =>
  bif Nat.ble (c+n) (T.ct m t y).length then
   let cs:=(T.ct m t y).take c++vs++(T.ct m t y).drop (c+n)
   match T.un m t (bif fx then fixT (T.ks m t) cs else cs) with
   | some z=>.ok (.typ m t (xs.set i z))
   | none=>bif fx then .no else .ok (.opn m t xs i cs)
  else .no
 | .opn m t xs j cs=>.need (i=j∧j<xs.length) (bif Nat.ble (c+n) cs.length then .ok (zfo m t xs i (cs.take c++vs++cs.drop (c+n))) else .no)
def tgR (fx:Bool):TR T.El→Nat→Option AV
 | .typ m t _=>bif fx then tgOf T (T.ks m t) else fun _=>none
 | _=>fun _=>none
theorem y75 (fx:Bool) (r:TR T.El):tgOk (tgR fx r):=by
 cases r with
 | typ m t xs=>cases fx; exact fun _ _ h=>(by cases h); exact zab _
 | _=>exact fun _ _ h=>(by cases h)
theorem zmg (tg:Nat→Option AV):∀ (l:List AV) (c:Nat),(∀ a ∈ l,isZ a=false)→fixA tg c l=l
 | [],_,_=>rfl
 | y::l,c,h=>by
  rw [fixA,zmg tg l (c+1) (fun a ha=>h a (by simp [ha]))]
  have:=h y (by simp)
  cases y <;> simp [isZ] at this <;> rfl
theorem y7j {m:Bool} {t:Nat} {y:T.El t}:∀ a ∈ T.ca m t y,isZ a=false:=T.nz_ok m t y
theorem zpq {tg:Nat→Option AV} {m:Bool} {t:Nat} (xs:List (T.El t)):(xs.map (T.ca m t)).map (fixA tg 0)=xs.map (T.ca m t):=by
 rw [List.map_map]
 exact List.map_congr_left fun y _=>zmg tg _ 0 y7j
theorem z47 (xs:Els):xs.map (fixA (fun _=>none) 0)=xs:=by
 conv=>rhs; rw [← List.map_id xs]
 exact List.map_congr_left fun x _=>z6v _ _ _ (fun _=>rfl)
theorem zgg {fx:Bool} {i c n:Nat} {vs:List (VT T)} (r r':TR T.El) (hg:(putT fx i c n vs r).gives r') :
  (∃ x0,(denR T.toTT0 r).xs[i]? = some x0∧c+n≤x0.length)∧denR T.toTT0 r'=⟨(denR T.toTT0 r).s,(z14 i c n (denL T.toTT0 [] vs) (denR T.toTT0 r).xs).map (fixA (tgR fx r) 0)⟩:=by
 cases r with
 | lit s xs =>
  simp only [putT] at hg
  split at hg
  ·rename_i x0 hx
   obtain ⟨hb,hg⟩:=zv hg
   cases hg
   have hxe:(denR T.toTT0 (.lit s xs)).xs[i]? = some (denL T.toTT0 [] x0):=by simp [denR,hx]
   refine ⟨⟨_,hxe,by rw [z2t]; exact Nat.le_of_ble_eq_true hb⟩,?_⟩
   simp only [z14,hxe,tgR,z47]
   simp [denR,z11,List.map_set,List.map_take,List.map_drop]
  ·exact hg.elim
 | typ m t xs =>
  obtain ⟨y,hy,hg⟩:=hg
  obtain ⟨hb,hg⟩:=zv hg
  dsimp only at hg
  split at hg
  ·rename_i z hz
   cases hg
   have hxe:(denR T.toTT0 (.typ m t xs)).xs[i]? = some (T.ca m t y):=by simp [denR,hy]
   have hl:(T.ca m t y).length=(T.ct m t y).length:=by rw [← T.ct_ok,z2t]
   refine ⟨⟨_,hxe,by rw [hl]; exact Nat.le_of_ble_eq_true hb⟩,?_⟩
   simp only [z14,hxe,tgR]
   have hzc:fixA (bif fx then tgOf T (T.ks m t) else fun _=>none) 0 ((T.ca m t y).take c++denL T.toTT0 [] vs++(T.ca m t y).drop (c+n))=T.ca m t z:=by
    have e1:(T.ca m t y).take c++denL T.toTT0 [] vs++(T.ca m t y).drop (c+n)=denL T.toTT0 [] ((T.ct m t y).take c++vs++(T.ct m t y).drop (c+n)):=by
     simp [← T.ct_ok,z11,List.map_take,List.map_drop]
    rw [e1,← T.un_ok _ _ _ _ hz]
    cases fx
    ·simp only [cond_false]; exact z6v _ _ _ (fun _=>rfl)
    ·simp only [cond_true]
     have:=z9o (T:=T) (h:=[]) (T.ks m t) ((T.ct m t y).take c++vs++(T.ct m t y).drop (c+n)) 0
     simpa using this.symm
   simp only [denR,List.map_set,hzc,zpq]
  ·cases hfx:fx with
   | true=>rw [hfx] at hg; exact hg.elim
   | false =>
    rw [hfx,cond_false] at hg
    cases hg
    have hxe:(denR T.toTT0 (.typ m t xs)).xs[i]? = some (T.ca m t y):=by simp [denR,hy]
    have hl:(T.ca m t y).length=(T.ct m t y).length:=by rw [← T.ct_ok,z2t]
    refine ⟨⟨_,hxe,by rw [hl]; exact Nat.le_of_ble_eq_true hb⟩,?_⟩
    simp only [z14,hxe,tgR,cond_false,z47]
    simp only [denR]
    simp [← T.ct_ok,z11,List.map_take,List.map_drop]
 | opn m t xs j cs =>
  obtain ⟨⟨rfl,hj⟩,hg⟩:=hg
  obtain ⟨hb,hg⟩:=zv hg
  cases hg
  have hxe:(denR T.toTT0 (.opn m t xs i cs)).xs[i]? = some (denL T.toTT0 [] cs):=by
   simp only [denR]; rw [List.getElem?_set_self (by simpa using hj)]
  refine ⟨⟨_,hxe,by rw [z2t]; exact Nat.le_of_ble_eq_true hb⟩,?_⟩
  simp only [z14,hxe,tgR,z47,zcj]
  simp [denR,z11,List.map_take,List.map_drop]
end
section
variable {T:TT}
def isZT:VT T→Bool
 | .zs=>true
 | _=>false
def stT (e:TE T.toTT0) (h:TH T.toTT0) (n:Nat) (a x:Operand):Rs (StT T) :=
 match evT e a with
 | .pt k p i c =>
  match getT h k,z51 (evT e x) with
  | some r,some vs=>bif Nat.beq vs.length n then
   match zej (delT h k) [k] vs with
   | none=>.no
   | some (vs',g,h') =>
    let fx:=p.isEmpty && vs'.any isZT
    (updT (putT fx i c n vs') p r).bind fun r' =>
    .ok ⟨.un,fun k' q=>under k p c n k' q || (g.contains k' && !(Nat.beq k' k)) || (fx && Nat.beq k' k && !q.isEmpty),fun _ _=>false,g,(k,r')::h'⟩
   else .no
  | _,_=>.no
 | _=>.no
theorem zve {P:Program} {pro:List Nat} {e:TE T.toTT0} {h:TH T.toTT0} {d:Nat} {g:Option (Nat×Bool)} {n:Nat} {a x:Operand} {s:StT T} (hg:(stT e h n a x).gives s):StOk P pro T e h ⟨d,g,.st n a x⟩ s:=by
 unfold stT at hg
 split at hg
 ·rename_i k p i c ha
  split at hg
  ·rename_i r vs hr hvs
   obtain ⟨hn,hg⟩:=zv hg
   have hn:=Nat.eq_of_beq_eq_true hn
   split at hg
   ·exact hg.elim
   ·rename_i vs' gg h' hab
    dsimp only at hg
    generalize hfx:(p.isEmpty && vs'.any isZT)=fx at hg
    obtain ⟨r',hup,hg⟩:=Rs.bind_gives _ hg
    cases hg
    obtain ⟨q1,q2⟩:=zdq (H0:=denH T.toTT0 h) _ _ _ _ _ _ z7h hab
    have hv:=z67 (h:=denH T.toTT0 h) hvs
    have hgr:z6 (denH T.toTT0 h) k=some (denR T.toTT0 r):=by rw [z1u,hr]; rfl
    have hvl:(denL T.toTT0 [] vs').length=n:=by
     have:∀ (l l':List AV) (hp hp':H),absL hp l=some (l',hp')→l'.length=l.length:=by
      intro l
      induction l with
      | nil=>intro l' hp hp' hh; simp only [absL,Option.some.injEq,Prod.mk.injEq] at hh; rw [← hh.1]
      | cons y l ih =>
       intro l' hp hp' hh
       unfold absL at hh
       split at hh
       ·split at hh
        ·rename_i h2
         simp only [Option.some.injEq,Prod.mk.injEq] at hh
         rw [← hh.1,List.length_cons,ih _ _ _ h2,List.length_cons]
        ·cases hh
       ·cases hh
     rw [this _ _ _ _ q1,z2t,hn]
    have hgk:gg.contains k=true:=q2.sub k (by simp)
    obtain ⟨tg,ht,hkb,s1,ys,x0,t1,tx,tl,t3⟩:∃ tg,tgOk tg∧(fx=false→tg=fun _=>none)∧∃ s1 ys x0,resE (denR T.toTT0 r).s (denR T.toTT0 r).xs p=some (s1,ys)∧ys[i]? = some x0∧c+n≤x0.length ∧
      denR T.toTT0 r'=⟨(denR T.toTT0 r).s,(updE (denR T.toTT0 r).xs p (z14 i c n (denL T.toTT0 [] vs'))).map (fixA tg 0)⟩:=by
     cases p with
     | nil =>
      obtain ⟨⟨x0,t1,t2⟩,t3⟩:=zgg r r' hup
      exact ⟨tgR fx r,y75 _ _,fun h=>by subst h; cases r <;> rfl,_,_,x0,rfl,t1,t2,t3⟩
     | cons z p =>
      have hfx:fx=false:=by rw [← hfx]; rfl
      subst hfx
      obtain ⟨s1,ys,t1,⟨x0,t2,t4⟩,t3⟩:=zac (f:=putT false i c n vs') (F:=z14 i c n (denL T.toTT0 [] vs')) (G:=fun _ ys=>∃ x0,ys[i]? = some x0∧c+n≤x0.length) (fun r0 r1 h0=>by
       obtain ⟨h1,h2⟩:=zgg r0 r1 h0
       refine ⟨h1,?_⟩
       rw [h2]
       have:tgR (T:=T) false r0=fun _=>none:=by cases r0 <;> rfl
       rw [this,z47]) (z::p) r r' hup
      exact ⟨fun _=>none,fun _ _ h=>(by cases h),fun _=>rfl,s1,ys,x0,t1,t2,t4,by rw [t3,z47]⟩
    have hst:stop (ev (denE T.toTT0 (denH T.toTT0 h) e)) (denH T.toTT0 h) n a x=some ((k,⟨(denR T.toTT0 r).s,updE (denR T.toTT0 r).xs p (z14 i c n (denL T.toTT0 [] vs'))⟩)::denH T.toTT0 h',under k p c n):=by
     simp only [stop,zg,ha,den,hgr,t1,tx,hv,z2t,zx,q1]
     rw [if_pos tl,if_pos hn]
    have htch:∀ k',gg.contains k'=false→z6 (denH T.toTT0 ((k,r')::h')) k'=z6 (denH T.toTT0 h) k':=fun k' hk'=>by
     have hne:k ≠ k':=fun e=>by rw [← e,hgk] at hk'; cases hk'
     simp only [denH,z6]
     rw [if_neg hne]
     exact q2.same k' hk'
    refine ⟨fun e' he=>?_,fun k' q hb _=>?_,htch⟩
    ·have hcg:stop (ev e') (denH T.toTT0 h) n a x=some ((k,⟨(denR T.toTT0 r).s,updE (denR T.toTT0 r).xs p (z14 i c n (denL T.toTT0 [] vs'))⟩)::denH T.toTT0 h',under k p c n):=by
      rw [← hst]
      exact zfu (z2x (x:=⟨d,g,.st n a x⟩) he (by simp [opsK])) (z2x (x:=⟨d,g,.st n a x⟩) he (by simp [opsK]))
     refine ⟨e',_,zy (under k p c n) e',(k,⟨(denR T.toTT0 r).s,updE (denR T.toTT0 r).xs p (z14 i c n (denL T.toTT0 [] vs'))⟩)::denH T.toTT0 h',z9.rfl',fun _ _ h=>h,.plain (by simp only [z27,hcg]),?_⟩
     refine z9.trans (z9.fix (k:=k) (r:=⟨(denR T.toTT0 r).s,updE (denR T.toTT0 r).xs p (z14 i c n (denL T.toTT0 [] vs'))⟩) tg ht (by simp [z6])) ?_
     simp only [zb,if_true]
     rw [show denH T.toTT0 ((k,r')::h')=(k,⟨(denR T.toTT0 r).s,(updE (denR T.toTT0 r).xs p (z14 i c n (denL T.toTT0 [] vs'))).map (fixA tg 0)⟩)::denH T.toTT0 h' by simp only [denH,t3]]
     refine z9.le fun t=>?_
     simp only [zy,upd]
     split
     ·exact AVle.un _
     ·rw [z8w.1]
      refine zcb (fun k' q hk=>?_) _
      simp only [Bool.or_eq_true] at hk ⊢
      rcases hk with hk | hk
      ·exact .inl (.inl hk)
      ·right
       cases hf:fx with
       | false =>
        rw [hkb hf] at hk
        simp [z3h] at hk
        split at hk <;> simp at hk
       | true =>
        simp only [z3h,Bool.and_eq_true,beq_iff_eq] at hk
        obtain ⟨rfl,hk⟩:=hk
        cases q with
        | nil=>cases hk
        | cons _ _=>simp
    ·simp only [Bool.or_eq_false_iff] at hb
     by_cases hk:k'=k
     ·subst hk
      rw [z3n (r:=denR T.toTT0 r') (by simp [denH,z6]),z3n hgr,t3]
      simp only
      rw [zjl ht]
      exact ze0 (k:=k') hvl p _ s1 _ ys x0 q t1 tx tl hb.1.1
     ·refine z18 ?_
      simp only [denH,z6]
      rw [if_neg (fun e=>hk e.symm)]
      refine q2.same k' ?_
      have:=hb.1.2
      simp only [z1c,hk,decide_false,Bool.not_false,Bool.and_true] at this
      exact this
  ·exact hg.elim
 ·exact hg.elim
end
section
variable {T:TT}
def srcT (m:Bool) (t s:Nat) (e:TE T.toTT0) (h:TH T.toTT0) (y:Operand):Rs (List (T.El t)×Option Nat) :=
 bif Nat.beq (T.sz t) s then
 match evT e y with
 | .zs=>.ok ([],none)
 | .im t' ws=>if hh:t'=t then bif m then .no else .ok (hh ▸ ws,none) else .no
 | .sw k p=>atT h k p fun
  | .typ m' t' ws=>if hh:t'=t then
    match m',m,p with
    | false,false,_=>.ok (hh ▸ ws,none)
    | true,true,[]=>.ok (hh ▸ ws,some k)
    | _,_,_=>.no
   else .no
  | _=>.no
 | .sl k p off len=>atT h k p fun
  | .typ m' t' ws=>if hh:t'=t then bif m || m' then .no else .need (off+len≤ws.length) (.ok (((hh ▸ ws:List (T.El t)).drop off).take len,none)) else .no
  | _=>.no
 | _=>.no
 else .no
theorem zjn {t:Nat} (xs:List (T.El t)):z8s (xs.map (T.ca false t))=true:=by
 unfold z8s
 rw [List.all_eq_true]
 intro y hy
 obtain ⟨x,_,rfl⟩:=List.mem_map.1 hy
 exact T.fl_ok t x
theorem zgj {m:Bool} {t s:Nat} {e:TE T.toTT0} {h:TH T.toTT0} {y:Operand} {ws:List (T.El t)} {mv:Option Nat} (hg:(srcT m t s e h y).gives (ws,mv)) :
  T.sz t=s∧∃ mv',srcE (denH T.toTT0 h) s (den T.toTT0 (denH T.toTT0 h) (evT e y))=some (ws.map (T.ca m t),mv')∧(mv'=none∨mv'=mv):=by
 unfold srcT at hg
 obtain ⟨hs,hg⟩:=zv hg
 have hs:=Nat.eq_of_beq_eq_true hs
 refine ⟨hs,?_⟩
 split at hg
 ·rename_i hy
  cases hg
  exact ⟨none,by simp [hy,den,srcE],.inl rfl⟩
 ·rename_i t' ws' hy
  split at hg
  ·rename_i hh
   subst hh
   cases m with
   | true=>exact hg.elim
   | false =>
    cases hg
    exact ⟨none,by simp only [hy,den,srcE]; rw [if_pos hs],.inl rfl⟩
  ·exact hg.elim
 ·rename_i k p hy
  obtain ⟨r,hr,hg⟩:=z4n hg
  have hl:zd (denH T.toTT0 h) k p=(denR T.toTT0 r).xs.length:=by unfold zd; rw [hr]
  split at hg
  ·rename_i m' t' ws'
   split at hg
   ·rename_i hh
    subst hh
    split at hg
    ·cases hg
     refine ⟨none,?_,.inl rfl⟩
     simp only [hy,den,srcE,hr,hl]
     simp only [denR,hs]
     rw [if_pos ⟨trivial,by omega⟩,List.drop_zero,List.take_length,if_pos (zjn _)]
    ·cases hg
     refine ⟨if z8s ((ws'.map (T.ca true t')))=true then none else some k,?_,?_⟩
     ·simp only [hy,den,srcE,hr,hl]
      simp only [denR,hs]
      rw [if_pos ⟨trivial,by omega⟩,List.drop_zero,List.take_length]
      split <;> simp
     ·split <;> simp
    ·exact hg.elim
   ·exact hg.elim
  ·exact hg.elim
 ·rename_i k p off len hy
  obtain ⟨r,hr,hg⟩:=z4n hg
  split at hg
  ·rename_i m' t' ws'
   split at hg
   ·rename_i hh
    subst hh
    cases m <;> cases m' <;> first | exact hg.elim | skip
    obtain ⟨hc,hg⟩:=hg
    cases hg
    refine ⟨none,?_,.inl rfl⟩
    simp only [hy,den,srcE,hr]
    simp only [denR,hs]
    rw [if_pos ⟨trivial,by simpa using hc⟩]
    have:((ws'.map (T.ca false t')).drop off).take len=((ws'.drop off).take len).map (T.ca false t'):=by simp [List.map_take,List.map_drop]
    rw [this,if_pos (zjn _)]
   ·exact hg.elim
  ·exact hg.elim
 ·exact hg.elim
theorem zdi {a b:Nat}:∀ (h:H),zb (zb h a) b=zb (zb h b) a
 | []=>rfl
 | (k,r)::h=>by
  by_cases ha:k=a
  ·by_cases hb:k=b
   ·subst ha; subst hb; rfl
   ·simp only [zb,if_pos ha,if_neg hb]
  ·by_cases hb:k=b
   ·simp only [zb,if_neg ha,if_pos hb]
   ·simp only [zb,if_neg ha,if_neg hb,zdi h]
theorem z9.drop {P:Program} {pro:List Nat} {e:Env} {h:H} (k:Nat):z9 P pro e h e (zb h k):=fun I N σ a w R=>by
 obtain ⟨q1,q2,q3,q4⟩:=z3p R.heap k
 exact ⟨σ,I,fun _ h=>h,fun _ h=>.inl h,⟨q1,R.size,R.vals,R.defers⟩,fun _ _=>rfl,Le.refl _,fun _ _ _=>rfl,fun b hb=>.inl (q3 b hb)⟩
def z6l (h:TH T.toTT0):Option Nat→TH T.toTT0
 | none=>h
 | some k=>delT h k
theorem zvh {h:TH T.toTT0} {mv:Option Nat}:z1k (denH T.toTT0 h) mv=denH T.toTT0 (z6l h mv):=by
 cases mv with
 | none=>rfl
 | some k=>exact zx h k
def isO (mv:Option Nat) (k:Nat):Bool:=match mv with | some k'=>Nat.beq k' k | none=>false
def apT (ty:Option (Bool×Nat)) (pro:List Nat) (e:TE T.toTT0) (h:TH T.toTT0) (d s bytes:Nat) (x y:Operand):Rs (StT T) :=
 match evT e x with
 | .zs =>
  match ty with
  | none=>.no
  | some (m,t)=>bif pro.contains d then .no else
   (srcT m t s e h y).bind fun (ws,mv)=>bif isO mv d then .no else
    .need (ws.length * bytes≤140737488355328) (.ok ⟨.sw d [],fun k _=>Nat.beq k d || isO mv k,fun _ _=>false,d::mv.toList,(d,.typ m t ws)::delT (z6l h mv) d⟩)
 | .sw k [] =>
  match getT h k with
  | some (.typ m t xs)=>bif pro.contains k then .no else
   (srcT m t s e h y).bind fun (ws,mv)=>bif isO mv k then .no else
    .need ((xs.length+ws.length) * bytes≤140737488355328) (.ok ⟨.sw k [],fun k' _=>Nat.beq k' k || isO mv k',fun _ _=>false,k::mv.toList,(k,.typ m t (xs++ws))::delT (z6l h mv) k⟩)
  | _=>.no
 | .sl k [] 0 len =>
  match getT h k with
  | some (.typ m t xs)=>bif pro.contains k then .no else
   (srcT m t s e h y).bind fun (ws,mv)=>bif isO mv k then .no else
    .need (len≤xs.length∧(len+ws.length) * bytes≤140737488355328) (.ok ⟨.sw k [],fun k' _=>Nat.beq k' k || isO mv k',fun _ _=>false,k::mv.toList,(k,.typ m t (xs.take len++ws))::delT (z6l h mv) k⟩)
  | _=>.no
 | _=>.no
theorem zil {P:Program} {pro:List Nat} {e:TE T.toTT0} {h:TH T.toTT0} {d s bytes k:Nat} {g:Option (Nat×Bool)} {x y:Operand} {mv mv':Option Nat} {m:Bool} {t:Nat} {zs:List (T.El t)} (hp:pro.contains k=false) (hs:T.sz t=s) (hk:isO mv k=false) (hm:mv'=none∨mv'=mv)
  (hap:apop (ev (denE T.toTT0 (denH T.toTT0 h) e)) (denH T.toTT0 h) d s bytes x y=some (.sl k [] 0 zs.length,(k,⟨s,zs.map (T.ca m t)⟩)::zb (z1k (denH T.toTT0 h) mv') k,k)) :
  StOk P pro T e h ⟨d,g,.app s bytes x y⟩ ⟨.sw k [],fun k' _=>Nat.beq k' k || isO mv k',fun _ _=>false,k::mv.toList,(k,.typ m t zs)::delT (z6l h mv) k⟩:=by
 have hsame:∀ k',k' ≠ k→isO mv k'=false→z6 (denH T.toTT0 ((k,.typ m t zs)::delT (z6l h mv) k)) k'=z6 (denH T.toTT0 h) k':=fun k' h1 h2=>by
  simp only [denH,z6]
  rw [if_neg (fun e=>h1 e.symm),← zx,z16 h1]
  cases mv with
  | none=>rfl
  | some k2 =>
   simp only [z6l,← zx]
   refine z16 (fun e=>?_) _
   simp [isO,e] at h2
 refine ⟨fun e' he=>?_,fun k' q hb _=>z18 ?_,fun k' hk'=>?_⟩
 ·have hcg:=hap
  rw [← zek (z2x (x:=⟨d,g,.app s bytes x y⟩) he (o:=x) (by simp [opsK])) (z2x (x:=⟨d,g,.app s bytes x y⟩) he (o:=y) (by simp [opsK]))] at hcg
  refine ⟨e',_,upd (zy (fun k' _=>k'==k) e') d (.sl k [] 0 zs.length),_,z9.rfl',fun _ _ h=>h,.plain (by simp only [z27,hcg,hp,Bool.false_eq_true,if_false]; rfl),?_⟩
  have hheap:z9 P pro (upd (zy (fun k' _=>k'==k) e') d (.sl k [] 0 zs.length)) ((k,⟨s,zs.map (T.ca m t)⟩)::zb (z1k (denH T.toTT0 h) mv') k) (upd (zy (fun k' _=>k'==k) e') d (.sl k [] 0 zs.length)) (denH T.toTT0 ((k,.typ m t zs)::delT (z6l h mv) k)):=by
   have goal:denH T.toTT0 ((k,.typ m t zs)::delT (z6l h mv) k)=(k,⟨s,zs.map (T.ca m t)⟩)::zb (z1k (denH T.toTT0 h) mv) k:=by
    simp only [denH,denR,hs,← zx,zvh]
   rw [goal]
   rcases hm with rfl | rfl
   ·cases mv with
    | none=>exact z9.rfl'
    | some k2 =>
     have hne:k2 ≠ k:=by
      simp only [isO,z1c,decide_eq_false_iff_not] at hk
      exact hk
     have:=z9.drop (P:=P) (pro:=pro) (e:=upd (zy (fun k' _=>k'==k) e') d (.sl k [] 0 zs.length)) (h:=(k,⟨s,zs.map (T.ca m t)⟩)::zb (denH T.toTT0 h) k) k2
     simp only [zb,if_neg (Ne.symm hne)] at this
     rw [zdi] at this
     exact this
   ·exact z9.rfl'
  refine z9.trans hheap (z9.le fun u=>?_)
  have hl:zd (denH T.toTT0 ((k,.typ m t zs)::delT (z6l h mv) k)) k []=zs.length:=by
   unfold zd res
   simp [denH,z6,resE,denR]
  simp only [zy,upd]
  split
  ·simp only [den,hl]; exact AVle.refl _
  ·exact zcb (fun k' q hk'=>by simp only [beq_iff_eq] at hk'; subst hk'; simp) _
 ·simp only [Bool.or_eq_false_iff,z1c,decide_eq_false_iff_not] at hb
  exact hsame k' hb.1 hb.2
 ·simp only [List.contains_cons,Bool.or_eq_false_iff,beq_eq_false_iff_ne] at hk'
  refine hsame k' hk'.1 ?_
  cases mv with
  | none=>rfl
  | some k2 =>
   have:=hk'.2
   simp only [Option.toList,List.contains_cons,Bool.or_eq_false_iff,beq_eq_false_iff_ne] at this
   simp only [isO,z1c,decide_eq_false_iff_not]
   exact fun e=>this.1 e.symm
theorem zqf {P:Program} {ty:Option (Bool×Nat)} {pro:List Nat} {e:TE T.toTT0} {h:TH T.toTT0} {d s bytes:Nat} {g:Option (Nat×Bool)} {x y:Operand} {st:StT T} (hg:(apT ty pro e h d s bytes x y).gives st):StOk P pro T e h ⟨d,g,.app s bytes x y⟩ st:=by
 have nob:∀ {b:Bool} {X:Type} {r:Rs X} {v:X},(bif b then .no else r).gives v→b=false∧r.gives v:=fun {b _ _ _} hg=>by
  cases b
  ·exact ⟨rfl,hg⟩
  ·exact hg.elim
 have take:∀ {k:Nat} {mv mv':Option Nat} {r:TR T.El},isO mv k=false→(mv'=none∨mv'=mv)→getT h k=some r→z6 (z1k (denH T.toTT0 h) mv') k=some (denR T.toTT0 r):=fun {k mv mv' r} hk hm hr=>by
  have h0:z6 (denH T.toTT0 h) k=some (denR T.toTT0 r):=by rw [z1u,hr]; rfl
  rcases hm with rfl | rfl
  ·exact h0
  ·cases mv' with
   | none=>exact h0
   | some k2 =>
    have hne:k2 ≠ k:=by
     simp only [isO,z1c,decide_eq_false_iff_not] at hk
     exact hk
    rw [z1k,z16 (Ne.symm hne),h0]
 unfold apT at hg
 split at hg
 ·rename_i hx
  split at hg
  ·exact hg.elim
  ·rename_i m t
   obtain ⟨hp,hg⟩:=nob hg
   obtain ⟨⟨ws,mv⟩,hsrc,hg⟩:=Rs.bind_gives _ hg
   obtain ⟨hk,hg⟩:=nob hg
   obtain ⟨hc,rfl⟩:=hg
   obtain ⟨hs,mv',h1,h2⟩:=zgj hsrc
   refine zil hp hs hk h2 ?_
   simp only [apop,zg,h1,hx,den,List.length_map]
   rw [if_pos hc]
 ·rename_i k hx
  split at hg
  ·rename_i m t xs hr
   obtain ⟨hp,hg⟩:=nob hg
   obtain ⟨⟨ws,mv⟩,hsrc,hg⟩:=Rs.bind_gives _ hg
   obtain ⟨hk,hg⟩:=nob hg
   obtain ⟨hc,rfl⟩:=hg
   obtain ⟨hs,mv',h1,h2⟩:=zgj hsrc
   refine zil hp hs hk h2 ?_
   have hgr:z6 (denH T.toTT0 h) k=some (denR T.toTT0 (.typ m t xs)):=by rw [z1u,hr]; rfl
   have hl:zd (denH T.toTT0 h) k []=xs.length:=by rw [z3n hgr]; simp [lenR,resE,denR]
   simp only [apop,zg,h1,hx,den,hl,take hk h2 hr,denR,List.length_map]
   rw [if_pos ⟨trivial,trivial⟩,if_pos ⟨hs,Nat.le_refl _,hc⟩,List.take_of_length_le (by simp),List.map_append,List.length_append]
  ·exact hg.elim
 ·rename_i k len hx
  split at hg
  ·rename_i m t xs hr
   obtain ⟨hp,hg⟩:=nob hg
   obtain ⟨⟨ws,mv⟩,hsrc,hg⟩:=Rs.bind_gives _ hg
   obtain ⟨hk,hg⟩:=nob hg
   obtain ⟨⟨hc1,hc⟩,rfl⟩:=hg
   obtain ⟨hs,mv',h1,h2⟩:=zgj hsrc
   refine zil hp hs hk h2 ?_
   simp only [apop,zg,h1,hx,den,take hk h2 hr,denR,List.length_map]
   rw [if_pos ⟨trivial,trivial⟩,if_pos ⟨hs,hc1,hc⟩,List.map_append,List.map_take,List.length_append,List.length_take,Nat.min_eq_left hc1]
  ·exact hg.elim
 ·exact hg.elim
end
section
variable {T:TT}
mutual
theorem zd3 {H0 H1:H} {bad:Nat→Path→Bool} (hl:∀ k p,bad k p=false→zd H1 k p=zd H0 k p):∀ (v:VT T),kill bad (den T.toTT0 H0 v)=den T.toTT0 H1 (z24 bad (fun _ _=>false) v)
 | .un | .sc _ | .ik _ _ | .bk _ | .zs | .im _ _ | .ip _ _ _ | .ow _ _ _ | .oo _ _ _ _ _=>rfl
 | .ag cs=>by simp only [den,kill,z24,zb6 hl cs]
 | .tu cs=>by simp only [den,kill,z24,zb6 hl cs]
 | .fn f cs=>by simp only [den,kill,z24,zb6 hl cs]
 | .sl k p off len=>by
  simp only [den,kill,z24]
  cases h1:bad k p <;> rfl
 | .pt k p i c=>by
  simp only [den,kill,z24]
  cases h1:bad k p <;> rfl
 | .sw k p=>by
  simp only [den,kill,z24,Bool.or_false]
  cases h1:bad k p with
  | true=>rfl
  | false=>simp only [Bool.false_eq_true,if_false,cond_false,den,hl k p h1]
theorem zb6 {H0 H1:H} {bad:Nat→Path→Bool} (hl:∀ k p,bad k p=false→zd H1 k p=zd H0 k p):∀ (l:List (VT T)),z23 bad (denL T.toTT0 H0 l)=denL T.toTT0 H1 (z5q bad (fun _ _=>false) l)
 | []=>rfl
 | x::l=>by simp only [denL,z23,z5q,zd3 hl x,zb6 hl l]
end
mutual
theorem zl6:∀ (v:VT T),z24 (fun _ _=>false) (fun _ _=>false) v=v
 | .un | .sc _ | .ik _ _ | .bk _ | .zs | .im _ _ | .ip _ _ _ | .ow _ _ _ | .oo _ _ _ _ _ | .sl _ _ _ _ | .pt _ _ _ _ | .sw _ _=>rfl
 | .ag cs=>by simp only [z24,z8v cs]
 | .tu cs=>by simp only [z24,z8v cs]
 | .fn f cs=>by simp only [z24,z8v cs]
theorem z8v:∀ (l:List (VT T)),z5q (fun _ _=>false) (fun _ _=>false) l=l
 | []=>rfl
 | x::l=>by simp only [z5q,zl6 x,z8v l]
end
def zpe {X:Type} (i:Nat) (K:List (VT T)→Rs X):TR T.El→Rs X
 | .lit s xs=>match xs[i]? with | some cs=>K cs | none=>.no
 | .typ m t xs=>.bnd (xs[i]?) fun y=>K (T.ct m t y)
 | .opn m t xs j cs=>.need (i=j∧j<xs.length) (K cs)
theorem zw9 {X:Type} {i:Nat} {K:List (VT T)→Rs X} {r:TR T.El} {v:X} (hg:(zpe i K r).gives v):∃ cs,(denR T.toTT0 r).xs[i]? = some (denL T.toTT0 [] cs)∧(K cs).gives v:=by
 cases r with
 | lit s xs =>
  simp only [zpe] at hg
  split at hg
  ·rename_i cs hcs
   exact ⟨cs,by simp [denR,hcs],hg⟩
  ·exact hg.elim
 | typ m t xs =>
  obtain ⟨y,hy,hg⟩:=hg
  exact ⟨T.ct m t y,by simp [denR,hy,T.ct_ok],hg⟩
 | opn m t xs j cs =>
  obtain ⟨⟨rfl,hj⟩,hg⟩:=hg
  exact ⟨cs,by simp only [denR]; rw [List.getElem?_set_self (by simpa using hj)],hg⟩
def zfc:Path→Option (Path×Nat×Nat)
 | []=>none
 | [(i,c)]=>some ([],i,c)
 | x::p=>match zfc p with | some (q,i,c)=>some (x::q,i,c) | none=>none
theorem zhn:∀ (p q:Path) (i c:Nat),zfc p=some (q,i,c)→p=q++[(i,c)]
 | [],_,_,_,h=>by cases h
 | [(i,c)],_,_,_,h=>by cases h; rfl
 | x::y::p,q,i,c,h=>by
  simp only [zfc] at h
  split at h
  ·rename_i q' i' c' h'
   cases h
   rw [zhn (y::p) q' i c h']
   rfl
  ·cases h
def detT (pro:List Nat) (h:TH T.toTT0) (j k:Nat) (p:Path) (i c:Nat):Rs (TH T.toTT0) :=
 bif pro.contains j || (h.map Prod.fst).contains j then .no else
 match getT h k with
 | none=>.no
 | some r=>z70 (zpe i fun cs=>match (cs[c]?).bind zda with
  | none=>.no
  | some rj=>(updT (putT false i c 1 [.un]) p r).bind fun r'=>.ok ((j,rj)::(k,r')::delT h k)) p r
def z4q (j k:Nat) (p:Path) (c:Nat) (k':Nat) (q:Path):Bool:=Nat.beq k' j || under k p c 1 k' q
theorem y08 {P:Program} {pro:List Nat} {h h1:TH T.toTT0} {j k i c:Nat} {p:Path} (hg:(detT pro h j k p i c).gives h1) :
  (∀ (e:Env) (t:Nat),e t = .sl k (p++[(i,c)]) 0 (zd (denH T.toTT0 h) k (p++[(i,c)]))→z9 P pro e (denH T.toTT0 h) (upd (zy (z4q j k p c) e) t (.sl j [] 0 (zd (denH T.toTT0 h1) j []))) (denH T.toTT0 h1)) ∧
  (∀ k' q,z4q j k p c k' q=false→zd (denH T.toTT0 h1) k' q=zd (denH T.toTT0 h) k' q)∧(∀ k',k' ≠ j→k' ≠ k→z6 (denH T.toTT0 h1) k'=z6 (denH T.toTT0 h) k'):=by
 unfold detT at hg
 have hj:pro.contains j=false∧(h.map Prod.fst).contains j=false:=by
  cases hb:(pro.contains j || (h.map Prod.fst).contains j) with
  | true=>rw [hb] at hg; exact hg.elim
  | false=>simpa using hb
 rw [hj.1,hj.2] at hg
 simp only [Bool.or_false,cond_false] at hg
 split at hg
 ·exact hg.elim
 ·rename_i r hr
  obtain ⟨ry,hp,hg⟩:=z5h _ _ hg
  obtain ⟨cs,hcs,hg⟩:=zw9 hg
  split at hg
  ·exact hg.elim
  ·rename_i rj hrj
   obtain ⟨r',hup,hg⟩:=Rs.bind_gives _ hg
   cases hg
   obtain ⟨v,hv,hrow⟩:=Option.bind_eq_some_iff.1 hrj
   have hgr:z6 (denH T.toTT0 h) k=some (denR T.toTT0 r):=by rw [z1u,hr]; rfl
   have hcell:(denL T.toTT0 [] cs)[c]? = some (.ow (denR T.toTT0 rj).s (denR T.toTT0 rj).xs):=by rw [z2p,hv,Option.map_some,z72 hrow]
   have hlen:zd (denH T.toTT0 h) k (p++[(i,c)])=(denR T.toTT0 rj).xs.length:=by
    rw [z3n hgr]
    unfold lenR
    rw [z9h p _ _ _ _ _ hp]
    simp [resE,hcs,hcell]
   obtain ⟨s1,ys,t1,⟨x0,t2,t4⟩,t3⟩:=zac (f:=putT false i c 1 [.un]) (F:=z14 i c 1 [.un]) (G:=fun _ ys=>∃ x0,ys[i]? = some x0∧c+1≤x0.length) (fun r0 r1 h0=>by
    obtain ⟨h1,h2⟩:=zgg r0 r1 h0
    refine ⟨h1,?_⟩
    rw [h2]
    have:tgR (T:=T) false r0=fun _=>none:=by cases r0 <;> rfl
    rw [this,z47]
    rfl) p r r' hup
   rw [t1] at hp
   simp only [Option.some.injEq,Prod.mk.injEq] at hp
   obtain ⟨rfl,rfl⟩:=hp
   have hx0:x0=denL T.toTT0 [] cs:=by rw [t2] at hcs; exact Option.some.inj hcs
   have hset:updE (denR T.toTT0 r).xs p (z14 i c 1 [.un])=updE (denR T.toTT0 r).xs p (fun ys=>ys.set i ((denL T.toTT0 [] cs).set c .un)):=by
    refine zfx p _ _ _ _ t1 ?_
    simp only [z14,t2,hx0]
    congr 1
    rw [List.set_eq_take_append_cons_drop]
    rw [hx0] at t4
    rw [if_pos (by omega)]
    simp
   have hjk:j ≠ k:=fun e=>by
    have:(h.map Prod.fst).contains k=true:=by
     have:=z7g _ hgr
     rw [z17] at this
     simpa using this
    rw [← e,hj.2] at this
    cases this
   have hlj:zd (denH T.toTT0 ((j,rj)::(k,r')::delT h k)) j []=(denR T.toTT0 rj).xs.length:=by
    unfold zd res; simp [denH,z6,resE]
   refine ⟨fun e t ht=>?_,fun k' q hb=>?_,fun k' h1 h2=>by simp only [denH,z6]; rw [if_neg (fun e=>h1 e.symm),if_neg (fun e=>h2 e.symm),← zx,z16 h2]⟩
   ·rw [hlen] at ht
    have:=z9.detachAt (P:=P) (pro:=pro) (e:=e) (h:=denH T.toTT0 h) (t:=t) (s0:=(denR T.toTT0 ry).s) j ht hgr t1 hcs hcell (by rw [z17]; exact hj.2) (by
     rw [List.all_eq_true]
     intro k' hk'
     simp only [bne_iff_ne,ne_eq]
     rintro rfl
     have:=hj.1
     simp [hk'] at this)
    rw [hlj]
    have hh:denH T.toTT0 ((j,rj)::(k,r')::delT h k)=(j,⟨(denR T.toTT0 rj).s,(denR T.toTT0 rj).xs⟩)::(k,⟨(denR T.toTT0 r).s,updE (denR T.toTT0 r).xs p (fun ys=>ys.set i ((denL T.toTT0 [] cs).set c .un))⟩)::zb (denH T.toTT0 h) k:=by
     simp only [denH,t3,hset,zx]
    rw [hh]
    have hb:(fun k' q=>k'==j || under k p c 1 k' q)=z4q j k p c:=by
     funext k' q
     unfold z4q
     congr 1
     rw [Bool.eq_iff_iff]; simp
    rw [hb] at this
    exact this
   ·simp only [z4q,Bool.or_eq_false_iff,z1c,decide_eq_false_iff_not] at hb
    by_cases hk:k'=k
    ·subst hk
     rw [z3n (r:=denR T.toTT0 r') (by simp [denH,z6,hjk]),z3n hgr,t3]
     exact ze0 (k:=k') rfl p _ _ _ _ x0 q t1 t2 t4 hb.2
    ·refine z18 ?_
     simp only [denH,z6]
     rw [if_neg (fun e=>hb.1 e.symm),if_neg (fun e=>hk e.symm),← zx,z16 hk]
def appT (ty:Option (Bool×Nat)) (pro:List Nat) (e:TE T.toTT0) (h:TH T.toTT0) (d s bytes:Nat) (x y:Operand):Rs (StT T) :=
 match evT e x,x with
 | .sw k (z::p),.tmp t =>
  match zfc (z::p) with
  | none=>.no
  | some (p,i,c) =>
   let j:=400000+d
   (detT pro h j k p i c).bind fun h1 =>
    (apT ty pro (putE (z45 (z4q j k p c) (fun _ _=>false) e) t (.sw j [])) h1 d s bytes x y).bind fun st =>
     .ok ⟨st.v,fun k' q=>z4q j k p c k' q || st.bad k' q,st.bw,j::k::st.tch,st.h⟩
 | _,_=>apT ty pro e h d s bytes x y
theorem zqa {k i c:Nat} {p:Path}:under k p c 1 k (p++[(i,c)])=true:=by
 simp [under]
theorem zm8 {P:Program} {ty:Option (Bool×Nat)} {pro:List Nat} {e:TE T.toTT0} {h:TH T.toTT0} {d s bytes:Nat} {g:Option (Nat×Bool)} {x y:Operand} {st:StT T} (hg:(appT ty pro e h d s bytes x y).gives st):StOk P pro T e h ⟨d,g,.app s bytes x y⟩ st:=by
 unfold appT at hg
 split at hg
 ·rename_i k z p0 t hx
  split at hg
  ·exact hg.elim
  ·rename_i p i c hlast
   obtain ⟨h1,hd,hg⟩:=Rs.bind_gives _ hg
   obtain ⟨st1,ha,hg⟩:=Rs.bind_gives _ hg
   cases hg
   obtain ⟨d1,d2,d3⟩:=y08 (P:=P) hd
   obtain ⟨a1,a2,a3⟩:=zqf (P:=P) (g:=g) ha
   have hp:=zhn _ _ _ _ hlast
   refine ⟨fun e' he=>?_,fun k' q hb hw=>?_,fun k' hk'=>?_⟩
   ·have het:e' t = .sl k (p++[(i,c)]) 0 (zd (denH T.toTT0 h) k (p++[(i,c)])):=by
     rw [he t (by simp [z2n,opsK,zdb])]
     show den T.toTT0 _ (evT e (.tmp t))=_
     rw [hx,hp]; rfl
    have hgh:=d1 e' t het
    obtain ⟨e0,h0',e1,h1',g1,gb,g2,g3⟩:=a1 (upd (zy (z4q (400000+d) k p c) e') t (.sl (400000+d) [] 0 (zd (denH T.toTT0 h1) (400000+d) []))) (fun u hu=>by
     rw [z1d]
     simp only [upd]
     split
     ·rfl
     ·simp only [zy,denE,z2a]
      rw [he u hu]
      exact zd3 d2 _)
    refine ⟨e0,h0',e1,h1',hgh.trans g1,fun u b hu=>gb u b ?_,g2,g3.trans (z9.le fun u=>?_)⟩
    ·simp only [upd]
     split
     ·rename_i hut
      subst hut
      rw [het] at hu; cases hu
     ·simp only [zy,hu,kill]
    simp only [upd]
    split
    ·exact AVle.refl _
    ·split
     ·rename_i hu
      subst hu
      have:kill (fun k' q=>z4q (400000+d) k p c k' q || st1.bad k' q) (e' u) = .un:=by
       rw [het]; simp [kill,z4q,zqa]
      rw [this]; exact AVle.un _
     ·simp only [zy]
      rw [z8w.1]
      exact AVle.refl _
   ·simp only [Bool.or_eq_false_iff] at hb
    rw [a2 k' q hb.2 hw,d2 k' q hb.1]
   ·simp only [List.contains_cons,Bool.or_eq_false_iff,beq_eq_false_iff_ne] at hk'
    rw [a3 k' hk'.2.2,d3 k' hk'.1 hk'.2.1]
 ·exact zqf hg
end
section
variable {P:Program} {T:TT} {pro:List Nat}
def renP (k i c k':Nat) (p:Path):Option Path :=
 match p with
 | []=>none
 | (i',c')::q=>bif Nat.beq k' k && (Nat.beq c' c && Nat.beq i' i) then some q else none
mutual
def renT (k i c j:Nat):VT T→VT T
 | .sl k' p off len=>bif Nat.beq k' j then .un else match renP k i c k' p with | some q=>.sl j q off len | none=>.sl k' p off len
 | .sw k' p=>bif Nat.beq k' j then .un else match renP k i c k' p with | some q=>.sw j q | none=>.sw k' p
 | .pt k' p o c0=>bif Nat.beq k' j then .un else match renP k i c k' p with | some q=>.pt j q o c0 | none=>.pt k' p o c0
 | .ag cs=>.ag (zd9 k i c j cs)
 | .tu cs=>.tu (zd9 k i c j cs)
 | .fn f cs=>.fn f (zd9 k i c j cs)
 | .un=>.un
 | .sc v=>.sc v
 | .ik k n=>.ik k n
 | .bk b=>.bk b
 | .zs=>.zs
 | .im t xs=>.im t xs
 | .ip s cs c=>.ip s cs c
 | .ow m t xs=>.ow m t xs
 | .oo m t xs i cs=>.oo m t xs i cs
def zd9 (k i c j:Nat):List (VT T)→List (VT T)
 | []=>[]
 | x::l=>renT k i c j x::zd9 k i c j l
end
theorem zv7 {k i c k':Nat} {p:Path} (h:renP k i c k' p=none):∀ q,¬ (k'=k∧p=(i,c)::q):=by
 rintro q ⟨rfl,rfl⟩
 simp [renP] at h
theorem zv8 {k i c k':Nat} {p q:Path} (h:renP k i c k' p=some q):k'=k∧p=(i,c)::q:=by
 unfold renP at h
 split at h
 ·cases h
 ·rename_i i' c' q'
  cases hb:(Nat.beq k' k && (Nat.beq c' c && Nat.beq i' i)) with
  | false=>rw [hb] at h; cases h
  | true =>
   rw [hb] at h
   cases h
   simp only [Bool.and_eq_true] at hb
   exact ⟨Nat.eq_of_beq_eq_true hb.1,by rw [Nat.eq_of_beq_eq_true hb.2.1,Nat.eq_of_beq_eq_true hb.2.2]⟩
theorem zov {k i c j k':Nat} {p:Path} {off len:Nat}:renV k i c j (.sl k' p off len)=if k'=j then .un else match renP k i c k' p with | some q=>.sl j q off len | none=>.sl k' p off len:=by
 unfold renV
 split
 ·rfl
 ·cases p with
  | nil=>rfl
  | cons x q =>
   obtain ⟨i',c'⟩:=x
   simp only [renP,z1c]
   by_cases h:k'=k∧i'=i∧c'=c
   ·obtain ⟨rfl,rfl,rfl⟩:=h; simp
   ·rw [if_neg h]
    have:(decide (k'=k) && (decide (c'=c) && decide (i'=i)))=false:=by
     rw [Bool.eq_false_iff]
     intro hb
     simp only [Bool.and_eq_true,decide_eq_true_eq] at hb
     exact h ⟨hb.1,hb.2.2,hb.2.1⟩
    rw [this]; rfl
theorem y1c {k i c j k':Nat} {p:Path} {o c0:Nat}:renV k i c j (.pt k' p o c0)=if k'=j then .un else match renP k i c k' p with | some q=>.pt j q o c0 | none=>.pt k' p o c0:=by
 unfold renV
 split
 ·rfl
 ·cases p with
  | nil=>rfl
  | cons x q =>
   obtain ⟨i',c'⟩:=x
   simp only [renP,z1c]
   by_cases h:k'=k∧i'=i∧c'=c
   ·obtain ⟨rfl,rfl,rfl⟩:=h; simp
   ·rw [if_neg h]
    have:(decide (k'=k) && (decide (c'=c) && decide (i'=i)))=false:=by
     rw [Bool.eq_false_iff]
     intro hb
     simp only [Bool.and_eq_true,decide_eq_true_eq] at hb
     exact h ⟨hb.1,hb.2.2,hb.2.1⟩
    rw [this]; rfl
mutual
theorem zlm {H0 H1:H} {k i c j:Nat} (h1:∀ q,zd H1 j q=zd H0 k ((i,c)::q)) (h2:∀ k' q,k' ≠ j→(∀ q',¬ (k'=k∧q=(i,c)::q'))→zd H1 k' q=zd H0 k' q):∀ (v:VT T),den T.toTT0 H1 (renT k i c j v)=renV k i c j (den T.toTT0 H0 v)
 | .un | .sc _ | .ik _ _ | .bk _ | .zs | .im _ _ | .ip _ _ _ | .ow _ _ _ | .oo _ _ _ _ _=>by simp only [renT,den,renV]
 | .ag cs=>by simp only [renT,den,renV,z94 h1 h2 cs]
 | .tu cs=>by simp only [renT,den,renV,z94 h1 h2 cs]
 | .fn f cs=>by simp only [renT,den,renV,z94 h1 h2 cs]
 | .sl k' p off len=>by
  simp only [renT,den,zov,z1c]
  by_cases hj:k'=j
  ·simp [hj,den]
  ·simp only [hj,decide_false,cond_false,if_false]
   cases renP k i c k' p <;> rfl
 | .pt k' p o c0=>by
  simp only [renT,den,y1c,z1c]
  by_cases hj:k'=j
  ·simp [hj,den]
  ·simp only [hj,decide_false,cond_false,if_false]
   cases renP k i c k' p <;> rfl
 | .sw k' p=>by
  simp only [renT,den,zov,z1c]
  by_cases hj:k'=j
  ·simp [hj,den]
  ·simp only [hj,decide_false,cond_false,if_false]
   cases hr:renP k i c k' p with
   | some q =>
    obtain ⟨rfl,rfl⟩:=zv8 hr
    simp only [den,h1]
   | none =>
    simp only [den,h2 k' p hj (zv7 hr)]
theorem z94 {H0 H1:H} {k i c j:Nat} (h1:∀ q,zd H1 j q=zd H0 k ((i,c)::q)) (h2:∀ k' q,k' ≠ j→(∀ q',¬ (k'=k∧q=(i,c)::q'))→zd H1 k' q=zd H0 k' q):∀ (l:List (VT T)),denL T.toTT0 H1 (zd9 k i c j l)=z95 k i c j (denL T.toTT0 H0 l)
 | []=>rfl
 | x::l=>by simp only [zd9,denL,z95,zlm h1 h2 x,z94 h1 h2 l]
end
def z6h (k i c j:Nat):TE T.toTT0→TE T.toTT0
 | []=>[]
 | (t,v)::l=>(t,renT k i c j v)::z6h k i c j l
theorem zdy {k i c j t:Nat}:∀ (e:TE T.toTT0),getE (z6h k i c j e) t=renT k i c j (getE e t)
 | []=>by simp [z6h,getE,renT]
 | (t',v)::l=>by
  have ih:=zdy (k:=k) (i:=i) (c:=c) (j:=j) (t:=t) l
  simp only [z6h,getE]
  cases Nat.beq t t' <;> simp [ih]
def zes (pro:List Nat) (h:TH T.toTT0) (j k i c:Nat):Option (TH T.toTT0) :=
 bif pro.contains j || (h.map Prod.fst).contains j then none else
 match getT h k with
 | some (.lit s xs)=>match xs[i]? with
  | some cs=>match (cs[c]?).bind zda with
   | some rj=>some ((j,rj)::(k,.lit s (xs.set i (cs.set c .un)))::delT h k)
   | none=>none
  | none=>none
 | _=>none
theorem zdu {h h1:TH T.toTT0} {e:TE T.toTT0} {j k i c:Nat} (hg:zes pro h j k i c=some h1) :
  z9 P pro (denE T.toTT0 (denH T.toTT0 h) e) (denH T.toTT0 h) (denE T.toTT0 (denH T.toTT0 h1) (z6h k i c j e)) (denH T.toTT0 h1):=by
 unfold zes at hg
 have hj:pro.contains j=false∧(h.map Prod.fst).contains j=false:=by
  cases hb:(pro.contains j || (h.map Prod.fst).contains j) with
  | true=>rw [hb] at hg; cases hg
  | false=>simpa using hb
 rw [hj.1,hj.2] at hg
 simp only [Bool.or_false,cond_false] at hg
 split at hg
 ·rename_i s xs hr
  split at hg
  ·rename_i cs hcs
   split at hg
   ·rename_i rj hrj
    cases hg
    obtain ⟨v,hv,hrow⟩:=Option.bind_eq_some_iff.1 hrj
    have hgr:z6 (denH T.toTT0 h) k=some ⟨s,xs.map (denL T.toTT0 [])⟩:=by rw [z1u,hr]; rfl
    have hx:(xs.map (denL T.toTT0 []))[i]? = some (denL T.toTT0 [] cs):=by simp [hcs]
    have hcell:(denL T.toTT0 [] cs)[c]? = some (.ow (denR T.toTT0 rj).s (denR T.toTT0 rj).xs):=by rw [z2p,hv,Option.map_some,z72 hrow]
    have hjk:j ≠ k:=fun e=>by
     have:(h.map Prod.fst).contains k=true:=by
      have:=z7g _ hgr
      rw [z17] at this
      simpa using this
     rw [← e,hj.2] at this
     cases this
    have:=z9.detach (P:=P) (pro:=pro) (e:=denE T.toTT0 (denH T.toTT0 h) e) j hgr hx hcell (by rw [z17]; exact hj.2) (by
     rw [List.all_eq_true]
     intro k' hk'
     simp only [bne_iff_ne,ne_eq]
     rintro rfl
     have:=hj.1
     simp [hk'] at this)
    have hh:denH T.toTT0 ((j,rj)::(k,TR.lit s (xs.set i (cs.set c .un)))::delT h k)=(j,⟨(denR T.toTT0 rj).s,(denR T.toTT0 rj).xs⟩)::(k,⟨s,(xs.map (denL T.toTT0 [])).set i ((denL T.toTT0 [] cs).set c .un)⟩)::zb (denH T.toTT0 h) k:=by
     simp only [denH,denR,zx,List.map_set]
     congr 3
     simp only [z11,List.map_set]
     rfl
    rw [hh]
    have he:denE T.toTT0 ((j,⟨(denR T.toTT0 rj).s,(denR T.toTT0 rj).xs⟩)::(k,⟨s,(xs.map (denL T.toTT0 [])).set i ((denL T.toTT0 [] cs).set c .un)⟩)::zb (denH T.toTT0 h) k) (z6h k i c j e)=fun t=>renV k i c j (denE T.toTT0 (denH T.toTT0 h) e t):=by
     funext t
     simp only [denE,zdy]
     refine zlm (fun q=>?_) (fun k' q hk hq=>?_) _
     ·unfold zd res
      rw [hgr]
      simp only [z6,if_true,resE,hx,hcell]
     ·by_cases hkk:k'=k
      ·subst hkk
       unfold zd res
       rw [hgr]
       simp only [z6]
       rw [if_neg hjk]
       simp only [if_true]
       cases q with
       | nil=>simp [resE]
       | cons z q =>
        obtain ⟨i',c'⟩:=z
        simp only [resE,List.getElem?_set]
        by_cases hi:i=i'
        ·subst hi
         have hil:i<(xs.map (denL T.toTT0 [])).length:=by
          obtain ⟨hl,_⟩:=List.getElem?_eq_some_iff.1 hx
          exact hl
         simp only [if_true,hil,hx]
         have hcc:c ≠ c':=fun e=>by subst e; exact hq q ⟨rfl,rfl⟩
         rw [List.getElem?_set_ne hcc]
        ·simp only [hi,if_false]
      ·refine z18 ?_
       simp only [z6]
       rw [if_neg (fun e=>hk e.symm),if_neg (fun e=>hkk e.symm),z16 hkk]
    rw [he]
    exact this
   ·cases hg
  ·cases hg
 ·cases hg
def y7d:VT T→Option (Nat×Nat×Nat)
 | .sw k [(i,c)]=>some (k,i,c)
 | _=>none
def zan (pro:List Nat):Nat→TE T.toTT0→TH T.toTT0→List (VT T)→Option (TE T.toTT0×TH T.toTT0)
 | _,e,h,[]=>some (e,h)
 | j,e,h,x::l=>match y7d x with
  | some (k,i,c)=>match zes pro h j k i c with | some h1=>zan pro (j+1) (z6h k i c j e) h1 l | none=>none
  | none=>zan pro (j+1) e h l
theorem zch {k i c j t:Nat} {e:TE T.toTT0} {H0 H1:H} {b:Bool} (h:denE T.toTT0 H0 e t=Bl b):denE T.toTT0 H1 (z6h k i c j e) t=Bl b:=by
 simp only [denE,zdy] at h ⊢
 cases hv:getE e t <;> rw [hv] at h <;> simp [den] at h <;> simp [renT,den,h]
theorem zao:∀ (l:List (VT T)) (j:Nat) (e e1:TE T.toTT0) (h h1:TH T.toTT0),zan pro j e h l=some (e1,h1) →
  z9 P pro (denE T.toTT0 (denH T.toTT0 h) e) (denH T.toTT0 h) (denE T.toTT0 (denH T.toTT0 h1) e1) (denH T.toTT0 h1)∧∀ t b,denE T.toTT0 (denH T.toTT0 h) e t=Bl b→denE T.toTT0 (denH T.toTT0 h1) e1 t=Bl b
 | [],j,e,e1,h,h1,hg=>by
  simp only [zan,Option.some.injEq,Prod.mk.injEq] at hg
  obtain ⟨rfl,rfl⟩:=hg
  exact ⟨z9.rfl',fun _ _ h=>h⟩
 | x::l,j,e,e1,h,h1,hg=>by
  simp only [zan] at hg
  split at hg
  ·rename_i k i c heq
   split at hg
   ·rename_i h2 hd
    obtain ⟨q1,q2⟩:=zao l (j+1) _ e1 _ h1 hg
    exact ⟨(zdu hd).trans q1,fun t b hb=>q2 t b (zch hb)⟩
   ·cases hg
  ·exact zao l (j+1) e e1 h h1 hg
def zd7 (e:TE T.toTT0):List Operand→List (VT T)
 | []=>[]
 | o::l=>match z51 (evT e o) with | some cs=>cs++zd7 e l | none=>zd7 e l
end
inductive VD where
 | any
 | im (t:Nat)
 | ag (l:List VD)
 | pt (key:Nat)
 | fn (f:Nat) (l:List VD)
section
variable {T:TT}
structure Con (P:Program) (T:TT) where
 f:Nat
 X:Type
 Y:Type
 A:List VD
 H:List (Nat×List Kd)
 N:List Nat
 encA:X→List (VT T)
 encH:X→TH T.toTT0
 G:X→Option Y
 encR:Y→VT T
 encO:Y→TH T.toTT0
 strong:Bool
 ok:∀ x y,G x=some y→(strong=true→z1h P f (denL T.toTT0 (denH T.toTT0 (encH x)) (encA x)) (denH T.toTT0 (encH x)) (den T.toTT0 (denH T.toTT0 (encO y)) (encR y)) (denH T.toTT0 (encO y))) ∧
  CallG P f (denL T.toTT0 (denH T.toTT0 (encH x)) (encA x)) (denH T.toTT0 (encH x)) (den T.toTT0 (denH T.toTT0 (encO y)) (encR y)) (denH T.toTT0 (encO y))
mutual
def y9v:VD→VT T→Option (List (Nat×Nat))
 | .pt key,.pt k [] 0 0=>some [(key,k)]
 | .pt _,_=>none
 | .fn f ds,.fn f' cs=>bif Nat.beq f f' then zfz ds cs else none
 | .fn _ _,_=>none
 | .ag ds,.ag cs=>zfz ds cs
 | .ag _,_=>none
 | .any,_=>some []
 | .im _,_=>some []
def zfz:List VD→List (VT T)→Option (List (Nat×Nat))
 | [],[]=>some []
 | d::ds,v::vs=>match y9v d v,zfz ds vs with | some a,some b=>some (a++b) | _,_=>none
 | _,_=>none
end
mutual
def zib (rest:TH T.toTT0) (m:List (Nat×Nat)):VD→VT T→RT T
 | .any,.sc v=>.ok (.sc v)
 | .any,.ik k n=>.ok (.sc (.int k n))
 | .any,.bk b=>.ok (.sc (.bool b))
 | .any,.zs=>.ok .zs
 | .any,.im t xs=>.ok (.im t xs)
 | .any,_=>.no
 | .im t,.im t' xs=>bif Nat.beq t t' then .ok (.im t' xs) else .no
 | .im t,.zs=>.ok (.im t [])
 | .im t,.sw k p=>bif (m.map Prod.snd).contains k then .no else atT rest k p fun
  | .typ _ t' xs=>bif Nat.beq t t' then .ok (.im t' xs) else .no
  | _=>.no
 | .im t,.sl k p off len=>atT rest k p fun
  | .typ _ t' xs=>bif Nat.beq t t' then .need (off+len≤xs.length) (.ok (.im t' ((xs.drop off).take len))) else .no
  | _=>.no
 | .im _,_=>.no
 | .ag ds,.ag cs=>(z9k rest m ds cs).bind fun cs'=>.ok (.ag cs')
 | .ag _,_=>.no
 | .pt _,.pt k [] i c=>match z1e m k with | some n=>.ok (.pt n [] i c) | none=>.no
 | .pt _,_=>.no
 | .fn _ ds,.fn f cs=>(z9k rest m ds cs).bind fun cs'=>.ok (.fn f cs')
 | .fn _ _,_=>.no
def z9k (rest:TH T.toTT0) (m:List (Nat×Nat)):List VD→List (VT T)→Rs (List (VT T))
 | [],[]=>.ok []
 | d::ds,v::vs=>(zib rest m d v).bind fun v'=>(z9k rest m ds vs).bind fun vs'=>.ok (v'::vs')
 | _,_=>.no
end
mutual
def zzn:VT T→Bool
 | .sl _ _ _ _ | .sw _ _=>true
 | .ag cs=>z2i cs
 | .tu cs=>z2i cs
 | .fn _ cs=>z2i cs
 | .un | .sc _ | .ik _ _ | .bk _ | .zs | .im _ _ | .ip _ _ _ | .pt _ _ _ _ | .ow _ _ _ | .oo _ _ _ _ _=>false
def z2i:List (VT T)→Bool
 | []=>false
 | x::l=>zzn x || z2i l
end
theorem z5l {m:Bool} {t:Nat} (xs:List (T.El t)):z2d (xs.map (T.ca m t))=xs.map (T.ca false t):=z2j (fun x=>T.im_ok m t x) xs
mutual
theorem zw4 {H0 Hn:H} {rest:TH T.toTT0} {m:List (Nat×Nat)} {bor:Bool} (hs:∀ k,(m.map Prod.snd).contains k=false→z6 (denH T.toTT0 rest) k=z6 H0 k) :
  ∀ (d:VD) (v v':VT T),(zib rest m d v).gives v'→(zzn v=true→bor=true)→∃ a,conv (denH T.toTT0 rest) m bor (den T.toTT0 H0 v)=some a∧AVle a (den T.toTT0 Hn v')
 | .any,v,v',hg,hb=>by
  cases v <;> first | exact hg.elim | (cases hg; exact ⟨_,rfl,AVle.refl _⟩)
 | .im t,v,v',hg,hb=>by
  cases v with
  | im t' xs =>
   obtain ⟨h1,rfl⟩:=zv hg
   exact ⟨_,rfl,AVle.refl _⟩
  | zs=>cases hg; exact ⟨_,rfl,by simp only [den,List.map_nil]; exact AVle.zsIm _⟩
  | sw k p =>
   simp only [zib] at hg
   cases hc:(m.map Prod.snd).contains k with
   | true=>rw [hc] at hg; exact hg.elim
   | false =>
    rw [hc,cond_false] at hg
    obtain ⟨r,hr,hg⟩:=z4n hg
    split at hg
    ·rename_i m' t' xs
     obtain ⟨h1,rfl⟩:=zv hg
     have hl:zd H0 k p=xs.length:=by
      have:res H0 k p=res (denH T.toTT0 rest) k p:=by unfold res; rw [hs k hc]
      unfold zd
      rw [this,hr]; simp [denR]
     have hbor:bor=true:=hb rfl
     refine ⟨_,?_,AVle.refl _⟩
     simp only [den,conv,hbor,if_true,hr,hl,denR]
     rw [if_pos (by simp),List.drop_zero,List.take_of_length_le (by simp),z5l]
    ·exact hg.elim
  | sl k p off len =>
   obtain ⟨r,hr,hg⟩:=z4n hg
   split at hg
   ·rename_i m' t' xs
    obtain ⟨h1,hc,rfl⟩:=zv hg
    have hbor:bor=true:=hb rfl
    refine ⟨_,?_,AVle.refl _⟩
    have:(((xs.map (T.ca m' t')).drop off).take len)=((xs.drop off).take len).map (T.ca m' t'):=by simp [List.map_take,List.map_drop]
    simp only [den,conv,hbor,if_true,hr,denR]
    rw [if_pos (by simpa using hc),this,z5l]
   ·exact hg.elim
  | _=>exact hg.elim
 | .ag ds,v,v',hg,hb=>by
  cases v with
  | ag cs =>
   obtain ⟨cs',h1,h2⟩:=Rs.bind_gives _ hg
   cases h2
   obtain ⟨l,q1,q2⟩:=z6t (Hn:=Hn) (bor:=bor) hs ds cs cs' h1 hb
   exact ⟨.ag l,by simp only [den,conv,q1],by simp only [den]; exact AVle.ag q2.C⟩
  | _=>exact hg.elim
 | .pt key,v,v',hg,hb=>by
  cases v with
  | pt k p i c =>
   cases p with
   | nil =>
    simp only [zib] at hg
    split at hg
    ·rename_i n hn
     cases hg
     exact ⟨_,by simp only [den,conv,hn,if_true],AVle.refl _⟩
    ·exact hg.elim
   | cons _ _=>exact hg.elim
  | _=>exact hg.elim
 | .fn f ds,v,v',hg,hb=>by
  cases v with
  | fn f' cs =>
   obtain ⟨cs',h1,h2⟩:=Rs.bind_gives _ hg
   cases h2
   obtain ⟨l,q1,q2⟩:=z6t (Hn:=Hn) (bor:=bor) hs ds cs cs' h1 hb
   exact ⟨.fn f' l,by simp only [den,conv,q1],by simp only [den]; exact AVle.fn q2.L⟩
  | _=>exact hg.elim
theorem z6t {H0 Hn:H} {rest:TH T.toTT0} {m:List (Nat×Nat)} {bor:Bool} (hs:∀ k,(m.map Prod.snd).contains k=false→z6 (denH T.toTT0 rest) k=z6 H0 k) :
  ∀ (ds:List VD) (vs vs':List (VT T)),(z9k rest m ds vs).gives vs'→(z2i vs=true→bor=true)→∃ l,z1v (denH T.toTT0 rest) m bor (denL T.toTT0 H0 vs)=some l∧z4e l (denL T.toTT0 Hn vs')
 | [],vs,vs',hg,hb=>by
  cases vs with
  | nil=>cases hg; exact ⟨[],rfl,.nil⟩
  | cons _ _=>exact hg.elim
 | d::ds,vs,vs',hg,hb=>by
  cases vs with
  | nil=>exact hg.elim
  | cons v vs =>
   obtain ⟨v1,h1,hg⟩:=Rs.bind_gives _ hg
   obtain ⟨vs1,h2,hg⟩:=Rs.bind_gives _ hg
   cases hg
   obtain ⟨a,q1,q2⟩:=zw4 (Hn:=Hn) (bor:=bor) hs d v v1 h1 (fun h=>hb (by simp [z2i,h]))
   obtain ⟨l,q3,q4⟩:=z6t (Hn:=Hn) (bor:=bor) hs ds vs vs1 h2 (fun h=>hb (by simp [z2i,h]))
   exact ⟨a::l,by simp only [denL,z1v,q1,q3],.cons q2 q4⟩
end
def z73:TH T.toTT0→List (Nat×Nat)→Option (TH T.toTT0×TH T.toTT0)
 | h,[]=>some ([],h)
 | h,(n,o)::m =>
  match getT h o with
  | some r=>match z73 (delT h o) m with
   | some (hs,rest)=>some ((n,r)::hs,rest)
   | none=>none
  | none=>none
theorem z5j:∀ (m:List (Nat×Nat)) (h hs rest:TH T.toTT0),z73 h m=some (hs,rest) →
  z1p (denH T.toTT0 h) m=some (denH T.toTT0 hs,denH T.toTT0 rest)∧(∀ k,(m.map Prod.snd).contains k=false→z6 (denH T.toTT0 rest) k=z6 (denH T.toTT0 h) k) ∧
  ∀ n o,zk (m.map Prod.fst)=true→zk (m.map Prod.snd)=true→(n,o) ∈ m→z6 (denH T.toTT0 hs) n=z6 (denH T.toTT0 h) o
 | [],h,_,_,hh=>by cases hh; exact ⟨rfl,fun _ _=>rfl,fun _ _ _ _ h=>(by cases h)⟩
 | (n,o)::m,h,_,_,hh=>by
  unfold z73 at hh
  split at hh
  ·rename_i r hr
   split at hh
   ·rename_i hs rest h2
    cases hh
    obtain ⟨q1,q2,q3⟩:=z5j m _ _ _ h2
    have hgr:z6 (denH T.toTT0 h) o=some (denR T.toTT0 r):=by rw [z1u,hr]; rfl
    refine ⟨?_,fun k hk=>?_,fun n' o' h1 h2 hm=>?_⟩
    ·simp only [z1p,hgr,zx,q1,denH]
    ·simp only [List.map_cons,List.contains_cons,Bool.or_eq_false_iff,beq_eq_false_iff_ne] at hk
     rw [q2 k hk.2,← zx,z16 hk.1]
    ·simp only [List.map_cons,zk,Bool.and_eq_true,Bool.not_eq_true'] at h1 h2
     rcases List.mem_cons.1 hm with hm | hm
     ·cases hm
      simp only [denH,z6,if_true,hgr]
     ·have hn:n ≠ n':=fun e=>by
       have:(m.map Prod.fst).contains n=true:=by
        rw [e]; simp only [List.contains_eq_mem,decide_eq_true_eq]; exact List.mem_map.2 ⟨_,hm,rfl⟩
       rw [h1.1] at this; cases this
      have ho:o' ≠ o:=fun e=>by
       have:(m.map Prod.snd).contains o=true:=by
        rw [← e]; simp only [List.contains_eq_mem,decide_eq_true_eq]; exact List.mem_map.2 ⟨_,hm,rfl⟩
       rw [h2.1] at this; cases this
      simp only [denH,z6]
      rw [if_neg hn,q3 n' o' h1.2 h2.2 hm,← zx,z16 ho]
   ·cases hh
  ·cases hh
def z20 (h:TH T.toTT0):List Nat→TH T.toTT0
 | []=>h
 | k::ks=>z20 (delT h k) ks
theorem z44:∀ (ks:List Nat) (h:TH T.toTT0),z10 (denH T.toTT0 h) ks=denH T.toTT0 (z20 h ks)
 | [],_=>rfl
 | k::ks,h=>by simp only [z10,z20,zx,z44 ks]
theorem z64:∀ (ks:List Nat) (h:H) (k:Nat),ks.contains k=false→z6 (z10 h ks) k=z6 h k
 | [],_,_,_=>rfl
 | k'::ks,h,k,hk=>by
  simp only [List.contains_cons,Bool.or_eq_false_iff,beq_eq_false_iff_ne] at hk
  rw [z10,z64 ks _ k hk.2,z16 hk.1]
theorem z2b:∀ (a b:H) (k:Nat),z6 (a++b) k=match z6 a k with | some r=>some r | none=>z6 b k
 | [],_,_=>rfl
 | (k',r)::a,b,k=>by
  simp only [List.cons_append,z6]
  split
  ·rfl
  ·exact z2b a b k
mutual
def z32 (bm:List (Nat×Nat)):VT T→Option (VT T)
 | .sc v=>some (.sc v)
 | .zs=>some .zs
 | .un=>some .un
 | .im t xs=>some (.im t xs)
 | .sl k p off len=>match z1e bm k with | some n=>some (.sl n p off len) | none=>none
 | .sw k p=>match z1e bm k with | some n=>some (.sw n p) | none=>none
 | .pt k p i c=>match z1e bm k with | some n=>some (.pt n p i c) | none=>none
 | .ag cs=>match z9j bm cs with | some cs'=>some (.ag cs') | none=>none
 | .tu vs=>match z9j bm vs with | some cs'=>some (.tu cs') | none=>none
 | .fn f caps=>match z9j bm caps with | some cs'=>some (.fn f cs') | none=>none
 | .ip s cs c=>some (.ip s cs c)
 | .ik _ _ | .bk _ | .ow _ _ _ | .oo _ _ _ _ _=>none
def z9j (bm:List (Nat×Nat)):List (VT T)→Option (List (VT T))
 | []=>some []
 | x::l=>match z32 bm x,z9j bm l with | some x',some l'=>some (x'::l') | _,_=>none
end
mutual
theorem z7y {Ho H1:H} {bm:List (Nat×Nat)} (hl:∀ k n p,z1e bm k=some n→zd H1 n p=zd Ho k p):∀ (v v':VT T),z32 bm v=some v'→back bm (den T.toTT0 Ho v)=some (den T.toTT0 H1 v')
 | .sc _,_,h | .zs,_,h | .un,_,h | .im _ _,_,h | .ip _ _ _,_,h=>by cases h; rfl
 | .sl k p off len,v',h=>by
  simp only [z32] at h
  split at h
  ·rename_i n hn; cases h; simp only [den,back,hn]
  ·cases h
 | .sw k p,v',h=>by
  simp only [z32] at h
  split at h
  ·rename_i n hn; cases h; simp only [den,back,hn,hl k n p hn]
  ·cases h
 | .pt k p i c,v',h=>by
  simp only [z32] at h
  split at h
  ·rename_i n hn; cases h; simp only [den,back,hn]
  ·cases h
 | .ag cs,v',h=>by
  simp only [z32] at h
  split at h
  ·rename_i cs' hc; cases h; simp only [den,back,z8l hl cs cs' hc]
  ·cases h
 | .tu cs,v',h=>by
  simp only [z32] at h
  split at h
  ·rename_i cs' hc; cases h; simp only [den,back,z8l hl cs cs' hc]
  ·cases h
 | .fn f cs,v',h=>by
  simp only [z32] at h
  split at h
  ·rename_i cs' hc; cases h; simp only [den,back,z8l hl cs cs' hc]
  ·cases h
 | .ik _ _,_,h | .bk _,_,h | .ow _ _ _,_,h | .oo _ _ _ _ _,_,h=>by cases h
theorem z8l {Ho H1:H} {bm:List (Nat×Nat)} (hl:∀ k n p,z1e bm k=some n→zd H1 n p=zd Ho k p):∀ (v v':List (VT T)),z9j bm v=some v'→z4t bm (denL T.toTT0 Ho v)=some (denL T.toTT0 H1 v')
 | [],_,h=>by cases h; rfl
 | x::l,v',h=>by
  simp only [z9j] at h
  split at h
  ·rename_i x' l' h1 h2
   cases h
   simp only [denL,z4t,z7y hl x x' h1,z8l hl l l' h2]
  ·cases h
end
mutual
def z8z:VT T→Bool
 | .im _ _ | .ip _ _ _ | .oo _ _ _ _ _=>false
 | .ow m t _=>bif m then T.po t else T.pl t
 | .ag cs=>z8a cs
 | .tu cs=>z8a cs
 | .fn _ cs=>z8a cs
 | .un | .sc _ | .ik _ _ | .bk _ | .zs | .sl _ _ _ _ | .sw _ _ | .pt _ _ _ _=>true
def z8a:List (VT T)→Bool
 | []=>true
 | x::l=>z8z x && z8a l
end
theorem zle {m:Bool} {t:Nat} (h:(bif m then T.po t else T.pl t)=true) (xs:List (T.El t)):z7l (xs.map (T.ca m t))=true:=by
 refine z2c (fun x=>?_) xs
 cases m with
 | true=>exact T.ow_ok t x h
 | false=>exact T.pl_ok t x (by simpa using h)
mutual
theorem zbb {h:H}:∀ (v:VT T),z8z v=true→noIm (den T.toTT0 h v)=true
 | .un,_ | .sc _,_ | .ik _ _,_ | .bk _,_ | .zs,_ | .sl _ _ _ _,_ | .sw _ _,_ | .pt _ _ _ _,_=>rfl
 | .im _ _,hn | .ip _ _ _,hn | .oo _ _ _ _ _,hn=>by simp [z8z] at hn
 | .ow m t xs,hn=>by simp only [den,noIm]; exact zle hn xs
 | .ag cs,hn=>by simp only [den,noIm]; exact z6x cs hn
 | .tu cs,hn=>by simp only [den,noIm]; exact z6x cs hn
 | .fn _ cs,hn=>by simp only [den,noIm]; exact z6x cs hn
theorem z6x {h:H}:∀ (v:List (VT T)),z8a v=true→z1n (denL T.toTT0 h v)=true
 | [],_=>rfl
 | x::l,hn=>by
  simp only [z8a,Bool.and_eq_true] at hn
  simp only [denL,z1n,zbb x hn.1,z6x l hn.2,Bool.and_self]
end
def zv5:TR T.El→Bool
 | .typ m t _=>bif m then T.po t else T.pl t
 | .lit _ xs=>xs.all z8a
 | .opn _ _ _ _ _=>false
def z89 (h:TH T.toTT0):Bool:=h.all fun x=>zv5 x.2
theorem z8y:∀ (h:TH T.toTT0),z89 h=true→z2v (denH T.toTT0 h)=true
 | [],_=>rfl
 | (k,r)::h,hn=>by
  simp only [z89,List.all_cons,Bool.and_eq_true] at hn
  have ih:=z8y h hn.2
  simp only [z2v,denH,List.all_cons,Bool.and_eq_true]
  refine ⟨?_,ih⟩
  cases r with
  | typ m t xs=>exact zle hn.1 xs
  | lit s xs =>
   have h1:=hn.1
   simp only [zv5] at h1
   simp only [denR]
   clear ih hn
   induction xs with
   | nil=>rfl
   | cons x xs ih =>
    simp only [List.all_cons,Bool.and_eq_true] at h1
    simp only [List.map_cons,z7l,z6x x h1.1,ih h1.2,Bool.and_self]
  | opn=>cases hn.1
end
abbrev EH (T:TT):=TE T.toTT0×TH T.toTT0
structure LCon (P:Program) (T:TT) (pro:List Nat) where
 body:IC
 X:Type
 Y:Type
 Z:Type
 encX:X→EH T
 encY:Y→EH T
 encZ:Z→EH T
 id:Nat
 ret:Bool
 G:X→Option (Bo X Y Z)
 ok:∀ x b,G x=some b→W P pro (.loop body) (fun o e h=>match b with
  | .go _=>False
  | .out y=>o = .exit id∧e=denE T.toTT0 (denH T.toTT0 (encY y).2) (encY y).1∧h=denH T.toTT0 (encY y).2
  | .ret z=>ret=true∧o = .ret∧e=denE T.toTT0 (denH T.toTT0 (encZ z).2) (encZ z).1∧h=denH T.toTT0 (encZ z).2) (denE T.toTT0 (denH T.toTT0 (encX x).2) (encX x).1) (denH T.toTT0 (encX x).2)
inductive Raw (P:Program) (T:TT) (pro:List Nat):Type→Type 1 where
 | leaf {L:Type} (x:L):Raw P T pro L
 | no {L:Type}:Raw P T pro L
 | ite {L:Type} (b:Bool) (x y:Raw P T pro L):Raw P T pro L
 | bnd {L A:Type} (x:Option A) (K:A→Raw P T pro L):Raw P T pro L
 | need {L:Type} (p:Prop) [Decidable p] (K:Raw P T pro L):Raw P T pro L
 | join {L S:Type} (enc:S→EH T) (B:Raw P T pro (EH T⊕L)) (K:S→Raw P T pro L):Raw P T pro L
 | call {L:Type} (C:Con P T) (args:List (VT T)) (hin:TH T.toTT0) (K:C.Y→Raw P T pro L):Raw P T pro L
 | loop {L V:Type} (c:V→LCon P T pro) (body:IC) (eh:EH T) (KY:(v:V)→(c v).Y→Raw P T pro L):Raw P T pro L
 | loopR {L V:Type} (c:V→LCon P T pro) (body:IC) (eh:EH T) (KY:(v:V)→(c v).Y→Raw P T pro L) (KZ:(v:V)→(c v).Z→Raw P T pro L):Raw P T pro L
section
variable {P:Program} {T:TT} {pro:List Nat}
def y9g {S E L:Type} (enc:S→E) (A:S→Prop) (Q:L→Prop):E⊕L→Prop
 | .inl eh=>∃ s,enc s=eh∧A s
 | .inr l=>Q l
def boP {X Y Z:Type} (A:Y→Prop) (B:Z→Prop):Bo X Y Z→Prop
 | .go _=>False
 | .out y=>A y
 | .ret z=>B z
def zn {S R:Type} (A:S→Option R):S⊕R→Option R
 | .inl s=>A s
 | .inr r=>some r
def Sat:{L:Type}→Raw P T pro L→(L→Prop)→Prop
 | _,.leaf x,Q=>Q x
 | _,.no,_=>False
 | _,.ite b x y,Q=>(b=true→Sat x Q)∧(b=false→Sat y Q)
 | _,.bnd x K,Q=>∃ a,x=some a∧Sat (K a) Q
 | _,@Raw.need _ _ _ _ p _ K,Q=>p∧Sat K Q
 | _,.join enc B K,Q=>Sat B (y9g enc (fun s=>Sat (K s) Q) Q)
 | _,.call C args hin K,Q=>∃ x y,C.encA x=args∧C.encH x=hin∧C.G x=some y∧Sat (K y) Q
 | _,.loop c body eh KY,Q=>∃ v,(c v).body=body∧∃ x y,(c v).encX x=eh∧(c v).ret=false∧(c v).G x=some (.out y)∧Sat (KY v y) Q
 | _,.loopR c body eh KY KZ,Q=>∃ v,(c v).body=body∧∃ x b,(c v).encX x=eh∧(c v).G x=some b∧boP (fun y=>Sat (KY v y) Q) (fun z=>Sat (KZ v z) Q) b
theorem Sat.mono:∀ {L:Type} (t:Raw P T pro L) {Q Q':L→Prop},(∀ l,Q l→Q' l)→Sat t Q→Sat t Q'
 | _,.leaf x,_,_,h,hs=>h _ hs
 | _,.no,_,_,_,hs=>hs
 | _,.ite b x y,_,_,h,hs=>⟨fun hb=>Sat.mono x h (hs.1 hb),fun hb=>Sat.mono y h (hs.2 hb)⟩
 | _,.bnd x K,_,_,h,hs=>by
  obtain ⟨a,h1,h2⟩:=hs
  exact ⟨a,h1,Sat.mono (K a) h h2⟩
 | _,@Raw.need _ _ _ _ p _ K,_,_,h,hs=>⟨hs.1,Sat.mono K h hs.2⟩
 | _,.join enc B K,_,_,h,hs=>Sat.mono B (fun l hl=>by
  cases l with
  | inl eh=>obtain ⟨s,h1,h2⟩:=hl; exact ⟨s,h1,Sat.mono (K s) h h2⟩
  | inr l=>exact h l hl) hs
 | _,.call C args hin K,_,_,h,hs=>by
  obtain ⟨x,y,h1,h2,h3,h4⟩:=hs
  exact ⟨x,y,h1,h2,h3,Sat.mono (K y) h h4⟩
 | _,.loop c body eh KY,_,_,h,hs=>by
  obtain ⟨v,h0,x,y,h1,hr,h2,h3⟩:=hs
  exact ⟨v,h0,x,y,h1,hr,h2,Sat.mono (KY v y) h h3⟩
 | _,.loopR c body eh KY KZ,_,_,h,hs=>by
  obtain ⟨v,h0,x,b,h1,h2,h3⟩:=hs
  exact ⟨v,h0,x,b,h1,h2,by
   cases b with
   | go _=>exact h3
   | out y=>exact Sat.mono (KY v y) h h3
   | ret z=>exact Sat.mono (KZ v z) h h3⟩
def Raw.map:{L L':Type}→(L→L')→Raw P T pro L→Raw P T pro L'
 | _,_,f,.leaf x=>.leaf (f x)
 | _,_,_,.no=>.no
 | _,_,f,.ite b x y=>.ite b (x.map f) (y.map f)
 | _,_,f,.bnd x K=>.bnd x fun a=>(K a).map f
 | _,_,f,@Raw.need _ _ _ _ p _ K=>.need p (K.map f)
 | _,_,f,.join enc B K=>.join enc (B.map (Sum.map id f)) fun s=>(K s).map f
 | _,_,f,.call C args hin K=>.call C args hin fun y=>(K y).map f
 | _,_,f,.loop c body eh KY=>.loop c body eh fun v y=>(KY v y).map f
 | _,_,f,.loopR c body eh KY KZ=>.loopR c body eh (fun v y=>(KY v y).map f) (fun v z=>(KZ v z).map f)
theorem Sat.map:∀ {L L':Type} (f:L→L') (t:Raw P T pro L) (Q:L'→Prop),Sat (t.map f) Q→Sat t fun l=>Q (f l)
 | _,_,f,.leaf x,Q,h=>h
 | _,_,_,.no,_,h=>h
 | _,_,f,.ite b x y,Q,h=>⟨fun hb=>Sat.map f x Q (h.1 hb),fun hb=>Sat.map f y Q (h.2 hb)⟩
 | _,_,f,.bnd x K,Q,h=>by
  obtain ⟨a,h1,h2⟩:=h
  exact ⟨a,h1,Sat.map f (K a) Q h2⟩
 | _,_,f,@Raw.need _ _ _ _ p _ K,Q,h=>⟨h.1,Sat.map f K Q h.2⟩
 | _,_,f,.join enc B K,Q,h=>by
  have:=Sat.map (Sum.map id f) B _ h
  refine Sat.mono B (fun l hl=>?_) this
  cases l with
  | inl eh=>obtain ⟨s,h1,h2⟩:=hl; exact ⟨s,h1,Sat.map f (K s) Q h2⟩
  | inr l=>exact hl
 | _,_,f,.call C args hin K,Q,h=>by
  obtain ⟨x,y,h1,h2,h3,h4⟩:=h
  exact ⟨x,y,h1,h2,h3,Sat.map f (K y) Q h4⟩
 | _,_,f,.loop c body eh KY,Q,h=>by
  obtain ⟨v,h0,x,y,h1,hr,h2,h3⟩:=h
  exact ⟨v,h0,x,y,h1,hr,h2,Sat.map f (KY v y) Q h3⟩
 | _,_,f,.loopR c body eh KY KZ,Q,h=>by
  obtain ⟨v,h0,x,b,h1,h2,h3⟩:=h
  exact ⟨v,h0,x,b,h1,h2,by
   cases b with
   | go _=>exact h3
   | out y=>exact Sat.map f (KY v y) Q h3
   | ret z=>exact Sat.map f (KZ v z) Q h3⟩
def Raw.ofRs {L X:Type} (K:X→Raw P T pro L):Rs X→Raw P T pro L
 | .ok v=>K v
 | .no=>.no
 | .bnd x F=>.bnd x fun a=>Raw.ofRs K (F a)
 | @Rs.need _ p _ F=>.need p (Raw.ofRs K F)
 | .ite b x y=>.ite b (Raw.ofRs K x) (Raw.ofRs K y)
theorem Sat.ofRs {L X:Type} {K:X→Raw P T pro L} {Q:L→Prop}:∀ (r:Rs X),Sat (Raw.ofRs K r) Q→∃ v,r.gives v∧Sat (K v) Q
 | .ok v,h=>⟨v,rfl,h⟩
 | .no,h=>h.elim
 | .bnd x F,h=>by
  obtain ⟨a,h1,h2⟩:=h
  obtain ⟨v,h3,h4⟩:=Sat.ofRs (F a) h2
  exact ⟨v,⟨a,h1,h3⟩,h4⟩
 | @Rs.need _ p _ F,h=>by
  obtain ⟨h1,h2⟩:=h
  obtain ⟨v,h3,h4⟩:=Sat.ofRs F h2
  exact ⟨v,⟨h1,h3⟩,h4⟩
 | .ite b x y,h=>by
  obtain ⟨h1,h2⟩:=h
  cases b with
  | true =>
   obtain ⟨v,h3,h4⟩:=Sat.ofRs x (h1 rfl)
   exact ⟨v,.inl ⟨rfl,h3⟩,h4⟩
  | false =>
   obtain ⟨v,h3,h4⟩:=Sat.ofRs y (h2 rfl)
   exact ⟨v,.inr ⟨rfl,h3⟩,h4⟩
inductive Pt (P:Program) (T:TT) (pro:List Nat):Type→Type 1 where
 | leaf {R:Type} (x:R):Pt P T pro R
 | no {R:Type}:Pt P T pro R
 | ite {R:Type} (b:Bool) (x y:Pt P T pro R):Pt P T pro R
 | bnd {R A:Type} (x:Option A) (K:A→Pt P T pro R):Pt P T pro R
 | need {R:Type} (p:Prop) [Decidable p] (K:Pt P T pro R):Pt P T pro R
 | join {R S:Type} (enc:S→EH T) (B:Pt P T pro (S⊕R)) (K:S→Pt P T pro R):Pt P T pro R
 | call {R:Type} (C:Con P T) (x:C.X) (K:C.Y→Pt P T pro R):Pt P T pro R
 | loop {R V:Type} (c:V→LCon P T pro) (v:V) (x:(c v).X) (KY:(v:V)→(c v).Y→Pt P T pro R):Pt P T pro R
 | loopR {R V:Type} (c:V→LCon P T pro) (v:V) (x:(c v).X) (KY:(v:V)→(c v).Y→Pt P T pro R) (KZ:(v:V)→(c v).Z→Pt P T pro R):Pt P T pro R
def Pt.run:{R:Type}→Pt P T pro R→Option R
 | _,.leaf x=>some x
 | _,.no=>none
 | _,.ite b x y=>bif b then x.run else y.run
 | _,.bnd x K=>x.bind fun a=>(K a).run
 | _,@Pt.need _ _ _ _ p _ K=>Loom.need p K.run
 | _,.join enc B K=>B.run.bind (zn fun s=>(K s).run)
 | _,.call C x K=>(C.G x).bind fun y=>(K y).run
 | _,.loop c v x KY=>((c v).G x).bind (Bo.then (fun y=>bif (c v).ret then none else (KY v y).run) (fun _=>none))
 | _,.loopR c v x KY KZ=>((c v).G x).bind (Bo.then (fun y=>(KY v y).run) (fun z=>(KZ v z).run))
def Pt.raw:{R L:Type}→(R→L)→Pt P T pro R→Raw P T pro L
 | _,_,f,.leaf x=>.leaf (f x)
 | _,_,_,.no=>.no
 | _,_,f,.ite b x y=>.ite b (x.raw f) (y.raw f)
 | _,_,f,.bnd x K=>.bnd x fun a=>(K a).raw f
 | _,_,f,@Pt.need _ _ _ _ p _ K=>.need p (K.raw f)
 | _,_,f,.join enc B K=>.join enc (B.raw (Sum.map enc f)) fun s=>(K s).raw f
 | _,_,f,.call C x K=>.call C (C.encA x) (C.encH x) fun y=>(K y).raw f
 | _,_,f,.loop c v x KY=>.loop c (c v).body ((c v).encX x) fun v y=>(KY v y).raw f
 | _,_,f,.loopR c v x KY KZ=>.loopR c (c v).body ((c v).encX x) (fun v y=>(KY v y).raw f) (fun v z=>(KZ v z).raw f)
theorem z2y:∀ {R L:Type} (f:R→L) (t:Pt P T pro R) (r:R),t.run=some r→Sat (t.raw f) fun l=>l=f r
 | _,_,f,.leaf x,r,h=>by cases h; exact rfl
 | _,_,_,.no,_,h=>by cases h
 | _,_,f,.ite b x y,r,h=>⟨fun hb=>by subst hb; exact z2y f x r h,fun hb=>by subst hb; exact z2y f y r h⟩
 | _,_,f,.bnd x K,r,h=>by
  obtain ⟨a,h1,h2⟩:=zc h
  exact ⟨a,h1,z2y f (K a) r h2⟩
 | _,_,f,@Pt.need _ _ _ _ p _ K,r,h=>by
  obtain ⟨h1,h2⟩:=z3o h
  exact ⟨h1,z2y f K r h2⟩
 | _,_,f,.join enc B K,r,h=>by
  simp only [Pt.run] at h
  obtain ⟨b,h1,h2⟩:=zc h
  refine Sat.mono (B.raw (Sum.map enc f)) (fun l hl=>?_) (z2y (Sum.map enc f) B b h1)
  subst hl
  cases b with
  | inl s=>exact ⟨s,rfl,z2y f (K s) r h2⟩
  | inr r'=>cases h2; exact rfl
 | _,_,f,.call C x K,r,h=>by
  obtain ⟨y,h1,h2⟩:=zc h
  exact ⟨x,y,rfl,rfl,h1,z2y f (K y) r h2⟩
 | _,_,f,.loop c v x KY,r,h=>by
  obtain ⟨b,h1,h2⟩:=zc h
  cases b with
  | go _=>cases h2
  | out y =>
   simp only [Bo.then] at h2
   cases hr:(c v).ret with
   | true=>rw [hr] at h2; cases h2
   | false=>rw [hr] at h2; exact ⟨v,rfl,x,y,rfl,hr,h1,z2y f (KY v y) r h2⟩
  | ret z=>cases h2
 | _,_,f,.loopR c v x KY KZ,r,h=>by
  obtain ⟨b,h1,h2⟩:=zc h
  cases b with
  | go _=>cases h2
  | out y=>exact ⟨v,rfl,x,_,rfl,h1,z2y f (KY v y) r h2⟩
  | ret z=>exact ⟨v,rfl,x,_,rfl,h1,z2y f (KZ v z) r h2⟩
end
section
variable {P:Program} {T:TT} {pro:List Nat}
def zv0:Kd→Bool
 | .no=>false
 | _=>true
def kdAt (ks:List Kd) (c:Nat):Bool:=match ks[c]? with | some k=>zv0 k | none=>false
def zga (ks:List Kd) (k:Nat) (k':Nat) (q:Path):Bool:=Nat.beq k' k && match q with | (_,c)::_=>kdAt ks c | []=>false
theorem zpj (ks:List Kd) (k:Nat):z3h (tgOf T ks) k=zga ks k:=by
 funext k' q
 unfold z3h zga
 have:(k'==k)=Nat.beq k' k:=by rw [Bool.eq_iff_iff]; simp
 rw [this]
 congr 1
 cases q with
 | nil=>rfl
 | cons x q =>
  obtain ⟨i,c⟩:=x
  simp only [tgOf,kdAt]
  cases ks[c]? with
  | none=>rfl
  | some kd=>cases kd <;> rfl
def zd5:List Kd→List (VT T)→Bool
 | k::ks,v::vs=>(zv0 k && isZT v) || zd5 ks vs
 | _,_=>false
def zay (e:TE T.toTT0) (h:TH T.toTT0) (k:Nat) (ks:List Kd):Option (TE T.toTT0×TH T.toTT0) :=
 match getT h k with
 | some (.lit s xs)=>bif xs.any (zd5 ks) then some (z45 (zga ks k) (fun _ _=>false) e,(k,.lit s (xs.map (fixT ks)))::delT h k) else some (e,h)
 | some _=>some (e,h)
 | none=>none
theorem zdx {e e1:TE T.toTT0} {h h1:TH T.toTT0} {k:Nat} {ks:List Kd} (hf:zay e h k ks=some (e1,h1)) :
  z9 P pro (denE T.toTT0 (denH T.toTT0 h) e) (denH T.toTT0 h) (denE T.toTT0 (denH T.toTT0 h1) e1) (denH T.toTT0 h1):=by
 unfold zay at hf
 split at hf
 ·rename_i s xs hr
  cases hb:xs.any (zd5 ks) with
  | false=>rw [hb] at hf; cases hf; exact z9.rfl'
  | true =>
   rw [hb] at hf
   cases hf
   have hgr:z6 (denH T.toTT0 h) k=some ⟨s,xs.map (denL T.toTT0 [])⟩:=by rw [z1u,hr]; rfl
   have hrow:(xs.map (fixT ks)).map (denL T.toTT0 [])=(xs.map (denL T.toTT0 [])).map (fixA (tgOf T ks) 0):=by
    rw [List.map_map,List.map_map]
    exact List.map_congr_left fun x _=>by simpa using z9o (T:=T) (h:=[]) ks x 0
   refine z9.trans (z9.fix (tgOf T ks) (zab ks) hgr) ?_
   simp only [denH,ziy,hrow,← zx]
   refine z9.le fun t=>?_
   simp only [zy,denE,z2a,zpj]
   refine z5f (fun _ _ h=>h) (fun k' q _ _=>?_) _
   by_cases hk:k'=k
   ·subst hk
    rw [z3n (r:=⟨s,(xs.map (denL T.toTT0 [])).map (fixA (tgOf T ks) 0)⟩) (by simp [z6]),z3n hgr]
    exact zjl (zab ks) q
   ·exact z18 (by simp only [z6]; rw [if_neg (fun e=>hk e.symm),z16 hk])
 ·cases hf; exact z9.rfl'
 ·cases hf
def zcz (e:TE T.toTT0) (h:TH T.toTT0):List (Nat×List Kd)→Option (TE T.toTT0×TH T.toTT0)
 | []=>some (e,h)
 | (k,ks)::l=>match zay e h k ks with | some (e,h)=>zcz e h l | none=>none
theorem zjm:∀ (l:List (Nat×List Kd)) (e e1:TE T.toTT0) (h h1:TH T.toTT0),zcz e h l=some (e1,h1) →
  z9 P pro (denE T.toTT0 (denH T.toTT0 h) e) (denH T.toTT0 h) (denE T.toTT0 (denH T.toTT0 h1) e1) (denH T.toTT0 h1)
 | [],_,_,_,_,hf=>by cases hf; exact z9.rfl'
 | (k,ks)::l,e,e1,h,h1,hf=>by
  unfold zcz at hf
  split at hf
  ·rename_i e2 h2 h3
   exact (zdx h3).trans (zjm l _ _ _ _ hf)
  ·cases hf
def z50 (P:Program) (e:TE T.toTT0):IK→Option (Nat×List (VT T))
 | .call f l=>some (f,l.map (evT e))
 | .callv x l=>match evT e x with | .fn f caps=>bif fnOk P f then some (f,l.map (evT e)++caps) else none | _=>none
 | _=>none
theorem zm1 {e:TE T.toTT0} {H0:H} {op:IK} {f d:Nat} {vs:List (VT T)} (ha:z50 P e op=some (f,vs)) {e':Env} {h':H} (hc:z6m P pro (denE T.toTT0 H0 e) H0 d f (denL T.toTT0 H0 vs) e' h'):z2g P pro (denE T.toTT0 H0 e) H0 d op e' h':=by
 unfold z50 at ha
 split at ha
 ·rename_i f l
  cases ha
  refine .call ?_
  rw [z11,List.map_map] at hc
  have:l.map (ev (denE T.toTT0 H0 e))=l.map (den T.toTT0 H0 ∘ evT e):=List.map_congr_left fun x _=>zg x
  rw [this]; exact hc
 ·rename_i x l
  split at ha
  ·rename_i f caps hx
   cases hf:fnOk P f with
   | false=>rw [hf] at ha; cases ha
   | true =>
    rw [hf] at ha
    cases ha
    refine .callv (f:=f) (caps:=denL T.toTT0 H0 caps) (by rw [zg,hx]; rfl) hf ?_
    have:l.map (ev (denE T.toTT0 H0 e))++denL T.toTT0 H0 caps=denL T.toTT0 H0 (l.map (evT e)++caps):=by
     rw [z11,z11,List.map_append,List.map_map]
     congr 1
     exact List.map_congr_left fun x _=>zg x
    rw [this]; exact hc
  ·cases ha
 ·cases ha
def zcx (f:Nat) (args:List (VT T)):List (Con P T)→Option (Con P T×List (Nat×Nat))
 | []=>none
 | C::cs=>bif Nat.beq C.f f then match zfz C.A args with | some m=>some (C,m) | none=>zcx f args cs else zcx f args cs
theorem zav {f:Nat} {args:List (VT T)} {C:Con P T} {m:List (Nat×Nat)}:∀ (cs:List (Con P T)),zcx f args cs=some (C,m)→C.f=f
 | [],h=>by cases h
 | C'::cs,h=>by
  unfold zcx at h
  cases hb:Nat.beq C'.f f with
  | true =>
   rw [hb,cond_true] at h
   split at h
   ·cases h; exact Nat.eq_of_beq_eq_true hb
   ·exact zav cs h
  | false =>
   rw [hb,cond_false] at h
   exact zav cs h
structure Pre (T:TT) where
 m:List (Nat×Nat)
 args:List (VT T)
 hin:TH T.toTT0
 rest:TH T.toTT0
 bor:Bool
def preT (C:Con P T) (m:List (Nat×Nat)) (args:List (VT T)) (h:TH T.toTT0):Rs (Pre T) :=
 bif zk (m.map Prod.fst) && zk (m.map Prod.snd) then
  match z73 h m with
  | none=>.no
  | some (hin,rest)=>(z9k rest m C.A args).bind fun args'=>.ok ⟨m,args',hin,rest,z2i args⟩
 else .no
def zop (d:Nat):List Nat→Nat→List (Nat×Nat)
 | [],_=>[]
 | k::ks,j=>(1000000+d * 100+j,k)::zop d ks (j+1)
def bmOf (m:List (Nat×Nat)) (d:Nat) (N:List Nat):List (Nat×Nat):=(m.map fun x=>(x.2,x.1))++(match N with | [k]=>[(d,k)] | N=>zop d N 0)
def badC (m bm:List (Nat×Nat)) (k:Nat) (q:Path):Bool:=(bm.map Prod.fst).contains k && !((m.map Prod.snd).contains k && q.isEmpty)
def zpv (pro:List Nat) (p:Pre T) (N:List Nat) (e:TE T.toTT0) (d:Nat) (r:VT T) (ho:TH T.toTT0):Option (TE T.toTT0×TH T.toTT0) :=
 let bm:=bmOf p.m d N
 bif zk (bm.map Prod.fst) && zk (bm.map Prod.snd) && z6y p.m bm && z91 pro p.m bm && (!p.bor || (z8z r && z89 ho)) then
  match z73 ho bm,z32 bm r with
  | some (hb,_),some v=>some (putE (z45 (badC p.m bm) (fun k _=>(p.m.map Prod.snd).contains k) e) d v,hb++z20 p.rest (bm.map Prod.fst))
  | _,_=>none
 else none
theorem z6k:∀ (m:List (Nat×Nat)) (h hs rest:H),z1p h m=some (hs,rest)→hs.map Prod.fst=m.map Prod.fst
 | [],h,_,_,hh=>by cases hh; rfl
 | (n,o)::m,h,_,_,hh=>by
  unfold z1p at hh
  split at hh
  ·split at hh
   ·rename_i hs rest h2
    cases hh
    simp [z6k m _ _ _ h2]
   ·cases hh
  ·cases hh
theorem z6b:∀ (h:H) (k:Nat),k ∉ h.map Prod.fst→z6 h k=none
 | [],_,_=>rfl
 | (k',r)::h,k,hk=>by
  simp only [List.map_cons,List.mem_cons,not_or] at hk
  simp only [z6]
  rw [if_neg (fun e=>hk.1 e.symm),z6b h k hk.2]
theorem z6c:∀ (h:H) (k:Nat),k ∈ h.map Prod.fst→∃ r,z6 h k=some r
 | (k',r)::h,k,hk=>by
  simp only [z6]
  by_cases e:k'=k
  ·exact ⟨r,by rw [if_pos e]⟩
  ·rw [if_neg e]
   refine z6c h k ?_
   simp only [List.map_cons,List.mem_cons] at hk
   exact hk.resolve_left (fun h=>e h.symm)
theorem z5s:∀ (m:List (Nat×Nat)) {k n:Nat},z1e m k=some n→(n,k) ∈ m
 | [],_,_,h=>by cases h
 | (a,b)::m,k,n,h=>by
  simp only [z1e] at h
  split at h
  ·rename_i hb
   cases h; subst hb; simp
  ·exact List.mem_cons_of_mem _ (z5s m h)
theorem CallG.le {f:Nat} {args args':List AV} {hin hout:H} {r:AV} (hl:z4e args args') (hc:CallG P f args' hin r hout):CallG P f args hin r hout:=fun I σ w vs hh hv=>hc I σ w vs hh (hl.L I σ (bl w) vs hv)
theorem z1h.le {f:Nat} {args args':List AV} {hin hout:H} {r:AV} (hl:z4e args args') (hc:z1h P f args' hin r hout):z1h P f args hin r hout:=fun I σ w vs hh hv=>hc I σ w vs hh (hl.L I σ (bl w) vs hv)
theorem y05 {C:Con P T} {m:List (Nat×Nat)} {args:List (VT T)} {e e1:TE T.toTT0} {h h1:TH T.toTT0} {p:Pre T} {d:Nat} {N:List Nat} {x:C.X} {y:C.Y} (hp:(preT C m args h).gives p)
  (h1':C.encA x=p.args) (h2:C.encH x=p.hin) (h3:C.G x=some y) (h4:zpv pro p N e d (C.encR y) (C.encO y)=some (e1,h1)) :
  ∃ e0,z6m P pro (denE T.toTT0 (denH T.toTT0 h) e) (denH T.toTT0 h) d C.f (denL T.toTT0 (denH T.toTT0 h) args) e0 (denH T.toTT0 h1)∧z9 P pro e0 (denH T.toTT0 h1) (denE T.toTT0 (denH T.toTT0 h1) e1) (denH T.toTT0 h1):=by
 unfold preT at hp
 obtain ⟨hk,hp⟩:=zv hp
 simp only [Bool.and_eq_true] at hk
 split at hp
 ·exact hp.elim
 ·rename_i hin rest hsp
  obtain ⟨args',hcv,hp⟩:=Rs.bind_gives _ hp
  cases hp
  obtain ⟨s1,s2,s3⟩:=z5j m h hin rest hsp
  obtain ⟨l,q1,q2⟩:=z6t (Hn:=denH T.toTT0 hin) (bor:=z2i args) s2 C.A args args' hcv (fun h=>h)
  unfold zpv at h4
  dsimp only at h4 h1' h2
  generalize hbm:bmOf m d N=bm at h4
  cases hb:(zk (bm.map Prod.fst) && zk (bm.map Prod.snd) && z6y m bm && z91 pro m bm && (!z2i args || (z8z (C.encR y) && z89 (C.encO y)))) with
  | false=>rw [hb] at h4; cases h4
  | true =>
   rw [hb,cond_true] at h4
   simp only [Bool.and_eq_true] at hb
   obtain ⟨⟨⟨⟨b1,b2⟩,b3⟩,b4⟩,b5⟩:=hb
   split at h4
   ·rename_i hb' left v hsb hbk
    cases h4
    obtain ⟨t1,t2,t3⟩:=z5j bm (C.encO y) hb' left hsb
    have hkeys:=z6k _ _ _ _ t1
    have hheap:denH T.toTT0 (hb'++z20 rest (bm.map Prod.fst))=denH T.toTT0 hb'++z10 (denH T.toTT0 rest) (bm.map Prod.fst):=by
     rw [z1y,z44]
    have hsub:∀ k,(m.map Prod.snd).contains k=true→(bm.map Prod.fst).contains k=true:=by
     intro k hk
     simp only [List.contains_eq_mem,decide_eq_true_eq] at hk ⊢
     rw [← hbm]
     obtain ⟨x,hx,rfl⟩:=List.mem_map.1 hk
     unfold bmOf
     rw [List.map_append,List.mem_append]
     left
     rw [List.map_map]
     exact List.mem_map.2 ⟨x,hx,rfl⟩
    have hok:=(C.ok x y h3).2
    rw [h1',h2] at hok
    have hbl:∀ k n q,z1e bm k=some n→zd (denH T.toTT0 (hb'++z20 rest (bm.map Prod.fst))) n q=zd (denH T.toTT0 (C.encO y)) k q:=by
     intro k n q hkn
     have hm:=z5s bm hkn
     have hg:=t3 n k b1 b2 hm
     have hn:n ∈ (denH T.toTT0 hb').map Prod.fst:=by rw [hkeys]; exact List.mem_map.2 ⟨_,hm,rfl⟩
     obtain ⟨r,hr⟩:=z6c _ _ hn
     have:z6 (denH T.toTT0 (hb'++z20 rest (bm.map Prod.fst))) n=z6 (denH T.toTT0 (C.encO y)) k:=by
      rw [hheap,z2b,hr,← hg,hr]
     unfold zd res
     rw [this]
    refine ⟨upd (zy (z56 m bm) (denE T.toTT0 (denH T.toTT0 h) e)) d (den T.toTT0 (denH T.toTT0 (hb'++z20 rest (bm.map Prod.fst))) v),⟨⟨m,bm,z2i args,denH T.toTT0 hin,denH T.toTT0 rest,_,denH T.toTT0 hb',denH T.toTT0 left,l,_,_,s1,zp _ hk.1,q1,CallG.le q2 hok,t1,zp _ b1,b3,b4,z7y hbl _ _ hbk,fun hb=>?_,rfl,hheap⟩⟩,?_⟩
    ·rw [hb] at b5
     simp only [Bool.not_true,Bool.false_or,Bool.and_eq_true] at b5
     exact ⟨zbb _ b5.1,z8y _ b5.2⟩
    ·refine z9.le fun t=>?_
     rw [z1d]
     refine AVle.upd (fun t=>?_) (AVle.refl _) t
     simp only [zy,denE,z2a]
     refine z5f (fun k q hq=>hq) (fun k q hq hw=>?_) _
     have hm:(m.map Prod.snd).contains k=false:=hw
     have hbk:(bm.map Prod.fst).contains k=false:=by
      have hq':z56 m bm k q=false:=hq
      unfold z56 at hq'
      rw [hm] at hq'
      simpa using hq'
     refine z18 ?_
     rw [hheap,z2b,z6b _ _ (by
      rw [hkeys]
      intro hmem
      have:(bm.map Prod.fst).contains k=true:=by simpa using hmem
      rw [this] at hbk; cases hbk)]
     simp only
     rw [z64 _ _ _ hbk,s2 k hm]
   ·cases h4
def zi8 {L:Type} (P:Program) (pro:List Nat) (cs:List (Con P T)) (e:TE T.toTT0) (h:TH T.toTT0) (d:Nat) (op:IK) (K:TE T.toTT0→TH T.toTT0→Raw P T pro L):Raw P T pro L :=
 match z50 P e op with
 | none=>.no
 | some (f,args) =>
 match zcx f args cs with
 | none=>.no
 | some (C,m) =>
 match zcz e h (m.map fun x=>(x.2,(C.H.find? fun y=>Nat.beq y.1 x.1).elim [] Prod.snd)) with
 | none=>.no
 | some (e1,h1) =>
 match z50 P e1 op with
 | none=>.no
 | some (f1,args1)=>bif Nat.beq f1 f then
  Raw.ofRs (fun p=>.call C p.args p.hin fun y=>match zpv pro p C.N e1 d (C.encR y) (C.encO y) with | some (e2,h2)=>K e2 h2 | none=>.no) (preT C m args1 h1)
  else .no
theorem zpi {e e1:TE T.toTT0} {h h1:TH T.toTT0} {k:Nat} {ks:List Kd} (hf:zay e h k ks=some (e1,h1)):∀ t b,denE T.toTT0 (denH T.toTT0 h) e t=Bl b→denE T.toTT0 (denH T.toTT0 h1) e1 t=Bl b:=by
 unfold zay at hf
 split at hf
 ·rename_i s xs hr
  cases hb:xs.any (zd5 ks) with
  | false=>rw [hb] at hf; cases hf; exact fun _ _ h=>h
  | true =>
   rw [hb] at hf
   cases hf
   intro t b ht
   simp only [denE,z2a] at ht ⊢
   cases hv:getE e t <;> rw [hv] at ht <;> simp [den] at ht <;> simp [z24,den,ht]
 ·cases hf; exact fun _ _ h=>h
 ·cases hf
theorem zez:∀ (l:List (Nat×List Kd)) (e e1:TE T.toTT0) (h h1:TH T.toTT0),zcz e h l=some (e1,h1)→∀ t b,denE T.toTT0 (denH T.toTT0 h) e t=Bl b→denE T.toTT0 (denH T.toTT0 h1) e1 t=Bl b
 | [],_,_,_,_,hf=>by cases hf; exact fun _ _ h=>h
 | (k,ks)::l,e,e1,h,h1,hf=>by
  unfold zcz at hf
  split at hf
  ·rename_i e2 h2 h3
   exact fun t b ht=>zez l _ _ _ _ hf t b (zpi h3 t b ht)
  ·cases hf
theorem zqj {L:Type} {cs:List (Con P T)} {e:TE T.toTT0} {h:TH T.toTT0} {d:Nat} {op:IK} {K:TE T.toTT0→TH T.toTT0→Raw P T pro L} {Q:L→Prop} (hs:Sat (zi8 P pro cs e h d op K) Q) :
  ∃ e0 h0 e1 e2 h2,z9 P pro (denE T.toTT0 (denH T.toTT0 h) e) (denH T.toTT0 h) e0 h0∧z2g P pro e0 h0 d op e1 (denH T.toTT0 h2)∧z9 P pro e1 (denH T.toTT0 h2) (denE T.toTT0 (denH T.toTT0 h2) e2) (denH T.toTT0 h2)∧Sat (K e2 h2) Q ∧
   ∀ t b,denE T.toTT0 (denH T.toTT0 h) e t=Bl b→e0 t=Bl b:=by
 unfold zi8 at hs
 split at hs
 ·exact hs.elim
 ·rename_i f args ha
  split at hs
  ·exact hs.elim
  ·rename_i C m hf
   split at hs
   ·exact hs.elim
   ·rename_i e1 h1 hfx
    split at hs
    ·exact hs.elim
    ·rename_i f1 args1 ha1
     cases hb:Nat.beq f1 f with
     | false=>rw [hb] at hs; exact hs.elim
     | true =>
      rw [hb,cond_true] at hs
      have hb:=Nat.eq_of_beq_eq_true hb
      obtain ⟨p,hp,x,y,q1,q2,q3,q4⟩:=Sat.ofRs _ hs
      dsimp only at q4
      split at q4
      ·rename_i e2 h2 hpost
       obtain ⟨e0,c1,c2⟩:=y05 hp q1 q2 q3 hpost
       have hCf:C.f=f1:=(zav cs hf).trans hb.symm
       rw [hCf] at c1
       exact ⟨_,_,e0,e2,h2,zjm _ _ _ _ _ hfx,zm1 ha1 c1,c2,q4,zez _ _ _ _ _ hfx⟩
      ·exact q4.elim
end
section
variable {P:Program} {T:TT} {pro:List Nat}
def cut1 (e:TE T.toTT0) (h:TH T.toTT0) (t:Nat):Rs (TE T.toTT0×TH T.toTT0) :=
 match getE e t with
 | .sl k [] 0 n =>
  match getT h k with
  | some (.typ m' t' xs)=>.need (n≤xs.length) (.ok (putE (z45 (fun _ _=>false) (fun k' _=>Nat.beq k' k) e) t (.sw k []),(k,.typ m' t' (xs.take n))::delT h k))
  | _=>.no
 | _=>.ok (e,h)
theorem zmb {e e1:TE T.toTT0} {h h1:TH T.toTT0} {t:Nat} (hg:(cut1 e h t).gives (e1,h1)) :
  z9 P pro (denE T.toTT0 (denH T.toTT0 h) e) (denH T.toTT0 h) (denE T.toTT0 (denH T.toTT0 h1) e1) (denH T.toTT0 h1)∧∀ u b,denE T.toTT0 (denH T.toTT0 h) e u=Bl b→denE T.toTT0 (denH T.toTT0 h1) e1 u=Bl b:=by
 unfold cut1 at hg
 split at hg
 ·rename_i k n hz
  split at hg
  ·rename_i m' t' xs hr
   obtain ⟨hc,hg⟩:=hg
   cases hg
   have hgr:z6 (denH T.toTT0 h) k=some ⟨T.sz t',xs.map (T.ca m' t')⟩:=by rw [z1u,hr]; rfl
   have h1:=z9.take (P:=P) (pro:=pro) (e:=denE T.toTT0 (denH T.toTT0 h) e) n hgr
   have hh:denH T.toTT0 ((k,.typ m' t' (xs.take n))::delT h k)=(k,⟨T.sz t',(xs.map (T.ca m' t')).take n⟩)::zb (denH T.toTT0 h) k:=by
    simp only [denH,denR,List.map_take,zx]
   rw [hh]
   refine ⟨h1.trans (z9.le fun u=>?_),fun u b hu=>?_⟩
   ·rw [z1d]
    unfold upd
    split
    ·rename_i hu
     subst hu
     have:zd ((k,⟨T.sz t',(xs.map (T.ca m' t')).take n⟩)::zb (denH T.toTT0 h) k) k []=n:=by
      simp only [zd,res,z6,if_true,resE,List.length_take,List.length_map]; omega
     simp only [denE,hz,den,this]; exact AVle.refl _
    ·simp only [denE,z2a]
     have:=z5f (T:=T) (H0:=denH T.toTT0 h) (H1:=(k,⟨T.sz t',(xs.map (T.ca m' t')).take n⟩)::zb (denH T.toTT0 h) k) (b1:=fun _ _=>false) (bad:=fun _ _=>false) (bw:=fun k' _=>Nat.beq k' k) (fun _ _ h=>h) (fun k' p _ hk=>z18 (by
      simp only [z1c,decide_eq_false_iff_not] at hk
      simp only [z6]
      rw [if_neg (fun e=>hk e.symm),z16 hk])) (getE e u)
     rwa [zie] at this
   ·rw [z1d]
    unfold upd
    split
    ·rename_i ht
     subst ht
     simp only [denE,hz,den] at hu
     cases hu
    ·simp only [denE,z2a] at hu ⊢
     cases hv:getE e u <;> rw [hv] at hu <;> simp [den] at hu <;> simp [z24,den,hu]
  ·exact hg.elim
 ·cases hg
  exact ⟨z9.rfl',fun _ _ h=>h⟩
def cuT (pro:List Nat) (j:Nat) (e:TE T.toTT0) (h:TH T.toTT0) (v:Operand):Rs (TE T.toTT0×TH T.toTT0) :=
 match v with
 | .tmp t =>
  match getE e t with
  | .sl k [(i,c)] 0 _=>match zes pro h j k i c with
   | some h1=>cut1 (z6h k i c j e) h1 t
   | none=>.no
  | _=>cut1 e h t
 | _=>.ok (e,h)
theorem y1p {e e1:TE T.toTT0} {h h1:TH T.toTT0} {j:Nat} {v:Operand} (hg:(cuT pro j e h v).gives (e1,h1)) :
  z9 P pro (denE T.toTT0 (denH T.toTT0 h) e) (denH T.toTT0 h) (denE T.toTT0 (denH T.toTT0 h1) e1) (denH T.toTT0 h1)∧∀ u b,denE T.toTT0 (denH T.toTT0 h) e u=Bl b→denE T.toTT0 (denH T.toTT0 h1) e1 u=Bl b:=by
 unfold cuT at hg
 split at hg
 ·split at hg
  ·split at hg
   ·rename_i h2 hd
    obtain ⟨q1,q2⟩:=zmb (P:=P) (pro:=pro) hg
    exact ⟨(zdu hd).trans q1,fun u b hu=>q2 u b (zch hu)⟩
   ·exact hg.elim
  ·exact zmb hg
 ·cases hg
  exact ⟨z9.rfl',fun _ _ h=>h⟩
def dapT (pro:List Nat) (j:Nat) (e:TE T.toTT0) (h:TH T.toTT0) (v:Operand):Option (TE T.toTT0×TH T.toTT0) :=
 match v with
 | .tmp t=>match getE e t with
  | .sl k [(i,c)] _ _=>match zes pro h j k i c with
   | some h1=>some (z6h k i c j e,h1)
   | none=>none
  | _=>some (e,h)
 | _=>some (e,h)
theorem y07 {e e1:TE T.toTT0} {h h1:TH T.toTT0} {j:Nat} {v:Operand} (hg:dapT pro j e h v=some (e1,h1)) :
  z9 P pro (denE T.toTT0 (denH T.toTT0 h) e) (denH T.toTT0 h) (denE T.toTT0 (denH T.toTT0 h1) e1) (denH T.toTT0 h1)∧∀ u b,denE T.toTT0 (denH T.toTT0 h) e u=Bl b→denE T.toTT0 (denH T.toTT0 h1) e1 u=Bl b:=by
 unfold dapT at hg
 split at hg
 ·split at hg
  ·split at hg
   ·rename_i h2 hd
    simp only [Option.some.injEq,Prod.mk.injEq] at hg
    obtain ⟨rfl,rfl⟩:=hg
    exact ⟨zdu hd,fun u b hu=>zch hu⟩
   ·cases hg
  ·simp only [Option.some.injEq,Prod.mk.injEq] at hg
   obtain ⟨rfl,rfl⟩:=hg
   exact ⟨z9.rfl',fun _ _ h=>h⟩
 ·simp only [Option.some.injEq,Prod.mk.injEq] at hg
  obtain ⟨rfl,rfl⟩:=hg
  exact ⟨z9.rfl',fun _ _ h=>h⟩
end
section
variable {I J:Nat→Prop} {σ:Pl} {B:zm} {w:World} {h:H} {sel:Nat→Bool} {k:Nat}
theorem Im.ceFz {p:Path} {i c:Nat}:∀ (a:AV) (v:Value),Im J B (toIm a) v→Ce J σ B k p i c (toIm a) v
 | .ow _ _,_,h=>h
 | .sc _,_,h=>h
 | .zs,_,h=>h
 | .un,_,h=>h
 | .im _ _,_,h=>h
 | .ag _,_,h=>h.elim
 | .tu _,_,h=>h.elim
 | .ip _ _ _ _,_,h=>h.elim
 | .sl _ _ _ _,_,h=>h.elim
 | .pt _ _ _ _,_,h=>h.elim
 | .fn _ _,_,h=>h.elim
def frC (sel:Nat→Bool):Nat→List AV→List AV
 | _,[]=>[]
 | c,a::as=>(bif sel c then toIm a else a)::frC sel (c+1) as
def gpC (σ:Pl) (k:Nat) (p:Path) (i:Nat) (sel:Nat→Bool):Nat→List AV→List Nat
 | _,[]=>[]
 | c,a::as=>(bif sel c then fpA σ k p i c a else [])++gpC σ k p i sel (c+1) as
def gpE (σ:Pl) (k:Nat) (p:Path) (sel:Nat→Bool):Nat→Els→List Nat
 | _,[]=>[]
 | i,x::xs=>gpC σ k p i sel 0 x++gpE σ k p sel (i+1) xs
theorem zmk:∀ (l:List AV) (c:Nat),(frC sel c l).length=l.length
 | [],_=>rfl
 | a::as,c=>by simp [frC,zmk as (c+1)]
theorem zmj:∀ (l:List AV) (c j:Nat),(frC sel c l)[j]? = (l[j]?).map fun a=>bif sel (c+j) then toIm a else a
 | [],_,_=>by simp [frC]
 | a::as,c,0=>by simp [frC]
 | a::as,c,j+1=>by
  simp only [frC,List.getElem?_cons_succ]
  rw [zmj as (c+1) j,show c+1+j=c+(j+1) by omega]
theorem zwl {p:Path} {i c:Nat} (a:AV):fpA σ k p i c (toIm a)=[]∧(bif true then toIm a else a)=toIm a:=by cases a <;> exact ⟨rfl,rfl⟩
theorem zr9 {p:Path} {i:Nat}:∀ (l:List AV) (c:Nat),(fpC σ k p i c l).Perm (fpC σ k p i c (frC sel c l)++gpC σ k p i sel c l)
 | [],c=>by simp [fpC,frC,gpC]
 | a::as,c=>by
  have ih:=List.perm_iff_count.1 (zr9 (p:=p) (i:=i) as (c+1))
  refine List.perm_iff_count.2 fun x=>?_
  have:=ih x
  simp only [fpC,frC,gpC,List.count_append] at this ⊢
  cases sel c with
  | true=>simp only [cond_true,(zwl a).1,List.count_nil]; omega
  | false=>simp only [cond_false,List.count_nil]; omega
theorem zra {p:Path}:∀ (l:Els) (i:Nat),(fpE σ k p i l).Perm (fpE σ k p i (l.map (frC sel 0))++gpE σ k p sel i l)
 | [],i=>by simp [fpE,gpE]
 | x::l,i=>by
  have ih:=List.perm_iff_count.1 (zra (p:=p) l (i+1))
  have i2:=List.perm_iff_count.1 (zr9 (σ:=σ) (sel:=sel) (k:=k) (p:=p) (i:=i) x 0)
  refine List.perm_iff_count.2 fun z=>?_
  have:=ih z
  have:=i2 z
  simp only [fpE,gpE,List.map_cons,List.count_append] at *
  omega
theorem CeC.fz {p:Path} {i:Nat} (hIJ:∀ b,I b→J b):∀ (l:List AV) (c:Nat) (cs:List Value),(∀ b ∈ gpC σ k p i sel c l,J b)→CeC I σ B k p i c l cs→CeC J σ B k p i c (frC sel c l) cs
 | [],_,_,_,h=>h
 | a::as,c,_,hf,h=>by
  obtain ⟨v,cs',rfl,h1,h2⟩:=h
  simp only [gpC,List.mem_append] at hf
  refine ⟨v,cs',rfl,?_,CeC.fz hIJ as (c+1) cs' (fun b hb=>hf b (.inr hb)) h2⟩
  cases hs:sel c with
  | true=>exact Im.ceFz a v (Ce.toIm hIJ a v (fun b hb=>hf b (.inl (by rw [hs]; exact hb))) h1)
  | false=>exact Ce.wide hIJ a v h1
theorem CeE.fz {p:Path} {s:Nat} (hIJ:∀ b,I b→J b):∀ (l:Els) (i:Nat) (cs:List Value),(∀ b ∈ gpE σ k p sel i l,J b)→CeE I σ B k p i s l cs→CeE J σ B k p i s (l.map (frC sel 0)) cs
 | [],_,_,_,_=>trivial
 | x::l,i,cs,hf,h=>by
  simp only [gpE,List.mem_append] at hf
  exact ⟨by rw [zmk]; exact h.1,CeC.fz hIJ x 0 _ (fun b hb=>hf b (.inl hb)) h.2.1,CeE.fz hIJ l (i+1) _ (fun b hb=>hf b (.inr hb)) h.2.2⟩
theorem zoi {p:Path} {i:Nat}:∀ (l:List AV) (c0 j:Nat) (a:AV),l[j]? = some a→sel (c0+j)=true→∀ b ∈ fpA σ k p i (c0+j) a,b ∈ gpC σ k p i sel c0 l
 | [],_,_,_,h,_,_,_=>by simp at h
 | x::l,c0,0,a,h,hs,b,hb=>by
  simp at h; subst h
  simp only [gpC,List.mem_append]
  rw [Nat.add_zero] at hs hb
  rw [hs]; exact .inl hb
 | x::l,c0,j+1,a,h,hs,b,hb=>by
  simp only [gpC,List.mem_append]
  exact .inr (zoi l (c0+1) j a (by simpa using h) (by rwa [show c0+1+j=c0+(j+1) by omega]) b (by rwa [show c0+1+j=c0+(j+1) by omega]))
theorem zoj {p:Path}:∀ (l:Els) (i0 n:Nat) (x:List AV),l[n]? = some x→∀ b ∈ gpC σ k p (i0+n) sel 0 x,b ∈ gpE σ k p sel i0 l
 | [],_,_,_,h,_,_=>by simp at h
 | y::l,i0,0,x,h,b,hb=>by
  simp at h; subst h
  simp only [gpE,List.mem_append]; exact .inl hb
 | y::l,i0,n+1,x,h,b,hb=>by
  simp only [gpE,List.mem_append]
  exact .inr (zoj l (i0+1) n x (by simpa using h) b (by rwa [show i0+1+n=i0+(n+1) by omega]))
theorem Va.frozen (hh:HRel I σ h w) {p:Path} {s off len:Nat} {ys:Els} (hres:res h k p=some (s,ys)) (hle:off+len≤ys.length) (hIJ:∀ b,I b→J b) (hb:∀ b ∈ fpP σ k p ys,J b) {v:Value}
  (hv:Va I σ (bl w) (.sl k p off len) v):Va J σ (bl w) (.im s (z2d ((ys.drop off).take len))) v:=by
 obtain ⟨hp,_⟩:=hh.place hres
 unfold z1x at hp
 unfold fpP at hb
 simp only [Va] at hv
 cases hL:σ k p with
 | none =>
  simp only [hL] at hp hv
  subst hp
  obtain ⟨rfl,rfl,A,rfl⟩:=hv
  exact ⟨A,0,by simp [z2d],by simp [z2d],fun hn=>absurd (by simp [z2d]) hn⟩
 | some L =>
  simp only [hL] at hp hb hv
  obtain ⟨f1,f2,cur,E,f3,f4,f5⟩:=hp
  obtain ⟨A,c,rfl,g1,g2,g3⟩:=hv
  have hlen:((ys.drop off).take len).length=len:=by rw [List.length_take,List.length_drop]; omega
  refine ⟨some A,c,by rw [z5k,hlen],by rw [z5k,hlen]; exact g2,fun hn=>?_⟩
  have hpos:0<len:=by
   rcases Nat.eq_zero_or_pos len with h0 | h0
   ·exfalso; apply hn; subst h0; simp [z2d]
   ·exact h0
  have hA:=g3 (.inl (by omega))
  subst hA
  refine ⟨_,cur,E,(0,0),rfl,rfl,hb _ (by simp),f3,?_⟩
  have hE:CeE I σ (bl w) k p (0+off) s ((ys.drop off).take len) (cur.toList.drop (off * s)):=CeE.take _ _ _ len (CeE.drop ys 0 _ off f5)
  rw [f1]
  refine CeE.toIm hIJ _ _ _ (fun b hbb=>hb b (List.mem_cons_of_mem _ ?_)) hE
  have hs1:=z52 (σ:=σ) (k:=k) (p:=p) (ys.drop off) (0+off) len
  have hs2:∀ (l:Els) (i n:Nat),(fpE σ k p (i+n) (l.drop n)).Sublist (fpE σ k p i l):=by
   intro l
   induction l with
   | nil=>intro i n; simp [fpE]
   | cons x l ih =>
    intro i n
    cases n with
    | zero=>simp
    | succ n =>
     simp only [List.drop_succ_cons,fpE]
     have:=ih (i+1) n
     rw [show i+1+n=i+(n+1) by omega] at this
     exact this.trans (List.sublist_append_right _ _)
  exact (hs1.trans (hs2 ys 0 off)).subset hbb
end
mutual
def mapR (gs:Nat→Path→Nat→Nat→AV) (gp:Nat→Path→Nat→Nat→AV):AV→AV
 | .sl k p off len=>gs k p off len
 | .pt k p i c=>gp k p i c
 | .ag cs=>.ag (zb9 gs gp cs)
 | .tu cs=>.tu (zb9 gs gp cs)
 | .fn f cs=>.fn f (zb9 gs gp cs)
 | .un=>.un
 | .sc v=>.sc v
 | .zs=>.zs
 | .im s xs=>.im s xs
 | .ip s xs i c=>.ip s xs i c
 | .ow s xs=>.ow s xs
def zb9 (gs:Nat→Path→Nat→Nat→AV) (gp:Nat→Path→Nat→Nat→AV):List AV→List AV
 | []=>[]
 | x::l=>mapR gs gp x::zb9 gs gp l
end
section
variable {I J:Nat→Prop} {σ:Pl} {B:zm} {gs gp:Nat→Path→Nat→Nat→AV}
mutual
theorem Va.mapR (hIJ:∀ b,I b→J b) (hs:∀ k p o l v,Va I σ B (.sl k p o l) v→Va J σ B (gs k p o l) v) (hp:∀ k p o l v,Va I σ B (.pt k p o l) v→Va J σ B (gp k p o l) v):∀ (a:AV) (v:Value),Va I σ B a v→Va J σ B (mapR gs gp a) v
 | .un,_,_=>trivial
 | .sc _,_,h=>h
 | .zs,_,h=>h
 | .im s xs,v,h=>Va.wide hIJ (.im s xs) v h
 | .ip s xs i c,v,h=>Va.wide hIJ (.ip s xs i c) v h
 | .sl k p o l,v,h=>hs k p o l v h
 | .pt k p o l,v,h=>hp k p o l v h
 | .ow _ _,_,h=>h.elim
 | .ag cs,_,h=>by obtain ⟨a,rfl,h⟩:=h; exact ⟨a,rfl,VaC.mapR hIJ hs hp cs _ h⟩
 | .tu cs,_,h=>by obtain ⟨a,rfl,h⟩:=h; exact ⟨a,rfl,VaL.mapR hIJ hs hp cs _ h⟩
 | .fn _ cs,_,h=>by obtain ⟨a,rfl,h⟩:=h; exact ⟨a,rfl,VaL.mapR hIJ hs hp cs _ h⟩
theorem VaC.mapR (hIJ:∀ b,I b→J b) (hs:∀ k p o l v,Va I σ B (.sl k p o l) v→Va J σ B (gs k p o l) v) (hp:∀ k p o l v,Va I σ B (.pt k p o l) v→Va J σ B (gp k p o l) v):∀ (l:List AV) (cs:List Value),VaC I σ B l cs→VaC J σ B (zb9 gs gp l) cs
 | [],_,h=>h
 | a::as,_,h=>by
  obtain ⟨v,cs',rfl,h0,h1,h2⟩:=h
  exact ⟨v,cs',rfl,h0,Va.mapR hIJ hs hp a v h1,VaC.mapR hIJ hs hp as cs' h2⟩
theorem VaL.mapR (hIJ:∀ b,I b→J b) (hs:∀ k p o l v,Va I σ B (.sl k p o l) v→Va J σ B (gs k p o l) v) (hp:∀ k p o l v,Va I σ B (.pt k p o l) v→Va J σ B (gp k p o l) v):∀ (l:List AV) (cs:List Value),VaL I σ B l cs→VaL J σ B (zb9 gs gp l) cs
 | [],_,h=>h
 | a::as,_,h=>by
  obtain ⟨v,cs',rfl,h1,h2⟩:=h
  exact ⟨v,cs',rfl,Va.mapR hIJ hs hp a v h1,VaL.mapR hIJ hs hp as cs' h2⟩
end
end
section
variable {P:Program} {pro:List Nat} {e:Env} {h:H}
def rowS (k:Nat) (r:Row) (k':Nat) (p:Path) (o l:Nat):AV :=
 if k'=k then (if p=[] then (if o+l≤r.xs.length then .im r.s (z2d ((r.xs.drop o).take l)) else .un) else .un) else .sl k' p o l
def rowP (k:Nat) (k':Nat) (p:Path) (i c:Nat):AV:=if k'=k then .un else .pt k' p i c
theorem z9.frow {k:Nat} {r:Row} (hg:z6 h k=some r):z9 P pro e h (fun t=>mapR (rowS k r) (rowP k) (e t)) (zb h k):=fun I N σ a w R=>by
 obtain ⟨d1,d2,d3,d4,d5,d6⟩:=R.heap.del hg
 have hIJ:∀ b,I b→(I b∨b ∈ fpR σ k r):=fun b hb=>.inl hb
 refine ⟨σ,fun b=>I b∨b ∈ fpR σ k r,hIJ,fun b hb=>?_,⟨d1.wide hIJ (fun b hb hJ=>?_) (fun b hb=>?_),R.size,fun t=>?_,R.defers⟩,fun _ _=>rfl,Le.refl _,fun _ _ _=>rfl,fun b hb=>.inl (d6 b hb)⟩
 ·rcases hb with hb | hb
  ·exact .inl hb
  ·exact .inr (.inl (d5 b hb).2)
 ·rcases hJ with hJ | hJ
  ·exact (d1.apart b hb).1 hJ
  ·exact (d5 b hJ).1 hb
 ·rcases hb with hb | hb
  ·exact R.heap.low b hb
  ·exact (R.heap.apart b (d5 b hb).2).2
 ·refine Va.mapR hIJ (fun k' p o l v hv=>?_) (fun k' p o l v hv=>?_) _ _ (R.vals t)
  ·unfold rowS
   split
   ·rename_i e; subst e
    split
    ·rename_i e; subst e
     split
     ·rename_i hle
      exact Va.frozen R.heap (p:=[]) (s:=r.s) (ys:=r.xs) (by unfold res; rw [hg]; rfl) hle hIJ (fun b hb=>.inr hb) hv
     ·trivial
    ·trivial
   ·exact Va.wide hIJ (.sl k' p o l) v hv
  ·unfold rowP
   split
   ·trivial
   ·exact hv
def colS (h:H) (k:Nat) (sel:Nat→Bool) (k':Nat) (p:Path) (o l:Nat):AV :=
 if k'=k then
  match p with
  | []=>.sl k' p o l
  | (i,c)::q=>if sel c=true then (if q=[] then (match res h k [(i,c)] with | some (s,ys)=>if o+l≤ys.length then .im s (z2d ((ys.drop o).take l)) else .un | none=>.un) else .un) else .sl k' p o l
 else .sl k' p o l
def colP (k:Nat) (sel:Nat→Bool) (k':Nat) (p:Path) (i0 c0:Nat):AV :=
 if k'=k then
  match p with
  | []=>.pt k' p i0 c0
  | (i,c)::q=>if sel c=true then .un else .pt k' p i0 c0
 else .pt k' p i0 c0
theorem z9.fcol {k:Nat} {r:Row} (sel:Nat→Bool) (hg:z6 h k=some r):z9 P pro e h (fun t=>mapR (colS h k sel) (colP k sel) (e t)) ((k,⟨r.s,r.xs.map (frC sel 0)⟩)::zb h k):=fun I N σ a w R=>by
 obtain ⟨d1,d2,d3,d4,d5,d6⟩:=R.heap.del hg
 let g:List Nat:=match σ k [] with | none=>[] | some _=>gpE σ k [] sel 0 r.xs
 have hperm:(fpR σ k r).Perm (fpR σ k ⟨r.s,r.xs.map (frC sel 0)⟩++g):=by
  simp only [fpR,g]
  cases σ k [] with
  | none=>exact List.Perm.refl _
  | some L=>exact List.Perm.cons _ (zra r.xs 0)
 have hnd:=(hperm.nodup_iff).1 d4
 rw [List.nodup_append] at hnd
 obtain ⟨n1,n2,n3⟩:=hnd
 have hgr:∀ b ∈ g,b ∈ fpR σ k r:=fun b hb=>hperm.mem_iff.2 (List.mem_append.2 (.inr hb))
 have hkr:∀ b ∈ fpR σ k ⟨r.s,r.xs.map (frC sel 0)⟩,b ∈ fpR σ k r:=fun b hb=>hperm.mem_iff.2 (List.mem_append.2 (.inl hb))
 have hIJ:∀ b,I b→(I b∨b ∈ g):=fun b hb=>.inl hb
 have hlow:∀ b,(I b∨b ∈ g)→b<w.heap.size:=fun b hb=>by
  rcases hb with hb | hb
  ·exact R.heap.low b hb
  ·exact (R.heap.apart b (d5 b (hgr b hb)).2).2
 have d1':HRel (fun b=>I b∨b ∈ g) σ (zb h k) w:=d1.wide hIJ (fun b hb hJ=>by
  rcases hJ with hJ | hJ
  ·exact (d1.apart b hb).1 hJ
  ·exact (d5 b (hgr b hJ)).1 hb) hlow
 have hrow:zt (fun b=>I b∨b ∈ g) σ (bl w) k ⟨r.s,r.xs.map (frC sel 0)⟩:=by
  unfold zt at d2 ⊢
  cases hL:σ k [] with
  | none=>simp only [hL] at d2 ⊢; simp [d2]
  | some L =>
   simp only [hL] at d2 ⊢
   obtain ⟨f1,f2,cur,E,f3,f4,f5⟩:=d2
   exact ⟨f1,by simpa using f2,cur,E,f3,f4,CeE.fz hIJ r.xs 0 _ (fun b hb=>.inr (by simp only [g,hL]; exact hb)) f5⟩
 have hadd:=d1'.add (σ':=σ) (w':=w) d3 (fun _ _ _=>rfl) (fun _ _ _=>rfl) (Nat.le_refl _) hrow n1 (fun b hb=>⟨(d5 b (hkr b hb)).1,fun hJ=>by
  rcases hJ with hJ | hJ
  ·exact (R.heap.apart b (d5 b (hkr b hb)).2).1 hJ
  ·exact n3 b hb b hJ rfl,(R.heap.apart b (d5 b (hkr b hb)).2).2⟩)
 refine ⟨σ,fun b=>I b∨b ∈ g,hIJ,fun b hb=>?_,⟨hadd,R.size,fun t=>?_,R.defers⟩,fun _ _=>rfl,Le.refl _,fun _ _ _=>rfl,fun b hb=>.inl ?_⟩
 ·rcases hb with hb | hb
  ·exact .inl hb
  ·exact .inr (.inl (d5 b (hgr b hb)).2)
 ·refine Va.mapR hIJ (fun k' p o l v hv=>?_) (fun k' p o l v hv=>?_) _ _ (R.vals t)
  ·unfold colS
   split
   ·rename_i e; subst e
    split
    ·exact hv
    ·rename_i i c q
     split
     ·rename_i hsel
      split
      ·rename_i hq; subst hq
       split
       ·rename_i s ys hres
        split
        ·rename_i hle
         refine Va.frozen R.heap hres hle hIJ (fun b hb=>.inr ?_) hv
         unfold res at hres
         rw [hg] at hres
         simp only [resE] at hres
         cases hx:r.xs[i]? with
         | none=>rw [hx] at hres; cases hres
         | some x =>
          rw [hx] at hres
          simp only at hres
          cases hy:x[c]? with
          | none=>rw [hy] at hres; cases hres
          | some y =>
           rw [hy] at hres
           cases y with
           | ow s' ys' =>
            simp only [Option.some.injEq,Prod.mk.injEq] at hres
            obtain ⟨rfl,rfl⟩:=hres
            have hn:σ k' [] ≠ none:=fun hn=>by
             unfold zt at d2
             simp only [hn] at d2
             rw [d2] at hx; simp at hx
            have hgg:g=gpE σ k' [] sel 0 r.xs:=by
             simp only [g]
             cases hL:σ k' [] with
             | none=>exact absurd hL hn
             | some _=>rfl
            rw [hgg]
            have e1:fpP σ k' [(i,c)] ys'=fpA σ k' [] i c (.ow s' ys'):=rfl
            rw [e1] at hb
            refine zoj r.xs 0 i x hx b ?_
            rw [Nat.zero_add]
            refine zoi x 0 c _ hy (by rwa [Nat.zero_add]) b ?_
            rwa [Nat.zero_add]
           | _=>cases hres
        ·trivial
       ·trivial
      ·trivial
     ·exact hv
   ·exact hv
  ·unfold colP
   split
   ·split
    ·exact hv
    ·split
     ·trivial
     ·exact hv
   ·exact hv
 ·rw [z1a,List.mem_append] at hb
  rcases hb with hb | hb
  ·exact (d5 b (hkr b hb)).2
  ·exact d6 b hb
end
section
variable {P:Program} {T:TT} {pro:List Nat}
mutual
def fzT (fw:Nat→Path→VT T) (fs fp:Nat→Path→Nat→Nat→VT T):VT T→VT T
 | .sl k p off len=>fs k p off len
 | .sw k p=>fw k p
 | .pt k p i c=>fp k p i c
 | .ag cs=>.ag (fzTL fw fs fp cs)
 | .tu cs=>.tu (fzTL fw fs fp cs)
 | .fn f cs=>.fn f (fzTL fw fs fp cs)
 | .un=>.un
 | .sc v=>.sc v
 | .ik k n=>.ik k n
 | .bk b=>.bk b
 | .zs=>.zs
 | .im t xs=>.im t xs
 | .ip s cs c=>.ip s cs c
 | .ow m t xs=>.ow m t xs
 | .oo m t xs i cs=>.oo m t xs i cs
def fzTL (fw:Nat→Path→VT T) (fs fp:Nat→Path→Nat→Nat→VT T):List (VT T)→List (VT T)
 | []=>[]
 | x::l=>fzT fw fs fp x::fzTL fw fs fp l
end
def fzE (fw:Nat→Path→VT T) (fs fp:Nat→Path→Nat→Nat→VT T):TE T.toTT0→TE T.toTT0
 | []=>[]
 | (t,v)::l=>(t,fzT fw fs fp v)::fzE fw fs fp l
theorem za2 {fw:Nat→Path→VT T} {fs fp:Nat→Path→Nat→Nat→VT T} {t:Nat}:∀ (e:TE T.toTT0),getE (fzE fw fs fp e) t=fzT fw fs fp (getE e t)
 | []=>by simp [fzE,getE,fzT]
 | (t',v)::l=>by
  have ih:=za2 (fw:=fw) (fs:=fs) (fp:=fp) (t:=t) l
  simp only [fzE,getE]
  cases Nat.beq t t' <;> simp [ih]
mutual
theorem zd0 {fw:Nat→Path→VT T} {fs fp:Nat→Path→Nat→Nat→VT T} {gs gp:Nat→Path→Nat→Nat→AV} {H0 H1:H} (hw:∀ k p,AVle (gs k p 0 (zd H0 k p)) (den T.toTT0 H1 (fw k p))) (hs:∀ k p o l,AVle (gs k p o l) (den T.toTT0 H1 (fs k p o l)))
  (hp:∀ k p o l,AVle (gp k p o l) (den T.toTT0 H1 (fp k p o l))):∀ (v:VT T),AVle (mapR gs gp (den T.toTT0 H0 v)) (den T.toTT0 H1 (fzT fw fs fp v))
 | .un | .sc _ | .ik _ _ | .bk _ | .zs | .im _ _ | .ip _ _ _ | .ow _ _ _ | .oo _ _ _ _ _=>by simp only [fzT,den,mapR]; exact AVle.refl _
 | .ag cs=>by simp only [fzT,den,mapR]; exact AVle.ag (zaz hw hs hp cs).C
 | .tu cs=>by simp only [fzT,den,mapR]; exact AVle.tu (zaz hw hs hp cs).L
 | .fn f cs=>by simp only [fzT,den,mapR]; exact AVle.fn (zaz hw hs hp cs).L
 | .sl k p o l=>hs k p o l
 | .sw k p=>hw k p
 | .pt k p o l=>hp k p o l
theorem zaz {fw:Nat→Path→VT T} {fs fp:Nat→Path→Nat→Nat→VT T} {gs gp:Nat→Path→Nat→Nat→AV} {H0 H1:H} (hw:∀ k p,AVle (gs k p 0 (zd H0 k p)) (den T.toTT0 H1 (fw k p))) (hs:∀ k p o l,AVle (gs k p o l) (den T.toTT0 H1 (fs k p o l)))
  (hp:∀ k p o l,AVle (gp k p o l) (den T.toTT0 H1 (fp k p o l))):∀ (l:List (VT T)),z4e (zb9 gs gp (denL T.toTT0 H0 l)) (denL T.toTT0 H1 (fzTL fw fs fp l))
 | []=>.nil
 | x::l=>.cons (zd0 hw hs hp x) (zaz hw hs hp l)
end
inductive Fz where
 | row (k:Nat)
 | col (k:Nat) (cs:List Nat)
 | nest (k:Nat)
def inC (cs:List Nat) (c:Nat):Bool:=cs.any (Nat.beq c)
def colC (cs:List Nat):Nat→List (VT T)→Option (List (VT T))
 | _,[]=>some []
 | c,v::l=>match colC cs (c+1) l with
  | none=>none
  | some l'=>bif inC cs c then (match v with
   | .ow _ t xs=>some (.im t xs::l')
   | .oo _ _ _ _ _=>none
   | v=>some (v::l')) else some (v::l')
def colL (cs:List Nat):List (List (VT T))→Option (List (List (VT T)))
 | []=>some []
 | x::l=>match colC cs 0 x,colL cs l with | some x',some l'=>some (x'::l') | _,_=>none
theorem ziv {cs:List Nat}:∀ (l l':List (VT T)) (c:Nat),colC cs c l=some l'→denL T.toTT0 [] l'=frC (inC cs) c (denL T.toTT0 [] l)
 | [],_,_,h=>by cases h; rfl
 | v::l,l',c,h=>by
  simp only [colC] at h
  split at h
  ·cases h
  ·rename_i l1 h1
   have ih:=ziv l l1 (c+1) h1
   cases hs:inC cs c with
   | false =>
    rw [hs] at h
    cases h
    simp only [denL,frC,hs,cond_false,ih]
   | true =>
    rw [hs] at h
    simp only [cond_true] at h
    split at h
    ·cases h
     simp only [denL,frC,hs,cond_true,ih,den,toIm,z5l]
    ·cases h
    ·rename_i h2 h3
     cases h
     simp only [denL,frC,hs,cond_true,ih]
     congr 1
     cases v <;> first | rfl | (exact absurd rfl (h2 _ _ _)) | (exact absurd rfl (h3 _ _ _ _ _))
theorem ziw {cs:List Nat}:∀ (l l':List (List (VT T))),colL cs l=some l'→l'.map (denL T.toTT0 [])=(l.map (denL T.toTT0 [])).map (frC (inC cs) 0)
 | [],_,h=>by cases h; rfl
 | x::l,l',h=>by
  simp only [colL] at h
  split at h
  ·rename_i x' l1 h1 h2
   cases h
   simp only [List.map_cons,ziv _ _ _ h1,ziw l l1 h2]
  ·cases h
def frz1 (e:TE T.toTT0) (h:TH T.toTT0):Fz→Option (TE T.toTT0×TH T.toTT0)
 | .row k=>match getT h k with
  | some (.typ _ t xs)=>some (fzE (fun k' p=>bif Nat.beq k' k then (match p with | []=>.im t xs | _=>.un) else .sw k' p) (fun k' p o l=>bif Nat.beq k' k then .un else .sl k' p o l) (fun k' p o l=>bif Nat.beq k' k then .un else .pt k' p o l) e,delT h k)
  | _=>none
 | .col k cs=>match getT h k with
  | some (.lit s xs)=>match colL cs xs with
   | some xs'=>some (fzE (fun k' p=>bif Nat.beq k' k then (match p with
     | []=>.sw k' p
     | (i,c)::q=>bif inC cs c then (match q with | []=>(match (xs[i]?).bind (fun x=>x[c]?) with | some (.ow _ t ys)=>.im t ys | _=>.un) | _=>.un) else .sw k' p) else .sw k' p)
    (fun k' p o l=>bif Nat.beq k' k then (match p with | []=>.sl k' p o l | (_,c)::_=>bif inC cs c then .un else .sl k' p o l) else .sl k' p o l)
    (fun k' p o l=>bif Nat.beq k' k then (match p with | []=>.pt k' p o l | (_,c)::_=>bif inC cs c then .un else .pt k' p o l) else .pt k' p o l) e,(k,.lit s xs')::delT h k)
   | none=>none
  | _=>none
 | .nest k=>match getT h k with
  | some (.typ _ t xs)=>some (fzE (fun k' p=>bif Nat.beq k' k then (match p with | []=>.sw k' p | _=>.un) else .sw k' p) (fun k' p o l=>bif Nat.beq k' k then (match p with | []=>.sl k' p o l | _=>.un) else .sl k' p o l)
    (fun k' p o l=>bif Nat.beq k' k then (match p with | []=>.pt k' p o l | _=>.un) else .pt k' p o l) e,(k,.typ false t xs)::delT h k)
  | _=>none
theorem zgb {fw:Nat→Path→VT T} {fs fp:Nat→Path→Nat→Nat→VT T} {t:Nat} {e:TE T.toTT0} {H0 H1:H} {b:Bool} (h:denE T.toTT0 H0 e t=Bl b):denE T.toTT0 H1 (fzE fw fs fp e) t=Bl b:=by
 simp only [denE,za2] at h ⊢
 cases hv:getE e t <;> rw [hv] at h <;> simp [den] at h <;> simp [fzT,den,h]
theorem zmi:∀ (l:List AV) (c:Nat),frC (fun _=>true) c l=z29 l
 | [],_=>rfl
 | a::l,c=>by simp only [frC,cond_true,z29,zmi l]
theorem zlu:∀ (l:Els),z2d l=l.map z29
 | []=>rfl
 | x::l=>by simp only [z2d,List.map_cons,zlu l]
theorem zow {H0:H} {k:Nat} {r:Row} {sel:Nat→Bool} (hg:z6 H0 k=some r):∀ p,(∀ i c q,p=(i,c)::q→sel c=false)→zd ((k,⟨r.s,r.xs.map (frC sel 0)⟩)::zb H0 k) k p=zd H0 k p:=by
 intro p hp
 unfold zd res
 rw [hg]
 simp only [z6,if_true]
 cases p with
 | nil=>simp only [resE,List.length_map]
 | cons x q =>
  obtain ⟨i,c⟩:=x
  have hs:=hp i c q rfl
  simp only [resE,List.getElem?_map]
  cases r.xs[i]? with
  | none=>rfl
  | some x =>
   simp only [Option.map_some]
   rw [zmj x 0 c,Nat.zero_add,hs]
   cases x[c]? with
   | none=>rfl
   | some y=>rfl
theorem y0o {e e1:TE T.toTT0} {h h1:TH T.toTT0}:∀ {z:Fz},frz1 e h z=some (e1,h1)→z9 P pro (denE T.toTT0 (denH T.toTT0 h) e) (denH T.toTT0 h) (denE T.toTT0 (denH T.toTT0 h1) e1) (denH T.toTT0 h1)∧∀ t b,denE T.toTT0 (denH T.toTT0 h) e t=Bl b→denE T.toTT0 (denH T.toTT0 h1) e1 t=Bl b
 | .row k,hz=>by
  simp only [frz1] at hz
  split at hz
  ·rename_i m t xs hr
   simp only [Option.some.injEq,Prod.mk.injEq] at hz
   obtain ⟨rfl,rfl⟩:=hz
   have hgr:z6 (denH T.toTT0 h) k=some ⟨T.sz t,xs.map (T.ca m t)⟩:=by rw [z1u,hr]; rfl
   refine ⟨?_,fun _ _ hb=>zgb hb⟩
   have g:=z9.frow (P:=P) (pro:=pro) (e:=denE T.toTT0 (denH T.toTT0 h) e) hgr
   rw [zx] at g
   refine g.trans (z9.le fun u=>?_)
   simp only [denE,za2]
   have hl:∀ k' p,k' ≠ k→zd (denH T.toTT0 (delT h k)) k' p=zd (denH T.toTT0 h) k' p:=fun k' p hk=>z18 (by rw [← zx,z16 hk])
   refine zd0 (fun k' p=>?_) (fun k' p o l=>?_) (fun k' p o l=>?_) _
   ·unfold rowS
    simp only [z1c]
    by_cases hk:k'=k
    ·subst hk
     simp only [decide_true,cond_true,if_true]
     cases p with
     | nil =>
      simp only [if_true,den]
      have e0:zd (denH T.toTT0 h) k' []=xs.length:=by unfold zd res; rw [hgr]; simp [resE]
      rw [e0]
      simp only [Nat.zero_add,List.length_map,Nat.le_refl,if_true,List.drop_zero]
      rw [List.take_of_length_le (by simp),z5l]
      exact AVle.refl _
     | cons _ _=>simp only [den]; exact AVle.un _
    ·simp only [hk,decide_false,cond_false,if_false,den,hl k' p hk]
     exact AVle.refl _
   ·unfold rowS
    simp only [z1c]
    by_cases hk:k'=k
    ·subst hk; simp only [decide_true,cond_true,den]; exact AVle.un _
    ·simp only [hk,decide_false,cond_false,if_false,den]; exact AVle.refl _
   ·unfold rowP
    simp only [z1c]
    by_cases hk:k'=k
    ·subst hk; simp only [decide_true,cond_true,den]; exact AVle.un _
    ·simp only [hk,decide_false,cond_false,if_false,den]; exact AVle.refl _
  ·cases hz
 | .col k cs,hz=>by
  simp only [frz1] at hz
  split at hz
  ·rename_i s xs hr
   split at hz
   ·rename_i xs' hx
    simp only [Option.some.injEq,Prod.mk.injEq] at hz
    obtain ⟨rfl,rfl⟩:=hz
    have hgr:z6 (denH T.toTT0 h) k=some ⟨s,xs.map (denL T.toTT0 [])⟩:=by rw [z1u,hr]; rfl
    refine ⟨?_,fun _ _ hb=>zgb hb⟩
    have g:=z9.fcol (P:=P) (pro:=pro) (e:=denE T.toTT0 (denH T.toTT0 h) e) (inC cs) hgr
    have hh:denH T.toTT0 ((k,.lit s xs')::delT h k)=(k,⟨s,(xs.map (denL T.toTT0 [])).map (frC (inC cs) 0)⟩)::zb (denH T.toTT0 h) k:=by
     simp only [denH,denR,zx,ziw _ _ hx]
    rw [hh]
    refine g.trans (z9.le fun u=>?_)
    simp only [denE,za2]
    have hl:∀ k' p,k' ≠ k→zd ((k,⟨s,(xs.map (denL T.toTT0 [])).map (frC (inC cs) 0)⟩)::zb (denH T.toTT0 h) k) k' p=zd (denH T.toTT0 h) k' p:=fun k' p hk=>z18 (by
     simp only [z6]; rw [if_neg (fun e=>hk e.symm),z16 hk])
    have hl2:=zow (sel:=inC cs) hgr
    refine zd0 (fun k' p=>?_) (fun k' p o l=>?_) (fun k' p o l=>?_) _
    ·unfold colS
     simp only [z1c]
     by_cases hk:k'=k
     ·subst hk
      simp only [decide_true,cond_true,if_true]
      cases p with
      | nil =>
       simp only [den]
       rw [hl2 [] (fun _ _ _ h=>by cases h)]
       exact AVle.refl _
      | cons x q =>
       obtain ⟨i,c⟩:=x
       simp only
       cases hs:inC cs c with
       | false =>
        simp only [cond_false,if_false,Bool.false_eq_true,den]
        rw [hl2 _ (fun i' c' q' he=>by cases he; exact hs)]
        exact AVle.refl _
       | true =>
        simp only [cond_true,if_true]
        cases q with
        | cons _ _=>simp only [den]; exact AVle.un _
        | nil =>
         simp only [if_true]
         cases hc:(xs[i]?).bind (fun x=>x[c]?) with
         | none=>simp only [den]; exact AVle.un _
         | some v =>
          cases v with
          | ow m t ys =>
           obtain ⟨x,h1,h2⟩:=Option.bind_eq_some_iff.1 hc
           have hres:res (denH T.toTT0 h) k' [(i,c)]=some (T.sz t,ys.map (T.ca m t)):=by
            unfold res
            rw [hgr]
            simp only [resE,List.getElem?_map,h1,Option.map_some,z2p,h2,den]
           rw [hres]
           have e0:zd (denH T.toTT0 h) k' [(i,c)]=ys.length:=by unfold zd; rw [hres]; simp
           rw [e0]
           simp only [Nat.zero_add,List.length_map,Nat.le_refl,if_true,List.drop_zero,den]
           rw [List.take_of_length_le (by simp),z5l]
           exact AVle.refl _
          | _=>simp only [den]; exact AVle.un _
     ·simp only [hk,decide_false,cond_false,if_false,den,hl k' p hk]
      exact AVle.refl _
    ·unfold colS
     simp only [z1c]
     by_cases hk:k'=k
     ·subst hk
      simp only [decide_true,cond_true,if_true]
      cases p with
      | nil=>exact AVle.refl _
      | cons x q =>
       obtain ⟨i,c⟩:=x
       simp only
       cases hs:inC cs c with
       | false=>exact AVle.refl _
       | true=>simp only [cond_true,den]; exact AVle.un _
     ·simp only [hk,decide_false,cond_false,if_false,den]; exact AVle.refl _
    ·unfold colP
     simp only [z1c]
     by_cases hk:k'=k
     ·subst hk
      simp only [decide_true,cond_true,if_true]
      cases p with
      | nil=>exact AVle.refl _
      | cons x q =>
       obtain ⟨i,c⟩:=x
       simp only
       cases hs:inC cs c with
       | false=>exact AVle.refl _
       | true=>simp only [cond_true,den]; exact AVle.un _
     ·simp only [hk,decide_false,cond_false,if_false,den]; exact AVle.refl _
   ·cases hz
  ·cases hz
 | .nest k,hz=>by
  simp only [frz1] at hz
  split at hz
  ·rename_i m t xs hr
   simp only [Option.some.injEq,Prod.mk.injEq] at hz
   obtain ⟨rfl,rfl⟩:=hz
   have hgr:z6 (denH T.toTT0 h) k=some ⟨T.sz t,xs.map (T.ca m t)⟩:=by rw [z1u,hr]; rfl
   refine ⟨?_,fun _ _ hb=>zgb hb⟩
   have g:=z9.fcol (P:=P) (pro:=pro) (e:=denE T.toTT0 (denH T.toTT0 h) e) (fun _=>true) hgr
   have hh:denH T.toTT0 ((k,.typ false t xs)::delT h k)=(k,⟨T.sz t,(xs.map (T.ca m t)).map (frC (fun _=>true) 0)⟩)::zb (denH T.toTT0 h) k:=by
    simp only [denH,denR,zx]
    have:(xs.map (T.ca m t)).map (frC (fun _=>true) 0)=xs.map (T.ca false t):=by
     rw [← z5l (m:=m),zlu]
     simp only [List.map_map]
     congr 1
     funext x
     exact zmi _ _
    rw [this]
   rw [hh]
   refine g.trans (z9.le fun u=>?_)
   simp only [denE,za2]
   have hl:∀ k' p,k' ≠ k→zd ((k,⟨T.sz t,(xs.map (T.ca m t)).map (frC (fun _=>true) 0)⟩)::zb (denH T.toTT0 h) k) k' p=zd (denH T.toTT0 h) k' p:=fun k' p hk=>z18 (by
    simp only [z6]; rw [if_neg (fun e=>hk e.symm),z16 hk])
   have hl2:=zow (sel:=fun _=>true) hgr
   refine zd0 (fun k' p=>?_) (fun k' p o l=>?_) (fun k' p o l=>?_) _
   ·unfold colS
    simp only [z1c]
    by_cases hk:k'=k
    ·subst hk
     simp only [decide_true,cond_true,if_true]
     cases p with
     | nil =>
      simp only [den]
      rw [hl2 [] (fun _ _ _ h=>by cases h)]
      exact AVle.refl _
     | cons x q=>simp only [den]; exact AVle.un _
    ·simp only [hk,decide_false,cond_false,if_false,den,hl k' p hk]
     exact AVle.refl _
   ·unfold colS
    simp only [z1c]
    by_cases hk:k'=k
    ·subst hk
     simp only [decide_true,cond_true,if_true]
     cases p with
     | nil=>exact AVle.refl _
     | cons x q=>simp only [den]; exact AVle.un _
    ·simp only [hk,decide_false,cond_false,if_false,den]; exact AVle.refl _
   ·unfold colP
    simp only [z1c]
    by_cases hk:k'=k
    ·subst hk
     simp only [decide_true,cond_true,if_true]
     cases p with
     | nil=>exact AVle.refl _
     | cons x q=>simp only [den]; exact AVle.un _
    ·simp only [hk,decide_false,cond_false,if_false,den]; exact AVle.refl _
  ·cases hz
def frzL:List Fz→TE T.toTT0→TH T.toTT0→Option (TE T.toTT0×TH T.toTT0)
 | [],e,h=>some (e,h)
 | z::l,e,h=>match frz1 e h z with | some (e1,h1)=>frzL l e1 h1 | none=>frzL l e h
theorem z63:∀ (l:List Fz) {e e1:TE T.toTT0} {h h1:TH T.toTT0},frzL l e h=some (e1,h1)→z9 P pro (denE T.toTT0 (denH T.toTT0 h) e) (denH T.toTT0 h) (denE T.toTT0 (denH T.toTT0 h1) e1) (denH T.toTT0 h1)∧∀ t b,denE T.toTT0 (denH T.toTT0 h) e t=Bl b→denE T.toTT0 (denH T.toTT0 h1) e1 t=Bl b
 | [],_,_,_,_,hz=>by
  simp only [frzL,Option.some.injEq,Prod.mk.injEq] at hz
  obtain ⟨rfl,rfl⟩:=hz
  exact ⟨z9.rfl',fun _ _ h=>h⟩
 | z::l,_,_,_,_,hz=>by
  simp only [frzL] at hz
  split at hz
  ·rename_i e2 h2 h3
   obtain ⟨a1,a2⟩:=y0o (P:=P) (pro:=pro) h3
   obtain ⟨b1,b2⟩:=z63 l hz
   exact ⟨a1.trans b1,fun t b hb=>b2 t b (a2 t b hb)⟩
  ·exact z63 l hz
end
def zzp {α:Type}:List (Nat×α)→Nat→Option α
 | [],_=>none
 | (k,x)::l,d=>bif Nat.beq k d then some x else zzp l d
structure Cx (P:Program) (T:TT) where
 cs:List (Con P T)
 ty:List (Nat×Bool×Nat)
 tn:List Nat
 fz:List (Nat×List Fz)
def Cx.fzAt {P:Program} {T:TT} (cx:Cx P T) (d:Nat):List Fz:=match zzp cx.fz d with | some l=>l | none=>[]
def Cx.at {P:Program} {T:TT} (cx:Cx P T) (d:Nat):Option (Bool×Nat):=(cx.ty.find? fun x=>Nat.beq x.1 d).map Prod.snd
section
variable {P:Program} {T:TT} {pro:List Nat} {L:Type}
def zq1:IK→VT T
 | .st _ _ _=>.un
 | _=>.sc undef
theorem zhv {h:H} (op:IK):den T.toTT0 h (zq1 op)=z37 op:=by cases op <;> rfl
def zf6 (e:TE T.toTT0) (g:Option (Nat×Bool)) (go skip:TE T.toTT0→Raw P T pro L):Raw P T pro L :=
 match g with
 | none=>go e
 | some (s,want) =>
  match getE e s with
  | .bk true=>bif want then go e else skip e
  | .bk false=>bif want then skip e else go e
  | .sc (.tuple _)=>skip e
  | .sc (.bool b)=>.ite b (bif want then go (putE e s (.bk true)) else skip (putE e s (.bk true))) (bif want then skip (putE e s (.bk false)) else go (putE e s (.bk false)))
  | _=>.no
theorem z48 {e:TE T.toTT0} {h:H} {s:Nat} {b:Bool} (hs:getE e s = .sc (.bool b)):denE T.toTT0 h (putE e s (.bk b))=denE T.toTT0 h e:=by
 rw [z1d]
 funext t
 unfold upd
 split
 ·rename_i ht; subst ht
  simp only [denE,hs,den]
 ·rfl
theorem zhi {e:TE T.toTT0} {g:Option (Nat×Bool)} {go skip:TE T.toTT0→Raw P T pro L} {Q:L→Prop} {H0:H} (hs:Sat (zf6 e g go skip) Q) :
  ∃ e',denE T.toTT0 H0 e'=denE T.toTT0 H0 e∧((zh (denE T.toTT0 H0 e) g=some true∧Sat (go e') Q)∨(zh (denE T.toTT0 H0 e) g=some false∧Sat (skip e') Q)):=by
 unfold zf6 at hs
 split at hs
 ·exact ⟨e,rfl,.inl ⟨rfl,hs⟩⟩
 ·rename_i s want
  have hw:∀ b,denE T.toTT0 H0 e s = .sc (.bool b)→zh (denE T.toTT0 H0 e) (some (s,want))=some (b==want):=fun b hb=>by simp [zh,hb]
  split at hs
  ·rename_i hv
   have hv':denE T.toTT0 H0 e s = .sc (.bool true):=by simp only [denE,hv,den]
   cases want
   ·exact ⟨e,rfl,.inr ⟨by rw [hw _ hv']; rfl,hs⟩⟩
   ·exact ⟨e,rfl,.inl ⟨by rw [hw _ hv']; rfl,hs⟩⟩
  ·rename_i hv
   have hv':denE T.toTT0 H0 e s = .sc (.bool false):=by simp only [denE,hv,den]
   cases want
   ·exact ⟨e,rfl,.inl ⟨by rw [hw _ hv']; rfl,hs⟩⟩
   ·exact ⟨e,rfl,.inr ⟨by rw [hw _ hv']; rfl,hs⟩⟩
  ·rename_i a hv
   have hv':denE T.toTT0 H0 e s = .sc (.tuple a):=by simp only [denE,hv,den]
   exact ⟨e,rfl,.inr ⟨by simp [zh,hv'],hs⟩⟩
  ·rename_i b hv
   have hv':denE T.toTT0 H0 e s = .sc (.bool b):=by simp only [denE,hv,den]
   cases b with
   | true =>
    have h1:=hs.1 rfl
    cases want
    ·exact ⟨_,z48 hv,.inr ⟨by rw [hw _ hv']; rfl,h1⟩⟩
    ·exact ⟨_,z48 hv,.inl ⟨by rw [hw _ hv']; rfl,h1⟩⟩
   | false =>
    have h1:=hs.2 rfl
    cases want
    ·exact ⟨_,z48 hv,.inl ⟨by rw [hw _ hv']; rfl,h1⟩⟩
    ·exact ⟨_,z48 hv,.inr ⟨by rw [hw _ hv']; rfl,h1⟩⟩
  ·exact hs.elim
def zq6 (pro:List Nat) (cx:Cx P T) (x:Ins) (e:TE T.toTT0) (h:TH T.toTT0) (K:TE T.toTT0→TH T.toTT0→Raw P T pro L):Raw P T pro L :=
 match x.op with
 | .rd (.pick (.tmp s) a b) =>
  match getE e s with
  | .sc (.bool t)=>.ite t (Raw.ofRs (fun v=>K (putE (putE e s (.bk true)) x.dst v) h) (nnT (evT e a))) (Raw.ofRs (fun v=>K (putE (putE e s (.bk false)) x.dst v) h) (nnT (evT e b)))
  | _=>Raw.ofRs (fun v=>K (putE e x.dst v) h) (rdT e h (.pick (.tmp s) a b))
 | .rd b=>Raw.ofRs (fun v=>K (putE e x.dst v) h) (rdT e h b)
 | .mk b=>match zan pro (700000+x.dst * 100) e h (zd7 e (z2h b)) with
  | some (e1,h1)=>Raw.ofRs (fun st=>K (st.env e1 x.dst) st.h) (mkT (cx.at x.dst) pro e1 h1 x.dst b)
  | none=>.no
 | .app s bytes a b=>match dapT pro (700000+x.dst * 100) e h a with
  | some (e1,h1)=>Raw.ofRs (fun st=>K (st.env e1 x.dst) st.h) (appT (cx.at x.dst) pro e1 h1 x.dst s bytes a b)
  | none=>.no
 | .st n a v=>Raw.ofRs (fun (e,h)=>match zan pro (700000+x.dst * 100) e h (zd7 e [v]) with
  | some (e1,h1)=>Raw.ofRs (fun st=>K (st.env e1 x.dst) st.h) (stT e1 h1 n a v)
  | none=>.no) (cuT pro (700000+x.dst * 100) e h v)
 | .s2b y=>match evT e y with | .sc (.string s)=>K (putE e x.dst (.im T.u8 (T.bs (bytesOf s)))) h | _=>.no
 | op=>zi8 P pro cx.cs e h x.dst op K
def z3f (P:Program) (pro:List Nat) (x:Ins) (E:Env) (H0:H) (Kp:Env→H→Prop):Prop :=
 ∃ e0 h0 e1 h1 e2 h2,z9 P pro E H0 e0 h0∧(∀ t b,E t=Bl b→e0 t=Bl b)∧z2g P pro e0 h0 x.dst x.op e1 h1∧z9 P pro e1 h1 e2 h2∧Kp e2 h2
theorem z3f.pre {x:Ins} {E E1:Env} {H0 H1:H} {Kp:Env→H→Prop} (g:z9 P pro E H0 E1 H1) (gb:∀ t b,E t=Bl b→E1 t=Bl b) (h:z3f P pro x E1 H1 Kp):z3f P pro x E H0 Kp:=by
 obtain ⟨e0,h0,e1,h1,e2,h2,g1,b1,g2,g3,k⟩:=h
 exact ⟨e0,h0,e1,h1,e2,h2,g.trans g1,fun t b hb=>b1 t b (gb t b hb),g2,g3,k⟩
def KP (K:TE T.toTT0→TH T.toTT0→Raw P T pro L) (Q:L→Prop) (E:Env) (H0:H):Prop:=∃ e h,E=denE T.toTT0 (denH T.toTT0 h) e∧H0=denH T.toTT0 h∧Sat (K e h) Q
theorem zgk {x:Ins} {e:TE T.toTT0} {h:TH T.toTT0} {K:TE T.toTT0→TH T.toTT0→Raw P T pro L} {Q:L→Prop} {st:StT T} (hst:StOk P pro T e h x st) (hK:Sat (K (st.env e x.dst) st.h) Q) :
  z3f P pro x (denE T.toTT0 (denH T.toTT0 h) e) (denH T.toTT0 h) (KP K Q):=by
 obtain ⟨e0,h0',e1,h1',g1,gb,g2,g3⟩:=hst.1 (denE T.toTT0 (denH T.toTT0 h) e) (fun _ _=>rfl)
 exact ⟨e0,h0',e1,h1',_,_,g1,gb,g2,g3.trans (StT.env_ghost hst.2.1),_,_,rfl,rfl,hK⟩
theorem zd8 {x:Ins} {b:IB} (hx:x.op = .rd b) {e e':TE T.toTT0} {h:TH T.toTT0} {K:TE T.toTT0→TH T.toTT0→Raw P T pro L} {Q:L→Prop} {v:VT T} (he:denE T.toTT0 (denH T.toTT0 h) e'=denE T.toTT0 (denH T.toTT0 h) e) (hv:(rdT e h b).gives v) (hK:Sat (K (putE e' x.dst v) h) Q) :
  z3f P pro x (denE T.toTT0 (denH T.toTT0 h) e) (denH T.toTT0 h) (KP K Q):=by
 obtain ⟨av,q1,q2⟩:=zlk hv
 refine ⟨_,_,upd (denE T.toTT0 (denH T.toTT0 h) e) x.dst av,denH T.toTT0 h,_,_,z9.rfl',fun _ _ h=>h,by rw [hx]; exact .plain (by simp only [z27,q1]),z9.le (e1:=denE T.toTT0 (denH T.toTT0 h) (putE e' x.dst v)) fun t=>?_,putE e' x.dst v,h,rfl,rfl,hK⟩
 rw [z1d,he]
 exact AVle.upd (fun t=>AVle.refl _) q2 t
theorem zx7 {cx:Cx P T} {x:Ins} {e:TE T.toTT0} {h:TH T.toTT0} {K:TE T.toTT0→TH T.toTT0→Raw P T pro L} {Q:L→Prop} (hs:Sat (zq6 pro cx x e h K) Q) :
  z3f P pro x (denE T.toTT0 (denH T.toTT0 h) e) (denH T.toTT0 h) (KP K Q):=by
 obtain ⟨d,g,op⟩:=x
 have call:∀ {op:IK},Sat (zi8 P pro cx.cs e h d op K) Q→z3f P pro ⟨d,g,op⟩ (denE T.toTT0 (denH T.toTT0 h) e) (denH T.toTT0 h) (KP K Q):=fun hs=>by
  obtain ⟨e0,h0,e1,e2,h2,g1,g2,g3,g4,gb⟩:=zqj hs
  exact ⟨e0,h0,e1,_,_,_,g1,gb,g2,g3,e2,h2,rfl,rfl,g4⟩
 unfold zq6 at hs
 dsimp only at hs
 split at hs
 ·rename_i s a b
  split at hs
  ·rename_i t ht
   cases t with
   | true =>
    obtain ⟨v,hv,hK⟩:=Sat.ofRs _ (hs.1 rfl)
    exact zd8 (x:=⟨d,g,_⟩) rfl (z48 ht) (by simp only [rdT,evT,ht]; exact .inl ⟨rfl,hv⟩) hK
   | false =>
    obtain ⟨v,hv,hK⟩:=Sat.ofRs _ (hs.2 rfl)
    exact zd8 (x:=⟨d,g,_⟩) rfl (z48 ht) (by simp only [rdT,evT,ht]; exact .inr ⟨rfl,hv⟩) hK
  ·obtain ⟨v,hv,hK⟩:=Sat.ofRs _ hs
   exact zd8 (x:=⟨d,g,_⟩) rfl rfl hv hK
 ·rename_i b _
  obtain ⟨v,hv,hK⟩:=Sat.ofRs _ hs
  exact zd8 (x:=⟨d,g,_⟩) rfl rfl hv hK
 ·rename_i b
  split at hs
  ·rename_i e1 h1 hd
   obtain ⟨st,hv,hK⟩:=Sat.ofRs _ hs
   exact (zao _ _ _ _ _ _ hd).elim fun q1 q2=>z3f.pre q1 q2 (zgk (x:=⟨d,g,_⟩) (zv4 hv) hK)
  ·exact hs.elim
 ·rename_i s bytes a b
  split at hs
  ·rename_i e1 h1 hd
   obtain ⟨st,hv,hK⟩:=Sat.ofRs _ hs
   exact (y07 hd).elim fun q1 q2=>z3f.pre q1 q2 (zgk (x:=⟨d,g,_⟩) (zm8 hv) hK)
  ·exact hs.elim
 ·rename_i n a v
  obtain ⟨⟨e0,h0⟩,hc,hs⟩:=Sat.ofRs _ hs
  dsimp only at hs
  refine (y1p (P:=P) (pro:=pro) hc).elim fun c1 c2=>z3f.pre c1 c2 ?_
  split at hs
  ·rename_i e1 h1 hd
   obtain ⟨st,hv,hK⟩:=Sat.ofRs _ hs
   exact (zao _ _ _ _ _ _ hd).elim fun q1 q2=>z3f.pre q1 q2 (zgk (x:=⟨d,g,_⟩) (zve hv) hK)
  ·exact hs.elim
 ·rename_i y
  split at hs
  ·rename_i s hy
   refine ⟨_,_,upd (denE T.toTT0 (denH T.toTT0 h) e) d (den T.toTT0 (denH T.toTT0 h) (.im T.u8 (T.bs (bytesOf s)))),denH T.toTT0 h,_,_,z9.rfl',fun _ _ h=>h,.plain ?_,z9.le (e1:=denE T.toTT0 (denH T.toTT0 h) (putE e d (.im T.u8 (T.bs (bytesOf s))))) fun t=>?_,_,h,rfl,rfl,hs⟩
   ·simp only [z27,zg,hy,den,T.bs_ok,T.bs_sz]
   ·rw [z1d]; exact AVle.refl _
  ·exact hs.elim
 ·exact call hs
def evR (pro:List Nat) (cx:Cx P T):List Ins→TE T.toTT0→TH T.toTT0→(TE T.toTT0→TH T.toTT0→Raw P T pro L)→Raw P T pro L
 | [],e,h,K=>K e h
 | x::l,e,h,K=>zf6 e x.guard (fun e=>match frzL (cx.fzAt x.dst) e h with | some (e,h)=>zq6 pro cx x e h fun e h=>evR pro cx l e h K | none=>.no) (fun e=>evR pro cx l (putE e x.dst (zq1 x.op)) h K)
theorem zew {cx:Cx P T} {K:TE T.toTT0→TH T.toTT0→Raw P T pro L} {Q:L→Prop}:∀ (l:List Ins) (e:TE T.toTT0) (h:TH T.toTT0),Sat (evR pro cx l e h K) Q →
  ∃ E H',RunG P pro l (denE T.toTT0 (denH T.toTT0 h) e) (denH T.toTT0 h) E H'∧KP K Q E H'
 | [],e,h,hs=>⟨_,_,.nil,e,h,rfl,rfl,hs⟩
 | x::l,e,h,hs=>by
  obtain ⟨e',he,h1 | h1⟩:=zhi (H0:=denH T.toTT0 h) hs
  ·have h12:z3f P pro x (denE T.toTT0 (denH T.toTT0 h) e') (denH T.toTT0 h) (KP (fun e h=>evR pro cx l e h K) Q):=by
    have:=h1.2
    split at this
    ·rename_i e5 h5 hf
     obtain ⟨q1,q2⟩:=z63 (P:=P) (pro:=pro) _ hf
     exact z3f.pre q1 q2 (zx7 this)
    ·exact this.elim
   obtain ⟨e0,h0,e1,h1',e2,h2,g1,gb,g2,g3,e4,h4,rfl,rfl,hK⟩:=h12
   obtain ⟨E,H',r,k⟩:=zew l e4 h4 hK
   rw [he] at g1 gb
   refine ⟨E,H',.ghost g1 (.step ?_ g2 (.ghost g3 r)),k⟩
   have hw:=h1.1
   cases hg:x.guard with
   | none=>rfl
   | some sw =>
    obtain ⟨s,want⟩:=sw
    rw [hg] at hw
    simp only [zh] at hw ⊢
    split at hw
    ·rename_i b hb
     rw [gb s b hb]
     exact hw
    ·cases hw
    ·cases hw
  ·obtain ⟨E,H',r,k⟩:=zew l _ h h1.2
   rw [z1d,he,zhv] at r
   exact ⟨E,H',.skip h1.1 r,k⟩
end
theorem WD.mono {P:Program} {K K':Env→H→Prop} {h0:H} (hk:∀ e h,K e h→K' e h):∀ (pre:List (Ins×List Nat)) (i:Nat) (e:Env) (acc:List (Nat×H)),WD P pre i e acc h0 K→WD P pre i e acc h0 K'
 | [],_,_,_,h=>⟨h.1,hk _ _ h.2⟩
 | _::pre,_,_,_,⟨av,rows,h1,h2⟩=>⟨av,rows,h1,WD.mono hk pre _ _ _ h2⟩
section
variable {P:Program} {T:TT} {pro:List Nat} {L:Type}
mutual
def swIn (ok:Nat→Bool):VT T→Bool
 | .sw k _=>ok k
 | .ag cs=>z7n ok cs
 | .tu cs=>z7n ok cs
 | .fn _ cs=>z7n ok cs
 | .un | .sc _ | .ik _ _ | .bk _ | .zs | .im _ _ | .ip _ _ _ | .sl _ _ _ _ | .pt _ _ _ _ | .ow _ _ _ | .oo _ _ _ _ _=>true
def z7n (ok:Nat→Bool):List (VT T)→Bool
 | []=>true
 | x::l=>swIn ok x && z7n ok l
end
mutual
theorem z81 {H0 H1:H} {ok:Nat→Bool} (hk:∀ k,ok k=true→z6 H1 k=z6 H0 k):∀ (v:VT T),swIn ok v=true→den T.toTT0 H1 v=den T.toTT0 H0 v
 | .sw k p,h=>by simp only [swIn] at h; simp only [den,z18 (hk k h)]
 | .ag cs,h=>by simp only [swIn] at h; simp only [den,z6u hk cs h]
 | .tu cs,h=>by simp only [swIn] at h; simp only [den,z6u hk cs h]
 | .fn _ cs,h=>by simp only [swIn] at h; simp only [den,z6u hk cs h]
 | .un,_ | .sc _,_ | .ik _ _,_ | .bk _,_ | .zs,_ | .im _ _,_ | .ip _ _ _,_ | .sl _ _ _ _,_ | .pt _ _ _ _,_ | .ow _ _ _,_ | .oo _ _ _ _ _,_=>rfl
theorem z6u {H0 H1:H} {ok:Nat→Bool} (hk:∀ k,ok k=true→z6 H1 k=z6 H0 k):∀ (v:List (VT T)),z7n ok v=true→denL T.toTT0 H1 v=denL T.toTT0 H0 v
 | [],_=>rfl
 | x::l,h=>by
  simp only [z7n,Bool.and_eq_true] at h
  simp only [denL,z81 hk x h.1,z6u hk l h.2]
end
def allE (ok:Nat→Bool):TE T.toTT0→Bool
 | []=>true
 | (_,v)::l=>swIn ok v && allE ok l
theorem zw5 {H0 H1:H} {ok:Nat→Bool} (hk:∀ k,ok k=true→z6 H1 k=z6 H0 k):∀ (e:TE T.toTT0),allE ok e=true→denE T.toTT0 H1 e=denE T.toTT0 H0 e:=by
 intro e he
 funext t
 unfold denE
 refine z81 hk _ ?_
 induction e with
 | nil=>rfl
 | cons x l ih =>
  obtain ⟨k,v⟩:=x
  simp only [allE,Bool.and_eq_true] at he
  simp only [getE]
  cases Nat.beq t k
  ·exact ih he.2
  ·exact he.1
def hxT (D:List Nat):List (Nat×TH T.toTT0)→TH T.toTT0
 | []=>[]
 | (i,r)::l=>bif D.contains i then r++hxT D l else hxT D l
def z12:List (Nat×TH T.toTT0)→TH T.toTT0
 | []=>[]
 | (_,r)::l=>r++z12 l
def accA (T:TT) (acc:List (Nat×TH T.toTT0)):List (Nat×H):=acc.map fun x=>(x.1,denH T.toTT0 x.2)
theorem zol (D:List Nat):∀ (acc:List (Nat×TH T.toTT0)),hx D (accA T acc)=denH T.toTT0 (hxT D acc)
 | []=>rfl
 | (i,r)::l=>by
  have ih:=zol D l
  simp only [accA,List.map_cons,hx,hxT]
  cases hc:D.contains i with
  | true=>simp only [if_true,cond_true,z1y]; rw [← ih]; rfl
  | false=>simp only [Bool.false_eq_true,if_false,cond_false]; rw [← ih]; rfl
theorem zf7:∀ (acc:List (Nat×TH T.toTT0)),z22 (accA T acc)=denH T.toTT0 (z12 acc)
 | []=>rfl
 | (i,r)::l=>by
  have ih:=zf7 l
  simp only [accA,List.map_cons,z22,z12,z1y]
  rw [← ih]; rfl
theorem z6d:∀ (acc:List (Nat×TH T.toTT0)) (i:Nat) (r:TH T.toTT0),z12 (acc++[(i,r)])=z12 acc++r
 | [],_,_=>by simp [z12]
 | (_,r')::l,i,r=>by simp [z12,z6d l]
theorem zd1 (D:List Nat):∀ (acc:List (Nat×TH T.toTT0)) (z:Nat×TR T.El),z ∈ hxT D acc→z ∈ z12 acc
 | (i,r)::l,z,hz=>by
  simp only [hxT] at hz
  simp only [z12,List.mem_append]
  cases hc:D.contains i with
  | true =>
   rw [hc,cond_true,List.mem_append] at hz
   exact hz.imp id (zd1 D l z)
  | false =>
   rw [hc,cond_false] at hz
   exact .inr (zd1 D l z hz)
theorem zds:∀ (h:TH T.toTT0) (z:Nat×Row),z ∈ denH T.toTT0 h↔∃ k r,(k,r) ∈ h∧z=(k,denR T.toTT0 r)
 | [],z=>by simp [denH]
 | (k,r)::h,z=>by
  simp only [denH,List.mem_cons,zds h z]
  constructor
  ·rintro (rfl | ⟨k',r',h1,rfl⟩)
   ·exact ⟨k,r,.inl rfl,rfl⟩
   ·exact ⟨k',r',.inr h1,rfl⟩
  ·rintro ⟨k',r',h1 | h1,rfl⟩
   ·cases h1; exact .inl rfl
   ·exact .inr ⟨k',r',h1,rfl⟩
theorem zlf {hd ha:TH T.toTT0} (hn:zk (ha.map Prod.fst)=true) (hs:∀ z ∈ hd,z ∈ ha) (k:Nat) (hk:(hd.map Prod.fst).contains k=true):z6 (denH T.toTT0 ha) k=z6 (denH T.toTT0 hd) k:=by
 have hk':k ∈ (denH T.toTT0 hd).map Prod.fst:=by rw [z17]; simpa using hk
 obtain ⟨r,hr⟩:=z6c _ _ hk'
 rw [hr]
 have hm:=z78 hr
 obtain ⟨k2,r2,h1,h2⟩:=(zds hd _).1 hm
 cases h2
 exact z77 (by rw [z17]; exact zp _ hn) ((zds ha _).2 ⟨k,r2,hs _ h1,rfl⟩)
def zcy:List Kd→List (VT T)→List (VT T)
 | .im t::ks,.zs::l=>.im t []::zcy ks l
 | _::ks,v::l=>v::zcy ks l
 | _,l=>l
def zfK (T:TT) (ks:List Kd) (c:Nat):Option Nat:=match ks[c]? with | some (.im t)=>some (T.sz t) | _=>none
theorem zp3 {f:Nat→Option Nat}:∀ (l:List AV) (c:Nat),(∀ j,f (c+j)=none)→zfA f c l=l
 | [],_,_=>rfl
 | a::l,c,h=>by
  have ih:=zp3 (f:=f) l (c+1) fun j=>by rw [show c+1+j=c+(j+1) by omega]; exact h _
  have h0:=h 0
  rw [Nat.add_zero] at h0
  cases a <;> simp only [zfA,ih,h0]
theorem zhe {f:Nat→Option Nat}:∀ (ks:List Kd) (l:List (VT T)) (c:Nat),(∀ j,f (c+j)=zfK T ks j)→denL T.toTT0 [] (zcy ks l)=zfA f c (denL T.toTT0 [] l)
 | [],l,c,h=>by
  rw [zp3 _ _ fun j=>by rw [h j]; simp [zfK]]
  cases l <;> rfl
 | k::ks,[],c,h=>by cases k <;> rfl
 | k::ks,v::l,c,h=>by
  have ih:=zhe (f:=f) ks l (c+1) fun j=>by
   rw [show c+1+j=c+(j+1) by omega,h (j+1)]
   simp [zfK]
  have h0:=h 0
  rw [Nat.add_zero] at h0
  cases k with
  | im t =>
   have h0:f c=some (T.sz t):=by rw [h0]; simp [zfK]
   cases v <;> simp only [zcy,denL,den,zfA,ih,h0,List.map_nil]
  | _ =>
   have h0:f c=none:=by rw [h0]; simp [zfK]
   cases v <;> simp only [zcy,denL,den,zfA,ih,h0]
def mkD (ty:Option (Bool×Nat)) (e:TE T.toTT0) (d:Nat) (b:IB):Rs (VT T×TR T.El) :=
 bif (z2h b).all (fun o=>swIn (fun _=>false) (evT e o)) then
 match b with
 | .box s x =>
  match z51 (evT e x) with
  | none=>.no
  | some cs=>bif Nat.beq cs.length s then
   match zag (T:=T) [] [d] [cs] with
   | some (xs,_,[])=>.ok (.pt d [] 0 0,.lit s xs)
   | _=>.no
   else .no
 | .bsl s len zero parts =>
  match zas (List.replicate len (z4o zero)).flatten (parts.map fun (i,x)=>(i * s,s,evT e x)) with
  | none=>.no
  | some cs =>
   match zag (T:=T) [] [d] (z5z s len cs) with
   | some (xs,_,[])=>.ok (.sw d [],match ty with
    | some (m,t)=>bif Nat.beq (T.sz t) s then (match unL m t xs with | some ys=>.typ m t ys | none=>.lit s xs) else .lit s xs
    | none=>.lit s xs)
   | _=>.no
 | .mks s bytes zero l =>
  match z6e (evT e l),ty with
  | some n,some (m,t)=>bif Nat.beq (T.sz t) s then
   match T.un m t (zcy (T.ks m t) (z4o zero)) with
   | some z=>.need (0≤n∧n * (bytes:Int)≤140737488355328) (.ok (.sw d [],.typ m t (List.replicate n.toNat z)))
   | none=>.no
   else .no
  | _,_=>.no
 | _=>.no
 else .no
theorem y6u {ty:Option (Bool×Nat)} {e:TE T.toTT0} {d:Nat} {b:IB} {v:VT T} {r:TR T.El} (H0:H) (hg:(mkD ty e d b).gives (v,r)) :
  (∃ zf rows0,mkop (ev (denE T.toTT0 H0 e)) [] d b=some (den T.toTT0 [(d,denR T.toTT0 r)] v,rows0)∧[(d,denR T.toTT0 r)]=zfH zf rows0)∧(v = .pt d [] 0 0∨v = .sw d []):=by
 have plain:∀ {b:IB} {v:VT T} {r:TR T.El},mkop (ev (denE T.toTT0 H0 e)) [] d b=some (den T.toTT0 [(d,denR T.toTT0 r)] v,[(d,denR T.toTT0 r)])→∃ zf rows0,mkop (ev (denE T.toTT0 H0 e)) [] d b=some (den T.toTT0 [(d,denR T.toTT0 r)] v,rows0)∧[(d,denR T.toTT0 r)]=zfH zf rows0:=fun h=>⟨fun _=>none,_,h,(zea _).symm⟩
 unfold mkD at hg
 obtain ⟨hall,hg⟩:=zv hg
 have hden:∀ o ∈ z2h b,den T.toTT0 H0 (evT e o)=den T.toTT0 [] (evT e o):=fun o ho=>z81 (ok:=fun _=>false) (fun k h=>(by cases h)) _ (List.all_eq_true.1 hall o ho)
 have start:∀ k,[d].contains k=false→z6 (denH T.toTT0 ([]:TH T.toTT0)) k=z6 ([]:H) k:=fun _ _=>rfl
 cases b with
 | box s x =>
  dsimp only at hg
  split at hg
  ·exact hg.elim
  ·rename_i cs hcs
   obtain ⟨hl,hg⟩:=zv hg
   split at hg
   ·rename_i xs g ha
    cases hg
    obtain ⟨q1,q2,q3⟩:=z7x (H0:=[]) _ _ _ _ _ _ start ha
    have hc:=z67 (h:=[]) hcs
    refine ⟨plain ?_,.inl rfl⟩
    simp only [mkop,zg,hden x (by simp [z2h]),hc,z2t]
    rw [if_pos (Nat.eq_of_beq_eq_true hl)]
    simp only [List.map_cons,List.map_nil,denH] at q1
    simp only [zb,q1]
    simp [den,denR]
   ·exact hg.elim
 | bsl s len zero parts =>
  dsimp only at hg
  split at hg
  ·exact hg.elim
  ·rename_i cs hcs
   split at hg
   ·rename_i xs g ha
    obtain ⟨q1,q2,q3⟩:=z7x (H0:=[]) _ _ _ _ _ _ start ha
    have hf:=zat (h:=[]) _ _ _ hcs
    rw [List.map_map] at hf
    have hxl:xs.length=len:=by rw [q3,z9e]
    have key:∀ r:TR T.El,denR T.toTT0 r=⟨s,xs.map (denL T.toTT0 [])⟩→mkop (ev (denE T.toTT0 H0 e)) [] d (.bsl s len zero parts)=some (den T.toTT0 [(d,denR T.toTT0 r)] (.sw d []),[(d,denR T.toTT0 r)]):=by
     intro r hr
     have e0:denL T.toTT0 [] (List.replicate len (z4o zero)).flatten=(List.replicate len (zero.map cval)).flatten:=by
      rw [z11,List.map_flatten,List.map_replicate,← z11,z6s]
     have e1:(parts.map fun (i,x)=>(i * s,s,ev (denE T.toTT0 H0 e) x))=parts.map ((fun (o,n,x)=>(o,n,den T.toTT0 [] x)) ∘ fun (i,x)=>(i * s,s,evT e x)) :=
      List.map_congr_left fun ⟨i,x⟩ hix=>by simp only [Function.comp,zg,hden x (by simp only [z2h]; exact List.mem_map.2 ⟨(i,x),hix,rfl⟩)]
     simp only [mkop]
     rw [e1,← e0,hf]
     simp only
     rw [zak] at q1
     simp only [denH] at q1
     simp only [zb,q1,hr]
     simp [den,zd,res,z6,resE,hxl]
    cases hg
    refine ⟨plain (key _ ?_),.inr rfl⟩
    split
    ·rename_i m t
     cases hb:Nat.beq (T.sz t) s with
     | false=>rfl
     | true =>
      simp only [cond_true]
      split
      ·rename_i ys hy
       simp only [denR,zfw _ _ hy,Nat.eq_of_beq_eq_true hb]
      ·rfl
    ·rfl
   ·exact hg.elim
 | mks s bytes zero l =>
  dsimp only at hg
  split at hg
  ·rename_i n m t hn _
   obtain ⟨hs,hg⟩:=zv hg
   split at hg
   ·rename_i z hz
    obtain ⟨hc,hg⟩:=hg
    cases hg
    obtain ⟨kk,hi⟩:=z54 (h:=H0) hn
    refine ⟨⟨zfK T (T.ks m t),[(d,⟨s,List.replicate n.toNat (zero.map cval)⟩)],?_,?_⟩,.inr rfl⟩
    ·simp only [mkop,zg,hi]
     rw [if_pos hc]
     simp [den,zd,res,z6,resE,denR,Nat.eq_of_beq_eq_true hs,zb]
    ·have hz2:T.ca m t z=zfA (zfK T (T.ks m t)) 0 (zero.map cval):=by
      rw [← T.un_ok _ _ _ _ hz,zhe (f:=zfK T (T.ks m t)) _ _ 0 (fun j=>by rw [Nat.zero_add]),z6s]
     simp only [zfH,denR,List.map_replicate,hz2,Nat.eq_of_beq_eq_true hs]
   ·exact hg.elim
  ·exact hg.elim
 | _=>exact hg.elim
def zi7 (P:Program) (cs:List (Con P T)) (e:TE T.toTT0) (hd:TH T.toTT0) (d:Nat) (op:IK) (K:VT T→TH T.toTT0→Raw P T pro L):Raw P T pro L :=
 match z50 P e op with
 | none=>.no
 | some (f,args) =>
 match zcx f args cs with
 | some (C,[])=>bif (C.strong || !z2i args) && z7n (fun k=>(hd.map Prod.fst).contains k) args then
  Raw.ofRs (fun args'=>.call C args' [] fun y =>
   let bm:=bmOf [] d C.N
   bif zk (bm.map Prod.fst) && zk (bm.map Prod.snd) && (!z2i args || (z8z (C.encR y) && z89 (C.encO y))) then
    match z73 (C.encO y) bm,z32 bm (C.encR y) with
    | some (hb,_),some v=>K v hb
    | _,_=>.no
   else .no) (z9k hd [] C.A args)
  else .no
 | _=>.no
def ziz (cx:Cx P T) (x:Ins) (e:TE T.toTT0) (hd:TH T.toTT0) (K:VT T→TH T.toTT0→Raw P T pro L):Raw P T pro L :=
 match x.op with
 | .rd b=>bif (z2h b).all (fun o=>swIn (fun k=>(hd.map Prod.fst).contains k) (evT e o)) then Raw.ofRs (fun v=>bif swIn (fun k=>(hd.map Prod.fst).contains k) v then K v [] else .no) (rdT e hd b) else .no
 | .mk b=>Raw.ofRs (fun (v,r)=>K v [(x.dst,r)]) (mkD (cx.at x.dst) e x.dst b)
 | .call f l=>zi7 P cx.cs e hd x.dst (.call f l) K
 | .callv f l=>zi7 P cx.cs e hd x.dst (.callv f l) K
 | _=>.no
def zpr (ha:TH T.toTT0) (rows:TH T.toTT0) (e:TE T.toTT0):Bool:=(rows.map Prod.fst).all (fun k=>!(ha.map Prod.fst).contains k) && allE (fun k=>!(rows.map Prod.fst).contains k) e
def evD (cx:Cx P T):List (Ins×List Nat)→Nat→TE T.toTT0→List (Nat×TH T.toTT0)→TH T.toTT0→(TE T.toTT0→TH T.toTT0→Raw P T pro L)→Raw P T pro L
 | [],_,e,acc,h0,K=>bif zk ((z12 acc++h0).map Prod.fst) then K e (z12 acc++h0) else .no
 | x::l,i,e,acc,h0,K=>bif zk ((z12 acc++h0).map Prod.fst) then
  zf6 e x.1.guard (fun e=>ziz cx x.1 e (hxT x.2 acc++h0) fun v rows=>bif zpr (z12 acc++h0) rows e then evD cx l (i+1) (putE e x.1.dst v) (acc++[(i,rows)]) h0 K else .no)
   (fun e=>evD cx l (i+1) (putE e x.1.dst (zq1 x.1.op)) (acc++[(i,[])]) h0 K)
  else .no
theorem zqp {cx:Cx P T} {x:Ins} {D:List Nat} {e:TE T.toTT0} {hd ha:TH T.toTT0} {K:VT T→TH T.toTT0→Raw P T pro L} {Q:L→Prop} (hw:zh (denE T.toTT0 (denH T.toTT0 ha) e) x.guard=some true)
  (hn:zk (ha.map Prod.fst)=true) (hsub:∀ z ∈ hd,z ∈ ha) (hs:Sat (ziz cx x e hd K) Q) :
  ∃ v rows,Sat (K v rows) Q∧∀ h1:TH T.toTT0,(∀ k,(hd.map Prod.fst).contains k=true→z6 (denH T.toTT0 h1) k=z6 (denH T.toTT0 hd) k)→(∀ k,(rows.map Prod.fst).contains k=true→z6 (denH T.toTT0 h1) k=z6 (denH T.toTT0 rows) k) →
   DOk P (denE T.toTT0 (denH T.toTT0 ha) e) (denH T.toTT0 hd) ⟨x,D,den T.toTT0 (denH T.toTT0 h1) v,denH T.toTT0 rows⟩:=by
 obtain ⟨d,g,op⟩:=x
 have hpart:=zlf hn hsub
 have opd:∀ o,swIn (fun k=>(hd.map Prod.fst).contains k) (evT e o)=true→ev (denE T.toTT0 (denH T.toTT0 ha) e) o=ev (denE T.toTT0 (denH T.toTT0 hd) e) o:=fun o ho=>by
  rw [zg,zg,z81 hpart _ ho]
 have call:∀ {op:IK},(∀ f args,z50 P e op=some (f,args)→z7n (fun k=>(hd.map Prod.fst).contains k) args=true→z39 P (denE T.toTT0 (denH T.toTT0 ha) e) op f (denL T.toTT0 (denH T.toTT0 ha) args))→Sat (zi7 P cx.cs e hd d op K) Q →
   ∃ v rows,Sat (K v rows) Q∧∀ h1:TH T.toTT0,(∀ k,(hd.map Prod.fst).contains k=true→z6 (denH T.toTT0 h1) k=z6 (denH T.toTT0 hd) k)→(∀ k,(rows.map Prod.fst).contains k=true→z6 (denH T.toTT0 h1) k=z6 (denH T.toTT0 rows) k) →
    DOk P (denE T.toTT0 (denH T.toTT0 ha) e) (denH T.toTT0 hd) ⟨⟨d,g,op⟩,D,den T.toTT0 (denH T.toTT0 h1) v,denH T.toTT0 rows⟩:=by
  intro op hca hs
  unfold zi7 at hs
  split at hs
  ·exact hs.elim
  ·rename_i f args hargs
   split at hs
   ·rename_i C hC
    cases hb:((C.strong || !z2i args) && z7n (fun k=>(hd.map Prod.fst).contains k) args) with
    | false=>rw [hb] at hs; exact hs.elim
    | true =>
     rw [hb,cond_true] at hs
     simp only [Bool.and_eq_true] at hb
     obtain ⟨args',hcv,x,y,q1,q2,q3,q4⟩:=Sat.ofRs _ hs
     dsimp only at q4
     generalize hbm:bmOf [] d C.N=bm at q4
     cases hb2:(zk (bm.map Prod.fst) && zk (bm.map Prod.snd) && (!z2i args || (z8z (C.encR y) && z89 (C.encO y)))) with
     | false=>rw [hb2] at q4; exact q4.elim
     | true =>
      rw [hb2,cond_true] at q4
      simp only [Bool.and_eq_true] at hb2
      obtain ⟨⟨b1,b2⟩,b5⟩:=hb2
      split at q4
      ·rename_i hb' left v hsb hbk
       refine ⟨v,hb',q4,fun h1 hp1 hp2=>?_⟩
       obtain ⟨l,r1,r2⟩:=z6t (H0:=denH T.toTT0 hd) (Hn:=denH T.toTT0 []) (rest:=hd) (m:=[]) (bor:=z2i args) (fun _ _=>rfl) C.A args args' hcv (fun h=>h)
       have hCf:=zav cx.cs hC
       have hG:=C.ok x y q3
       rw [q1,q2,hCf] at hG
       have hok:z1h P f l [] (den T.toTT0 (denH T.toTT0 (C.encO y)) (C.encR y)) (denH T.toTT0 (C.encO y))∨z2i args=false∧CallG P f l [] (den T.toTT0 (denH T.toTT0 (C.encO y)) (C.encR y)) (denH T.toTT0 (C.encO y)):=by
        cases hst:C.strong with
        | true=>exact .inl (z1h.le r2 (hG.1 hst))
        | false =>
         rw [hst] at hb
         exact .inr ⟨by simpa using hb.1,CallG.le r2 hG.2⟩
       obtain ⟨t1,t2,t3⟩:=z5j bm (C.encO y) hb' left hsb
       have hkeys:=z6k _ _ _ _ t1
       have hde:denL T.toTT0 (denH T.toTT0 ha) args=denL T.toTT0 (denH T.toTT0 hd) args:=z6u hpart _ hb.2
       refine .call hw (hca f args hargs hb.2) (by rw [hde]; exact r1) hok t1 (zp _ b1) (z7y (fun k n q hkn=>?_) _ _ hbk) (fun hbor=>?_)
       ·have hm:=z5s bm hkn
        have hg:=t3 n k b1 b2 hm
        have hn':n ∈ hb'.map Prod.fst:=by rw [← z17,hkeys]; exact List.mem_map.2 ⟨_,hm,rfl⟩
        have:=hp2 n (by simpa using hn')
        unfold zd res
        rw [this,hg]
       ·rw [hbor] at b5
        simp only [Bool.not_true,Bool.false_or,Bool.and_eq_true] at b5
        exact ⟨zbb _ b5.1,z8y _ b5.2⟩
      ·exact q4.elim
   ·exact hs.elim
 unfold ziz at hs
 dsimp only at hs
 split at hs
 ·rename_i b
  cases hb:(z2h b).all (fun o=>swIn (fun k=>(hd.map Prod.fst).contains k) (evT e o)) with
  | false=>rw [hb] at hs; exact hs.elim
  | true =>
   rw [hb,cond_true] at hs
   obtain ⟨v,hv,hs⟩:=Sat.ofRs _ hs
   cases hsv:swIn (fun k=>(hd.map Prod.fst).contains k) v with
   | false=>rw [hsv] at hs; exact hs.elim
   | true =>
    rw [hsv,cond_true] at hs
    refine ⟨v,[],hs,fun h1 hp1 hp2=>?_⟩
    obtain ⟨av,r1,r2⟩:=zlk hv
    refine .rd (av:=av) hw rfl ?_ (by rw [z81 hp1 v hsv]; exact r2) rfl
    rw [← r1]
    exact z3r b fun o ho=>opd o (List.all_eq_true.1 hb o ho)
 ·rename_i b
  obtain ⟨⟨v,r⟩,hv,hs⟩:=Sat.ofRs _ hs
  obtain ⟨m1,m2⟩:=y6u (denH T.toTT0 ha) hv
  obtain ⟨zf,rows0,m1,m3⟩:=m1
  refine ⟨v,[(d,r)],hs,fun h1 hp1 hp2=>.mk zf hw rfl (rows0:=rows0) ?_ m3⟩
  simp only [m1]
  have hr:=hp2 d (by simp)
  rcases m2 with rfl | rfl
  ·rfl
  ·simp only [den]
   congr 2
   rw [z18 hr]
   rfl
 ·rename_i f l
  refine call (fun f' args ha' hsw=>?_) hs
  cases ha'
  have:denL T.toTT0 (denH T.toTT0 ha) (l.map (evT e))=l.map (ev (denE T.toTT0 (denH T.toTT0 ha) e)):=by
   rw [z11,List.map_map]
   exact List.map_congr_left fun x _=>(zg x).symm
  rw [this]
  exact .call
 ·rename_i f l
  refine call (fun f' args ha' hsw=>?_) hs
  simp only [z50] at ha'
  split at ha'
  ·rename_i f2 caps hx
   cases hf:fnOk P f2 with
   | false=>rw [hf] at ha'; cases ha'
   | true =>
    rw [hf] at ha'
    cases ha'
    have:denL T.toTT0 (denH T.toTT0 ha) (l.map (evT e)++caps)=l.map (ev (denE T.toTT0 (denH T.toTT0 ha) e))++denL T.toTT0 (denH T.toTT0 ha) caps:=by
     rw [z11,z11,List.map_append,List.map_map]
     congr 1
     exact List.map_congr_left fun x _=>(zg x).symm
    rw [this]
    exact .callv (by rw [zg,hx]; rfl) hf
  ·cases ha'
 ·exact hs.elim
theorem zpn {a b c:H} {k:Nat} (hk:(b.map Prod.fst).contains k=false):z6 (a++b++c) k=z6 (a++c) k:=by
 have hb:z6 b k=none:=z6b b k (by intro hm; have:(b.map Prod.fst).contains k=true:=(by simpa using hm); rw [this] at hk; cases hk)
 rw [z2b,z2b,z2b,hb]
 cases z6 a k <;> rfl
theorem zev {cx:Cx P T} {K:TE T.toTT0→TH T.toTT0→Raw P T pro L} {Q:L→Prop} {h0:TH T.toTT0}:∀ (l:List (Ins×List Nat)) (i:Nat) (e:TE T.toTT0) (acc:List (Nat×TH T.toTT0)),Sat (evD cx l i e acc h0 K) Q →
  WD P l i (denE T.toTT0 (denH T.toTT0 (z12 acc++h0)) e) (accA T acc) (denH T.toTT0 h0) (KP K Q)
 | [],i,e,acc,hs=>by
  unfold evD at hs
  cases hn:zk ((z12 acc++h0).map Prod.fst) with
  | false=>rw [hn] at hs; exact hs.elim
  | true =>
   rw [hn,cond_true] at hs
   have e1:z22 (accA T acc)++denH T.toTT0 h0=denH T.toTT0 (z12 acc++h0):=by rw [zf7,z1y]
   refine ⟨by rw [e1,z17]; exact hn,?_⟩
   rw [e1]
   exact ⟨_,_,rfl,rfl,hs⟩
 | x::l,i,e,acc,hs=>by
  unfold evD at hs
  cases hn:zk ((z12 acc++h0).map Prod.fst) with
  | false=>rw [hn] at hs; exact hs.elim
  | true =>
   rw [hn,cond_true] at hs
   obtain ⟨e',he,h1 | h1⟩:=zhi (H0:=denH T.toTT0 (z12 acc++h0)) hs
   ·obtain ⟨v,rows,hK,hd⟩:=zqp (D:=x.2) (ha:=z12 acc++h0) (by rw [he]; exact h1.1) hn (fun z hz=>by
     rw [List.mem_append] at hz ⊢
     exact hz.imp (zd1 x.2 acc z) id) h1.2
    cases hno:zpr (z12 acc++h0) rows e' with
    | false=>rw [hno] at hK; exact hK.elim
    | true =>
     rw [hno,cond_true] at hK
     simp only [zpr,Bool.and_eq_true] at hno
     have ih:=zev l (i+1) _ _ hK
     have hrow:∀ k,(rows.map Prod.fst).contains k=false→z6 (denH T.toTT0 (z12 (acc++[(i,rows)])++h0)) k=z6 (denH T.toTT0 (z12 acc++h0)) k:=fun k hk=>by
      rw [z6d,z1y,z1y,z1y]
      exact zpn (by rw [z17]; exact hk)
     have hnew:∀ k,(rows.map Prod.fst).contains k=true→((z12 acc++h0).map Prod.fst).contains k=false:=fun k hk=>by
      have:=List.all_eq_true.1 hno.1 k (by simpa using hk)
      simpa using this
     have hd':=hd (z12 (acc++[(i,rows)])++h0) (fun k hk=>by
      have hsub:∀ z ∈ hxT x.2 acc++h0,z ∈ z12 acc++h0:=fun z hz=>by
       rw [List.mem_append] at hz ⊢
       exact hz.imp (zd1 x.2 acc z) id
      have hk2:((z12 acc++h0).map Prod.fst).contains k=true:=by
       simp only [List.contains_eq_mem,decide_eq_true_eq] at hk ⊢
       obtain ⟨z,hz,rfl⟩:=List.mem_map.1 hk
       exact List.mem_map.2 ⟨z,hsub z hz,rfl⟩
      rw [hrow k (by
       cases hc:(rows.map Prod.fst).contains k with
       | false=>rfl
       | true=>rw [hnew k hc] at hk2; cases hk2)]
      exact zlf hn hsub k hk) (fun k hk=>by
      rw [z6d,z1y,z1y]
      have ha:z6 (denH T.toTT0 (z12 acc)) k=none:=z6b _ _ (by
       rw [z17]
       intro hm
       have h3:=hnew k hk
       have h4:((z12 acc++h0).map Prod.fst).contains k=true:=by
        simp only [List.map_append,List.contains_eq_mem,List.mem_append,decide_eq_true_eq]
        exact .inl hm
       rw [h3] at h4; cases h4)
      have hk':k ∈ (denH T.toTT0 rows).map Prod.fst:=by rw [z17]; simpa using hk
      obtain ⟨r,hr⟩:=z6c _ _ hk'
      rw [List.append_assoc,z2b,ha]
      simp only
      rw [z2b,hr])
     rw [← he]
     refine ⟨den T.toTT0 (denH T.toTT0 (z12 (acc++[(i,rows)])++h0)) v,denH T.toTT0 rows,by rw [zol,← z1y]; exact hd',?_⟩
     ·rw [z1d,zw5 (H0:=denH T.toTT0 (z12 acc++h0)) (fun k hk=>hrow k (by simpa using hk)) e' hno.2] at ih
      have:accA T (acc++[(i,rows)])=accA T acc++[(i,denH T.toTT0 rows)]:=by simp [accA]
      rw [this] at ih
      exact ih
   ·have ih:=zev l (i+1) _ _ h1.2
    have hh:z12 (acc++[(i,([]:TH T.toTT0))])=z12 acc:=by rw [z6d,List.append_nil]
    rw [z1d,hh,he,zhv] at ih
    refine ⟨z37 x.1.op,[],.skip h1.1 rfl rfl,?_⟩
    have:accA T (acc++[(i,([]:TH T.toTT0))])=accA T acc++[(i,[])]:=by simp [accA,denH]
    rw [this] at ih
    exact ih
end
def Fact (e:Env) (h:H) (x:Ins):Prop :=
 (zh e x.guard=some false∧e x.dst=z37 x.op)∨(zh e x.guard=some true∧∀ b,x.op = .rd b→∃ hp av,(∀ z ∈ hp,z ∈ h)∧rdop (ev e) (res hp) b=some av∧AVle av (e x.dst))
def sepB:List Ins→Bool
 | []=>true
 | x::l=>!(z2n x).contains x.dst && l.all (fun y=>!(z2n x).contains y.dst && !(Nat.beq y.dst x.dst)) && sepB l
theorem Fact.next {e:Env} {h h':H} {x:Ins} {d:Nat} {av:AV} (h1:d ∉ z2n x) (h2:d ≠ x.dst) (hs:∀ z ∈ h,z ∈ h') (hf:Fact e h x):Fact (upd e d av) h' x:=by
 have hw:zh (upd e d av) x.guard=zh e x.guard:=z3s fun s hs=>by
  unfold upd; rw [if_neg (by rintro rfl; exact h1 hs)]
 have hd:upd e d av x.dst=e x.dst:=by unfold upd; rw [if_neg (fun e=>h2 e.symm)]
 rcases hf with ⟨f1,f2⟩ | ⟨f1,f2⟩
 ·exact .inl ⟨hw.trans f1,hd.trans f2⟩
 ·refine .inr ⟨hw.trans f1,fun b hb=>?_⟩
  obtain ⟨hp,a,g1,g2,g3⟩:=f2 b hb
  refine ⟨hp,a,fun z hz=>hs z (g1 z hz),?_,by rw [hd]; exact g3⟩
  rw [← g2]
  exact z3r b fun o ho=>z2x (x:=x) (fun s hs=>by unfold upd; rw [if_neg (by rintro rfl; exact h1 hs)]) (by rw [hb]; exact ho)
theorem WD.facts {P:Program} {K:Env→H→Prop} {h0:H}:∀ (pre:List (Ins×List Nat)) (i:Nat) (e:Env) (acc:List (Nat×H)) (done:List Ins),WD P pre i e acc h0 K→sepB (pre.map Prod.fst)=true→(∀ x ∈ done,∀ y ∈ pre,y.1.dst ∉ z2n x∧y.1.dst ≠ x.dst) →
  (∀ x ∈ done,Fact e (z22 acc++h0) x)→WD P pre i e acc h0 (fun e' h'=>K e' h'∧∀ x ∈ done++pre.map Prod.fst,Fact e' h' x)
 | [],i,e,acc,done,hw,_,_,hf=>⟨hw.1,hw.2,fun x hx=>hf x (by simpa using hx)⟩
 | (x,D)::pre,i,e,acc,done,hw,hsep,hd,hf=>by
  obtain ⟨av,rows,hok,hw⟩:=hw
  simp only [List.map_cons,sepB,Bool.and_eq_true,Bool.not_eq_true'] at hsep
  obtain ⟨⟨s1,s2⟩,s3⟩:=hsep
  have hown:x.dst ∉ z2n x:=fun hm=>by
   have:(z2n x).contains x.dst=true:=by simpa using hm
   rw [this] at s1; cases s1
  have hall:∀ acc:List (Nat×H),z22 (acc++[(i,rows)])=z22 acc++rows:=by
   intro acc
   induction acc with
   | nil=>simp [z22]
   | cons y l ih=>obtain ⟨j,r⟩:=y; simp [z22,ih]
  have hmem:∀ z ∈ z22 acc++h0,z ∈ z22 (acc++[(i,rows)])++h0:=fun z hz=>by
   rw [hall]
   simp only [List.mem_append] at hz ⊢
   rcases hz with hz | hz
   ·exact .inl (.inl hz)
   ·exact .inr hz
  have hhx:∀ (acc:List (Nat×H)) (z:Nat×Row),z ∈ hx D acc→z ∈ z22 acc:=by
   intro acc
   induction acc with
   | nil=>intro z hz; cases hz
   | cons y l ih =>
    obtain ⟨j,r⟩:=y
    intro z hz
    simp only [hx] at hz
    simp only [z22,List.mem_append]
    split at hz
    ·rw [List.mem_append] at hz; exact hz.imp id (ih z)
    ·exact .inr (ih z hz)
  refine ⟨av,rows,hok,?_⟩
  have hguard:zh (upd e x.dst av) x.guard=zh e x.guard:=z3s fun s hs=>by
   unfold upd; rw [if_neg (by rintro rfl; exact hown hs)]
  have hdst:upd e x.dst av x.dst=av:=by simp [upd]
  have hnew:Fact (upd e x.dst av) (z22 (acc++[(i,rows)])++h0) x:=by
   have hrd:∀ (b:IB) (a:AV),x.op = .rd b→rdop (ev e) (res (hx D acc++h0)) b=some a→AVle a av→∃ hp av',(∀ z ∈ hp,z ∈ z22 (acc++[(i,rows)])++h0)∧rdop (ev (upd e x.dst av)) (res hp) b=some av'∧AVle av' (upd e x.dst av x.dst):=by
    intro b a hb h1 h2
    refine ⟨hx D acc++h0,a,fun z hz=>hmem z ?_,?_,by rw [hdst]; exact h2⟩
    ·rw [List.mem_append] at hz ⊢
     exact hz.imp (hhx acc z) id
    ·rw [← h1]
     exact z3r b fun o ho=>z2x (x:=x) (fun s hs=>by unfold upd; rw [if_neg (by rintro rfl; exact hown hs)]) (by rw [hb]; exact ho)
   cases hok with
   | skip g1 g2 g3=>exact .inl ⟨hguard.trans g1,hdst.trans g2⟩
   | rd g1 g2 g3 g4 g5 =>
    refine .inr ⟨hguard.trans g1,fun b hb=>?_⟩
    simp only at g2
    rw [g2] at hb
    cases hb
    exact hrd _ _ g2 g3 g4
   | mk zf g1 g2 g3 g4=>exact .inr ⟨hguard.trans g1,fun b hb=>by simp only at g2; rw [g2] at hb; cases hb⟩
   | call g1 g2=>exact .inr ⟨hguard.trans g1,fun b hb=>by
     simp only at g2
     rw [hb] at g2
     cases g2⟩
  have:=WD.facts pre (i+1) _ _ (done++[x]) hw s3 (fun y hy z hz=>by
   rcases List.mem_append.1 hy with hy | hy
   ·exact hd y hy z (by simp [hz])
   ·simp only [List.mem_singleton] at hy
    subst hy
    have:=List.all_eq_true.1 s2 z.1 (List.mem_map.2 ⟨z,hz,rfl⟩)
    simp only [Bool.and_eq_true,Bool.not_eq_true',z1c,decide_eq_false_iff_not] at this
    exact ⟨by simpa using this.1,this.2⟩) (fun y hy=>by
   rcases List.mem_append.1 hy with hy | hy
   ·obtain ⟨q1,q2⟩:=hd y hy (x,D) (by simp)
    exact (hf y hy).next q1 q2 hmem
   ·simp only [List.mem_singleton] at hy
    subst hy
    exact hnew)
  simpa only [List.append_assoc,List.singleton_append,List.map_cons] using this
def zzs:AV→Option Nat
 | .pt k _ _ _=>some k
 | .sl k _ _ _=>some k
 | _=>none
theorem zwy {f:Operand→AV} {r r':Nat→Path→Option (Nat×Els)} {b:IB} (h:∀ o ∈ z2h b,∀ k,zzs (f o)=some k→∀ p,r' k p=r k p):rdop f r' b=rdop f r b:=by
 cases b with
 | iad s x i =>
  have hx:=h x (by simp [z2h])
  simp only [rdop]
  cases hv:f x with
  | sl k p off len=>have h2:=hx k (by rw [hv]; rfl) p; split <;> simp_all
  | pt k p i c=>have h2:=hx k (by rw [hv]; rfl) p; split <;> simp_all
  | _=>split <;> simp_all
 | load agg n x =>
  have hx:=h x (by simp [z2h])
  simp only [rdop]
  cases hv:f x with
  | sl k p off len=>have h2:=hx k (by rw [hv]; rfl) p; split <;> simp_all
  | pt k p i c=>have h2:=hx k (by rw [hv]; rfl) p; split <;> simp_all
  | _=>split <;> simp_all
 | slc s x lo hi =>
  have hx:=h x (by simp [z2h])
  simp only [rdop]
  cases hv:f x with
  | sl k p off len=>have h2:=hx k (by rw [hv]; rfl) p; split <;> simp_all
  | pt k p i c=>have h2:=hx k (by rw [hv]; rfl) p; split <;> simp_all
  | _=>split <;> simp_all
 | _=>rfl
section
variable {P:Program} {T:TT} {pro:List Nat} {L:Type}
mutual
def z1f (bad:Nat→Path→Bool):VT T→Bool
 | .sl k p _ _=>!bad k p
 | .sw k p=>!bad k p
 | .pt k p _ _=>!bad k p
 | .ag cs=>z3g bad cs
 | .tu cs=>z3g bad cs
 | .fn _ cs=>z3g bad cs
 | .un | .sc _ | .ik _ _ | .bk _ | .zs | .im _ _ | .ip _ _ _ | .ow _ _ _ | .oo _ _ _ _ _=>true
def z3g (bad:Nat→Path→Bool):List (VT T)→Bool
 | []=>true
 | x::l=>z1f bad x && z3g bad l
end
mutual
theorem z6q {bad:Nat→Path→Bool} {H0:H}:∀ (v:VT T),z1f bad v=true→kill bad (den T.toTT0 H0 v)=den T.toTT0 H0 v
 | .sl k p _ _,h=>by simp only [z1f,Bool.not_eq_true'] at h; simp only [den,kill,h,Bool.false_eq_true,if_false]
 | .sw k p,h=>by simp only [z1f,Bool.not_eq_true'] at h; simp only [den,kill,h,Bool.false_eq_true,if_false]
 | .pt k p _ _,h=>by simp only [z1f,Bool.not_eq_true'] at h; simp only [den,kill,h,Bool.false_eq_true,if_false]
 | .ag cs,h=>by simp only [z1f] at h; simp only [den,kill,z7b cs h]
 | .tu cs,h=>by simp only [z1f] at h; simp only [den,kill,z7b cs h]
 | .fn _ cs,h=>by simp only [z1f] at h; simp only [den,kill,z7b cs h]
 | .un,_ | .sc _,_ | .ik _ _,_ | .bk _,_ | .zs,_ | .im _ _,_ | .ip _ _ _,_ | .ow _ _ _,_ | .oo _ _ _ _ _,_=>rfl
theorem z7b {bad:Nat→Path→Bool} {H0:H}:∀ (v:List (VT T)),z3g bad v=true→z23 bad (denL T.toTT0 H0 v)=denL T.toTT0 H0 v
 | [],_=>rfl
 | x::l,h=>by
  simp only [z3g,Bool.and_eq_true] at h
  simp only [denL,z23,z6q x h.1,z7b l h.2]
end
def refT:VT T→Option Nat
 | .pt k _ _ _=>some k
 | .sl k _ _ _=>some k
 | .sw k _=>some k
 | _=>none
theorem y1b {H0:H} {v:VT T}:zzs (den T.toTT0 H0 v)=refT v:=by cases v <;> rfl
def zzw:IB→Bool
 | .iad _ _ _ | .load _ _ _ | .slc _ _ _ _=>true
 | _=>false
def zvf (st:StT T) (e:TE T.toTT0) (x:Ins):Bool :=
 match x.op with
 | .rd b=>(z2h b).all fun o=>z1f st.bad (evT e o) && (!zzw b || match refT (evT e o) with | some k=>!st.tch.contains k | none=>true)
 | _=>false
def eqP:Path→Path→Bool
 | [],[]=>true
 | (i,c)::p,(j,d)::q=>Nat.beq c d && (Nat.beq i j && eqP p q)
 | _,_=>false
theorem zqr:∀ (p q:Path),eqP p q=true→p=q
 | [],[],_=>rfl
 | (i,c)::p,(j,d)::q,h=>by
  simp only [eqP,Bool.and_eq_true] at h
  rw [Nat.eq_of_beq_eq_true h.1,Nat.eq_of_beq_eq_true h.2.1,zqr p q h.2.2]
 | [],_::_,h=>by cases h
 | _::_,[],h=>by cases h
def eqT:VT T→VT T→Bool
 | .sw k p,.sw k' p'=>Nat.beq k k' && eqP p p'
 | _,_=>false
theorem y1t:∀ (v w:VT T),eqT v w=true→v=w:=by
 intro v w h
 unfold eqT at h
 split at h
 ·simp only [Bool.and_eq_true] at h
  rw [Nat.eq_of_beq_eq_true h.1,zqr _ _ h.2]
 ·cases h
def zp2 (st:StT T) (e:TE T.toTT0) (x:Ins):Bool :=
 match x.op with
 | .rd b=>(z2h b).all (fun o=>z1f (fun k p=>st.bad k p || st.bw k p) (evT e o)) && match rdT e st.h b with
  | .ok v=>eqT v (getE e x.dst) && z1f (fun k p=>st.bad k p || st.bw k p) v
  | _=>false
 | _=>false
def zaa (dep:List Nat) (st:StT T) (e:TE T.toTT0):List (Ins×List Nat)→Nat→Bool
 | [],_=>true
 | (x,_)::l,i=>(dep.contains i || (zvf st e x || zp2 st e x)) && zaa dep st e l (i+1)
theorem z7o {e:Env} {g:Option (Nat×Bool)} {b:Bool} {bad:Nat→Path→Bool} (h:zh e g=some b):zh (fun t=>kill bad (e t)) g=some b:=by
 cases g with
 | none=>exact h
 | some sw =>
  obtain ⟨s,want⟩:=sw
  simp only [zh] at h ⊢
  split at h
  ·rename_i hb; rw [hb]; simpa [kill] using h
  ·rename_i hb; rw [hb]; simpa [kill] using h
  ·cases h
mutual
theorem z8o {bad:Nat→Path→Bool} {H0 H1:H} (hl:∀ k p,bad k p=false→zd H1 k p=zd H0 k p):∀ (v:VT T),z1f bad v=true→den T.toTT0 H1 v=den T.toTT0 H0 v
 | .sw k p,h=>by simp only [z1f,Bool.not_eq_true'] at h; simp only [den,hl k p h]
 | .ag cs,h=>by simp only [z1f] at h; simp only [den,z7c hl cs h]
 | .tu cs,h=>by simp only [z1f] at h; simp only [den,z7c hl cs h]
 | .fn _ cs,h=>by simp only [z1f] at h; simp only [den,z7c hl cs h]
 | .un,_ | .sc _,_ | .ik _ _,_ | .bk _,_ | .zs,_ | .im _ _,_ | .ip _ _ _,_ | .sl _ _ _ _,_ | .pt _ _ _ _,_ | .ow _ _ _,_ | .oo _ _ _ _ _,_=>rfl
theorem z7c {bad:Nat→Path→Bool} {H0 H1:H} (hl:∀ k p,bad k p=false→zd H1 k p=zd H0 k p):∀ (v:List (VT T)),z3g bad v=true→denL T.toTT0 H1 v=denL T.toTT0 H0 v
 | [],_=>rfl
 | x::l,h=>by
  simp only [z3g,Bool.and_eq_true] at h
  simp only [denL,z8o hl x h.1,z7c hl l h.2]
end
mutual
theorem z8p {bad bad':Nat→Path→Bool} (hb:∀ k p,bad k p=false→bad' k p=false):∀ (v:VT T),z1f bad v=true→z1f bad' v=true
 | .sl k p _ _,h=>by simp only [z1f,Bool.not_eq_true'] at h ⊢; exact hb k p h
 | .sw k p,h=>by simp only [z1f,Bool.not_eq_true'] at h ⊢; exact hb k p h
 | .pt k p _ _,h=>by simp only [z1f,Bool.not_eq_true'] at h ⊢; exact hb k p h
 | .ag cs,h=>by simp only [z1f] at h ⊢; exact z7d hb cs h
 | .tu cs,h=>by simp only [z1f] at h ⊢; exact z7d hb cs h
 | .fn _ cs,h=>by simp only [z1f] at h ⊢; exact z7d hb cs h
 | .un,_ | .sc _,_ | .ik _ _,_ | .bk _,_ | .zs,_ | .im _ _,_ | .ip _ _ _,_ | .ow _ _ _,_ | .oo _ _ _ _ _,_=>rfl
theorem z7d {bad bad':Nat→Path→Bool} (hb:∀ k p,bad k p=false→bad' k p=false):∀ (v:List (VT T)),z3g bad v=true→z3g bad' v=true
 | [],_=>rfl
 | x::l,h=>by
  simp only [z3g,Bool.and_eq_true] at h ⊢
  exact ⟨z8p hb x h.1,z7d hb l h.2⟩
end
theorem zfr {dep:List Nat} {st:StT T} {e:TE T.toTT0} {hA:TH T.toTT0} (hlen:∀ k p,st.bad k p=false→st.bw k p=false→zd (denH T.toTT0 st.h) k p=zd (denH T.toTT0 hA) k p) (hn:zk (hA.map Prod.fst)=true) (ht:∀ k,st.tch.contains k=false→z6 (denH T.toTT0 st.h) k=z6 (denH T.toTT0 hA) k):∀ (l:List (Ins×List Nat)) (i:Nat),zaa dep st e l i=true →
  (∀ x ∈ l.map Prod.fst,Fact (denE T.toTT0 (denH T.toTT0 hA) e) (denH T.toTT0 hA) x)→zbv dep (kill st.bad) (denE T.toTT0 (denH T.toTT0 hA) e) (denH T.toTT0 st.h) l i
 | [],_,_,_=>trivial
 | (x,D)::l,i,hs,hf=>by
  simp only [zaa,Bool.and_eq_true,Bool.or_eq_true] at hs
  refine ⟨?_,zfr hlen hn ht l (i+1) hs.2 (fun y hy=>hf y (by simp [hy]))⟩
  rcases hs.1 with h1 | h1 | h1
  ·exact .inl h1
  rotate_left
  ·right
   unfold zp2 at h1
   split at h1
   ·rename_i b hb
    rcases hf x (by simp) with ⟨f1,f2⟩ | ⟨f1,f2⟩
    ·refine .inl ⟨z7o f1,?_⟩
     rw [f2]
     cases x.op <;> rfl
    ·simp only [Bool.and_eq_true] at h1
     obtain ⟨h1,h2⟩:=h1
     split at h2
     ·rename_i v hv
      simp only [Bool.and_eq_true] at h2
      have hlen':∀ k p,(fun k p=>st.bad k p || st.bw k p) k p=false→zd (denH T.toTT0 st.h) k p=zd (denH T.toTT0 hA) k p:=fun k p hk=>by
       simp only [Bool.or_eq_false_iff] at hk
       exact hlen k p hk.1 hk.2
      have hsub:∀ k p,(fun k p=>st.bad k p || st.bw k p) k p=false→st.bad k p=false:=fun k p hk=>by
       simp only [Bool.or_eq_false_iff] at hk
       exact hk.1
      obtain ⟨av,r1,r2⟩:=zlk (e:=e) (h:=st.h) (b:=b) (v:=v) (by rw [hv]; exact rfl)
      have hcl:∀ o ∈ z2h b,ev (fun t=>kill st.bad (denE T.toTT0 (denH T.toTT0 hA) e t)) o=ev (denE T.toTT0 (denH T.toTT0 st.h) e) o:=fun o ho=>by
       have:=List.all_eq_true.1 h1 o ho
       cases o with
       | tmp t =>
        have q1:=z6q (H0:=denH T.toTT0 hA) _ (z8p hsub _ this)
        have q2:=z8o hlen' _ this
        exact q1.trans q2.symm
       | _=>rfl
      refine .inr ⟨z7o f1,b,av,hb,(z3r b hcl).trans r1,?_⟩
      have e1:=y1t _ _ h2.1
      have q2:=z8o hlen' _ h2.2
      have q1:=z6q (H0:=denH T.toTT0 hA) _ (z8p hsub _ h2.2)
      rw [q2] at r2
      show AVle av (kill st.bad (den T.toTT0 (denH T.toTT0 hA) (getE e x.dst)))
      rw [← e1,q1]
      exact r2
     ·cases h2
   ·cases h1
  ·right
   unfold zvf at h1
   split at h1
   ·rename_i b hb
    rcases hf x (by simp) with ⟨f1,f2⟩ | ⟨f1,f2⟩
    ·refine .inl ⟨z7o f1,?_⟩
     rw [f2]
     cases x.op <;> rfl
    ·obtain ⟨hp,av,g1,g2,g3⟩:=f2 b hb
     refine .inr ⟨z7o f1,b,av,hb,?_,g3.trans (AVle.kill _ _)⟩
     have e1:rdop (ev (denE T.toTT0 (denH T.toTT0 hA) e)) (res (denH T.toTT0 hA)) b=some av :=
      zhs (fun k p v hv=>zln (by rw [z17]; exact zp _ hn) g1 k p v hv) g2
     have hcl:∀ o ∈ z2h b,ev (fun t=>kill st.bad (denE T.toTT0 (denH T.toTT0 hA) e t)) o=ev (denE T.toTT0 (denH T.toTT0 hA) e) o:=fun o ho=>by
      have:=List.all_eq_true.1 h1 o ho
      simp only [Bool.and_eq_true] at this
      cases o with
      | tmp t=>exact z6q _ this.1
      | _=>rfl
     rw [z3r b hcl,← e1]
     cases hrb:zzw b with
     | false=>cases b <;> first | rfl | cases hrb
     | true =>
      refine zwy fun o ho k hk p=>?_
      have:=List.all_eq_true.1 h1 o ho
      simp only [Bool.and_eq_true,hrb,Bool.not_true,Bool.false_or] at this
      rw [zg,y1b] at hk
      rw [hk] at this
      simp only [Bool.not_eq_true'] at this
      unfold res
      rw [ht k this.2]
   ·cases h1
def zcl (pro:List Nat) (cx:Cx P T) (x:Ins) (e:TE T.toTT0) (h:TH T.toTT0) (K:StT T→Raw P T pro L):Raw P T pro L :=
 match x.op with
 | .mk b=>Raw.ofRs K (mkT (cx.at x.dst) pro e h x.dst b)
 | .app s bytes a b=>Raw.ofRs K (appT (cx.at x.dst) pro e h x.dst s bytes a b)
 | .st n a v=>Raw.ofRs K (stT e h n a v)
 | _=>.no
def zq7 (pro:List Nat) (cx:Cx P T) (x:Ins) (e:TE T.toTT0) (h:TH T.toTT0) (K:StT T→Raw P T pro L):Raw P T pro L :=
 match x.guard with
 | none=>zcl pro cx x e h K
 | some (s,want)=>match getE e s with | .bk true=>bif want then zcl pro cx x e h K else .no | .bk false=>bif want then .no else zcl pro cx x e h K | _=>.no
theorem zxa {cx:Cx P T} {x:Ins} {e:TE T.toTT0} {h:TH T.toTT0} {K:StT T→Raw P T pro L} {Q:L→Prop} (hs:Sat (zq7 pro cx x e h K) Q) :
  ∃ st,Sat (K st) Q∧StOk P pro T e h x st∧zh (denE T.toTT0 (denH T.toTT0 h) e) x.guard=some true:=by
 obtain ⟨d,g,op⟩:=x
 have go:Sat (zcl pro cx ⟨d,g,op⟩ e h K) Q→∃ st,Sat (K st) Q∧StOk P pro T e h ⟨d,g,op⟩ st:=fun hs=>by
  unfold zcl at hs
  dsimp only at hs
  split at hs
  ·obtain ⟨st,hv,hK⟩:=Sat.ofRs _ hs
   exact ⟨st,hK,zv4 hv⟩
  ·obtain ⟨st,hv,hK⟩:=Sat.ofRs _ hs
   exact ⟨st,hK,zm8 hv⟩
  ·obtain ⟨st,hv,hK⟩:=Sat.ofRs _ hs
   exact ⟨st,hK,zve hv⟩
  ·exact hs.elim
 unfold zq7 at hs
 dsimp only at hs
 split at hs
 ·obtain ⟨st,q1,q2⟩:=go hs
  exact ⟨st,q1,q2,rfl⟩
 ·rename_i s want
  split at hs
  ·rename_i hv
   cases want with
   | false=>exact hs.elim
   | true =>
    obtain ⟨st,q1,q2⟩:=go hs
    exact ⟨st,q1,q2,by simp [zh,denE,hv,den]⟩
  ·rename_i hv
   cases want with
   | true=>exact hs.elim
   | false =>
    obtain ⟨st,q1,q2⟩:=go hs
    exact ⟨st,q1,q2,by simp [zh,denE,hv,den]⟩
  ·exact hs.elim
theorem StOk.turn {e:TE T.toTT0} {h:TH T.toTT0} {x:Ins} {st:StT T} (hst:StOk P pro T e h x st) (hw:zh (denE T.toTT0 (denH T.toTT0 h) e) x.guard=some true) :
  z30 P pro x (denE T.toTT0 (denH T.toTT0 h) e) (denH T.toTT0 h) (kill st.bad) (den T.toTT0 (denH T.toTT0 st.h) st.v) (denH T.toTT0 st.h):=fun e' he=>by
 obtain ⟨e0,h0',e1,h1',g1,gb,g2,g3⟩:=hst.1 e' he
 exact ⟨by rw [z3s he]; exact hw,e0,h0',e1,h1',g1,g2,g3⟩
def zd2 (keep:List Nat) (e:TE T.toTT0):TE T.toTT0:=keep.map fun t=>(t,getE e t)
theorem zhm {H0:H} (keep:List Nat) (e:TE T.toTT0):denE T.toTT0 H0 (zd2 keep e)=z40 keep (denE T.toTT0 H0 e):=by
 unfold z40 zd2
 induction keep with
 | nil=>rfl
 | cons s l ih =>
  simp only [List.map_cons,zw]
  rw [← ih]
  exact z1d (e:=List.map (fun t=>(t,getE e t)) l)
def zfs (ds:List Nat) (e:TE T.toTT0):TE T.toTT0:=z45 (fun k _=>ds.contains k) (fun _ _=>false) e
theorem zft {ds:List Nat} {e:TE T.toTT0} {h:TH T.toTT0}:denE T.toTT0 (denH T.toTT0 (z20 h ds)) (zfs ds e)=preE ds (denE T.toTT0 (denH T.toTT0 h) e):=by
 funext t
 simp only [denE,zfs,z2a,preE]
 have hl:∀ k p,(fun k (_:Path)=>ds.contains k) k p=false→zd (denH T.toTT0 (z20 h ds)) k p=zd (denH T.toTT0 h) k p:=fun k p hk=>z18 (by rw [← z44]; exact z64 _ _ _ hk)
 exact (zd3 hl _).symm
def zuy (cx:Cx P T) (x:Ins):Bool :=
 match x.op with
 | .st _ _ _ | .app _ _ _ _=>true
 | .mk _=>cx.tn.contains x.dst
 | _=>false
def z9a (cx:Cx P T):List (Ins×List Nat)→Option (List (Ins×List Nat)×(Ins×List Nat)×List (Ins×List Nat))
 | []=>none
 | x::l=>match z9a cx l with
  | some (p,y,q)=>some (x::p,y,q)
  | none=>bif zuy cx x.1 then some ([],x,l) else none
theorem zck {cx:Cx P T}:∀ (l p:List (Ins×List Nat)) (y:Ins×List Nat) (q:List (Ins×List Nat)),z9a cx l=some (p,y,q)→l=p++y::q
 | [],_,_,_,h=>by cases h
 | x::l,p,y,q,h=>by
  simp only [z9a] at h
  split at h
  ·rename_i p' y' q' h'
   cases h
   rw [zck l _ _ _ h']; rfl
  ·cases ht:zuy cx x.1 with
   | false=>rw [ht] at h; cases h
   | true=>rw [ht] at h; cases h; rfl
def zbc (bad:Nat→Path→Bool) (e1:TE T.toTT0):List (Ins×List Nat)→List Nat→TE T.toTT0→Option (TE T.toTT0)
 | [],_,e=>some e
 | (x,_)::l,fb,e=>match x.guard,x.op with
  | none,.rd (.mov (.tmp s))=>bif !fb.contains s && z1f bad (getE e1 s) then
    match getE e1 s with
    | .un=>none
    | v=>zbc bad e1 l (x.dst::fb) (putE e x.dst v)
   else none
  | none,.rd (.mov (.const u))=>match z8r u with
    | .un=>none
    | v=>zbc bad e1 l (x.dst::fb) (putE e x.dst v)
  | _,_=>none
theorem ze3 {bad0 bad:Nat→Path→Bool} {H0 H1:H} {e1:TE T.toTT0} (hsub:∀ k p,bad k p=false→bad0 k p=false) (hl:∀ k p,bad k p=false→zd H1 k p=zd H0 k p) {K:Env→Prop}:∀ (l:List (Ins×List Nat)) (fb:List Nat) (e e2:TE T.toTT0) (E:Env),zbc bad e1 l fb e=some e2 →
  (∀ t,fb.contains t=false→E t=kill bad0 (denE T.toTT0 H0 e1 t))→(∀ t,AVle (E t) (denE T.toTT0 H1 e t))→(∀ E2:Env,(∀ t,AVle (E2 t) (denE T.toTT0 H1 e2 t))→K E2)→z8k P H1 K l E
 | [],fb,e,e2,E,h,_,h2,hK=>by
  cases h
  exact hK E h2
 | (⟨d,g,op⟩,D)::l,fb,e,e2,E,h,h1,h2,hK=>by
  simp only [zbc] at h
  split at h
  ·rename_i s
   obtain ⟨hb,h⟩:(!fb.contains s && z1f bad (getE e1 s))=true∧(match getE e1 s with | .un=>none | v=>zbc bad e1 l (d::fb) (putE e d v))=some e2:=by
    cases hb:(!fb.contains s && z1f bad (getE e1 s)) with
    | false=>rw [hb] at h; cases h
    | true=>rw [hb] at h; exact ⟨rfl,h⟩
   simp only [Bool.and_eq_true,Bool.not_eq_true'] at hb
   have hE:E s=den T.toTT0 H1 (getE e1 s):=by
    rw [h1 s hb.1,denE,z6q _ (z8p hsub _ hb.2),z8o hl _ hb.2]
   have key:∀ v:VT T,getE e1 s=v→v ≠ .un→zbc bad e1 l (d::fb) (putE e d v)=some e2→z8k P H1 K ((⟨d,none,.rd (.mov (.tmp s))⟩,D)::l) E:=fun v hv hun h=>by
    rw [hv] at hE
    refine ⟨den T.toTT0 H1 v,.rd (b:=.mov (.tmp s)) (av:=den T.toTT0 H1 v) rfl rfl ?_ (AVle.refl _) rfl,?_⟩
    ·simp only [rdop,ev,hE]
     cases v <;> first | rfl | (exact absurd rfl hun)
    ·refine ze3 hsub hl l (d::fb) _ e2 _ h (fun t ht=>?_) (fun t=>?_) hK
     ·simp only [List.contains_cons,Bool.or_eq_false_iff,beq_eq_false_iff_ne] at ht
      simp only [upd,if_neg ht.1]
      exact h1 t ht.2
     ·rw [z1d]
      exact AVle.upd h2 (AVle.refl _) t
   split at h
   ·cases h
   ·rename_i v hne
    exact key _ rfl (fun he=>hne (by rw [he])) h
  ·rename_i u
   split at h
   ·cases h
   ·rename_i v hne
    have hun:(z8r u:VT T) ≠ .un:=fun he=>hne (by rw [he])
    have hcv:ev E (.const u)=den T.toTT0 H1 (z8r u:VT T):=(zc0 H1 u).symm
    generalize (z8r u:VT T)=v at *
    refine ⟨den T.toTT0 H1 v,.rd (b:=.mov (.const u)) (av:=den T.toTT0 H1 v) rfl rfl ?_ (AVle.refl _) rfl,?_⟩
    ·simp only [rdop,hcv]
     cases v <;> first | rfl | (exact absurd rfl hun)
    ·refine ze3 hsub hl l (d::fb) _ e2 _ h (fun t ht=>?_) (fun t=>?_) hK
     ·simp only [List.contains_cons,Bool.or_eq_false_iff,beq_eq_false_iff_ne] at ht
      simp only [upd,if_neg ht.1]
      exact h1 t ht.2
     ·rw [z1d]
      exact AVle.upd h2 (AVle.refl _) t
  ·cases h
def zf9 (ds:List Nat) (h0 h1:TH T.toTT0):Bool:=(h1.map Prod.fst).all (fun k=>ds.contains k || (h0.map Prod.fst).contains k)
def zj0 (pro:List Nat) (cx:Cx P T) (keep:List Nat) (pre:List (Ins×List Nat)) (tail:List Ins) (e:TE T.toTT0) (h:TH T.toTT0) (K:TE T.toTT0→TH T.toTT0→Raw P T pro L):Raw P T pro L :=
 let ds:=pre.map (·.1.dst)
 let e0:=zfs ds e
 let h0:=z20 h ds
 let Kt:TE T.toTT0→TH T.toTT0→Raw P T pro L:=fun e h=>evR pro cx tail e h fun e h=>K (zd2 keep e) h
 let plain:Raw P T pro L:=bif zk ds && z4k ds pre 0 pre && pro.all (fun k=>!ds.contains k) && pre.all (fun x=>!isSt x.1.op) then evD cx pre 0 e0 [] h0 fun e1 h1=>bif zf9 ds h0 h1 then Kt e1 h1 else .no else .no
 match z9a cx pre with
 | some (pre0,(x,dep),post) =>
   bif zk ds && z6z ds 0 pre && pro.all (fun k=>!ds.contains k) && pre0.all (fun x=>!isSt x.1.op) && z8c dep pre0 0 && !dep.contains pre0.length && dep.all (fun i=>decide (i<pre0.length)) && pre0.all (fun x=>!x.2.contains pre0.length) && post.all (fun y=>isRd y.1.op && y.2.contains pre0.length) && sepB (pre0.map Prod.fst) then
    evD cx pre0 0 e0 [] h0 fun e1 hA=>zq7 pro cx x e1 hA fun st =>
     bif zk (hA.map Prod.fst) && zf9 ds h0 hA && zk (st.h.map Prod.fst) && zaa dep st e1 pre0 0 then (match zbc (fun k p=>st.bad k p || st.bw k p) e1 post [x.dst] (st.env e1 x.dst) with | some e2=>Kt e2 st.h | none=>.no) else .no
   else .no
 | none=>plain
theorem zqs {cx:Cx P T} {keep:List Nat} {pre:List (Ins×List Nat)} {tail:List Ins} {e:TE T.toTT0} {h:TH T.toTT0} {K:TE T.toTT0→TH T.toTT0→Raw P T pro L} {Q:L→Prop} {Q':Out→Env→H→Prop}
  (hQ:∀ E H0,KP K Q E H0→Q' .normal E H0) (hs:Sat (zj0 pro cx keep pre tail e h K) Q):W P pro (.draw keep pre tail) Q' (denE T.toTT0 (denH T.toTT0 h) e) (denH T.toTT0 h):=by
 have tl:∀ (e1:TE T.toTT0) (h1:TH T.toTT0),Sat (evR pro cx tail e1 h1 fun e h=>K (zd2 keep e) h) Q→RG P pro keep Q' tail (denE T.toTT0 (denH T.toTT0 h1) e1) (denH T.toTT0 h1):=fun e1 h1 hs=>by
  obtain ⟨E,H',r,e2,h2,rfl,rfl,hK⟩:=zew tail e1 h1 hs
  exact ⟨_,_,r,hQ _ _ ⟨_,_,(zhm keep e2).symm,rfl,hK⟩⟩
 have plain:Sat (bif zk (pre.map (·.1.dst)) && z4k (pre.map (·.1.dst)) pre 0 pre && pro.all (fun k=>!(pre.map (·.1.dst)).contains k) && pre.all (fun x=>!isSt x.1.op) then evD cx pre 0 (zfs (pre.map (·.1.dst)) e) [] (z20 h (pre.map (·.1.dst))) fun e1 h1=>bif zf9 (pre.map (·.1.dst)) (z20 h (pre.map (·.1.dst))) h1 then evR pro cx tail e1 h1 (fun e h=>K (zd2 keep e) h) else .no else .no:Raw P T pro L) Q →
   W P pro (.draw keep pre tail) Q' (denE T.toTT0 (denH T.toTT0 h) e) (denH T.toTT0 h):=fun hs=>by
  cases hb:(zk (pre.map (·.1.dst)) && z4k (pre.map (·.1.dst)) pre 0 pre && pro.all (fun k=>!(pre.map (·.1.dst)).contains k) && pre.all (fun x=>!isSt x.1.op)) with
  | false=>rw [hb] at hs; exact hs.elim
  | true =>
   rw [hb,cond_true] at hs
   refine W.drawG (pre.map (·.1.dst)) rfl hb ?_
   have:=zev pre 0 _ [] hs
   simp only [z12,List.nil_append,zft,accA,List.map_nil] at this
   rw [z44]
   refine WD.mono (fun E H0 hk=>?_) _ _ _ _ this
   obtain ⟨e1,h1,rfl,rfl,hK⟩:=hk
   dsimp only at hK
   cases hk2:zf9 (pre.map (·.1.dst)) (z20 h (pre.map (·.1.dst))) h1 with
   | false=>rw [hk2] at hK; exact hK.elim
   | true =>
    rw [hk2,cond_true] at hK
    refine ⟨?_,tl _ _ hK⟩
    unfold za5
    rw [z17,z17]
    exact hk2
 unfold zj0 at hs
 dsimp only at hs
 split at hs
 ·rename_i pre0 x dep post hsl
  have hpre:=zck _ _ _ _ hsl
  generalize hds:pre.map (·.1.dst)=ds at hs
  cases hb:(zk ds && z6z ds 0 pre && pro.all (fun k=>!ds.contains k) && pre0.all (fun x=>!isSt x.1.op) && z8c dep pre0 0 && !dep.contains pre0.length && dep.all (fun i=>decide (i<pre0.length)) && pre0.all (fun x=>!x.2.contains pre0.length) && post.all (fun y=>isRd y.1.op && y.2.contains pre0.length) && sepB (pre0.map Prod.fst)) with
  | false=>rw [hb] at hs; exact hs.elim
  | true =>
   rw [hb,cond_true] at hs
   simp only [Bool.and_eq_true] at hb
   obtain ⟨hb,hsep⟩:=hb
   rw [hpre] at hds hb ⊢
   refine W.turn post ds hds (by simpa only [Bool.and_eq_true] using hb) ?_
   have hwd:=zev pre0 0 _ [] hs
   simp only [z12,List.nil_append,zft,accA,List.map_nil] at hwd
   rw [z44]
   have hf:=WD.facts pre0 0 _ [] [] hwd hsep (fun _ h=>(by cases h)) (fun _ h=>(by cases h))
   refine WD.mono (fun E H0 hk=>?_) _ _ _ _ hf
   obtain ⟨⟨e1,hA,rfl,rfl,hK⟩,hfacts⟩:=hk
   obtain ⟨st,hK,hst,hw⟩:=zxa hK
   cases hc:(zk (hA.map Prod.fst) && zf9 ds (z20 h ds) hA && zk (st.h.map Prod.fst) && zaa dep st e1 pre0 0) with
   | false=>rw [hc] at hK; exact hK.elim
   | true =>
    rw [hc,cond_true] at hK
    simp only [Bool.and_eq_true] at hc
    obtain ⟨⟨⟨c1,c2⟩,c3⟩,c4⟩:=hc
    refine ⟨kill st.bad,den T.toTT0 (denH T.toTT0 st.h) st.v,denH T.toTT0 st.h,?_,by rw [z17]; exact c3,hst.turn hw,zfr hst.2.1 c1 hst.2.2 pre0 0 c4 (by simpa using hfacts),?_⟩
    ·unfold za5
     rw [z17,z17]
     exact c2
    ·split at hK
     ·rename_i e2 hp
      refine ze3 (bad0:=st.bad) (fun k p h=>(by simpa using h:st.bad k p=false∧_).1) (fun k p h=>hst.2.1 k p (by simpa using h:st.bad k p=false∧_).1 (by simpa using h:_∧st.bw k p=false).2) post _ _ _ _ hp (fun t ht=>?_) (fun t=>?_) (fun E2 h2=>RG.ghost (z9.le h2) (tl _ _ hK))
      ·simp only [List.contains_cons,List.contains_nil,Bool.or_false,beq_eq_false_iff_ne] at ht
       simp only [upd,if_neg ht]
      ·rw [StT.env,z1d]
       refine AVle.upd (fun t=>?_) (AVle.refl _) t
       simp only [denE,z2a]
       exact z5f (fun _ _ h=>h) hst.2.1 _
     ·exact hK.elim
 ·exact plain hs
def zg6 (pro:List Nat) (cx:Cx P T) (keep:List Nat) (pre:List (Ins×List Nat)) (tail:List Ins) (e:TE T.toTT0) (h:TH T.toTT0) (K:TE T.toTT0→TH T.toTT0→Raw P T pro L):Raw P T pro L :=
 match frzL (match pre with | x::_=>cx.fzAt (800000+x.1.dst) | []=>[]) e h with
 | some (e,h)=>zj0 pro cx keep pre tail e h K
 | none=>.no
theorem zpf {cx:Cx P T} {keep:List Nat} {pre:List (Ins×List Nat)} {tail:List Ins} {e:TE T.toTT0} {h:TH T.toTT0} {K:TE T.toTT0→TH T.toTT0→Raw P T pro L} {Q:L→Prop} {Q':Out→Env→H→Prop}
  (hQ:∀ E H0,KP K Q E H0→Q' .normal E H0) (hs:Sat (zg6 pro cx keep pre tail e h K) Q):W P pro (.draw keep pre tail) Q' (denE T.toTT0 (denH T.toTT0 h) e) (denH T.toTT0 h):=by
 unfold zg6 at hs
 split at hs
 ·rename_i e1 h1 hf
  exact W.ghost (z63 _ hf).1 (zqs hQ hs)
 ·exact hs.elim
end
inductive SD where
 | any
 | un
 | im (t:Nat)
 | own (c:Nat) (m:Bool) (t:Nat)
 | ref (c:Nat)
 | ag (l:List SD)
 | fn (l:List SD)
inductive RD where
 | any
 | fix (ks:List Kd)
 | typ (m:Bool) (t:Nat)
structure Dr where
 S:List (Nat×SD)
 R:List (Nat×RD)
section
variable {P:Program} {T:TT} {pro:List Nat} {L:Type}
mutual
def za8:VT T→Option (VT T)
 | .un=>some .un
 | .sc v=>some (.sc v)
 | .ik k n=>some (.sc (.int k n))
 | .bk b=>some (.sc (.bool b))
 | .zs=>some .zs
 | .im t xs=>some (.im t xs)
 | .ip s cs c=>some (.ip s cs c)
 | .ag cs=>match z7u cs with | some cs'=>some (.ag cs') | none=>none
 | .tu cs=>match z7u cs with | some cs'=>some (.tu cs') | none=>none
 | .fn f cs=>match z7u cs with | some cs'=>some (.fn f cs') | none=>none
 | .sl _ _ _ _ | .sw _ _ | .pt _ _ _ _ | .ow _ _ _ | .oo _ _ _ _ _=>none
def z7u:List (VT T)→Option (List (VT T))
 | []=>some []
 | x::l=>match za8 x,z7u l with | some x',some l'=>some (x'::l') | _,_=>none
end
mutual
theorem zhr {H0:H}:∀ (v v':VT T),za8 v=some v'→den T.toTT0 H0 v=den T.toTT0 H0 v'
 | .un,_,h | .sc _,_,h | .ik _ _,_,h | .bk _,_,h | .zs,_,h | .im _ _,_,h | .ip _ _ _,_,h=>by cases h; rfl
 | .ag cs,_,h=>by
  simp only [za8] at h
  split at h
  ·rename_i cs' hc; cases h; simp only [den,z7m cs cs' hc]
  ·cases h
 | .tu cs,_,h=>by
  simp only [za8] at h
  split at h
  ·rename_i cs' hc; cases h; simp only [den,z7m cs cs' hc]
  ·cases h
 | .fn f cs,_,h=>by
  simp only [za8] at h
  split at h
  ·rename_i cs' hc; cases h; simp only [den,z7m cs cs' hc]
  ·cases h
 | .sl _ _ _ _,_,h | .sw _ _,_,h | .pt _ _ _ _,_,h | .ow _ _ _,_,h | .oo _ _ _ _ _,_,h=>by cases h
theorem z7m {H0:H}:∀ (v v':List (VT T)),z7u v=some v'→denL T.toTT0 H0 v=denL T.toTT0 H0 v'
 | [],_,h=>by cases h; rfl
 | x::l,_,h=>by
  simp only [z7u] at h
  split at h
  ·rename_i x' l' h1 h2
   cases h
   simp only [denL,zhr x x' h1,z7m l l' h2]
  ·cases h
end
mutual
def zal:SD→VT T→Option (VT T×List (Nat×Nat))
 | .any,v=>match za8 v with | some v'=>some (v',[]) | none=>none
 | .un,_=>some (.un,[])
 | .im t,.zs=>some (.im t [],[])
 | .im _,.im t xs=>some (.im t xs,[])
 | .im _,_=>none
 | .own c _ _,.sw k []=>some (.sw k [],[(c,k)])
 | .own _ _ _,_=>none
 | .ref c,.pt k p i cc=>some (.pt k p i cc,[(c,k)])
 | .ref c,.sw k p=>some (.sw k p,[(c,k)])
 | .ref c,.sl k p off len=>some (.sl k p off len,[(c,k)])
 | .ref _,_=>none
 | .ag ds,.ag cs=>match z9l ds cs with | some (cs',b)=>some (.ag cs',b) | none=>none
 | .ag ds,.tu cs=>match z9l ds cs with | some (cs',b)=>some (.tu cs',b) | none=>none
 | .ag _,_=>none
 | .fn ds,.fn f cs=>match z9l ds cs with | some (cs',b)=>some (.fn f cs',b) | none=>none
 | .fn _,_=>none
def z9l:List SD→List (VT T)→Option (List (VT T)×List (Nat×Nat))
 | [],[]=>some ([],[])
 | d::ds,v::vs=>match zal d v,z9l ds vs with | some (v',b),some (vs',b')=>some (v'::vs',b++b') | _,_=>none
 | _,_=>none
end
mutual
theorem zix {H0:H}:∀ (d:SD) (v v':VT T) (b:List (Nat×Nat)),zal d v=some (v',b)→AVle (den T.toTT0 H0 v) (den T.toTT0 H0 v')
 | .any,v,v',b,h=>by
  simp only [zal] at h
  split at h
  ·rename_i w hw; cases h; rw [zhr v _ hw]; exact AVle.refl _
  ·cases h
 | .un,v,v',b,h=>by cases h; exact AVle.un _
 | .im t,v,v',b,h=>by
  cases v <;> first | (cases h; done) | skip
  ·cases h; simp only [den,List.map_nil]; exact AVle.zsIm _
  ·cases h; exact AVle.refl _
 | .own c m t,v,v',b,h=>by
  cases v with
  | sw k p =>
   cases p with
   | nil=>cases h; exact AVle.refl _
   | cons _ _=>cases h
  | _=>cases h
 | .ref c,v,v',b,h=>by
  cases v <;> first | (cases h; done) | (cases h; exact AVle.refl _)
 | .ag ds,v,v',b,h=>by
  cases v with
  | ag cs =>
   simp only [zal] at h
   split at h
   ·rename_i cs' b' hc; cases h; simp only [den]; exact AVle.ag (z8q ds cs cs' _ hc).C
   ·cases h
  | tu cs =>
   simp only [zal] at h
   split at h
   ·rename_i cs' b' hc; cases h; simp only [den]; exact AVle.tu (z8q ds cs cs' _ hc).L
   ·cases h
  | _=>cases h
 | .fn ds,v,v',b,h=>by
  cases v with
  | fn f cs =>
   simp only [zal] at h
   split at h
   ·rename_i cs' b' hc; cases h; simp only [den]; exact AVle.fn (z8q ds cs cs' _ hc).L
   ·cases h
  | _=>cases h
theorem z8q {H0:H}:∀ (d:List SD) (v v':List (VT T)) (b:List (Nat×Nat)),z9l d v=some (v',b)→z4e (denL T.toTT0 H0 v) (denL T.toTT0 H0 v')
 | [],[],_,_,h=>by cases h; exact .nil
 | [],_::_,_,_,h=>by cases h
 | _::_,[],_,_,h=>by cases h
 | d::ds,v::vs,v',b,h=>by
  simp only [z9l] at h
  split at h
  ·rename_i v1 b1 vs1 b2 h1 h2
   cases h
   exact .cons (zix d v v1 _ h1) (z8q ds vs vs1 _ h2)
  ·cases h
end
def Gh (P:Program) (pro:List Nat) (T:TT) (e:TE T.toTT0) (h:TH T.toTT0) (e1:TE T.toTT0) (h1:TH T.toTT0):Prop:=z9 P pro (denE T.toTT0 (denH T.toTT0 h) e) (denH T.toTT0 h) (denE T.toTT0 (denH T.toTT0 h1) e1) (denH T.toTT0 h1)
def zq3 (pro:List Nat) (e:TE T.toTT0) (h:TH T.toTT0) (t:Nat) (d:SD):Rs (TE T.toTT0×TH T.toTT0×List (Nat×Nat)) :=
 match d,getE e t with
 | .own c m ty,.zs =>
  bif pro.contains (500000+t) || (h.map Prod.fst).contains (500000+t) then .no
  else .ok (putE (z45 (fun k _=>Nat.beq k (500000+t)) (fun _ _=>false) e) t (.sw (500000+t) []),(500000+t,.typ m ty [])::h,[(c,500000+t)])
 | .own c _ _,.sl k [] 0 n =>
  match getT h k with
  | some (.typ m' t' xs)=>.need (n≤xs.length) (.ok (putE (z45 (fun _ _=>false) (fun k' _=>Nat.beq k' k) e) t (.sw k []),(k,.typ m' t' (xs.take n))::delT h k,[(c,k)]))
  | _=>.no
 | d,v=>match zal d v with | some (v',b)=>.ok (putE e t v',h,b) | none=>.no
theorem zx5 {e e1:TE T.toTT0} {h h1:TH T.toTT0} {t:Nat} {d:SD} {b:List (Nat×Nat)} (hg:(zq3 pro e h t d).gives (e1,h1,b)):Gh P pro T e h e1 h1:=by
 unfold zq3 at hg
 split at hg
 ·rename_i c m ty hz
  cases hb:(pro.contains (500000+t) || (h.map Prod.fst).contains (500000+t)) with
  | true=>rw [hb] at hg; exact hg.elim
  | false =>
   rw [hb] at hg
   cases hg
   simp only [Bool.or_eq_false_iff] at hb
   have h1:=z9.nil (P:=P) (pro:=pro) (e:=denE T.toTT0 (denH T.toTT0 h) e) (h:=denH T.toTT0 h) (t:=t) (d:=500000+t) (s:=T.sz ty) (by simp only [denE,hz,den]) (by
    rw [z17]
    intro hm
    have:(h.map Prod.fst).contains (500000+t)=true:=by simpa using hm
    rw [hb.2] at this; cases this) (by
    rw [List.all_eq_true]
    intro k hk
    simp only [bne_iff_ne,ne_eq]
    rintro rfl
    have:pro.contains (500000+t)=true:=by simpa using hk
    rw [hb.1] at this; cases this)
   have hh:denH T.toTT0 ((500000+t,.typ m ty [])::h)=(500000+t,⟨T.sz ty,[]⟩)::denH T.toTT0 h:=rfl
   unfold Gh
   rw [hh]
   refine h1.trans (z9.le fun u=>?_)
   rw [z1d]
   refine AVle.upd (fun u=>?_) ?_ u
   ·simp only [zy,denE,z2a]
    refine z5f (fun k p hk=>by simpa using hk) (fun k p hk _=>z18 ?_) _
    simp only [z1c,decide_eq_false_iff_not] at hk
    simp only [z6]
    rw [if_neg (fun e=>hk e.symm)]
   ·have:zd ((500000+t,⟨T.sz ty,[]⟩)::denH T.toTT0 h) (500000+t) []=0:=by simp [zd,res,z6,resE]
    simp only [den,this]; exact AVle.refl _
 ·rename_i c m ty k n hz
  split at hg
  ·rename_i m' t' xs hr
   obtain ⟨hc,hg⟩:=hg
   cases hg
   have hgr:z6 (denH T.toTT0 h) k=some ⟨T.sz t',xs.map (T.ca m' t')⟩:=by rw [z1u,hr]; rfl
   have h1:=z9.take (P:=P) (pro:=pro) (e:=denE T.toTT0 (denH T.toTT0 h) e) n hgr
   have hh:denH T.toTT0 ((k,.typ m' t' (xs.take n))::delT h k)=(k,⟨T.sz t',(xs.map (T.ca m' t')).take n⟩)::zb (denH T.toTT0 h) k:=by
    simp only [denH,denR,List.map_take,zx]
   unfold Gh
   rw [hh]
   refine h1.trans (z9.le fun u=>?_)
   rw [z1d]
   unfold upd
   split
   ·rename_i hu
    subst hu
    have:zd ((k,⟨T.sz t',(xs.map (T.ca m' t')).take n⟩)::zb (denH T.toTT0 h) k) k []=n:=by
     simp only [zd,res,z6,if_true,resE,List.length_take,List.length_map]; omega
    simp only [denE,hz,den,this]; exact AVle.refl _
   ·simp only [denE,z2a]
    have:=z5f (T:=T) (H0:=denH T.toTT0 h) (H1:=(k,⟨T.sz t',(xs.map (T.ca m' t')).take n⟩)::zb (denH T.toTT0 h) k) (b1:=fun _ _=>false) (bad:=fun _ _=>false) (bw:=fun k' _=>Nat.beq k' k) (fun _ _ h=>h) (fun k' p _ hk=>z18 (by
     simp only [z1c,decide_eq_false_iff_not] at hk
     simp only [z6]
     rw [if_neg (fun e=>hk e.symm),z16 hk])) (getE e u)
    rwa [zie] at this
  ·exact hg.elim
 ·split at hg
  ·rename_i v' b' hv
   cases hg
   unfold Gh
   refine z9.le fun u=>?_
   rw [z1d]
   unfold upd
   split
   ·rename_i hu; subst hu; exact zix _ _ _ _ hv
   ·exact AVle.refl _
  ·exact hg.elim
mutual
def zxl:SD→VT T→List Fz
 | .im _,.sw k []=>[.row k]
 | .im _,.sw k [(_,c)]=>[.col k [c]]
 | .ag ds,.ag cs=>zjo ds cs
 | .ag ds,.tu cs=>zjo ds cs
 | _,_=>[]
def zjo:List SD→List (VT T)→List Fz
 | d::ds,v::vs=>zxl d v++zjo ds vs
 | _,_=>[]
end
def zxk (h:TH T.toTT0) (k:Nat) (ks:List Kd):List Fz :=
 match getT h k with
 | some (.lit _ [cs])=>match frcC 0 ks cs with | []=>[] | l=>[.col k l]
 | _=>[]
where frcC:Nat→List Kd→List (VT T)→List Nat
 | c,.im _::ks,.ow _ _ _::l=>c::frcC (c+1) ks l
 | c,_::ks,_::l=>frcC (c+1) ks l
 | _,_,_=>[]
def y6w (h:TH T.toTT0) (k:Nat) (m:Bool):List Fz :=
 match m,getT h k with
 | false,some (.typ true _ _)=>[.nest k]
 | _,_=>[]
def zfp (pro:List Nat):List (Nat×SD)→TE T.toTT0→TH T.toTT0→List (Nat×Nat)→Rs (TE T.toTT0×TH T.toTT0×List (Nat×Nat))
 | [],e,h,b=>.ok (e,h,b)
 | (t,d)::l,e,h,b=>match frzL (zxl d (getE e t)) e h with
  | some (e,h)=>(zq3 pro e h t d).bind fun (e,h,b')=>zfp pro l e h (b'++b)
  | none=>.no
theorem zhw:∀ (l:List (Nat×SD)) (e e1:TE T.toTT0) (h h1:TH T.toTT0) (b b1:List (Nat×Nat)),(zfp pro l e h b).gives (e1,h1,b1)→Gh P pro T e h e1 h1
 | [],_,_,_,_,_,_,hg=>by cases hg; exact z9.rfl'
 | (t,d)::l,e,e1,h,h1,b,b1,hg=>by
  simp only [zfp] at hg
  split at hg
  ·rename_i e3 h3 hf
   obtain ⟨⟨e2,h2,b2⟩,q1,q2⟩:=Rs.bind_gives _ hg
   exact z9.trans (z63 _ hf).1 (z9.trans (zx5 q1) (zhw l _ _ _ _ _ _ q2))
  ·exact hg.elim
def zq9 (h:TH T.toTT0) (k:Nat) (m:Bool) (t:Nat):Option (TH T.toTT0) :=
 match getT h k with
 | some (.lit s xs)=>bif Nat.beq (T.sz t) s then match unL m t xs with | some ys=>some ((k,.typ m t ys)::delT h k) | none=>none else none
 | some _=>some h
 | none=>none
theorem zxc {e:TE T.toTT0} {h h1:TH T.toTT0} {k:Nat} {m:Bool} {t:Nat} (ht:zq9 h k m t=some h1):Gh P pro T e h e h1:=by
 unfold zq9 at ht
 split at ht
 ·rename_i s xs hr
  cases hb:Nat.beq (T.sz t) s with
  | false=>rw [hb] at ht; cases ht
  | true =>
   rw [hb,cond_true] at ht
   split at ht
   ·rename_i ys hy
    cases ht
    have hgr:z6 (denH T.toTT0 h) k=some ⟨s,xs.map (denL T.toTT0 [])⟩:=by rw [z1u,hr]; rfl
    have hrow:denR T.toTT0 (.typ m t ys)=⟨s,xs.map (denL T.toTT0 [])⟩:=by simp only [denR,zfw _ _ hy,Nat.eq_of_beq_eq_true hb]
    have hh:denH T.toTT0 ((k,.typ m t ys)::delT h k)=(k,⟨s,(xs.map (denL T.toTT0 [])).map (fixA (fun _=>none) 0)⟩)::zb (denH T.toTT0 h) k:=by
     rw [z47]; simp only [denH,hrow,zx]
    have h1:=z9.fix (P:=P) (pro:=pro) (e:=denE T.toTT0 (denH T.toTT0 h) e) (fun _=>none) (fun _ _ h=>(by cases h)) hgr
    unfold Gh
    rw [hh]
    refine h1.trans (z9.le fun u=>?_)
    have hkill:z3h (fun _=>none) k=fun _ _=>false:=by
     funext k' q
     unfold z3h
     cases q <;> simp
    simp only [zy,hkill,zie,denE]
    have hl:∀ k' q,zd ((k,⟨s,(xs.map (denL T.toTT0 [])).map (fixA (fun _=>none) 0)⟩)::zb (denH T.toTT0 h) k) k' q=zd (denH T.toTT0 h) k' q:=fun k' q=>by
     refine z18 ?_
     by_cases hk:k'=k
     ·subst hk; rw [z47,hgr]; simp [z6]
     ·simp only [z6]; rw [if_neg (fun e=>hk e.symm),z16 hk]
    have:=zd3 (T:=T) (bad:=fun _ _=>false) (fun k' q _=>hl k' q) (getE e u)
    rw [zie] at this
    have hid:z24 (fun _ _=>false) (fun _ _=>false) (getE e u)=getE e u:=zl6 _
    rw [this,hid]
    exact AVle.refl _
   ·cases ht
 ·cases ht; exact z9.rfl'
 ·cases ht
def zb5 (bm:List (Nat×Nat)) (c:Nat):Nat:=match look bm c with | some k=>k | none=>c
def zbi:List (Nat×RD)→TE T.toTT0→TH T.toTT0→List (Nat×Nat)→Option (TE T.toTT0×TH T.toTT0)
 | [],e,h,_=>some (e,h)
 | (c,.any)::l,e,h,b=>zbi l e h b
 | (c,.fix ks)::l,e,h,b=>match frzL (zxk h (zb5 b c) ks) e h with
  | some (e,h)=>match zay e h (zb5 b c) ks with | some (e,h)=>zbi l e h b | none=>none
  | none=>none
 | (c,.typ m t)::l,e,h,b=>match frzL (y6w h (zb5 b c) m++zxk h (zb5 b c) (T.ks m t)) e h with
  | some (e,h)=>match zay e h (zb5 b c) (T.ks m t) with
   | some (e,h)=>match zq9 h (zb5 b c) m t with | some h=>zbi l e h b | none=>none
   | none=>none
  | none=>none
theorem zbj:∀ (l:List (Nat×RD)) (e e1:TE T.toTT0) (h h1:TH T.toTT0) (b:List (Nat×Nat)),zbi l e h b=some (e1,h1)→Gh P pro T e h e1 h1
 | [],_,_,_,_,_,hg=>by cases hg; exact z9.rfl'
 | (c,.any)::l,e,e1,h,h1,b,hg=>zbj l e e1 h h1 b hg
 | (c,.fix ks)::l,e,e1,h,h1,b,hg=>by
  simp only [zbi] at hg
  split at hg
  ·rename_i e3 h3 hz
   split at hg
   ·rename_i e2 h2 hf
    exact z9.trans (z63 _ hz).1 (z9.trans (zdx hf) (zbj l _ _ _ _ b hg))
   ·cases hg
  ·cases hg
 | (c,.typ m t)::l,e,e1,h,h1,b,hg=>by
  simp only [zbi] at hg
  split at hg
  ·rename_i e4 h4 hz
   split at hg
   ·rename_i e2 h2 hf
    split at hg
    ·rename_i h3 ht
     exact z9.trans (z63 _ hz).1 (z9.trans (zdx hf) (z9.trans (zxc ht) (zbj l _ _ _ _ b hg)))
    ·cases hg
   ·cases hg
  ·cases hg
def zpt (pro:List Nat) (bm:List (Nat×Nat)) (S:List Nat) (e:TE T.toTT0) (h:TH T.toTT0):Option (EH T) :=
 bif zk (bm.map Prod.fst) && zk (bm.map Prod.snd) && pro.all (fun k=>look bm k==some k) then
  match z73 h bm with
  | some (hs,_)=>some (S.map fun t=>(t,match z32 bm (getE e t) with | some v=>v | none=>.un),hs)
  | none=>none
 else none
theorem zwt {bm:List (Nat×Nat)} {S:List Nat} {e:TE T.toTT0} {h:TH T.toTT0} {eh:EH T} (hn:zpt pro bm S e h=some eh):Gh P pro T e h eh.1 eh.2:=by
 unfold zpt at hn
 cases hb:(zk (bm.map Prod.fst) && zk (bm.map Prod.snd) && pro.all (fun k=>look bm k==some k)) with
 | false=>rw [hb] at hn; cases hn
 | true =>
  rw [hb,cond_true] at hn
  simp only [Bool.and_eq_true] at hb
  split at hn
  ·rename_i hs rest hsp
   cases hn
   obtain ⟨s1,s2,s3⟩:=z5j bm h hs rest hsp
   have hkeys:=z6k _ _ _ _ s1
   have hno:z90 pro bm S (denE T.toTT0 (denH T.toTT0 h) e) (denH T.toTT0 h)=some (zw (S.map fun t=>(t,zah bm (denE T.toTT0 (denH T.toTT0 h) e t))),denH T.toTT0 hs):=by
    unfold z90
    rw [s1]
    simp only
    rw [if_pos (by simp only [Bool.and_eq_true]; exact ⟨hb.1.1,hb.2⟩)]
   refine z9.trans (z9.norm hno) (z9.le fun t=>?_)
   have hbl:∀ k n q,z1e bm k=some n→zd (denH T.toTT0 hs) n q=zd (denH T.toTT0 h) k q:=fun k n q hkn=>by
    have:=s3 n k hb.1.1 hb.1.2 (z5s bm hkn)
    unfold zd res
    rw [this]
   have hv:∀ t,AVle (zah bm (denE T.toTT0 (denH T.toTT0 h) e t)) (den T.toTT0 (denH T.toTT0 hs) (match z32 bm (getE e t) with | some v=>v | none=>.un)):=fun t=>by
    split
    ·rename_i v hv
     have:=z7y (T:=T) hbl _ _ hv
     unfold zah
     simp only [denE,this]
     exact AVle.refl _
    ·exact AVle.un _
   clear hno
   induction S with
   | nil=>exact AVle.refl _
   | cons s S ih =>
    simp only [List.map_cons,zw]
    rw [show denE T.toTT0 (denH T.toTT0 hs) ((s,match z32 bm (getE e s) with | some v=>v | none=>.un)::S.map fun t=>(t,match z32 bm (getE e t) with | some v=>v | none=>.un))=upd (denE T.toTT0 (denH T.toTT0 hs) (S.map fun t=>(t,match z32 bm (getE e t) with | some v=>v | none=>.un))) s (den T.toTT0 (denH T.toTT0 hs) (match z32 bm (getE e s) with | some v=>v | none=>.un)) from z1d]
    unfold upd
    split
    ·exact hv s
    ·exact ih
  ·cases hn
def cnv (pro:List Nat) (D:Dr) (e:TE T.toTT0) (h:TH T.toTT0):Rs (EH T) :=
 (zfp pro D.S e h []).bind fun (e,h,b) =>
  match zbi D.R e h b with
  | some (e,h)=>match zpt pro (D.R.map fun x=>(x.1,zb5 b x.1)) (D.S.map Prod.fst) e h with
   | some eh=>.ok eh
   | none=>.no
  | none=>.no
theorem z6r {D:Dr} {e:TE T.toTT0} {h:TH T.toTT0} {eh:EH T} (hg:(cnv pro D e h).gives eh):Gh P pro T e h eh.1 eh.2:=by
 obtain ⟨⟨e1,h1,b⟩,q1,q2⟩:=Rs.bind_gives _ hg
 dsimp only at q2
 split at q2
 ·rename_i e2 h2 hr
  split at q2
  ·rename_i eh' hn
   cases q2
   exact z9.trans (zhw _ _ _ _ _ _ _ q1) (z9.trans (zbj _ _ _ _ _ _ hr) (zwt hn))
  ·exact q2.elim
 ·exact q2.elim
end
inductive An (P:Program) (T:TT) (pro:List Nat):Type 1 where
 | no
 | two (a b:An P T pro)
 | join (S:Type) (enc:S→EH T) (D:Dr) (a b:An P T pro)
 | loop (V:Type) (c:V→LCon P T pro) (ret:Bool) (D:Dr)
section
variable {P:Program} {T:TT} {pro:List Nat}
def An.l:An P T pro→An P T pro
 | .two a _=>a
 | _=>.no
def An.r:An P T pro→An P T pro
 | .two _ b=>b
 | _=>.no
def y9f {L:Type} (pro:List Nat) (D:Dr) (K:Out→TE T.toTT0→TH T.toTT0→Raw P T pro L):Out→TE T.toTT0→TH T.toTT0→Raw P T pro (EH T⊕L)
 | .normal,e,h=>Raw.ofRs (fun eh=>.leaf (.inl eh)) (cnv pro D e h)
 | o,e,h=>(K o e h).map .inr
def seqK {L:Type} (A:TE T.toTT0→TH T.toTT0→Raw P T pro L) (K:Out→TE T.toTT0→TH T.toTT0→Raw P T pro L):Out→TE T.toTT0→TH T.toTT0→Raw P T pro L
 | .normal=>A
 | o=>K o
def zqh {L:Type} (id:Nat) (K:Out→TE T.toTT0→TH T.toTT0→Raw P T pro L):Out→TE T.toTT0→TH T.toTT0→Raw P T pro L
 | .exit id'=>bif Nat.beq id' id then K .normal else K (.exit id')
 | o=>K o
def zpo (e:TE T.toTT0) (c:Operand) (b:Bool):TE T.toTT0:=match c with | .tmp s=>putE e s (.bk b) | _=>e
def evC (cx:Cx P T):IC→An P T pro→{L:Type}→TE T.toTT0→TH T.toTT0→(Out→TE T.toTT0→TH T.toTT0→Raw P T pro L)→Raw P T pro L
 | .reg keep l,_,_,e,h,K=>evR pro cx l e h fun e h=>K .normal (zd2 keep e) h
 | .draw keep pre tail,_,_,e,h,K=>zg6 pro cx keep pre tail e h (K .normal)
 | .skip,_,_,e,h,K=>K .normal e h
 | .ret,_,_,e,h,K=>K .ret e h
 | .exit id,_,_,e,h,K=>K (.exit id) e h
 | .seq x y,an,_,e,h,K =>
  match an with
  | .join S enc D a b=>.join enc (evC cx x a e h (y9f pro D K)) fun s=>evC cx y b (enc s).1 (enc s).2 K
  | an=>evC cx x an.l e h (seqK (fun e h=>evC cx y an.r e h K) K)
 | .cond c x y,an,_,e,h,K =>
  match evT e c with
  | .bk true=>evC cx x an.l e h K
  | .bk false=>evC cx y an.r e h K
  | .sc (.bool b)=>.ite b (evC cx x an.l (zpo e c true) h K) (evC cx y an.r (zpo e c false) h K)
  | _=>.no
 | .block id x,an,_,e,h,K=>evC cx x an.l e h (zqh id K)
 | .loop x,an,_,e,h,K =>
  match an with
  | .loop _ c ret D=>Raw.ofRs (fun eh=>bif ret then .loopR c x eh (fun v y=>K (.exit (c v).id) ((c v).encY y).1 ((c v).encY y).2) (fun v z=>K .ret ((c v).encZ z).1 ((c v).encZ z).2)
    else .loop c x eh (fun v y=>K (.exit (c v).id) ((c v).encY y).1 ((c v).encY y).2)) (cnv pro D e h)
  | _=>.no
theorem zl7 {e:TE T.toTT0} {H0:H} {c:Operand} {b:Bool} (hc:evT e c = .sc (.bool b)):denE T.toTT0 H0 (zpo e c b)=denE T.toTT0 H0 e:=by
 cases c with
 | tmp s=>exact z48 hc
 | _=>rfl
theorem z3t {cx:Cx P T}:∀ (c:IC) (an:An P T pro) {L:Type} (e:TE T.toTT0) (h:TH T.toTT0) (K:Out→TE T.toTT0→TH T.toTT0→Raw P T pro L) (Q:L→Prop),Sat (evC cx c an e h K) Q →
  W P pro c (fun o E H0=>KP (K o) Q E H0) (denE T.toTT0 (denH T.toTT0 h) e) (denH T.toTT0 h)
 | .reg keep l,_,_,e,h,K,Q,hs=>by
  obtain ⟨E,H',r,e2,h2,rfl,rfl,hK⟩:=zew l e h hs
  exact W.regG ⟨_,_,r,_,_,(zhm keep e2).symm,rfl,hK⟩
 | .draw keep pre tail,_,_,e,h,K,Q,hs=>zpf (Q':=fun o E H0=>KP (K o) Q E H0) (fun E H0 hk=>hk) hs
 | .skip,_,_,e,h,K,Q,hs=>W.skip ⟨e,h,rfl,rfl,hs⟩
 | .ret,_,_,e,h,K,Q,hs=>W.ret ⟨e,h,rfl,rfl,hs⟩
 | .exit id,_,_,e,h,K,Q,hs=>W.exit ⟨e,h,rfl,rfl,hs⟩
 | .seq x y,an,L,e,h,K,Q,hs=>by
  have plain:∀ (a b:An P T pro),Sat (evC cx x a e h (seqK (fun e h=>evC cx y b e h K) K)) Q→W P pro (.seq x y) (fun o E H0=>KP (K o) Q E H0) (denE T.toTT0 (denH T.toTT0 h) e) (denH T.toTT0 h):=fun a b hs=>by
   refine W.seq (W.mono (z3t x a e h _ Q hs) fun o E H0 hk=>?_)
   cases o with
   | normal =>
    obtain ⟨e1,h1,rfl,rfl,hK⟩:=hk
    exact z3t y b e1 h1 K Q hK
   | exit id=>exact hk
   | ret=>exact hk
  cases an with
  | join S enc D a b =>
   have ih:=z3t x a e h _ _ hs
   refine W.seq (W.mono ih fun o E H0 hk=>?_)
   cases o with
   | normal =>
    obtain ⟨e1,h1,rfl,rfl,hK⟩:=hk
    obtain ⟨eh,q1,s,q2,q3⟩:=Sat.ofRs _ hK
    subst q2
    exact W.ghost (z6r q1) (z3t y b _ _ K Q q3)
   | exit id =>
    obtain ⟨e1,h1,rfl,rfl,hK⟩:=hk
    exact ⟨e1,h1,rfl,rfl,Sat.map (L:=L) (L':=EH T⊕L) Sum.inr (K _ e1 h1) _ hK⟩
   | ret =>
    obtain ⟨e1,h1,rfl,rfl,hK⟩:=hk
    exact ⟨e1,h1,rfl,rfl,Sat.map (L:=L) (L':=EH T⊕L) Sum.inr (K _ e1 h1) _ hK⟩
  | no=>exact plain _ _ hs
  | two a b=>exact plain _ _ hs
  | loop V c ret D=>exact plain _ _ hs
 | .cond c x y,an,_,e,h,K,Q,hs=>by
  simp only [evC] at hs
  split at hs
  ·rename_i hv
   exact W.condT (by rw [zg,hv]; rfl) (z3t x an.l e h K Q hs)
  ·rename_i hv
   exact W.condF (by rw [zg,hv]; rfl) (z3t y an.r e h K Q hs)
  ·rename_i b hv
   refine W.cond (b:=b) (by rw [zg,hv]; rfl) (fun hb=>?_) (fun hb=>?_)
   ·subst hb
    have:=z3t x an.l _ h K Q (hs.1 rfl)
    rwa [zl7 hv] at this
   ·subst hb
    have:=z3t y an.r _ h K Q (hs.2 rfl)
    rwa [zl7 hv] at this
  ·exact hs.elim
 | .block id x,an,_,e,h,K,Q,hs=>by
  refine W.block (W.mono (z3t x an.l e h _ Q hs) fun o E H0 hk=>?_)
  cases o with
  | normal=>exact hk
  | ret=>exact hk
  | exit id' =>
   simp only [zb4]
   simp only [zqh,z1c] at hk
   split
   ·rename_i e; simpa [e] using hk
   ·rename_i e; simpa [e] using hk
 | .loop x,an,_,e,h,K,Q,hs=>by
  cases an with
  | loop V c ret D =>
   obtain ⟨eh,q1,q2⟩:=Sat.ofRs _ hs
   refine W.ghost (z6r q1) ?_
   cases ret with
   | true =>
    obtain ⟨v,hb,x',b,q3,q4,q5⟩:=q2
    subst hb q3
    refine W.mono ((c v).ok x' b q4) fun o E H0 hk=>?_
    cases b with
    | go _=>exact hk.elim
    | out y =>
     obtain ⟨rfl,rfl,rfl⟩:=hk
     exact ⟨_,_,rfl,rfl,q5⟩
    | ret z =>
     obtain ⟨_,rfl,rfl,rfl⟩:=hk
     exact ⟨_,_,rfl,rfl,q5⟩
   | false =>
    obtain ⟨v,hb,x',y,q3,_,q4,q5⟩:=q2
    subst hb q3
    refine W.mono ((c v).ok x' _ q4) fun o E H0 hk=>?_
    obtain ⟨rfl,rfl,rfl⟩:=hk
    exact ⟨_,_,rfl,rfl,q5⟩
  | no=>exact hs.elim
  | two _ _=>exact hs.elim
  | join _ _ _ _ _=>exact hs.elim
def zzq (pro:List Nat) (id:Nat) (DX DY DZ:Dr):Out→TE T.toTT0→TH T.toTT0→Raw P T pro (Bo (EH T) (EH T) (EH T))
 | .normal,e,h=>Raw.ofRs (fun eh=>.leaf (.go eh)) (cnv pro DX e h)
 | .exit id',e,h=>bif Nat.beq id' id then Raw.ofRs (fun eh=>.leaf (.out eh)) (cnv pro DY e h) else .no
 | .ret,e,h=>Raw.ofRs (fun eh=>.leaf (.ret eh)) (cnv pro DZ e h)
def encB {X Y Z E:Type} (a:X→E) (b:Y→E) (c:Z→E):Bo X Y Z→Bo E E E
 | .go x=>.go (a x)
 | .out y=>.out (b y)
 | .ret z=>.ret (c z)
def lcon {X Y Z:Type} (cx:Cx P T) (x:IC) (an:X→An P T pro) (id:Nat) (ret:Bool) (DX DY DZ:Dr) (encX:X→EH T) (encY:Y→EH T) (encZ:Z→EH T) (n:Nat) (t:X→Pt P T pro (Bo X Y Z)) (hret:ret=false→Z→False:=by first | (intro h; cases h; done) | (intro _ z; cases z))
  (ht:∀ s,evC cx x (an s) (encX s).1 (encX s).2 (zzq pro id DX DY DZ)=(t s).raw (encB encX encY encZ):=by intro s; kernel_rfl):LCon P T pro where
 body:=x
 X:=X
 Y:=Y
 Z:=Z
 encX:=encX
 encY:=encY
 encZ:=encZ
 id:=id
 ret:=ret
 G:=iter (fun s=>(t s).run) n
 ok:=by
  have round:∀ s b,(t s).run=some b→W P pro x (fun o E H0=>∃ e h,Gh P pro T e h (match encB encX encY encZ b with | .go eh=>eh | .out eh=>eh | .ret eh=>eh).1 (match encB encX encY encZ b with | .go eh=>eh | .out eh=>eh | .ret eh=>eh).2∧E=denE T.toTT0 (denH T.toTT0 h) e∧H0=denH T.toTT0 h ∧
    (match b with | .go _=>o = .normal | .out _=>o = .exit id | .ret _=>o = .ret)) (denE T.toTT0 (denH T.toTT0 (encX s).2) (encX s).1) (denH T.toTT0 (encX s).2):=by
   intro s b hb
   have h1:=z2y (encB encX encY encZ) (t s) b hb
   rw [← ht s] at h1
   refine W.mono (z3t x (an s) _ _ _ _ h1) fun o E H0 hk=>?_
   obtain ⟨e,h,rfl,rfl,hK⟩:=hk
   refine ⟨e,h,?_⟩
   cases o with
   | normal =>
    obtain ⟨eh,q1,q2⟩:=Sat.ofRs _ hK
    cases b <;> cases q2
    exact ⟨z6r q1,rfl,rfl,rfl⟩
   | exit id' =>
    simp only [zzq,z1c] at hK
    by_cases hid:id'=id
    ·subst hid
     simp only [decide_true,cond_true] at hK
     obtain ⟨eh,q1,q2⟩:=Sat.ofRs _ hK
     cases b <;> cases q2
     exact ⟨z6r q1,rfl,rfl,rfl⟩
    ·simp only [hid,decide_false,cond_false] at hK
     exact hK.elim
   | ret =>
    obtain ⟨eh,q1,q2⟩:=Sat.ofRs _ hK
    cases b <;> cases q2
    exact ⟨z6r q1,rfl,rfl,rfl⟩
  intro s
  induction n generalizing s with
  | zero=>intro b hb; cases hb
  | succ k ih =>
   intro b hb
   unfold iter at hb
   split at hb
   ·rename_i s' hs
    refine W.loop (W.mono (round s _ hs) fun o E H0 hq=>?_)
    obtain ⟨e,h,g,rfl,rfl,rfl⟩:=hq
    exact W.ghost g (ih s' b hb)
   ·rename_i hne
    have hr:=round s _ hb
    cases b with
    | go s'=>exact absurd hb (hne s')
    | out y =>
     obtain ⟨o,E,H0,hex,e,h,g,rfl,rfl,rfl⟩:=hr
     exact ⟨_,_,_,.loopX (by simp) (.after hex g),rfl,rfl,rfl⟩
    | ret z =>
     obtain ⟨o,E,H0,hex,e,h,g,rfl,rfl,rfl⟩:=hr
     refine ⟨_,_,_,.loopX (by simp) (.after hex g),?_,rfl,rfl,rfl⟩
     cases hret':ret with
     | true=>rfl
     | false=>exact (hret hret' z).elim
end
def fnC (P:Program) (f:Nat) (ks:List (List Nat)):IC :=
 match P.funcs[f]? with
 | some fn=>match fn.body with
  | some code=>match z4h P fn.ntmps code ks with | some (c,_)=>c | none=>.skip
  | none=>.skip
 | none=>.skip
def fnTs (P:Program) (f:Nat):List RS :=
 match P.funcs[f]? with
 | some fn=>match z28 P fn.results.toList with | some ts=>ts | none=>[]
 | none=>[]
def fnN (P:Program) (f:Nat):Nat:=match P.funcs[f]? with | some fn=>fn.ntmps | none=>0
def zpk (P:Program) (f:Nat) (ks:List (List Nat)):Bool :=
 match P.funcs[f]? with
 | some fn=>match fn.body with
  | some code=>(z4h P fn.ntmps code ks).isSome && (z28 P fn.results.toList).isSome
  | none=>false
 | none=>false
theorem y0m {P:Program} {f:Nat} {ks:List (List Nat)} (h:zpk P f ks=true):FnIs P f (fnN P f) (fnC P f ks) (fnTs P f):=by
 unfold zpk at h
 split at h
 ·rename_i fn hfn
  split at h
  ·rename_i code hc
   simp only [Bool.and_eq_true,Option.isSome_iff_exists] at h
   obtain ⟨⟨⟨c,ks'⟩,h1⟩,⟨ts,h2⟩⟩:=h
   refine ⟨fn,code,hfn,hc,?_,?_,ks,ks',?_⟩
   ·simp [fnN,hfn]
   ·simp [fnTs,hfn,h2]
   ·have:fnC P f ks=c:=by simp [fnC,hfn,hc,h1]
    rw [this]
    simp only [fnN,hfn]
    exact h1
  ·cases h
 ·cases h
def subC:List Nat→IC→IC
 | [],c=>c
 | 0::p,.seq x _=>subC p x
 | 0::p,.cond _ x _=>subC p x
 | 0::p,.block _ x=>subC p x
 | 0::p,.loop x=>subC p x
 | _::p,.seq _ y=>subC p y
 | _::p,.cond _ _ y=>subC p y
 | _,c=>c
section
variable {P:Program} {T:TT} {pro:List Nat}
def argT:Nat→List (VT T)→TE T.toTT0
 | _,[]=>[]
 | n,x::l=>(n,x)::argT (n+1) l
theorem zim {H0:H}:∀ (l:List (VT T)) (n:Nat),denE T.toTT0 H0 (argT n l)=argE n (denL T.toTT0 H0 l)
 | [],_=>rfl
 | x::l,n=>by
  simp only [argT,denL,argE,← zim l (n+1)]
  exact z1d (e:=argT (n+1) l)
def finK (pro:List Nat) (D:Dr):Out→TE T.toTT0→TH T.toTT0→Raw P T pro (EH T)
 | .exit _,_,_=>.no
 | _,e,h=>Raw.ofRs .leaf (cnv pro D e h)
def rsT (e:TE T.toTT0) (h:TH T.toTT0):RS→Option (VT T)
 | .t s=>some (getE e s)
 | .c s agg n =>
  match getE e s with
  | .pt k [] i c=>match getT h k with
   | some (.lit _ xs)=>match xs[i]? with
    | some cs=>match zd4 agg n k [] i c cs with | .ok v=>some v | _=>none
    | none=>none
   | _=>none
  | _=>none
def rsTs (e:TE T.toTT0) (h:TH T.toTT0):List RS→Option (List (VT T))
 | []=>some []
 | r::l=>match rsT e h r,rsTs e h l with | some x,some xs=>some (x::xs) | _,_=>none
def retT (ts:List RS) (keys:List Nat) (eh:EH T):Option (VT T×TH T.toTT0) :=
 match rsTs eh.1 eh.2 ts,z73 eh.2 (keys.map fun k=>(k,k)) with
 | some l,some (ho,_)=>match z32 (keys.map fun k=>(k,k)) (match l with | [x]=>x | l=>.tu l) with
  | some r=>bif zk keys then some (r,ho) else none
  | none=>none
 | _,_=>none
theorem y74 {e:TE T.toTT0} {h:TH T.toTT0} {r:RS} {v:VT T} (hr:rsT e h r=some v):rsAV (denE T.toTT0 (denH T.toTT0 h) e) (denH T.toTT0 h) r=some (den T.toTT0 (denH T.toTT0 h) v):=by
 cases r with
 | t s=>cases hr; rfl
 | c s agg n =>
  simp only [rsT] at hr
  split at hr
  ·rename_i k i c hp
   split at hr
   ·rename_i s' xs hg
    split at hr
    ·rename_i cs hcs
     split at hr
     ·rename_i w hl
      cases hr
      have hgr:z6 (denH T.toTT0 h) k=some ⟨s',xs.map (denL T.toTT0 [])⟩:=by rw [z1u,hg]; rfl
      have hres:res (denH T.toTT0 h) k []=some (s',xs.map (denL T.toTT0 [])):=by unfold res; rw [hgr]; rfl
      have:=zb8 (T:=T) (agg:=agg) (n:=n) (k:=k) (i:=i) (c:=c) (p:=[]) (cs:=cs) (v:=v) hres (by simp [hcs]) (by rw [hl]; exact rfl)
      simp only [rsAV,rdop,ev,denE,hp,den,hres]
      exact this
     ·cases hr
    ·cases hr
   ·cases hr
  ·cases hr
theorem zp0 {e:TE T.toTT0} {h:TH T.toTT0}:∀ (ts:List RS) (l:List (VT T)),rsTs e h ts=some l→z6j (denE T.toTT0 (denH T.toTT0 h) e) (denH T.toTT0 h) ts=some (denL T.toTT0 (denH T.toTT0 h) l)
 | [],_,h=>by cases h; rfl
 | r::ts,l,hr=>by
  simp only [rsTs] at hr
  split at hr
  ·rename_i x xs h1 h2
   cases hr
   simp only [z6j,y74 h1,zp0 ts xs h2,denL]
  ·cases hr
theorem zoo:∀ (ks:List Nat) (k:Nat),k ∈ ks→look (ks.map fun k=>(k,k)) k=some k
 | [],_,h=>by cases h
 | k'::ks,k,h=>by
  simp only [List.map_cons,look]
  split
  ·rename_i e; rw [e]
  ·rename_i hne
   refine zoo ks k ?_
   rcases List.mem_cons.1 h with h | h
   ·exact absurd h.symm hne
   ·exact h
theorem zff:∀ (ks:List Nat) (k n:Nat),z1e (ks.map fun k=>(k,k)) k=some n→n=k∧k ∈ ks
 | [],_,_,h=>by cases h
 | k'::ks,k,n,h=>by
  simp only [List.map_cons,z1e] at h
  split at h
  ·rename_i e; cases h; exact ⟨e,by simp [e]⟩
  ·obtain ⟨q1,q2⟩:=zff ks k n h
   exact ⟨q1,List.mem_cons_of_mem _ q2⟩
theorem zox {ts:List RS} {keys:List Nat} {eh:EH T} {r:VT T} {ho hin:TH T.toTT0} (hr:retT ts keys eh=some (r,ho)) (hin':(hin.map Prod.fst).all (fun k=>keys.contains k)=true) {o:Out} (hno:∀ id,o ≠ .exit id) :
  Ends ts (denH T.toTT0 hin) (den T.toTT0 (denH T.toTT0 ho) r) (denH T.toTT0 ho) o (denE T.toTT0 (denH T.toTT0 eh.2) eh.1) (denH T.toTT0 eh.2):=by
 unfold retT at hr
 split at hr
 ·rename_i l ho' left h1 h2
  split at hr
  ·rename_i r' hb
   cases hn:zk keys with
   | false=>rw [hn] at hr; cases hr
   | true =>
    rw [hn] at hr
    cases hr
    obtain ⟨s1,s2,s3⟩:=z5j _ _ _ _ h2
    have hk1:(keys.map fun k=>(k,k)).map Prod.fst=keys:=by rw [List.map_map]; exact List.map_id' _
    have hk2:(keys.map fun k=>(k,k)).map Prod.snd=keys:=by rw [List.map_map]; exact List.map_id' _
    refine ⟨by cases o <;> first | trivial | exact absurd rfl (hno _),keys.map fun k=>(k,k),_,denH T.toTT0 left,?_,s1,by rw [hk1]; exact hn,z7y (Ho:=denH T.toTT0 eh.2) (fun k n q hkn=>?_) _ _ hb,?_⟩
    ·unfold z4v
     rw [zp0 _ _ h1]
     cases l with
     | nil=>rfl
     | cons x l=>cases l <;> rfl
    ·obtain ⟨e1,hk⟩:=zff keys k n hkn
     subst e1
     have:=s3 n n (by rw [hk1]; exact hn) (by rw [hk2]; exact hn) (List.mem_map.2 ⟨n,hk,rfl⟩)
     unfold zd res
     rw [this]
    ·rw [z17,List.all_eq_true]
     intro k hk
     have:=List.all_eq_true.1 hin' k hk
     rw [zoo keys k (by simpa using this)]
     simp
  ·cases hr
 ·cases hr
def ze {X R:Type} (cx:Cx P T) (f:Nat) (ks:List (List Nat)) (an:X→An P T pro) (A:List VD) (Hd:List (Nat×List Kd)) (Nk:List Nat) (D:Dr) (keys:List Nat) (strong:Bool)
  (encA:X→List (VT T)) (encH:X→TH T.toTT0) (encE:R→EH T) (encR:R→VT T) (encO:R→TH T.toTT0) (t:X→Pt P T pro R)
  (hf:zpk P f ks=true:=by kernel_rfl)
  (ht:∀ x,evC cx (fnC P f ks) (an x) (argT 0 (encA x)) (encH x) (finK pro D)=(t x).raw encE:=by intro x; kernel_rfl)
  (hp:∀ x,(encH x).map Prod.fst=pro:=by intro x; kernel_rfl) (hk:pro.all (fun k=>keys.contains k)=true:=by kernel_rfl)
  (hr:∀ y,retT (fnTs P f) keys (encE y)=some (encR y,encO y):=by intro y; kernel_rfl)
  (hs:strong=true→∀ y,(z8z (encR y) && z89 (encO y))=true:=by first | (intro h; cases h; done) | (intro _ y; kernel_rfl)):Con P T where
 f:=f
 X:=X
 Y:=R
 A:=A
 H:=Hd
 N:=Nk
 encA:=encA
 encH:=encH
 G:=fun x=>(t x).run
 encR:=encR
 encO:=encO
 strong:=strong
 ok:=fun x y hx=>by
  have h1:=z2y encE (t x) y hx
  rw [← ht x] at h1
  have h2:=z3t _ (an x) _ _ _ _ h1
  rw [zim] at h2
  have hG:CallG P f (denL T.toTT0 (denH T.toTT0 (encH x)) (encA x)) (denH T.toTT0 (encH x)) (den T.toTT0 (denH T.toTT0 (encO y)) (encR y)) (denH T.toTT0 (encO y)):=by
   refine .of_E (y0m hf) ?_
   rw [z17,hp x]
   obtain ⟨o,E,H0,hex,e,h,rfl,rfl,hK⟩:=h2
   cases o with
   | exit id=>exact hK.elim
   | normal =>
    obtain ⟨eh,q1,q2⟩:=Sat.ofRs _ hK
    cases q2
    exact ⟨_,_,_,.after hex (z6r q1),zox (hr y) (by rw [hp x]; exact hk) (by simp)⟩
   | ret =>
    obtain ⟨eh,q1,q2⟩:=Sat.ofRs _ hK
    cases q2
    exact ⟨_,_,_,.after hex (z6r q1),zox (hr y) (by rw [hp x]; exact hk) (by simp)⟩
  refine ⟨fun hst=>?_,hG⟩
  have:=hs hst y
  simp only [Bool.and_eq_true] at this
  exact CallG.narrow hG (zbb _ this.1) (z8y _ this.2)
end
section
variable {El:Nat→Type} {T:TT0}
def gI (k:IntKind):TV El→Option Int
 | .sc (.int k' n)=>if k'=k then some n else none
 | .ik k' n=>if k'=k then some n else none
 | _=>none
def gB:TV El→Option Bool
 | .sc (.bool b)=>some b
 | .bk b=>some b
 | _=>none
def gS:TV El→Option ByteArray
 | .sc (.string b)=>some b
 | _=>none
def gM (t:Nat):TV El→Option (List (El t))
 | .im t' xs=>if h:t'=t then some (h ▸ xs) else none
 | _=>none
def gO (m:Bool) (t:Nat):TV El→Option (List (El t))
 | .ow m' t' xs=>if h:t'=t then (bif m==m' then some (h ▸ xs) else none) else none
 | _=>none
theorem z21 {k:IntKind} {v:TV T.El} {n:Int} {h:H} (hv:gI k v=some n):den T h v = .sc (.int k n):=by
 unfold gI at hv
 split at hv
 ·split at hv
  ·rename_i hk; cases hv; subst hk; rfl
  ·cases hv
 ·split at hv
  ·rename_i hk; cases hv; subst hk; rfl
  ·cases hv
 ·cases hv
theorem zzm {v:TV T.El} {b:Bool} {h:H} (hv:gB v=some b):den T h v = .sc (.bool b):=by
 unfold gB at hv
 split at hv
 ·cases hv; rfl
 ·cases hv; rfl
 ·cases hv
theorem y9e {v:TV T.El} {b:ByteArray} {h:H} (hv:gS v=some b):den T h v = .sc (.string b):=by
 unfold gS at hv
 split at hv
 ·cases hv; rfl
 ·cases hv
theorem z69 {t:Nat} {v:TV T.El} {xs:List (T.El t)} {h:H} (hv:gM t v=some xs):den T h v = .im (T.sz t) (xs.map (T.ca false t)):=by
 unfold gM at hv
 split at hv
 ·split at hv
  ·rename_i hk; subst hk; cases hv; rfl
  ·cases hv
 ·cases hv
theorem z6a {m:Bool} {t:Nat} {v:TV T.El} {xs:List (T.El t)} {h:H} (hv:gO m t v=some xs):den T h v = .ow (T.sz t) (xs.map (T.ca m t)):=by
 unfold gO at hv
 split at hv
 ·split at hv
  ·rename_i m' _ _ hk
   subst hk
   cases hm:m==m' with
   | false=>rw [hm] at hv; cases hv
   | true =>
    rw [hm] at hv
    cases hv
    have:m=m':=by simpa using hm
    subst this; rfl
  ·cases hv
 ·cases hv
theorem z2u {l:List AV} (h:l.all (fun a=>!isZ a)=true):∀ a ∈ l,isZ a=false:=fun a ha=>by
 have:=List.all_eq_true.1 h a ha
 simpa using this
end
section
variable {P:Program} {N:Nat}
theorem Now.callR {f:Nat} {fn:Func} {code:Code} {ts:List RS} {args:List AV} {r:AV} {hout:H} (h1:P.funcs[f]? = some fn) (h2:fn.body=some code) (h3:fn.ntmps=N) (h4:z28 P fn.results.toList=some ts) (hni:noIm r=true) (hnh:z2v hout=true)
  (hw:∀ (a:Act) (w0:World) (Q:Exit→Act→World→Prop),Now N w0 none (argE 0 args) [] a w0→(∀ e' a' w',z4v e' hout ts=some r→Now N w0 none e' hout a' w'→Q .ret a' w')→code.wp P Q a w0):z1h P f args [] r hout:=by
 intro I σ w vs hh hv
 apply calls_of_wp h1 h2
 have R:Rel I N σ (argE 0 args) [] { tmps:=vs.toArray++Array.replicate (fn.ntmps - vs.toArray.size) undef,defers:=[] } w:=by
  refine ⟨hh,?_,fun t=>?_,rfl⟩
  ·simp only [Array.size_append,Array.size_replicate,List.size_toArray]
   omega
  ·have:=zcu (I:=I) (σ:=σ) (B:=bl w) args 0 [] vs (List.replicate (fn.ntmps - vs.toArray.size) undef) rfl hv t
   have e2:(vs.toArray++Array.replicate (fn.ntmps - vs.toArray.size) undef)=(vs++List.replicate (fn.ntmps - vs.toArray.size) undef).toArray:=by
    apply Array.ext'
    simp
   simp only [e2]
   simpa [Array.getD_eq_getD_getElem?,List.getD_eq_getElem?_getD] using this
 refine hw _ w _ ⟨⟨I,σ,R,(fun x hx=>by cases hx),fun b ks hb=>by cases hb⟩,(fun b ks hb=>by cases hb),Le.refl w,fun _ _=>rfl⟩ fun e' a' w' hr n=>?_
 obtain ⟨⟨I',σ',R',hf,-⟩,-,le,old⟩:=n
 obtain ⟨u,q1,q2⟩:=z6i R' fn h4 hr
 have ls:=le.size
 have hJ:HRel (fun b=>I' b∨I b) σ' hout w':=R'.heap.wide (fun b hb=>.inl hb) (fun b hb h=>by
  rcases h with h | h
  ·exact (R'.heap.apart b hb).1 h
  ·have:=hh.low b h
   have:=hf b hb
   omega) (fun b hb=>by
  rcases hb with h | h
  ·exact R'.heap.low b h
  ·have:=hh.low b h; omega)
 exact ⟨R'.defers,u,q1,u,σ',rfl,HRel.narrow (fun b hb=>.inr hb) hnh hJ,Va.narrow _ _ hni (Va.wide (J:=fun b=>I' b∨I b) (fun b hb=>.inl hb) _ _ q2),(fun k hk=>by cases hk),le,(fun b hb _=>old b hb),fun b hb=>.inr (hf b hb)⟩
theorem y0a (w:World) (t e:TypeId) (a:Option Addr) (n c:Nat) (h:P.underlying t=some (.slice e)):(binOp .eql t (.slice a n c) (.slice none 0 0)).run P w = .ok (.bool a.isNone) w:=by
 have key:∀ d,(Op.equalIn (d+1) t (.slice a n c) (.slice none 0 0)).run P w = .ok a.isNone w:=fun d=>by
  cases a <;> simp [Op.equalIn,run_underlying h]
 simp only [binOp]
 simp [Op.equal,Op.maxDepth,key 9999]
theorem ya0 {T:TT} {f:Nat} {fn:Func} {b:Code} {t el ty:Nat} (h1:P.funcs[f]? = some fn) (h2:fn.body=some b) (h3:fn.ntmps=8) (h4:z28 P fn.results.toList=some [.t 2])
  (hb:b = .seq (lf b) (.seq (.seq (.region (rid (lf (lf (rt b)))) (rops (lf (lf (rt b)))) false) (.cond (.tmp 4) (lf (rt (lf (rt b)))) .skip)) (rt (rt b))))
  (i0:IsC P 8 (lf b) (.reg [0] [⟨2,none,.rd (.mov (.const (.slice none 0 0)))⟩]))
  (hn:List.range (rops (lf (lf (rt b)))).size=[0,1])
  (o0:((rops (lf (lf (rt b))))[0]?).bind (comp P 8 (rops (lf (lf (rt b)))))=some ⟨3,none,.rd (.mov (.tmp 0))⟩)
  (o1:((rops (lf (lf (rt b))))[1]?).map (fun o=>(o.guard,o.dst,o.op))=some (none,some 4,.binOp .eql t (.tmp 3) (.const (.slice none 0 0)) t))
  (i2:IsC P 8 (lf (rt (lf (rt b)))) (.seq (.reg [2] [⟨2,none,.rd (.mov (.const (.slice none 0 0)))⟩]) .ret))
  {c3:IC} (i3:IsC P 8 (rt (rt b)) c3) (hu:P.underlying t=some (.slice el)) (hpl:T.pl ty=true) (xs:List (T.El ty))
  (hW:W P [] c3 (fun o e h=>o = .ret∧e 2 = .sl 100000 [] 0 xs.length∧h=[(100000,⟨T.sz ty,xs.map (T.ca false ty)⟩)]) (zw [(0,.im (T.sz ty) (xs.map (T.ca false ty)))]) []) :
  z1h P f [.im (T.sz ty) (xs.map (T.ca false ty))] [] (.sl 100000 [] 0 xs.length) [(100000,⟨T.sz ty,xs.map (T.ca false ty)⟩)]:=by
 have hni:z2v [(100000,(⟨T.sz ty,xs.map (T.ca false ty)⟩:Row))]=true:=by
  simp only [z2v,List.all_cons,List.all_nil,Bool.and_true]
  exact z2c (fun x=>T.pl_ok ty x hpl) xs
 refine Now.callR (N:=8) (fn:=fn) (ts:=[.t 2]) h1 h2 h3 h4 rfl hni fun a w0 Q nw hr=>?_
 have fin:∀ e' a' w',e' 2 = .sl 100000 [] 0 xs.length→Now 8 w0 none e' [(100000,⟨T.sz ty,xs.map (T.ca false ty)⟩)] a' w'→Q .ret a' w':=fun e' a' w' he n=>hr e' a' w' (by simp only [z4v,z6j,rsAV,he]) n
 rw [hb]
 refine wp_seq (nw.ex (c:=.reg [0] [⟨2,none,.rd (.mov (.const (.slice none 0 0)))⟩]) (R:=fun o e h=>o = .normal∧e=zw [(0,.im (T.sz ty) (xs.map (T.ca false ty)))]∧h=[]) i0 (W.regG (RG.fin 1 [] (zw [(0,.im (T.sz ty) (xs.map (T.ca false ty)))]) [] rfl ⟨rfl,rfl,rfl⟩)) ?_)
 rintro o e h a w ⟨rfl,rfl,rfl⟩ nw
 show (Code.seq _ _).wp _ _ _ _
 refine wp_seq ?_
 refine wp_seq (wp_region ?_)
 rw [hn]
 refine nw.rda (d:=3) (b:=.mov (.tmp 0)) (.im (T.sz ty) (xs.map (T.ca false ty))) o0 rfl fun a w nw=>?_
 obtain ⟨o,ho,hgd,hd,hop⟩:=zfk o1
 obtain ⟨A,L,c,hv,hxs⟩:∃ (A:Option Addr) (L c:Nat),a.eval (.tmp 3) = .slice A L c∧(A=none→xs=[]):=by
  obtain ⟨⟨I,σ,R,-,-⟩,-,-,-⟩:=nw
  have:=R.vals 3
  simp only [upd,if_true] at this
  obtain ⟨A,c,h5,h6,h7⟩:=this
  refine ⟨A,_,c,h5,fun hA=>?_⟩
  cases xs with
  | nil=>rfl
  | cons x xs =>
   obtain ⟨A',_,_,_,h8,_⟩:=h7 (by simp)
   rw [hA] at h8; cases h8
 refine nw.val (v:=.bool A.isNone) ho hgd hd (by decide) (by
  have hc:a.eval (.const (.slice none 0 0)) = .slice none 0 0:=rfl
  simp only [execOp,hop,hv,hc,eqGuard,Sem.run_bind,Sem.run_pure,Result.andThen_ok]
  simp [y0a w t el A L c hu]) fun a nw=>?_
 have hic:IsC P 8 (.cond (.tmp 4) (lf (rt (lf (rt b)))) .skip) (.cond (.tmp 4) (.seq (.reg [2] [⟨2,none,.rd (.mov (.const (.slice none 0 0)))⟩]) .ret) .skip):=by
  obtain ⟨ks,ks',hc⟩:=i2
  exact ⟨ks,ks',by simp only [z4h,hc]⟩
 cases hA:A.isNone with
 | true =>
  have:xs=[]:=hxs (by simpa using hA)
  subst this
  rw [hA] at nw
  have nw:=nw.gh (P:=P) (e1:=zw [(4,Bl true)]) (h1:=[]) (z9.norm (bm:=[]) (S:=[4]) rfl)
  refine nw.ex (code:=.cond (.tmp 4) (lf (rt (lf (rt b)))) .skip) (c:=.cond (.tmp 4) (.seq (.reg [2] [⟨2,none,.rd (.mov (.const (.slice none 0 0)))⟩]) .ret) .skip)
   (R:=fun o e h=>o = .ret∧e 2 = .sl 100000 [] 0 0∧h=[(100000,⟨T.sz ty,[]⟩)]) ?_ (W.condT rfl (W.seq (W.regG (RG.fin 1 [] (zw [(2,.zs)]) [] rfl ?_)))) ?_
  ·exact hic
  ·refine W.ghost (z9.nil (t:=2) (d:=100000) (s:=T.sz ty) rfl (by simp) (by simp)) (W.ret ⟨rfl,?_,rfl⟩)
   simp [upd]
  ·rintro o e h a w ⟨rfl,he,rfl⟩ nw
   exact fin _ _ _ he nw
 | false =>
  rw [hA] at nw
  have nw:=nw.gh (P:=P) (e1:=zw [(0,.im (T.sz ty) (xs.map (T.ca false ty))),(4,Bl false)]) (h1:=[]) (z9.norm (bm:=[]) (S:=[0,4]) rfl)
  refine nw.ex (code:=.cond (.tmp 4) (lf (rt (lf (rt b)))) .skip) (c:=.cond (.tmp 4) (.seq (.reg [2] [⟨2,none,.rd (.mov (.const (.slice none 0 0)))⟩]) .ret) .skip)
   (R:=fun o e h=>o = .normal∧e=zw [(0,.im (T.sz ty) (xs.map (T.ca false ty))),(4,Bl false)]∧h=[]) ?_ (W.condF rfl (W.skip ⟨rfl,rfl,rfl⟩)) ?_
  ·exact hic
  ·rintro o e h a w ⟨rfl,rfl,rfl⟩ nw
   have nw:=nw.gh (P:=P) (e1:=zw [(0,.im (T.sz ty) (xs.map (T.ca false ty)))]) (h1:=[]) (z9.norm (bm:=[]) (S:=[0]) rfl)
   refine nw.ex i3 hW ?_
   rintro o e h a w ⟨rfl,he,rfl⟩ nw
   exact fin _ _ _ he nw
def y1m:Dr:=⟨[(2,.ref 100000)],[(100000,.any)]⟩
def zqm {T:TT}:Out→TE T.toTT0→TH T.toTT0→Raw P T [] (EH T)
 | .normal,e,h=>Raw.ofRs .leaf (cnv [] y1m e h)
 | _,_,_=>.no
theorem ya8 {T:TT} {creg:IC} {cx:Cx P T} {ty:Nat} {xs:List (T.El ty)} (hs:Sat (evC cx creg .no [(0,.im ty xs)] [] zqm) (fun eh=>eh=([(2,.sw 100000 [])],[(100000,.typ false ty xs)]))) :
  W P [] (.seq creg .ret) (fun o e h=>o = .ret∧e 2 = .sl 100000 [] 0 xs.length∧h=[(100000,⟨T.sz ty,xs.map (T.ca false ty)⟩)]) (zw [(0,.im (T.sz ty) (xs.map (T.ca false ty)))]) []:=by
 refine W.seq ?_
 have h:=z3t (pro:=[]) creg .no [(0,.im ty xs)] [] zqm _ hs
 have e0:denE T.toTT0 (denH T.toTT0 []) [(0,.im ty xs)]=zw [(0,.im (T.sz ty) (xs.map (T.ca false ty)))]:=by
  rw [show ([(0,TV.im ty xs)]:TE T.toTT0)=putE [] 0 (.im ty xs) from rfl,z1d]
  rfl
 rw [e0] at h
 refine W.mono h fun o E H0 hk=>?_
 obtain ⟨e',h',rfl,rfl,hk⟩:=hk
 cases o with
 | normal =>
  obtain ⟨eh,q1,q2⟩:=Sat.ofRs _ hk
  have q2:eh=_:=q2
  subst q2
  refine W.ghost (z6r q1) (W.ret ⟨rfl,?_,rfl⟩)
  simp [denE,getE,den,zd,res,z6,resE,denH,denR]
 | exit _=>exact hk.elim
 | ret=>exact hk.elim
end
end Loom
