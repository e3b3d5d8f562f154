/- Loom, an abstract machine over the kit's calculus: rows, reads, stores, calls, regions, what they owe; and its evaluator (part 4 of 4). -/
import Derived.Test.YtkmiaggdcepcdaaLoomC
set_option linter.unusedVariables false
set_option linter.unusedSimpArgs false
set_option linter.unusedVariables false
set_option linter.unusedSimpArgs false
namespace Loom
open Go
def Fact (e : Env) (h : H) (x : Ins) : Prop :=
  (wants e x.guard = some false ∧ e x.dst = skipAV x.op) ∨ (wants e x.guard = some true ∧ ∀ b, x.op = .rd b → ∃ hp av, (∀ z ∈ hp, z ∈ h) ∧ rdop (ev e) (res hp) b = some av ∧ AVle av (e x.dst))
def sepB : List Ins → Bool
  | [] => true
  | x :: l => !(usesI x).contains x.dst && l.all (fun y => !(usesI x).contains y.dst && !(Nat.beq y.dst x.dst)) && sepB l
theorem Fact.next {e : Env} {h h' : H} {x : Ins} {d : Nat} {av : AV} (h1 : d ∉ usesI x) (h2 : d ≠ x.dst) (hs : ∀ z ∈ h, z ∈ h') (hf : Fact e h x) : Fact (upd e d av) h' x := by
  have hw : wants (upd e d av) x.guard = wants e x.guard := wants_uses fun s hs => by
    unfold upd; rw [if_neg (by rintro rfl; exact h1 hs)]
  have hd : upd e d av x.dst = e x.dst := by unfold upd; rw [if_neg (fun e => h2 e.symm)]
  rcases hf with ⟨f1, f2⟩ | ⟨f1, f2⟩
  · exact .inl ⟨hw.trans f1, hd.trans f2⟩
  · refine .inr ⟨hw.trans f1, fun b hb => ?_⟩
    obtain ⟨hp, a, g1, g2, g3⟩ := f2 b hb
    refine ⟨hp, a, fun z hz => hs z (g1 z hz), ?_, by rw [hd]; exact g3⟩
    rw [← g2]
    exact rdop_congr b fun o ho => ev_uses (x := x) (fun s hs => by unfold upd; rw [if_neg (by rintro rfl; exact h1 hs)]) (by rw [hb]; exact ho)
theorem WD.facts {P : Program} {K : Env → H → Prop} {h0 : H} : ∀ (pre : List (Ins × List Nat)) (i : Nat) (e : Env) (acc : List (Nat × H)) (done : List Ins), WD P pre i e acc h0 K → sepB (pre.map Prod.fst) = true → (∀ x ∈ done, ∀ y ∈ pre, y.1.dst ∉ usesI x ∧ y.1.dst ≠ x.dst) →
    (∀ x ∈ done, Fact e (hxAll acc ++ h0) x) → WD P pre i e acc h0 (fun e' h' => K e' h' ∧ ∀ x ∈ done ++ pre.map Prod.fst, Fact e' h' x)
  | [], i, e, acc, done, hw, _, _, hf => ⟨hw.1, hw.2, fun x hx => hf x (by simpa using hx)⟩
  | (x, D) :: pre, i, e, acc, done, hw, hsep, hd, hf => by
    obtain ⟨av, rows, hok, hw⟩ := hw
    simp only [List.map_cons, sepB, Bool.and_eq_true, Bool.not_eq_true'] at hsep
    obtain ⟨⟨s1, s2⟩, s3⟩ := hsep
    have hown : x.dst ∉ usesI x := fun hm => by
      have : (usesI x).contains x.dst = true := by simpa using hm
      rw [this] at s1; cases s1
    have hall : ∀ acc : List (Nat × H), hxAll (acc ++ [(i, rows)]) = hxAll acc ++ rows := by
      intro acc
      induction acc with
      | nil => simp [hxAll]
      | cons y l ih => obtain ⟨j, r⟩ := y; simp [hxAll, ih]
    have hmem : ∀ z ∈ hxAll acc ++ h0, z ∈ hxAll (acc ++ [(i, rows)]) ++ h0 := fun z hz => by
      rw [hall]
      simp only [List.mem_append] at hz ⊢
      rcases hz with hz | hz
      · exact .inl (.inl hz)
      · exact .inr hz
    have hhx : ∀ (acc : List (Nat × H)) (z : Nat × Row), z ∈ hx D acc → z ∈ hxAll acc := by
      intro acc
      induction acc with
      | nil => intro z hz; cases hz
      | cons y l ih =>
        obtain ⟨j, r⟩ := y
        intro z hz
        simp only [hx] at hz
        simp only [hxAll, List.mem_append]
        split at hz
        · rw [List.mem_append] at hz; exact hz.imp id (ih z)
        · exact .inr (ih z hz)
    refine ⟨av, rows, hok, ?_⟩
    have hguard : wants (upd e x.dst av) x.guard = wants e x.guard := wants_uses fun s hs => by
      unfold upd; rw [if_neg (by rintro rfl; exact hown hs)]
    have hdst : upd e x.dst av x.dst = av := by simp [upd]
    have hnew : Fact (upd e x.dst av) (hxAll (acc ++ [(i, rows)]) ++ h0) x := by
      have hrd : ∀ (b : IB) (a : AV), x.op = .rd b → rdop (ev e) (res (hx D acc ++ h0)) b = some a → AVle a av → ∃ hp av', (∀ z ∈ hp, z ∈ hxAll (acc ++ [(i, rows)]) ++ h0) ∧ rdop (ev (upd e x.dst av)) (res hp) b = some av' ∧ AVle av' (upd e x.dst av x.dst) := by
        intro b a hb h1 h2
        refine ⟨hx D acc ++ h0, a, fun z hz => hmem z ?_, ?_, by rw [hdst]; exact h2⟩
        · rw [List.mem_append] at hz ⊢
          exact hz.imp (hhx acc z) id
        · rw [← h1]
          exact rdop_congr b fun o ho => ev_uses (x := x) (fun s hs => by unfold upd; rw [if_neg (by rintro rfl; exact hown hs)]) (by rw [hb]; exact ho)
      cases hok with
      | skip g1 g2 g3 => exact .inl ⟨hguard.trans g1, hdst.trans g2⟩
      | rd g1 g2 g3 g4 g5 =>
        refine .inr ⟨hguard.trans g1, fun b hb => ?_⟩
        simp only at g2
        rw [g2] at hb
        cases hb
        exact hrd _ _ g2 g3 g4
      | mk g1 g2 g3 => exact .inr ⟨hguard.trans g1, fun b hb => by simp only at g2; rw [g2] at hb; cases hb⟩
      | call g1 g2 => exact .inr ⟨hguard.trans g1, fun b hb => by
          simp only at g2
          rw [hb] at g2
          cases g2⟩
    have := WD.facts pre (i + 1) _ _ (done ++ [x]) hw s3 (fun y hy z hz => by
      rcases List.mem_append.1 hy with hy | hy
      · exact hd y hy z (by simp [hz])
      · simp only [List.mem_singleton] at hy
        subst hy
        have := List.all_eq_true.1 s2 z.1 (List.mem_map.2 ⟨z, hz, rfl⟩)
        simp only [Bool.and_eq_true, Bool.not_eq_true', beq_eq, decide_eq_false_iff_not] at this
        exact ⟨by simpa using this.1, this.2⟩) (fun y hy => by
      rcases List.mem_append.1 hy with hy | hy
      · obtain ⟨q1, q2⟩ := hd y hy (x, D) (by simp)
        exact (hf y hy).next q1 q2 hmem
      · simp only [List.mem_singleton] at hy
        subst hy
        exact hnew)
    simpa only [List.append_assoc, List.singleton_append, List.map_cons] using this
def refAV : AV → Option Nat
  | .pt k _ _ _ => some k
  | .sl k _ _ _ => some k
  | _ => none
theorem rdop_res {f : Operand → AV} {r r' : Nat → Path → Option (Nat × Els)} {b : IB} (h : ∀ o ∈ opsOf b, ∀ k, refAV (f o) = some k → ∀ p, r' k p = r k p) : rdop f r' b = rdop f r b := by
  cases b with
  | iad s x i =>
    have hx := h x (by simp [opsOf])
    simp only [rdop]
    cases hv : f x with
    | sl k p off len => have h2 := hx k (by rw [hv]; rfl) p; split <;> simp_all
    | pt k p i c => have h2 := hx k (by rw [hv]; rfl) p; split <;> simp_all
    | _ => split <;> simp_all
  | load agg n x =>
    have hx := h x (by simp [opsOf])
    simp only [rdop]
    cases hv : f x with
    | sl k p off len => have h2 := hx k (by rw [hv]; rfl) p; split <;> simp_all
    | pt k p i c => have h2 := hx k (by rw [hv]; rfl) p; split <;> simp_all
    | _ => split <;> simp_all
  | slc s x lo hi =>
    have hx := h x (by simp [opsOf])
    simp only [rdop]
    cases hv : f x with
    | sl k p off len => have h2 := hx k (by rw [hv]; rfl) p; split <;> simp_all
    | pt k p i c => have h2 := hx k (by rw [hv]; rfl) p; split <;> simp_all
    | _ => split <;> simp_all
  | _ => rfl
section
variable {P : Program} {T : TT} {pro : List Nat} {L : Type}
mutual
def cleanT (bad : Nat → Path → Bool) : VT T → Bool
  | .sl k p _ _ => !bad k p
  | .sw k p => !bad k p
  | .pt k p _ _ => !bad k p
  | .ag cs => cleanTL bad cs
  | .tu cs => cleanTL bad cs
  | .fn _ cs => cleanTL bad cs
  | .un | .sc _ | .ik _ _ | .bk _ | .zs | .im _ _ | .ip _ _ _ | .ow _ _ _ | .oo _ _ _ _ _ => true
def cleanTL (bad : Nat → Path → Bool) : List (VT T) → Bool
  | [] => true
  | x :: l => cleanT bad x && cleanTL bad l
end
mutual
theorem cleanT_ok {bad : Nat → Path → Bool} {H0 : H} : ∀ (v : VT T), cleanT bad v = true → kill bad (den T.toTT0 H0 v) = den T.toTT0 H0 v
  | .sl k p _ _, h => by simp only [cleanT, Bool.not_eq_true'] at h; simp only [den, kill, h, Bool.false_eq_true, if_false]
  | .sw k p, h => by simp only [cleanT, Bool.not_eq_true'] at h; simp only [den, kill, h, Bool.false_eq_true, if_false]
  | .pt k p _ _, h => by simp only [cleanT, Bool.not_eq_true'] at h; simp only [den, kill, h, Bool.false_eq_true, if_false]
  | .ag cs, h => by simp only [cleanT] at h; simp only [den, kill, cleanTL_ok cs h]
  | .tu cs, h => by simp only [cleanT] at h; simp only [den, kill, cleanTL_ok cs h]
  | .fn _ cs, h => by simp only [cleanT] at h; simp only [den, kill, cleanTL_ok cs h]
  | .un, _ | .sc _, _ | .ik _ _, _ | .bk _, _ | .zs, _ | .im _ _, _ | .ip _ _ _, _ | .ow _ _ _, _ | .oo _ _ _ _ _, _ => rfl
theorem cleanTL_ok {bad : Nat → Path → Bool} {H0 : H} : ∀ (v : List (VT T)), cleanTL bad v = true → killL bad (denL T.toTT0 H0 v) = denL T.toTT0 H0 v
  | [], _ => rfl
  | x :: l, h => by
    simp only [cleanTL, Bool.and_eq_true] at h
    simp only [denL, killL, cleanT_ok x h.1, cleanTL_ok l h.2]
end
def refT : VT T → Option Nat
  | .pt k _ _ _ => some k
  | .sl k _ _ _ => some k
  | .sw k _ => some k
  | _ => none
theorem refT_ok {H0 : H} {v : VT T} : refAV (den T.toTT0 H0 v) = refT v := by cases v <;> rfl
def rowsB : IB → Bool
  | .iad _ _ _ | .load _ _ _ | .slc _ _ _ _ => true
  | _ => false
def stable (st : StT T) (e : TE T.toTT0) (x : Ins) : Bool :=
  match x.op with
  | .rd b => (opsOf b).all fun o => cleanT st.bad (evT e o) && (!rowsB b || match refT (evT e o) with | some k => !st.tch.contains k | none => true)
  | _ => false
def eqP : Path → Path → Bool
  | [], [] => true
  | (i, c) :: p, (j, d) :: q => Nat.beq c d && (Nat.beq i j && eqP p q)
  | _, _ => false
theorem eqP_ok : ∀ (p q : Path), eqP p q = true → p = q
  | [], [], _ => rfl
  | (i, c) :: p, (j, d) :: q, h => by
    simp only [eqP, Bool.and_eq_true] at h
    rw [Nat.eq_of_beq_eq_true h.1, Nat.eq_of_beq_eq_true h.2.1, eqP_ok p q h.2.2]
  | [], _ :: _, h => by cases h
  | _ :: _, [], h => by cases h
def eqT : VT T → VT T → Bool
  | .sw k p, .sw k' p' => Nat.beq k k' && eqP p p'
  | _, _ => false
theorem eqT_ok : ∀ (v w : VT T), eqT v w = true → v = w := by
  intro v w h
  unfold eqT at h
  split at h
  · simp only [Bool.and_eq_true] at h
    rw [Nat.eq_of_beq_eq_true h.1, eqP_ok _ _ h.2]
  · cases h
def stable2 (st : StT T) (e : TE T.toTT0) (x : Ins) : Bool :=
  match x.op with
  | .rd b => (opsOf b).all (fun o => cleanT (fun k p => st.bad k p || st.bw k p) (evT e o)) && match rdT e st.h b with
    | .ok v => eqT v (getE e x.dst) && cleanT (fun k p => st.bad k p || st.bw k p) v
    | _ => false
  | _ => false
def stables (dep : List Nat) (st : StT T) (e : TE T.toTT0) : List (Ins × List Nat) → Nat → Bool
  | [], _ => true
  | (x, _) :: l, i => (dep.contains i || (stable st e x || stable2 st e x)) && stables dep st e l (i + 1)
theorem wants_kill {e : Env} {g : Option (Nat × Bool)} {b : Bool} {bad : Nat → Path → Bool} (h : wants e g = some b) : wants (fun t => kill bad (e t)) g = some b := by
  cases g with
  | none => exact h
  | some sw =>
    obtain ⟨s, want⟩ := sw
    simp only [wants] at h ⊢
    split at h
    · rename_i hb; rw [hb]; simpa [kill] using h
    · rename_i hb; rw [hb]; simpa [kill] using h
    · cases h
mutual
theorem clean_den {bad : Nat → Path → Bool} {H0 H1 : H} (hl : ∀ k p, bad k p = false → lenAt H1 k p = lenAt H0 k p) : ∀ (v : VT T), cleanT bad v = true → den T.toTT0 H1 v = den T.toTT0 H0 v
  | .sw k p, h => by simp only [cleanT, Bool.not_eq_true'] at h; simp only [den, hl k p h]
  | .ag cs, h => by simp only [cleanT] at h; simp only [den, clean_denL hl cs h]
  | .tu cs, h => by simp only [cleanT] at h; simp only [den, clean_denL hl cs h]
  | .fn _ cs, h => by simp only [cleanT] at h; simp only [den, clean_denL hl cs h]
  | .un, _ | .sc _, _ | .ik _ _, _ | .bk _, _ | .zs, _ | .im _ _, _ | .ip _ _ _, _ | .sl _ _ _ _, _ | .pt _ _ _ _, _ | .ow _ _ _, _ | .oo _ _ _ _ _, _ => rfl
theorem clean_denL {bad : Nat → Path → Bool} {H0 H1 : H} (hl : ∀ k p, bad k p = false → lenAt H1 k p = lenAt H0 k p) : ∀ (v : List (VT T)), cleanTL bad v = true → denL T.toTT0 H1 v = denL T.toTT0 H0 v
  | [], _ => rfl
  | x :: l, h => by
    simp only [cleanTL, Bool.and_eq_true] at h
    simp only [denL, clean_den hl x h.1, clean_denL hl l h.2]
end
mutual
theorem clean_sub {bad bad' : Nat → Path → Bool} (hb : ∀ k p, bad k p = false → bad' k p = false) : ∀ (v : VT T), cleanT bad v = true → cleanT bad' v = true
  | .sl k p _ _, h => by simp only [cleanT, Bool.not_eq_true'] at h ⊢; exact hb k p h
  | .sw k p, h => by simp only [cleanT, Bool.not_eq_true'] at h ⊢; exact hb k p h
  | .pt k p _ _, h => by simp only [cleanT, Bool.not_eq_true'] at h ⊢; exact hb k p h
  | .ag cs, h => by simp only [cleanT] at h ⊢; exact clean_subL hb cs h
  | .tu cs, h => by simp only [cleanT] at h ⊢; exact clean_subL hb cs h
  | .fn _ cs, h => by simp only [cleanT] at h ⊢; exact clean_subL hb cs h
  | .un, _ | .sc _, _ | .ik _ _, _ | .bk _, _ | .zs, _ | .im _ _, _ | .ip _ _ _, _ | .ow _ _ _, _ | .oo _ _ _ _ _, _ => rfl
theorem clean_subL {bad bad' : Nat → Path → Bool} (hb : ∀ k p, bad k p = false → bad' k p = false) : ∀ (v : List (VT T)), cleanTL bad v = true → cleanTL bad' v = true
  | [], _ => rfl
  | x :: l, h => by
    simp only [cleanTL, Bool.and_eq_true] at h ⊢
    exact ⟨clean_sub hb x h.1, clean_subL hb l h.2⟩
end
theorem stables_ok {dep : List Nat} {st : StT T} {e : TE T.toTT0} {hA : TH T.toTT0} (hlen : ∀ k p, st.bad k p = false → st.bw k p = false → lenAt (denH T.toTT0 st.h) k p = lenAt (denH T.toTT0 hA) k p) (hn : nodupB (hA.map Prod.fst) = true) (ht : ∀ k, st.tch.contains k = false → getRow (denH T.toTT0 st.h) k = getRow (denH T.toTT0 hA) k) : ∀ (l : List (Ins × List Nat)) (i : Nat), stables dep st e l i = true →
    (∀ x ∈ l.map Prod.fst, Fact (denE T.toTT0 (denH T.toTT0 hA) e) (denH T.toTT0 hA) x) → Agains dep (kill st.bad) (denE T.toTT0 (denH T.toTT0 hA) e) (denH T.toTT0 st.h) l i
  | [], _, _, _ => trivial
  | (x, D) :: l, i, hs, hf => by
    simp only [stables, Bool.and_eq_true, Bool.or_eq_true] at hs
    refine ⟨?_, stables_ok hlen hn ht l (i + 1) hs.2 (fun y hy => hf y (by simp [hy]))⟩
    rcases hs.1 with h1 | h1 | h1
    · exact .inl h1
    rotate_left
    · right
      unfold stable2 at h1
      split at h1
      · rename_i b hb
        rcases hf x (by simp) with ⟨f1, f2⟩ | ⟨f1, f2⟩
        · refine .inl ⟨wants_kill f1, ?_⟩
          rw [f2]
          cases x.op <;> rfl
        · simp only [Bool.and_eq_true] at h1
          obtain ⟨h1, h2⟩ := h1
          split at h2
          · rename_i v hv
            simp only [Bool.and_eq_true] at h2
            have hlen' : ∀ k p, (fun k p => st.bad k p || st.bw k p) k p = false → lenAt (denH T.toTT0 st.h) k p = lenAt (denH T.toTT0 hA) k p := fun k p hk => by
              simp only [Bool.or_eq_false_iff] at hk
              exact hlen k p hk.1 hk.2
            have hsub : ∀ k p, (fun k p => st.bad k p || st.bw k p) k p = false → st.bad k p = false := fun k p hk => by
              simp only [Bool.or_eq_false_iff] at hk
              exact hk.1
            obtain ⟨av, r1, r2⟩ := rdT_ok (e := e) (h := st.h) (b := b) (v := v) (by rw [hv]; exact rfl)
            have hcl : ∀ o ∈ opsOf b, ev (fun t => kill st.bad (denE T.toTT0 (denH T.toTT0 hA) e t)) o = ev (denE T.toTT0 (denH T.toTT0 st.h) e) o := fun o ho => by
              have := List.all_eq_true.1 h1 o ho
              cases o with
              | tmp t =>
                have q1 := cleanT_ok (H0 := denH T.toTT0 hA) _ (clean_sub hsub _ this)
                have q2 := clean_den hlen' _ this
                exact q1.trans q2.symm
              | _ => rfl
            refine .inr ⟨wants_kill f1, b, av, hb, (rdop_congr b hcl).trans r1, ?_⟩
            have e1 := eqT_ok _ _ h2.1
            have q2 := clean_den hlen' _ h2.2
            have q1 := cleanT_ok (H0 := denH T.toTT0 hA) _ (clean_sub hsub _ h2.2)
            rw [q2] at r2
            show AVle av (kill st.bad (den T.toTT0 (denH T.toTT0 hA) (getE e x.dst)))
            rw [← e1, q1]
            exact r2
          · cases h2
      · cases h1
    · right
      unfold stable at h1
      split at h1
      · rename_i b hb
        rcases hf x (by simp) with ⟨f1, f2⟩ | ⟨f1, f2⟩
        · refine .inl ⟨wants_kill f1, ?_⟩
          rw [f2]
          cases x.op <;> rfl
        · obtain ⟨hp, av, g1, g2, g3⟩ := f2 b hb
          refine .inr ⟨wants_kill f1, b, av, hb, ?_, g3.trans (AVle.kill _ _)⟩
          have e1 : rdop (ev (denE T.toTT0 (denH T.toTT0 hA) e)) (res (denH T.toTT0 hA)) b = some av :=
            rdop_mono (fun k p v hv => res_mono (by rw [denH_keys]; exact nodupB_spec _ hn) g1 k p v hv) g2
          have hcl : ∀ o ∈ opsOf b, ev (fun t => kill st.bad (denE T.toTT0 (denH T.toTT0 hA) e t)) o = ev (denE T.toTT0 (denH T.toTT0 hA) e) o := fun o ho => by
            have := List.all_eq_true.1 h1 o ho
            simp only [Bool.and_eq_true] at this
            cases o with
            | tmp t => exact cleanT_ok _ this.1
            | _ => rfl
          rw [rdop_congr b hcl, ← e1]
          cases hrb : rowsB b with
          | false => cases b <;> first | rfl | cases hrb
          | true =>
            refine rdop_res fun o ho k hk p => ?_
            have := List.all_eq_true.1 h1 o ho
            simp only [Bool.and_eq_true, hrb, Bool.not_true, Bool.false_or] at this
            rw [evT_den, refT_ok] at hk
            rw [hk] at this
            simp only [Bool.not_eq_true'] at this
            unfold res
            rw [ht k this.2]
      · cases h1
def turnOp (pro : List Nat) (cx : Cx P T) (x : Ins) (e : TE T.toTT0) (h : TH T.toTT0) (K : StT T → Raw P T pro L) : Raw P T pro L :=
  match x.op with
  | .mk b => Raw.ofRs K (mkT (cx.at x.dst) pro e h x.dst b)
  | .app s bytes a b => Raw.ofRs K (appT (cx.at x.dst) pro e h x.dst s bytes a b)
  | .st n a v => Raw.ofRs K (stT e h n a v)
  | _ => .no
def turnT (pro : List Nat) (cx : Cx P T) (x : Ins) (e : TE T.toTT0) (h : TH T.toTT0) (K : StT T → Raw P T pro L) : Raw P T pro L :=
  match x.guard with
  | none => turnOp pro cx x e h K
  | some (s, want) => match getE e s with | .bk true => bif want then turnOp pro cx x e h K else .no | .bk false => bif want then .no else turnOp pro cx x e h K | _ => .no
theorem turnT_ok {cx : Cx P T} {x : Ins} {e : TE T.toTT0} {h : TH T.toTT0} {K : StT T → Raw P T pro L} {Q : L → Prop} (hs : Sat (turnT pro cx x e h K) Q) :
    ∃ st, Sat (K st) Q ∧ StOk P pro T e h x st ∧ wants (denE T.toTT0 (denH T.toTT0 h) e) x.guard = some true := by
  obtain ⟨d, g, op⟩ := x
  have go : Sat (turnOp pro cx ⟨d, g, op⟩ e h K) Q → ∃ st, Sat (K st) Q ∧ StOk P pro T e h ⟨d, g, op⟩ st := fun hs => by
    unfold turnOp at hs
    dsimp only at hs
    split at hs
    · obtain ⟨st, hv, hK⟩ := Sat.ofRs _ hs
      exact ⟨st, hK, mkT_st hv⟩
    · obtain ⟨st, hv, hK⟩ := Sat.ofRs _ hs
      exact ⟨st, hK, appT_st hv⟩
    · obtain ⟨st, hv, hK⟩ := Sat.ofRs _ hs
      exact ⟨st, hK, stT_st hv⟩
    · exact hs.elim
  unfold turnT at hs
  dsimp only at hs
  split at hs
  · obtain ⟨st, q1, q2⟩ := go hs
    exact ⟨st, q1, q2, rfl⟩
  · rename_i s want
    split at hs
    · rename_i hv
      cases want with
      | false => exact hs.elim
      | true =>
        obtain ⟨st, q1, q2⟩ := go hs
        exact ⟨st, q1, q2, by simp [wants, denE, hv, den]⟩
    · rename_i hv
      cases want with
      | true => exact hs.elim
      | false =>
        obtain ⟨st, q1, q2⟩ := go hs
        exact ⟨st, q1, q2, by simp [wants, denE, hv, den]⟩
    · exact hs.elim
theorem StOk.turn {e : TE T.toTT0} {h : TH T.toTT0} {x : Ins} {st : StT T} (hst : StOk P pro T e h x st) (hw : wants (denE T.toTT0 (denH T.toTT0 h) e) x.guard = some true) :
    TurnOk P pro x (denE T.toTT0 (denH T.toTT0 h) e) (denH T.toTT0 h) (kill st.bad) (den T.toTT0 (denH T.toTT0 st.h) st.v) (denH T.toTT0 st.h) := fun e' he => by
  obtain ⟨e0, h0', e1, h1', g1, gb, g2, g3⟩ := hst.1 e' he
  exact ⟨by rw [wants_uses he]; exact hw, e0, h0', e1, h1', g1, g2, g3⟩
def keepT (keep : List Nat) (e : TE T.toTT0) : TE T.toTT0 := keep.map fun t => (t, getE e t)
theorem keepT_den {H0 : H} (keep : List Nat) (e : TE T.toTT0) : denE T.toTT0 H0 (keepT keep e) = keepE keep (denE T.toTT0 H0 e) := by
  unfold keepE keepT
  induction keep with
  | nil => rfl
  | cons s l ih =>
    simp only [List.map_cons, envOf]
    rw [← ih]
    exact denE_put (e := List.map (fun t => (t, getE e t)) l)
def dropE (ds : List Nat) : TE T.toTT0 → TE T.toTT0
  | [] => []
  | (k, v) :: l => bif ds.contains k then dropE ds l else (k, v) :: dropE ds l
theorem getE_drop {ds : List Nat} {t : Nat} : ∀ (e : TE T.toTT0), getE (dropE ds e) t = if ds.contains t then .un else getE e t
  | [] => by simp [dropE, getE]
  | (k, v) :: l => by
    have ih := getE_drop (ds := ds) (t := t) l
    simp only [dropE]
    cases hk : ds.contains k with
    | true =>
      simp only [cond_true, ih, getE, beq_eq]
      by_cases ht : t = k
      · subst ht; rw [hk]; simp
      · simp [ht]
    | false =>
      simp only [cond_false, getE, beq_eq]
      by_cases ht : t = k
      · subst ht; rw [hk]; simp
      · simp [ht, ih]
def startE (ds : List Nat) (e : TE T.toTT0) : TE T.toTT0 := killTE (fun k _ => ds.contains k) (fun _ _ => false) (dropE ds e)
theorem startE_den {ds : List Nat} {e : TE T.toTT0} {h : TH T.toTT0} : denE T.toTT0 (denH T.toTT0 (delKeysT h ds)) (startE ds e) = preE ds (denE T.toTT0 (denH T.toTT0 h) e) := by
  funext t
  simp only [denE, startE, getE_kill, getE_drop, preE]
  have hl : ∀ k p, (fun k (_ : Path) => ds.contains k) k p = false → lenAt (denH T.toTT0 (delKeysT h ds)) k p = lenAt (denH T.toTT0 h) k p := fun k p hk => lenAt_congr (by rw [← delKeysT_row]; exact getRow_delKeys _ _ _ hk)
  by_cases ht : t ∈ ds
  · rw [if_pos ht, if_pos (by simpa using ht)]; rfl
  · rw [if_neg ht, if_neg (by simpa using ht)]
    exact (kill_eq hl _).symm
def splitLast {α : Type} : List α → Option (List α × α)
  | [] => none
  | [x] => some ([], x)
  | x :: l => match splitLast l with | some (p, y) => some (x :: p, y) | none => none
theorem splitLast_ok {α : Type} : ∀ (l p : List α) (y : α), splitLast l = some (p, y) → l = p ++ [y]
  | [], _, _, h => by cases h
  | [x], _, _, h => by cases h; rfl
  | x :: z :: l, p, y, h => by
    simp only [splitLast] at h
    split at h
    · rename_i p' y' h'
      cases h
      rw [splitLast_ok (z :: l) _ _ h']; rfl
    · cases h
def isTurn (cx : Cx P T) (x : Ins) : Bool :=
  match x.op with
  | .st _ _ _ | .app _ _ _ _ => true
  | .mk _ => cx.tn.contains x.dst
  | _ => false
def keysT (ds : List Nat) (h0 h1 : TH T.toTT0) : Bool := (h1.map Prod.fst).all (fun k => ds.contains k || (h0.map Prod.fst).contains k)
def evDraw (pro : List Nat) (cx : Cx P T) (keep : List Nat) (pre : List (Ins × List Nat)) (tail : List Ins) (e : TE T.toTT0) (h : TH T.toTT0) (K : TE T.toTT0 → TH T.toTT0 → Raw P T pro L) : Raw P T pro L :=
  let ds := pre.map (·.1.dst)
  let e0 := startE ds e
  let h0 := delKeysT h ds
  let Kt : TE T.toTT0 → TH T.toTT0 → Raw P T pro L := fun e h => evR pro cx tail e h fun e h => K (keepT keep e) h
  let plain : Raw P T pro L := bif nodupB ds && okUses ds 0 pre && pro.all (fun k => !ds.contains k) && pre.all (fun x => !isSt x.1.op) then evD cx pre 0 e0 [] h0 fun e1 h1 => bif keysT ds h0 h1 then Kt e1 h1 else .no else .no
  match splitLast pre with
  | some (pre0, x, dep) => bif isTurn cx x then
      bif nodupB ds && okUses ds 0 pre && pro.all (fun k => !ds.contains k) && pre0.all (fun x => !isSt x.1.op) && onlyRd dep pre0 0 && !dep.contains pre0.length && dep.all (fun i => decide (i < pre0.length)) && pre0.all (fun x => !x.2.contains pre0.length) && sepB (pre0.map Prod.fst) then
        evD cx pre0 0 e0 [] h0 fun e1 hA => turnT pro cx x e1 hA fun st =>
          bif nodupB (hA.map Prod.fst) && keysT ds h0 hA && nodupB (st.h.map Prod.fst) && stables dep st e1 pre0 0 then Kt (st.env e1 x.dst) st.h else .no
      else .no
    else plain
  | none => plain
theorem evDraw_ok {cx : Cx P T} {keep : List Nat} {pre : List (Ins × List Nat)} {tail : List Ins} {e : TE T.toTT0} {h : TH T.toTT0} {K : TE T.toTT0 → TH T.toTT0 → Raw P T pro L} {Q : L → Prop} {Q' : Out → Env → H → Prop}
    (hQ : ∀ E H0, KP K Q E H0 → Q' .normal E H0) (hs : Sat (evDraw pro cx keep pre tail e h K) Q) : W P pro (.draw keep pre tail) Q' (denE T.toTT0 (denH T.toTT0 h) e) (denH T.toTT0 h) := by
  have tl : ∀ (e1 : TE T.toTT0) (h1 : TH T.toTT0), Sat (evR pro cx tail e1 h1 fun e h => K (keepT keep e) h) Q → RG P pro keep Q' tail (denE T.toTT0 (denH T.toTT0 h1) e1) (denH T.toTT0 h1) := fun e1 h1 hs => by
    obtain ⟨E, H', r, e2, h2, rfl, rfl, hK⟩ := evR_ok tail e1 h1 hs
    exact ⟨_, _, r, hQ _ _ ⟨_, _, (keepT_den keep e2).symm, rfl, hK⟩⟩
  have plain : Sat (bif nodupB (pre.map (·.1.dst)) && okUses (pre.map (·.1.dst)) 0 pre && pro.all (fun k => !(pre.map (·.1.dst)).contains k) && pre.all (fun x => !isSt x.1.op) then evD cx pre 0 (startE (pre.map (·.1.dst)) e) [] (delKeysT h (pre.map (·.1.dst))) fun e1 h1 => bif keysT (pre.map (·.1.dst)) (delKeysT h (pre.map (·.1.dst))) h1 then evR pro cx tail e1 h1 (fun e h => K (keepT keep e) h) else .no else .no : Raw P T pro L) Q →
      W P pro (.draw keep pre tail) Q' (denE T.toTT0 (denH T.toTT0 h) e) (denH T.toTT0 h) := fun hs => by
    cases hb : (nodupB (pre.map (·.1.dst)) && okUses (pre.map (·.1.dst)) 0 pre && pro.all (fun k => !(pre.map (·.1.dst)).contains k) && pre.all (fun x => !isSt x.1.op)) with
    | false => rw [hb] at hs; exact hs.elim
    | true =>
      rw [hb, cond_true] at hs
      refine W.drawG (pre.map (·.1.dst)) rfl hb ?_
      have := evD_ok pre 0 _ [] hs
      simp only [hxAllT, List.nil_append, startE_den, accA, List.map_nil] at this
      rw [delKeysT_row]
      refine WD.mono (fun E H0 hk => ?_) _ _ _ _ this
      obtain ⟨e1, h1, rfl, rfl, hK⟩ := hk
      dsimp only at hK
      cases hk2 : keysT (pre.map (·.1.dst)) (delKeysT h (pre.map (·.1.dst))) h1 with
      | false => rw [hk2] at hK; exact hK.elim
      | true =>
        rw [hk2, cond_true] at hK
        refine ⟨?_, tl _ _ hK⟩
        unfold keysOk
        rw [denH_keys, denH_keys]
        exact hk2
  unfold evDraw at hs
  dsimp only at hs
  split at hs
  · rename_i pre0 x dep hsl
    have hpre := splitLast_ok _ _ _ hsl
    cases ht : isTurn cx x with
    | false => rw [ht, cond_false] at hs; exact plain hs
    | true =>
      rw [ht, cond_true] at hs
      generalize hds : pre.map (·.1.dst) = ds at hs
      cases hb : (nodupB ds && okUses ds 0 pre && pro.all (fun k => !ds.contains k) && pre0.all (fun x => !isSt x.1.op) && onlyRd dep pre0 0 && !dep.contains pre0.length && dep.all (fun i => decide (i < pre0.length)) && pre0.all (fun x => !x.2.contains pre0.length) && sepB (pre0.map Prod.fst)) with
      | false => rw [hb] at hs; exact hs.elim
      | true =>
        rw [hb, cond_true] at hs
        simp only [Bool.and_eq_true] at hb
        obtain ⟨hb, hsep⟩ := hb
        rw [hpre] at hds hb ⊢
        refine W.turn ds hds (by simpa only [Bool.and_eq_true] using hb) ?_
        have hwd := evD_ok pre0 0 _ [] hs
        simp only [hxAllT, List.nil_append, startE_den, accA, List.map_nil] at hwd
        rw [delKeysT_row]
        have hf := WD.facts pre0 0 _ [] [] hwd hsep (fun _ h => (by cases h)) (fun _ h => (by cases h))
        refine WD.mono (fun E H0 hk => ?_) _ _ _ _ hf
        obtain ⟨⟨e1, hA, rfl, rfl, hK⟩, hfacts⟩ := hk
        obtain ⟨st, hK, hst, hw⟩ := turnT_ok hK
        cases hc : (nodupB (hA.map Prod.fst) && keysT ds (delKeysT h ds) hA && nodupB (st.h.map Prod.fst) && stables dep st e1 pre0 0) with
        | false => rw [hc] at hK; exact hK.elim
        | true =>
          rw [hc, cond_true] at hK
          simp only [Bool.and_eq_true] at hc
          obtain ⟨⟨⟨c1, c2⟩, c3⟩, c4⟩ := hc
          refine ⟨kill st.bad, den T.toTT0 (denH T.toTT0 st.h) st.v, denH T.toTT0 st.h, ?_, by rw [denH_keys]; exact c3, hst.turn hw, stables_ok hst.2.1 c1 hst.2.2 pre0 0 c4 (by simpa using hfacts), ?_⟩
          · unfold keysOk
            rw [denH_keys, denH_keys]
            exact c2
          · exact RG.ghost (StT.env_ghost hst.2.1) (tl _ _ hK)
  · exact plain hs
end
end Loom
set_option linter.unusedVariables false
set_option linter.unusedSimpArgs false
namespace Loom
open Go
inductive SD where
  | any
  | un
  | im (t : Nat)
  | own (c : Nat) (m : Bool) (t : Nat)
  | ref (c : Nat)
  | ag (l : List SD)
  | fn (l : List SD)
inductive RD where
  | any
  | fix (ks : List Kd)
  | typ (m : Bool) (t : Nat)
structure Dr where
  S : List (Nat × SD)
  R : List (Nat × RD)
section
variable {P : Program} {T : TT} {pro : List Nat} {L : Type}
mutual
def plainT : VT T → Option (VT T)
  | .un => some .un
  | .sc v => some (.sc v)
  | .ik k n => some (.sc (.int k n))
  | .bk b => some (.sc (.bool b))
  | .zs => some .zs
  | .im t xs => some (.im t xs)
  | .ip s cs c => some (.ip s cs c)
  | .ag cs => match plainTL cs with | some cs' => some (.ag cs') | none => none
  | .tu cs => match plainTL cs with | some cs' => some (.tu cs') | none => none
  | .fn f cs => match plainTL cs with | some cs' => some (.fn f cs') | none => none
  | .sl _ _ _ _ | .sw _ _ | .pt _ _ _ _ | .ow _ _ _ | .oo _ _ _ _ _ => none
def plainTL : List (VT T) → Option (List (VT T))
  | [] => some []
  | x :: l => match plainT x, plainTL l with | some x', some l' => some (x' :: l') | _, _ => none
end
mutual
theorem plainT_ok {H0 : H} : ∀ (v v' : VT T), plainT v = some v' → den T.toTT0 H0 v = den T.toTT0 H0 v'
  | .un, _, h | .sc _, _, h | .ik _ _, _, h | .bk _, _, h | .zs, _, h | .im _ _, _, h | .ip _ _ _, _, h => by cases h; rfl
  | .ag cs, _, h => by
    simp only [plainT] at h
    split at h
    · rename_i cs' hc; cases h; simp only [den, plainTL_ok cs cs' hc]
    · cases h
  | .tu cs, _, h => by
    simp only [plainT] at h
    split at h
    · rename_i cs' hc; cases h; simp only [den, plainTL_ok cs cs' hc]
    · cases h
  | .fn f cs, _, h => by
    simp only [plainT] at h
    split at h
    · rename_i cs' hc; cases h; simp only [den, plainTL_ok cs cs' hc]
    · cases h
  | .sl _ _ _ _, _, h | .sw _ _, _, h | .pt _ _ _ _, _, h | .ow _ _ _, _, h | .oo _ _ _ _ _, _, h => by cases h
theorem plainTL_ok {H0 : H} : ∀ (v v' : List (VT T)), plainTL v = some v' → denL T.toTT0 H0 v = denL T.toTT0 H0 v'
  | [], _, h => by cases h; rfl
  | x :: l, _, h => by
    simp only [plainTL] at h
    split at h
    · rename_i x' l' h1 h2
      cases h
      simp only [denL, plainT_ok x x' h1, plainTL_ok l l' h2]
    · cases h
end
mutual
def convV : SD → VT T → Option (VT T × List (Nat × Nat))
  | .any, v => match plainT v with | some v' => some (v', []) | none => none
  | .un, _ => some (.un, [])
  | .im t, .zs => some (.im t [], [])
  | .im _, .im t xs => some (.im t xs, [])
  | .im _, _ => none
  | .own c _ _, .sw k [] => some (.sw k [], [(c, k)])
  | .own _ _ _, _ => none
  | .ref c, .pt k p i cc => some (.pt k p i cc, [(c, k)])
  | .ref c, .sw k p => some (.sw k p, [(c, k)])
  | .ref c, .sl k p off len => some (.sl k p off len, [(c, k)])
  | .ref _, _ => none
  | .ag ds, .ag cs => match convVL ds cs with | some (cs', b) => some (.ag cs', b) | none => none
  | .ag ds, .tu cs => match convVL ds cs with | some (cs', b) => some (.tu cs', b) | none => none
  | .ag _, _ => none
  | .fn ds, .fn f cs => match convVL ds cs with | some (cs', b) => some (.fn f cs', b) | none => none
  | .fn _, _ => none
def convVL : List SD → List (VT T) → Option (List (VT T) × List (Nat × Nat))
  | [], [] => some ([], [])
  | d :: ds, v :: vs => match convV d v, convVL ds vs with | some (v', b), some (vs', b') => some (v' :: vs', b ++ b') | _, _ => none
  | _, _ => none
end
mutual
theorem convV_ok {H0 : H} : ∀ (d : SD) (v v' : VT T) (b : List (Nat × Nat)), convV d v = some (v', b) → AVle (den T.toTT0 H0 v) (den T.toTT0 H0 v')
  | .any, v, v', b, h => by
    simp only [convV] at h
    split at h
    · rename_i w hw; cases h; rw [plainT_ok v _ hw]; exact AVle.refl _
    · cases h
  | .un, v, v', b, h => by cases h; exact AVle.un _
  | .im t, v, v', b, h => by
    cases v <;> first | (cases h; done) | skip
    · cases h; simp only [den, List.map_nil]; exact AVle.zsIm _
    · cases h; exact AVle.refl _
  | .own c m t, v, v', b, h => by
    cases v with
    | sw k p =>
      cases p with
      | nil => cases h; exact AVle.refl _
      | cons _ _ => cases h
    | _ => cases h
  | .ref c, v, v', b, h => by
    cases v <;> first | (cases h; done) | (cases h; exact AVle.refl _)
  | .ag ds, v, v', b, h => by
    cases v with
    | ag cs =>
      simp only [convV] at h
      split at h
      · rename_i cs' b' hc; cases h; simp only [den]; exact AVle.ag (convVL_ok ds cs cs' _ hc).C
      · cases h
    | tu cs =>
      simp only [convV] at h
      split at h
      · rename_i cs' b' hc; cases h; simp only [den]; exact AVle.tu (convVL_ok ds cs cs' _ hc).L
      · cases h
    | _ => cases h
  | .fn ds, v, v', b, h => by
    cases v with
    | fn f cs =>
      simp only [convV] at h
      split at h
      · rename_i cs' b' hc; cases h; simp only [den]; exact AVle.fn (convVL_ok ds cs cs' _ hc).L
      · cases h
    | _ => cases h
theorem convVL_ok {H0 : H} : ∀ (d : List SD) (v v' : List (VT T)) (b : List (Nat × Nat)), convVL d v = some (v', b) → AVles (denL T.toTT0 H0 v) (denL T.toTT0 H0 v')
  | [], [], _, _, h => by cases h; exact .nil
  | [], _ :: _, _, _, h => by cases h
  | _ :: _, [], _, _, h => by cases h
  | d :: ds, v :: vs, v', b, h => by
    simp only [convVL] at h
    split at h
    · rename_i v1 b1 vs1 b2 h1 h2
      cases h
      exact .cons (convV_ok d v v1 _ h1) (convVL_ok ds vs vs1 _ h2)
    · cases h
end
def Gh (P : Program) (pro : List Nat) (T : TT) (e : TE T.toTT0) (h : TH T.toTT0) (e1 : TE T.toTT0) (h1 : TH T.toTT0) : Prop := Ghost P pro (denE T.toTT0 (denH T.toTT0 h) e) (denH T.toTT0 h) (denE T.toTT0 (denH T.toTT0 h1) e1) (denH T.toTT0 h1)
def slot1 (pro : List Nat) (e : TE T.toTT0) (h : TH T.toTT0) (t : Nat) (d : SD) : Rs (TE T.toTT0 × TH T.toTT0 × List (Nat × Nat)) :=
  match d, getE e t with
  | .own c m ty, .zs =>
    bif pro.contains (500000 + t) || (h.map Prod.fst).contains (500000 + t) then .no
    else .ok (putE (killTE (fun k _ => Nat.beq k (500000 + t)) (fun _ _ => false) e) t (.sw (500000 + t) []), (500000 + t, .typ m ty []) :: h, [(c, 500000 + t)])
  | .own c _ _, .sl k [] 0 n =>
    match getT h k with
    | some (.typ m' t' xs) => .need (n ≤ xs.length) (.ok (putE (killTE (fun _ _ => false) (fun k' _ => Nat.beq k' k) e) t (.sw k []), (k, .typ m' t' (xs.take n)) :: delT h k, [(c, k)]))
    | _ => .no
  | d, v => match convV d v with | some (v', b) => .ok (putE e t v', h, b) | none => .no
theorem slot1_ok {e e1 : TE T.toTT0} {h h1 : TH T.toTT0} {t : Nat} {d : SD} {b : List (Nat × Nat)} (hg : (slot1 pro e h t d).gives (e1, h1, b)) : Gh P pro T e h e1 h1 := by
  unfold slot1 at hg
  split at hg
  · rename_i c m ty hz
    cases hb : (pro.contains (500000 + t) || (h.map Prod.fst).contains (500000 + t)) with
    | true => rw [hb] at hg; exact hg.elim
    | false =>
      rw [hb] at hg
      cases hg
      simp only [Bool.or_eq_false_iff] at hb
      have h1 := Ghost.nil (P := P) (pro := pro) (e := denE T.toTT0 (denH T.toTT0 h) e) (h := denH T.toTT0 h) (t := t) (d := 500000 + t) (s := T.sz ty) (by simp only [denE, hz, den]) (by
        rw [denH_keys]
        intro hm
        have : (h.map Prod.fst).contains (500000 + t) = true := by simpa using hm
        rw [hb.2] at this; cases this) (by
        rw [List.all_eq_true]
        intro k hk
        simp only [bne_iff_ne, ne_eq]
        rintro rfl
        have : pro.contains (500000 + t) = true := by simpa using hk
        rw [hb.1] at this; cases this)
      have hh : denH T.toTT0 ((500000 + t, .typ m ty []) :: h) = (500000 + t, ⟨T.sz ty, []⟩) :: denH T.toTT0 h := rfl
      unfold Gh
      rw [hh]
      refine h1.trans (Ghost.le fun u => ?_)
      rw [denE_put]
      refine AVle.upd (fun u => ?_) ?_ u
      · simp only [killE, denE, getE_kill]
        refine kill_le (fun k p hk => by simpa using hk) (fun k p hk _ => lenAt_congr ?_) _
        simp only [beq_eq, decide_eq_false_iff_not] at hk
        simp only [getRow]
        rw [if_neg (fun e => hk e.symm)]
      · have : lenAt ((500000 + t, ⟨T.sz ty, []⟩) :: denH T.toTT0 h) (500000 + t) [] = 0 := by simp [lenAt, res, getRow, resE]
        simp only [den, this]; exact AVle.refl _
  · rename_i c m ty k n hz
    split at hg
    · rename_i m' t' xs hr
      obtain ⟨hc, hg⟩ := hg
      cases hg
      have hgr : getRow (denH T.toTT0 h) k = some ⟨T.sz t', xs.map (T.ca m' t')⟩ := by rw [getT_row, hr]; rfl
      have h1 := Ghost.take (P := P) (pro := pro) (e := denE T.toTT0 (denH T.toTT0 h) e) n hgr
      have hh : denH T.toTT0 ((k, .typ m' t' (xs.take n)) :: delT h k) = (k, ⟨T.sz t', (xs.map (T.ca m' t')).take n⟩) :: delRow (denH T.toTT0 h) k := by
        simp only [denH, denR, List.map_take, delT_row]
      unfold Gh
      rw [hh]
      refine h1.trans (Ghost.le fun u => ?_)
      rw [denE_put]
      unfold upd
      split
      · rename_i hu
        subst hu
        have : lenAt ((k, ⟨T.sz t', (xs.map (T.ca m' t')).take n⟩) :: delRow (denH T.toTT0 h) k) k [] = n := by
          simp only [lenAt, res, getRow, if_true, resE, List.length_take, List.length_map]; omega
        simp only [denE, hz, den, this]; exact AVle.refl _
      · simp only [denE, getE_kill]
        have := kill_le (T := T) (H0 := denH T.toTT0 h) (H1 := (k, ⟨T.sz t', (xs.map (T.ca m' t')).take n⟩) :: delRow (denH T.toTT0 h) k) (b1 := fun _ _ => false) (bad := fun _ _ => false) (bw := fun k' _ => Nat.beq k' k) (fun _ _ h => h) (fun k' p _ hk => lenAt_congr (by
          simp only [beq_eq, decide_eq_false_iff_not] at hk
          simp only [getRow]
          rw [if_neg (fun e => hk e.symm), getRow_del hk])) (getE e u)
        rwa [nobad] at this
    · exact hg.elim
  · split at hg
    · rename_i v' b' hv
      cases hg
      unfold Gh
      refine Ghost.le fun u => ?_
      rw [denE_put]
      unfold upd
      split
      · rename_i hu; subst hu; exact convV_ok _ _ _ _ hv
      · exact AVle.refl _
    · exact hg.elim
def slotsT (pro : List Nat) : List (Nat × SD) → TE T.toTT0 → TH T.toTT0 → List (Nat × Nat) → Rs (TE T.toTT0 × TH T.toTT0 × List (Nat × Nat))
  | [], e, h, b => .ok (e, h, b)
  | (t, d) :: l, e, h, b => (slot1 pro e h t d).bind fun (e, h, b') => slotsT pro l e h (b' ++ b)
theorem slotsT_ok : ∀ (l : List (Nat × SD)) (e e1 : TE T.toTT0) (h h1 : TH T.toTT0) (b b1 : List (Nat × Nat)), (slotsT pro l e h b).gives (e1, h1, b1) → Gh P pro T e h e1 h1
  | [], _, _, _, _, _, _, hg => by cases hg; exact Ghost.rfl'
  | (t, d) :: l, e, e1, h, h1, b, b1, hg => by
    obtain ⟨⟨e2, h2, b2⟩, q1, q2⟩ := Rs.bind_gives _ hg
    exact Ghost.trans (slot1_ok q1) (slotsT_ok l _ _ _ _ _ _ q2)
def typ1T (h : TH T.toTT0) (k : Nat) (m : Bool) (t : Nat) : Option (TH T.toTT0) :=
  match getT h k with
  | some (.lit s xs) => bif Nat.beq (T.sz t) s then match unL m t xs with | some ys => some ((k, .typ m t ys) :: delT h k) | none => none else none
  | some _ => some h
  | none => none
theorem typ1T_ok {e : TE T.toTT0} {h h1 : TH T.toTT0} {k : Nat} {m : Bool} {t : Nat} (ht : typ1T h k m t = some h1) : Gh P pro T e h e h1 := by
  unfold typ1T at ht
  split at ht
  · rename_i s xs hr
    cases hb : Nat.beq (T.sz t) s with
    | false => rw [hb] at ht; cases ht
    | true =>
      rw [hb, cond_true] at ht
      split at ht
      · rename_i ys hy
        cases ht
        have hgr : getRow (denH T.toTT0 h) k = some ⟨s, xs.map (denL T.toTT0 [])⟩ := by rw [getT_row, hr]; rfl
        have hrow : denR T.toTT0 (.typ m t ys) = ⟨s, xs.map (denL T.toTT0 [])⟩ := by simp only [denR, unL_ok _ _ hy, Nat.eq_of_beq_eq_true hb]
        have hh : denH T.toTT0 ((k, .typ m t ys) :: delT h k) = (k, ⟨s, (xs.map (denL T.toTT0 [])).map (fixA (fun _ => none) 0)⟩) :: delRow (denH T.toTT0 h) k := by
          rw [none_fix]; simp only [denH, hrow, delT_row]
        have h1 := Ghost.fix (P := P) (pro := pro) (e := denE T.toTT0 (denH T.toTT0 h) e) (fun _ => none) (fun _ _ h => (by cases h)) hgr
        unfold Gh
        rw [hh]
        refine h1.trans (Ghost.le fun u => ?_)
        have hkill : fixBad (fun _ => none) k = fun _ _ => false := by
          funext k' q
          unfold fixBad
          cases q <;> simp
        simp only [killE, hkill, nobad, denE]
        have hl : ∀ k' q, lenAt ((k, ⟨s, (xs.map (denL T.toTT0 [])).map (fixA (fun _ => none) 0)⟩) :: delRow (denH T.toTT0 h) k) k' q = lenAt (denH T.toTT0 h) k' q := fun k' q => by
          refine lenAt_congr ?_
          by_cases hk : k' = k
          · subst hk; rw [none_fix, hgr]; simp [getRow]
          · simp only [getRow]; rw [if_neg (fun e => hk e.symm), getRow_del hk]
        have := kill_eq (T := T) (bad := fun _ _ => false) (fun k' q _ => hl k' q) (getE e u)
        rw [nobad] at this
        have hid : killT (fun _ _ => false) (fun _ _ => false) (getE e u) = getE e u := killT_id _
        rw [this, hid]
        exact AVle.refl _
      · cases ht
  · cases ht; exact Ghost.rfl'
  · cases ht
def keyOf (bm : List (Nat × Nat)) (c : Nat) : Nat := match look bm c with | some k => k | none => c
def rowsT : List (Nat × RD) → TE T.toTT0 → TH T.toTT0 → List (Nat × Nat) → Option (TE T.toTT0 × TH T.toTT0)
  | [], e, h, _ => some (e, h)
  | (c, .any) :: l, e, h, b => rowsT l e h b
  | (c, .fix ks) :: l, e, h, b => match fix1T e h (keyOf b c) ks with | some (e, h) => rowsT l e h b | none => none
  | (c, .typ m t) :: l, e, h, b => match fix1T e h (keyOf b c) (T.ks m t) with
    | some (e, h) => match typ1T h (keyOf b c) m t with | some h => rowsT l e h b | none => none
    | none => none
theorem rowsT_ok : ∀ (l : List (Nat × RD)) (e e1 : TE T.toTT0) (h h1 : TH T.toTT0) (b : List (Nat × Nat)), rowsT l e h b = some (e1, h1) → Gh P pro T e h e1 h1
  | [], _, _, _, _, _, hg => by cases hg; exact Ghost.rfl'
  | (c, .any) :: l, e, e1, h, h1, b, hg => rowsT_ok l e e1 h h1 b hg
  | (c, .fix ks) :: l, e, e1, h, h1, b, hg => by
    simp only [rowsT] at hg
    split at hg
    · rename_i e2 h2 hf
      exact Ghost.trans (fix1T_ok hf) (rowsT_ok l _ _ _ _ b hg)
    · cases hg
  | (c, .typ m t) :: l, e, e1, h, h1, b, hg => by
    simp only [rowsT] at hg
    split at hg
    · rename_i e2 h2 hf
      split at hg
      · rename_i h3 ht
        exact Ghost.trans (fix1T_ok hf) (Ghost.trans (typ1T_ok ht) (rowsT_ok l _ _ _ _ b hg))
      · cases hg
    · cases hg
def normT (pro : List Nat) (bm : List (Nat × Nat)) (S : List Nat) (e : TE T.toTT0) (h : TH T.toTT0) : Option (EH T) :=
  bif nodupB (bm.map Prod.fst) && nodupB (bm.map Prod.snd) && pro.all (fun k => look bm k == some k) then
    match splitT h bm with
    | some (hs, _) => some (S.map fun t => (t, match backT bm (getE e t) with | some v => v | none => .un), hs)
    | none => none
  else none
theorem normT_ok {bm : List (Nat × Nat)} {S : List Nat} {e : TE T.toTT0} {h : TH T.toTT0} {eh : EH T} (hn : normT pro bm S e h = some eh) : Gh P pro T e h eh.1 eh.2 := by
  unfold normT at hn
  cases hb : (nodupB (bm.map Prod.fst) && nodupB (bm.map Prod.snd) && pro.all (fun k => look bm k == some k)) with
  | false => rw [hb] at hn; cases hn
  | true =>
    rw [hb, cond_true] at hn
    simp only [Bool.and_eq_true] at hb
    split at hn
    · rename_i hs rest hsp
      cases hn
      obtain ⟨s1, s2, s3⟩ := splitT_ok bm h hs rest hsp
      have hkeys := splitH_keys _ _ _ _ s1
      have hno : normE pro bm S (denE T.toTT0 (denH T.toTT0 h) e) (denH T.toTT0 h) = some (envOf (S.map fun t => (t, backU bm (denE T.toTT0 (denH T.toTT0 h) e t))), denH T.toTT0 hs) := by
        unfold normE
        rw [s1]
        simp only
        rw [if_pos (by simp only [Bool.and_eq_true]; exact ⟨hb.1.1, hb.2⟩)]
      refine Ghost.trans (Ghost.norm hno) (Ghost.le fun t => ?_)
      have hbl : ∀ k n q, lookRev bm k = some n → lenAt (denH T.toTT0 hs) n q = lenAt (denH T.toTT0 h) k q := fun k n q hkn => by
        have := s3 n k hb.1.1 hb.1.2 (lookRev_pair bm hkn)
        unfold lenAt res
        rw [this]
      have hv : ∀ t, AVle (backU bm (denE T.toTT0 (denH T.toTT0 h) e t)) (den T.toTT0 (denH T.toTT0 hs) (match backT bm (getE e t) with | some v => v | none => .un)) := fun t => by
        split
        · rename_i v hv
          have := backT_ok (T := T) hbl _ _ hv
          unfold backU
          simp only [denE, this]
          exact AVle.refl _
        · exact AVle.un _
      clear hno
      induction S with
      | nil => exact AVle.refl _
      | cons s S ih =>
        simp only [List.map_cons, envOf]
        rw [show denE T.toTT0 (denH T.toTT0 hs) ((s, match backT bm (getE e s) with | some v => v | none => .un) :: S.map fun t => (t, match backT bm (getE e t) with | some v => v | none => .un)) = upd (denE T.toTT0 (denH T.toTT0 hs) (S.map fun t => (t, match backT bm (getE e t) with | some v => v | none => .un))) s (den T.toTT0 (denH T.toTT0 hs) (match backT bm (getE e s) with | some v => v | none => .un)) from denE_put]
        unfold upd
        split
        · exact hv s
        · exact ih
    · cases hn
def cnv (pro : List Nat) (D : Dr) (e : TE T.toTT0) (h : TH T.toTT0) : Rs (EH T) :=
  (slotsT pro D.S e h []).bind fun (e, h, b) =>
    match rowsT D.R e h b with
    | some (e, h) => match normT pro (D.R.map fun x => (x.1, keyOf b x.1)) (D.S.map Prod.fst) e h with
      | some eh => .ok eh
      | none => .no
    | none => .no
theorem cnv_ok {D : Dr} {e : TE T.toTT0} {h : TH T.toTT0} {eh : EH T} (hg : (cnv pro D e h).gives eh) : Gh P pro T e h eh.1 eh.2 := by
  obtain ⟨⟨e1, h1, b⟩, q1, q2⟩ := Rs.bind_gives _ hg
  dsimp only at q2
  split at q2
  · rename_i e2 h2 hr
    split at q2
    · rename_i eh' hn
      cases q2
      exact Ghost.trans (slotsT_ok _ _ _ _ _ _ _ q1) (Ghost.trans (rowsT_ok _ _ _ _ _ _ hr) (normT_ok hn))
    · exact q2.elim
  · exact q2.elim
end
end Loom
set_option linter.unusedVariables false
set_option linter.unusedSimpArgs false
namespace Loom
open Go
inductive An (P : Program) (T : TT) (pro : List Nat) : Type 1 where
  | no
  | two (a b : An P T pro)
  | join (S : Type) (enc : S → EH T) (D : Dr) (a b : An P T pro)
  | loop (V : Type) (c : V → LCon P T pro) (ret : Bool) (D : Dr)
section
variable {P : Program} {T : TT} {pro : List Nat}
def An.l : An P T pro → An P T pro
  | .two a _ => a
  | _ => .no
def An.r : An P T pro → An P T pro
  | .two _ b => b
  | _ => .no
def joinK {L : Type} (pro : List Nat) (D : Dr) (K : Out → TE T.toTT0 → TH T.toTT0 → Raw P T pro L) : Out → TE T.toTT0 → TH T.toTT0 → Raw P T pro (EH T ⊕ L)
  | .normal, e, h => Raw.ofRs (fun eh => .leaf (.inl eh)) (cnv pro D e h)
  | o, e, h => (K o e h).map .inr
def seqK {L : Type} (A : TE T.toTT0 → TH T.toTT0 → Raw P T pro L) (K : Out → TE T.toTT0 → TH T.toTT0 → Raw P T pro L) : Out → TE T.toTT0 → TH T.toTT0 → Raw P T pro L
  | .normal => A
  | o => K o
def blockK {L : Type} (id : Nat) (K : Out → TE T.toTT0 → TH T.toTT0 → Raw P T pro L) : Out → TE T.toTT0 → TH T.toTT0 → Raw P T pro L
  | .exit id' => bif Nat.beq id' id then K .normal else K (.exit id')
  | o => K o
def knowB (e : TE T.toTT0) (c : Operand) (b : Bool) : TE T.toTT0 := match c with | .tmp s => putE e s (.bk b) | _ => e
def evC (cx : Cx P T) : IC → An P T pro → {L : Type} → TE T.toTT0 → TH T.toTT0 → (Out → TE T.toTT0 → TH T.toTT0 → Raw P T pro L) → Raw P T pro L
  | .reg keep l, _, _, e, h, K => evR pro cx l e h fun e h => K .normal (keepT keep e) h
  | .draw keep pre tail, _, _, e, h, K => evDraw pro cx keep pre tail e h (K .normal)
  | .skip, _, _, e, h, K => K .normal e h
  | .ret, _, _, e, h, K => K .ret e h
  | .exit id, _, _, e, h, K => K (.exit id) e h
  | .seq x y, an, _, e, h, K =>
    match an with
    | .join S enc D a b => .join enc (evC cx x a e h (joinK pro D K)) fun s => evC cx y b (enc s).1 (enc s).2 K
    | an => evC cx x an.l e h (seqK (fun e h => evC cx y an.r e h K) K)
  | .cond c x y, an, _, e, h, K =>
    match evT e c with
    | .bk true => evC cx x an.l e h K
    | .bk false => evC cx y an.r e h K
    | .sc (.bool b) => .ite b (evC cx x an.l (knowB e c true) h K) (evC cx y an.r (knowB e c false) h K)
    | _ => .no
  | .block id x, an, _, e, h, K => evC cx x an.l e h (blockK id K)
  | .loop x, an, _, e, h, K =>
    match an with
    | .loop _ c ret D => Raw.ofRs (fun eh => bif ret then .loopR c x eh (fun v y => K (.exit (c v).id) ((c v).encY y).1 ((c v).encY y).2) (fun v z => K .ret ((c v).encZ z).1 ((c v).encZ z).2)
        else .loop c x eh (fun v y => K (.exit (c v).id) ((c v).encY y).1 ((c v).encY y).2)) (cnv pro D e h)
    | _ => .no
theorem knowB_ok {e : TE T.toTT0} {H0 : H} {c : Operand} {b : Bool} (hc : evT e c = .sc (.bool b)) : denE T.toTT0 H0 (knowB e c b) = denE T.toTT0 H0 e := by
  cases c with
  | tmp s => exact put_known hc
  | _ => rfl
theorem evC_ok {cx : Cx P T} : ∀ (c : IC) (an : An P T pro) {L : Type} (e : TE T.toTT0) (h : TH T.toTT0) (K : Out → TE T.toTT0 → TH T.toTT0 → Raw P T pro L) (Q : L → Prop), Sat (evC cx c an e h K) Q →
    W P pro c (fun o E H0 => KP (K o) Q E H0) (denE T.toTT0 (denH T.toTT0 h) e) (denH T.toTT0 h)
  | .reg keep l, _, _, e, h, K, Q, hs => by
    obtain ⟨E, H', r, e2, h2, rfl, rfl, hK⟩ := evR_ok l e h hs
    exact W.regG ⟨_, _, r, _, _, (keepT_den keep e2).symm, rfl, hK⟩
  | .draw keep pre tail, _, _, e, h, K, Q, hs => evDraw_ok (Q' := fun o E H0 => KP (K o) Q E H0) (fun E H0 hk => hk) hs
  | .skip, _, _, e, h, K, Q, hs => W.skip ⟨e, h, rfl, rfl, hs⟩
  | .ret, _, _, e, h, K, Q, hs => W.ret ⟨e, h, rfl, rfl, hs⟩
  | .exit id, _, _, e, h, K, Q, hs => W.exit ⟨e, h, rfl, rfl, hs⟩
  | .seq x y, an, L, e, h, K, Q, hs => by
    have plain : ∀ (a b : An P T pro), Sat (evC cx x a e h (seqK (fun e h => evC cx y b e h K) K)) Q → W P pro (.seq x y) (fun o E H0 => KP (K o) Q E H0) (denE T.toTT0 (denH T.toTT0 h) e) (denH T.toTT0 h) := fun a b hs => by
      refine W.seq (W.mono (evC_ok x a e h _ Q hs) fun o E H0 hk => ?_)
      cases o with
      | normal =>
        obtain ⟨e1, h1, rfl, rfl, hK⟩ := hk
        exact evC_ok y b e1 h1 K Q hK
      | exit id => exact hk
      | ret => exact hk
    cases an with
    | join S enc D a b =>
      have ih := evC_ok x a e h _ _ hs
      refine W.seq (W.mono ih fun o E H0 hk => ?_)
      cases o with
      | normal =>
        obtain ⟨e1, h1, rfl, rfl, hK⟩ := hk
        obtain ⟨eh, q1, s, q2, q3⟩ := Sat.ofRs _ hK
        subst q2
        exact W.ghost (cnv_ok q1) (evC_ok y b _ _ K Q q3)
      | exit id =>
        obtain ⟨e1, h1, rfl, rfl, hK⟩ := hk
        exact ⟨e1, h1, rfl, rfl, Sat.map (L := L) (L' := EH T ⊕ L) Sum.inr (K _ e1 h1) _ hK⟩
      | ret =>
        obtain ⟨e1, h1, rfl, rfl, hK⟩ := hk
        exact ⟨e1, h1, rfl, rfl, Sat.map (L := L) (L' := EH T ⊕ L) Sum.inr (K _ e1 h1) _ hK⟩
    | no => exact plain _ _ hs
    | two a b => exact plain _ _ hs
    | loop V c ret D => exact plain _ _ hs
  | .cond c x y, an, _, e, h, K, Q, hs => by
    simp only [evC] at hs
    split at hs
    · rename_i hv
      exact W.condT (by rw [evT_den, hv]; rfl) (evC_ok x an.l e h K Q hs)
    · rename_i hv
      exact W.condF (by rw [evT_den, hv]; rfl) (evC_ok y an.r e h K Q hs)
    · rename_i b hv
      refine W.cond (b := b) (by rw [evT_den, hv]; rfl) (fun hb => ?_) (fun hb => ?_)
      · subst hb
        have := evC_ok x an.l _ h K Q (hs.1 rfl)
        rwa [knowB_ok hv] at this
      · subst hb
        have := evC_ok y an.r _ h K Q (hs.2 rfl)
        rwa [knowB_ok hv] at this
    · exact hs.elim
  | .block id x, an, _, e, h, K, Q, hs => by
    refine W.block (W.mono (evC_ok x an.l e h _ Q hs) fun o E H0 hk => ?_)
    cases o with
    | normal => exact hk
    | ret => exact hk
    | exit id' =>
      simp only [inBlockQ]
      simp only [blockK, beq_eq] at hk
      split
      · rename_i e; simpa [e] using hk
      · rename_i e; simpa [e] using hk
  | .loop x, an, _, e, h, K, Q, hs => by
    cases an with
    | loop V c ret D =>
      obtain ⟨eh, q1, q2⟩ := Sat.ofRs _ hs
      refine W.ghost (cnv_ok q1) ?_
      cases ret with
      | true =>
        obtain ⟨v, hb, x', b, q3, q4, q5⟩ := q2
        subst hb q3
        refine W.mono ((c v).ok x' b q4) fun o E H0 hk => ?_
        cases b with
        | go _ => exact hk.elim
        | out y =>
          obtain ⟨rfl, rfl, rfl⟩ := hk
          exact ⟨_, _, rfl, rfl, q5⟩
        | ret z =>
          obtain ⟨_, rfl, rfl, rfl⟩ := hk
          exact ⟨_, _, rfl, rfl, q5⟩
      | false =>
        obtain ⟨v, hb, x', y, q3, _, q4, q5⟩ := q2
        subst hb q3
        refine W.mono ((c v).ok x' _ q4) fun o E H0 hk => ?_
        obtain ⟨rfl, rfl, rfl⟩ := hk
        exact ⟨_, _, rfl, rfl, q5⟩
    | no => exact hs.elim
    | two _ _ => exact hs.elim
    | join _ _ _ _ _ => exact hs.elim
def loopK (pro : List Nat) (id : Nat) (DX DY DZ : Dr) : Out → TE T.toTT0 → TH T.toTT0 → Raw P T pro (Bo (EH T) (EH T) (EH T))
  | .normal, e, h => Raw.ofRs (fun eh => .leaf (.go eh)) (cnv pro DX e h)
  | .exit id', e, h => bif Nat.beq id' id then Raw.ofRs (fun eh => .leaf (.out eh)) (cnv pro DY e h) else .no
  | .ret, e, h => Raw.ofRs (fun eh => .leaf (.ret eh)) (cnv pro DZ e h)
def encB {X Y Z E : Type} (a : X → E) (b : Y → E) (c : Z → E) : Bo X Y Z → Bo E E E
  | .go x => .go (a x)
  | .out y => .out (b y)
  | .ret z => .ret (c z)
def lcon {X Y Z : Type} (cx : Cx P T) (x : IC) (an : X → An P T pro) (id : Nat) (ret : Bool) (DX DY DZ : Dr) (encX : X → EH T) (encY : Y → EH T) (encZ : Z → EH T) (n : Nat) (t : X → Pt P T pro (Bo X Y Z)) (hret : ret = false → Z → False)
    (ht : ∀ s, evC cx x (an s) (encX s).1 (encX s).2 (loopK pro id DX DY DZ) = (t s).raw (encB encX encY encZ)) : LCon P T pro where
  body := x
  X := X
  Y := Y
  Z := Z
  encX := encX
  encY := encY
  encZ := encZ
  id := id
  ret := ret
  G := iter (fun s => (t s).run) n
  ok := by
    have round : ∀ s b, (t s).run = some b → W P pro x (fun o E H0 => ∃ e h, Gh P pro T e h (match encB encX encY encZ b with | .go eh => eh | .out eh => eh | .ret eh => eh).1 (match encB encX encY encZ b with | .go eh => eh | .out eh => eh | .ret eh => eh).2 ∧ E = denE T.toTT0 (denH T.toTT0 h) e ∧ H0 = denH T.toTT0 h ∧
        (match b with | .go _ => o = .normal | .out _ => o = .exit id | .ret _ => o = .ret)) (denE T.toTT0 (denH T.toTT0 (encX s).2) (encX s).1) (denH T.toTT0 (encX s).2) := by
      intro s b hb
      have h1 := run_sat (encB encX encY encZ) (t s) b hb
      rw [← ht s] at h1
      refine W.mono (evC_ok x (an s) _ _ _ _ h1) fun o E H0 hk => ?_
      obtain ⟨e, h, rfl, rfl, hK⟩ := hk
      refine ⟨e, h, ?_⟩
      cases o with
      | normal =>
        obtain ⟨eh, q1, q2⟩ := Sat.ofRs _ hK
        cases b <;> cases q2
        exact ⟨cnv_ok q1, rfl, rfl, rfl⟩
      | exit id' =>
        simp only [loopK, beq_eq] at hK
        by_cases hid : id' = id
        · subst hid
          simp only [decide_true, cond_true] at hK
          obtain ⟨eh, q1, q2⟩ := Sat.ofRs _ hK
          cases b <;> cases q2
          exact ⟨cnv_ok q1, rfl, rfl, rfl⟩
        · simp only [hid, decide_false, cond_false] at hK
          exact hK.elim
      | ret =>
        obtain ⟨eh, q1, q2⟩ := Sat.ofRs _ hK
        cases b <;> cases q2
        exact ⟨cnv_ok q1, rfl, rfl, rfl⟩
    intro s
    induction n generalizing s with
    | zero => intro b hb; cases hb
    | succ k ih =>
      intro b hb
      unfold iter at hb
      split at hb
      · rename_i s' hs
        refine W.loop (W.mono (round s _ hs) fun o E H0 hq => ?_)
        obtain ⟨e, h, g, rfl, rfl, rfl⟩ := hq
        exact W.ghost g (ih s' b hb)
      · rename_i hne
        have hr := round s _ hb
        cases b with
        | go s' => exact absurd hb (hne s')
        | out y =>
          obtain ⟨o, E, H0, hex, e, h, g, rfl, rfl, rfl⟩ := hr
          exact ⟨_, _, _, .loopX (by simp) (.after hex g), rfl, rfl, rfl⟩
        | ret z =>
          obtain ⟨o, E, H0, hex, e, h, g, rfl, rfl, rfl⟩ := hr
          refine ⟨_, _, _, .loopX (by simp) (.after hex g), ?_, rfl, rfl, rfl⟩
          cases hret' : ret with
          | true => rfl
          | false => exact (hret hret' z).elim
end
end Loom
set_option linter.unusedVariables false
set_option linter.unusedSimpArgs false
namespace Loom
open Go
def fnC (P : Program) (f : Nat) (ks : List (List Nat)) : IC :=
  match P.funcs[f]? with
  | some fn => match fn.body with
    | some code => match compC P fn.ntmps code ks with | some (c, _) => c | none => .skip
    | none => .skip
  | none => .skip
def fnTs (P : Program) (f : Nat) : List RS :=
  match P.funcs[f]? with
  | some fn => match resSlots P fn.results.toList with | some ts => ts | none => []
  | none => []
def fnN (P : Program) (f : Nat) : Nat := match P.funcs[f]? with | some fn => fn.ntmps | none => 0
def fnOkB (P : Program) (f : Nat) (ks : List (List Nat)) : Bool :=
  match P.funcs[f]? with
  | some fn => match fn.body with
    | some code => (compC P fn.ntmps code ks).isSome && (resSlots P fn.results.toList).isSome
    | none => false
  | none => false
theorem fnIs_of {P : Program} {f : Nat} {ks : List (List Nat)} (h : fnOkB P f ks = true) : FnIs P f (fnN P f) (fnC P f ks) (fnTs P f) := by
  unfold fnOkB at h
  split at h
  · rename_i fn hfn
    split at h
    · rename_i code hc
      simp only [Bool.and_eq_true, Option.isSome_iff_exists] at h
      obtain ⟨⟨⟨c, ks'⟩, h1⟩, ⟨ts, h2⟩⟩ := h
      refine ⟨fn, code, hfn, hc, ?_, ?_, ks, ks', ?_⟩
      · simp [fnN, hfn]
      · simp [fnTs, hfn, h2]
      · have : fnC P f ks = c := by simp [fnC, hfn, hc, h1]
        rw [this]
        simp only [fnN, hfn]
        exact h1
    · cases h
  · cases h
def subC : List Nat → IC → IC
  | [], c => c
  | 0 :: p, .seq x _ => subC p x
  | 0 :: p, .cond _ x _ => subC p x
  | 0 :: p, .block _ x => subC p x
  | 0 :: p, .loop x => subC p x
  | _ :: p, .seq _ y => subC p y
  | _ :: p, .cond _ _ y => subC p y
  | _, c => c
section
variable {P : Program} {T : TT} {pro : List Nat}
def argT : Nat → List (VT T) → TE T.toTT0
  | _, [] => []
  | n, x :: l => (n, x) :: argT (n + 1) l
theorem argT_den {H0 : H} : ∀ (l : List (VT T)) (n : Nat), denE T.toTT0 H0 (argT n l) = argE n (denL T.toTT0 H0 l)
  | [], _ => rfl
  | x :: l, n => by
    simp only [argT, denL, argE, ← argT_den l (n + 1)]
    exact denE_put (e := argT (n + 1) l)
def finK (pro : List Nat) (D : Dr) : Out → TE T.toTT0 → TH T.toTT0 → Raw P T pro (EH T)
  | .exit _, _, _ => .no
  | _, e, h => Raw.ofRs .leaf (cnv pro D e h)
def rsT (e : TE T.toTT0) (h : TH T.toTT0) : RS → Option (VT T)
  | .t s => some (getE e s)
  | .c s agg n =>
    match getE e s with
    | .pt k [] i c => match getT h k with
      | some (.lit _ xs) => match xs[i]? with
        | some cs => match loadC agg n k [] i c cs with | .ok v => some v | _ => none
        | none => none
      | _ => none
    | _ => none
def rsTs (e : TE T.toTT0) (h : TH T.toTT0) : List RS → Option (List (VT T))
  | [] => some []
  | r :: l => match rsT e h r, rsTs e h l with | some x, some xs => some (x :: xs) | _, _ => none
def retT (ts : List RS) (keys : List Nat) (eh : EH T) : Option (VT T × TH T.toTT0) :=
  match rsTs eh.1 eh.2 ts, splitT eh.2 (keys.map fun k => (k, k)) with
  | some l, some (ho, _) => match backT (keys.map fun k => (k, k)) (match l with | [x] => x | l => .tu l) with
    | some r => bif nodupB keys then some (r, ho) else none
    | none => none
  | _, _ => none
theorem rsT_ok {e : TE T.toTT0} {h : TH T.toTT0} {r : RS} {v : VT T} (hr : rsT e h r = some v) : rsAV (denE T.toTT0 (denH T.toTT0 h) e) (denH T.toTT0 h) r = some (den T.toTT0 (denH T.toTT0 h) v) := by
  cases r with
  | t s => cases hr; rfl
  | c s agg n =>
    simp only [rsT] at hr
    split at hr
    · rename_i k i c hp
      split at hr
      · rename_i s' xs hg
        split at hr
        · rename_i cs hcs
          split at hr
          · rename_i w hl
            cases hr
            have hgr : getRow (denH T.toTT0 h) k = some ⟨s', xs.map (denL T.toTT0 [])⟩ := by rw [getT_row, hg]; rfl
            have hres : res (denH T.toTT0 h) k [] = some (s', xs.map (denL T.toTT0 [])) := by unfold res; rw [hgr]; rfl
            have := loadC_ok (T := T) (agg := agg) (n := n) (k := k) (i := i) (c := c) (p := []) (cs := cs) (v := v) hres (by simp [hcs]) (by rw [hl]; exact rfl)
            simp only [rsAV, rdop, ev, denE, hp, den, hres]
            exact this
          · cases hr
        · cases hr
      · cases hr
    · cases hr
theorem rsTs_ok {e : TE T.toTT0} {h : TH T.toTT0} : ∀ (ts : List RS) (l : List (VT T)), rsTs e h ts = some l → rsAVs (denE T.toTT0 (denH T.toTT0 h) e) (denH T.toTT0 h) ts = some (denL T.toTT0 (denH T.toTT0 h) l)
  | [], _, h => by cases h; rfl
  | r :: ts, l, hr => by
    simp only [rsTs] at hr
    split at hr
    · rename_i x xs h1 h2
      cases hr
      simp only [rsAVs, rsT_ok h1, rsTs_ok ts xs h2, denL]
    · cases hr
theorem look_id : ∀ (ks : List Nat) (k : Nat), k ∈ ks → look (ks.map fun k => (k, k)) k = some k
  | [], _, h => by cases h
  | k' :: ks, k, h => by
    simp only [List.map_cons, look]
    split
    · rename_i e; rw [e]
    · rename_i hne
      refine look_id ks k ?_
      rcases List.mem_cons.1 h with h | h
      · exact absurd h.symm hne
      · exact h
theorem lookRev_id : ∀ (ks : List Nat) (k n : Nat), lookRev (ks.map fun k => (k, k)) k = some n → n = k ∧ k ∈ ks
  | [], _, _, h => by cases h
  | k' :: ks, k, n, h => by
    simp only [List.map_cons, lookRev] at h
    split at h
    · rename_i e; cases h; exact ⟨e, by simp [e]⟩
    · obtain ⟨q1, q2⟩ := lookRev_id ks k n h
      exact ⟨q1, List.mem_cons_of_mem _ q2⟩
theorem retT_ok {ts : List RS} {keys : List Nat} {eh : EH T} {r : VT T} {ho hin : TH T.toTT0} (hr : retT ts keys eh = some (r, ho)) (hin' : (hin.map Prod.fst).all (fun k => keys.contains k) = true) {o : Out} (hno : ∀ id, o ≠ .exit id) :
    Ends ts (denH T.toTT0 hin) (den T.toTT0 (denH T.toTT0 ho) r) (denH T.toTT0 ho) o (denE T.toTT0 (denH T.toTT0 eh.2) eh.1) (denH T.toTT0 eh.2) := by
  unfold retT at hr
  split at hr
  · rename_i l ho' left h1 h2
    split at hr
    · rename_i r' hb
      cases hn : nodupB keys with
      | false => rw [hn] at hr; cases hr
      | true =>
        rw [hn] at hr
        cases hr
        obtain ⟨s1, s2, s3⟩ := splitT_ok _ _ _ _ h2
        have hk1 : (keys.map fun k => (k, k)).map Prod.fst = keys := by rw [List.map_map]; exact List.map_id' _
        have hk2 : (keys.map fun k => (k, k)).map Prod.snd = keys := by rw [List.map_map]; exact List.map_id' _
        refine ⟨by cases o <;> first | trivial | exact absurd rfl (hno _), keys.map fun k => (k, k), _, denH T.toTT0 left, ?_, s1, by rw [hk1]; exact hn, backT_ok (Ho := denH T.toTT0 eh.2) (fun k n q hkn => ?_) _ _ hb, ?_⟩
        · unfold resAV
          rw [rsTs_ok _ _ h1]
          cases l with
          | nil => rfl
          | cons x l => cases l <;> rfl
        · obtain ⟨e1, hk⟩ := lookRev_id keys k n hkn
          subst e1
          have := s3 n n (by rw [hk1]; exact hn) (by rw [hk2]; exact hn) (List.mem_map.2 ⟨n, hk, rfl⟩)
          unfold lenAt res
          rw [this]
        · rw [denH_keys, List.all_eq_true]
          intro k hk
          have := List.all_eq_true.1 hin' k hk
          rw [look_id keys k (by simpa using this)]
          simp
    · cases hr
  · cases hr
def conOf {X R : Type} (cx : Cx P T) (f : Nat) (ks : List (List Nat)) (hf : fnOkB P f ks = true) (an : X → An P T pro) (A : List VD) (Hd : List (Nat × List Kd)) (Nk : List Nat) (D : Dr) (keys : List Nat) (strong : Bool)
    (encA : X → List (VT T)) (encH : X → TH T.toTT0) (encE : R → EH T) (encR : R → VT T) (encO : R → TH T.toTT0) (t : X → Pt P T pro R)
    (ht : ∀ x, evC cx (fnC P f ks) (an x) (argT 0 (encA x)) (encH x) (finK pro D) = (t x).raw encE)
    (hp : ∀ x, (encH x).map Prod.fst = pro) (hk : pro.all (fun k => keys.contains k) = true)
    (hr : ∀ y, retT (fnTs P f) keys (encE y) = some (encR y, encO y))
    (hs : strong = true → ∀ y, (noImT (encR y) && noImHT (encO y)) = true) : Con P T where
  f := f
  X := X
  Y := R
  A := A
  H := Hd
  N := Nk
  encA := encA
  encH := encH
  G := fun x => (t x).run
  encR := encR
  encO := encO
  strong := strong
  ok := fun x y hx => by
    have h1 := run_sat encE (t x) y hx
    rw [← ht x] at h1
    have h2 := evC_ok _ (an x) _ _ _ _ h1
    rw [argT_den] at h2
    have hG : CallG P f (denL T.toTT0 (denH T.toTT0 (encH x)) (encA x)) (denH T.toTT0 (encH x)) (den T.toTT0 (denH T.toTT0 (encO y)) (encR y)) (denH T.toTT0 (encO y)) := by
      refine .of_E (fnIs_of hf) ?_
      rw [denH_keys, hp x]
      obtain ⟨o, E, H0, hex, e, h, rfl, rfl, hK⟩ := h2
      cases o with
      | exit id => exact hK.elim
      | normal =>
        obtain ⟨eh, q1, q2⟩ := Sat.ofRs _ hK
        cases q2
        exact ⟨_, _, _, .after hex (cnv_ok q1), retT_ok (hr y) (by rw [hp x]; exact hk) (by simp)⟩
      | ret =>
        obtain ⟨eh, q1, q2⟩ := Sat.ofRs _ hK
        cases q2
        exact ⟨_, _, _, .after hex (cnv_ok q1), retT_ok (hr y) (by rw [hp x]; exact hk) (by simp)⟩
    refine ⟨fun hst => ?_, hG⟩
    have := hs hst y
    simp only [Bool.and_eq_true] at this
    exact CallG.narrow hG (noImT_ok _ this.1) (noImHT_ok _ this.2)
end
section
variable {El : Nat → Type} {T : TT0}
def gI (k : IntKind) : TV El → Option Int
  | .sc (.int k' n) => if k' = k then some n else none
  | .ik k' n => if k' = k then some n else none
  | _ => none
def gB : TV El → Option Bool
  | .sc (.bool b) => some b
  | .bk b => some b
  | _ => none
def gS : TV El → Option ByteArray
  | .sc (.string b) => some b
  | _ => none
def gM (t : Nat) : TV El → Option (List (El t))
  | .im t' xs => if h : t' = t then some (h ▸ xs) else none
  | _ => none
def gO (m : Bool) (t : Nat) : TV El → Option (List (El t))
  | .ow m' t' xs => if h : t' = t then (bif m == m' then some (h ▸ xs) else none) else none
  | _ => none
theorem gI_ok {k : IntKind} {v : TV T.El} {n : Int} {h : H} (hv : gI k v = some n) : den T h v = .sc (.int k n) := by
  unfold gI at hv
  split at hv
  · split at hv
    · rename_i hk; cases hv; subst hk; rfl
    · cases hv
  · split at hv
    · rename_i hk; cases hv; subst hk; rfl
    · cases hv
  · cases hv
theorem gB_ok {v : TV T.El} {b : Bool} {h : H} (hv : gB v = some b) : den T h v = .sc (.bool b) := by
  unfold gB at hv
  split at hv
  · cases hv; rfl
  · cases hv; rfl
  · cases hv
theorem gS_ok {v : TV T.El} {b : ByteArray} {h : H} (hv : gS v = some b) : den T h v = .sc (.string b) := by
  unfold gS at hv
  split at hv
  · cases hv; rfl
  · cases hv
theorem gM_ok {t : Nat} {v : TV T.El} {xs : List (T.El t)} {h : H} (hv : gM t v = some xs) : den T h v = .im (T.sz t) (xs.map (T.ca false t)) := by
  unfold gM at hv
  split at hv
  · split at hv
    · rename_i hk; subst hk; cases hv; rfl
    · cases hv
  · cases hv
theorem gO_ok {m : Bool} {t : Nat} {v : TV T.El} {xs : List (T.El t)} {h : H} (hv : gO m t v = some xs) : den T h v = .ow (T.sz t) (xs.map (T.ca m t)) := by
  unfold gO at hv
  split at hv
  · split at hv
    · rename_i m' _ _ hk
      subst hk
      cases hm : m == m' with
      | false => rw [hm] at hv; cases hv
      | true =>
        rw [hm] at hv
        cases hv
        have : m = m' := by simpa using hm
        subst this; rfl
    · cases hv
  · cases hv
theorem nz_all {l : List AV} (h : l.all (fun a => !isZ a) = true) : ∀ a ∈ l, isZ a = false := fun a ha => by
  have := List.all_eq_true.1 h a ha
  simpa using this
end
end Loom
