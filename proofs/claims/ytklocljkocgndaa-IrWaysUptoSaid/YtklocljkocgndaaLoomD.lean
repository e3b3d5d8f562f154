/- Loom, an abstract machine over the kit's calculus: rows, reads, stores, calls, regions, what they owe; and its evaluator (part 4 of 4). -/
import Derived.Test.YtklocljkocgndaaLoomC
set_option linter.unusedVariables false
set_option linter.unusedSimpArgs false
set_option linter.unusedVariables false
set_option linter.unusedSimpArgs false
namespace Loom
open Go

section
variable {P : Program} {T : TT} {pro : List Nat}

/-! ### nothing in the cells of a row, seen as empty rows -/
def kdSome : Kd → Bool
  | .no => false
  | _ => true
def kdAt (ks : List Kd) (c : Nat) : Bool := match ks[c]? with | some k => kdSome k | none => false
def fixBadT (ks : List Kd) (k : Nat) (k' : Nat) (q : Path) : Bool := Nat.beq k' k && match q with | (_, c) :: _ => kdAt ks c | [] => false
theorem fixBadT_eq (ks : List Kd) (k : Nat) : fixBad (tgOf T ks) k = fixBadT ks k := by
  funext k' q
  unfold fixBad fixBadT
  have : (k' == k) = Nat.beq k' k := by rw [Bool.eq_iff_iff]; simp
  rw [this]
  congr 1
  cases q with
  | nil => rfl
  | cons x q =>
    obtain ⟨i, c⟩ := x
    simp only [tgOf, kdAt]
    cases ks[c]? with
    | none => rfl
    | some kd => cases kd <;> rfl
/-- Is there something to be seen otherwise? -/
def needFix : List Kd → List (VT T) → Bool
  | k :: ks, v :: vs => (kdSome k && isZT v) || needFix ks vs
  | _, _ => false
def fix1T (e : TE T.toTT0) (h : TH T.toTT0) (k : Nat) (ks : List Kd) : Option (TE T.toTT0 × TH T.toTT0) :=
  match getT h k with
  | some (.lit s xs) => bif xs.any (needFix ks) then some (killTE (fixBadT ks k) (fun _ _ => false) e, (k, .lit s (xs.map (fixT ks))) :: delT h k) else some (e, h)
  | some _ => some (e, h)
  | none => none
theorem fix1T_ok {e e1 : TE T.toTT0} {h h1 : TH T.toTT0} {k : Nat} {ks : List Kd} (hf : fix1T e h k ks = some (e1, h1)) :
    Ghost P pro (denE T.toTT0 (denH T.toTT0 h) e) (denH T.toTT0 h) (denE T.toTT0 (denH T.toTT0 h1) e1) (denH T.toTT0 h1) := by
  unfold fix1T at hf
  split at hf
  · rename_i s xs hr
    cases hb : xs.any (needFix ks) with
    | false => rw [hb] at hf; cases hf; exact Ghost.rfl'
    | true =>
      rw [hb] at hf
      cases hf
      have hgr : getRow (denH T.toTT0 h) k = some ⟨s, xs.map (denL T.toTT0 [])⟩ := by rw [getT_row, hr]; rfl
      have hrow : (xs.map (fixT ks)).map (denL T.toTT0 []) = (xs.map (denL T.toTT0 [])).map (fixA (tgOf T ks) 0) := by
        rw [List.map_map, List.map_map]
        exact List.map_congr_left fun x _ => by simpa using fixT_ok (T := T) (h := []) ks x 0
      refine Ghost.trans (Ghost.fix (tgOf T ks) (tgOf_ok ks) hgr) ?_
      simp only [denH, denR_lit, hrow, ← delT_row]
      refine Ghost.le fun t => ?_
      simp only [killE, denE, getE_kill, fixBadT_eq]
      refine kill_le (fun _ _ h => h) (fun k' q _ _ => ?_) _
      by_cases hk : k' = k
      · subst hk
        rw [lenAt_row (r := ⟨s, (xs.map (denL T.toTT0 [])).map (fixA (tgOf T ks) 0)⟩) (by simp [getRow]), lenAt_row hgr]
        exact fix_lens (tgOf_ok ks) q
      · exact lenAt_congr (by simp only [getRow]; rw [if_neg (fun e => hk e.symm), getRow_del hk])
  · cases hf; exact Ghost.rfl'
  · cases hf
def fixsT (e : TE T.toTT0) (h : TH T.toTT0) : List (Nat × List Kd) → Option (TE T.toTT0 × TH T.toTT0)
  | [] => some (e, h)
  | (k, ks) :: l => match fix1T e h k ks with | some (e, h) => fixsT e h l | none => none
theorem fixsT_ok : ∀ (l : List (Nat × List Kd)) (e e1 : TE T.toTT0) (h h1 : TH T.toTT0), fixsT e h l = some (e1, h1) →
    Ghost P pro (denE T.toTT0 (denH T.toTT0 h) e) (denH T.toTT0 h) (denE T.toTT0 (denH T.toTT0 h1) e1) (denH T.toTT0 h1)
  | [], _, _, _, _, hf => by cases hf; exact Ghost.rfl'
  | (k, ks) :: l, e, e1, h, h1, hf => by
    unfold fixsT at hf
    split at hf
    · rename_i e2 h2 h3
      exact (fix1T_ok h3).trans (fixsT_ok l _ _ _ _ hf)
    · cases hf

/-! ### a call -/
def callArgs (P : Program) (e : TE T.toTT0) : IK → Option (Nat × List (VT T))
  | .call f l => some (f, l.map (evT e))
  | .callv x l => match evT e x with | .fn f caps => bif fnOk P f then some (f, l.map (evT e) ++ caps) else none | _ => none
  | _ => none
theorem callArgs_ok {e : TE T.toTT0} {H0 : H} {op : IK} {f d : Nat} {vs : List (VT T)} (ha : callArgs P e op = some (f, vs)) {e' : Env} {h' : H} (hc : CallBy P pro (denE T.toTT0 H0 e) H0 d f (denL T.toTT0 H0 vs) e' h') : IStep P pro (denE T.toTT0 H0 e) H0 d op e' h' := by
  unfold callArgs at ha
  split at ha
  · rename_i f l
    cases ha
    refine .call ?_
    rw [denL_map, List.map_map] at hc
    have : l.map (ev (denE T.toTT0 H0 e)) = l.map (den T.toTT0 H0 ∘ evT e) := List.map_congr_left fun x _ => evT_den x
    rw [this]; exact hc
  · rename_i x l
    split at ha
    · rename_i f caps hx
      cases hf : fnOk P f with
      | false => rw [hf] at ha; cases ha
      | true =>
        rw [hf] at ha
        cases ha
        refine .callv (f := f) (caps := denL T.toTT0 H0 caps) (by rw [evT_den, hx]; rfl) hf ?_
        have : l.map (ev (denE T.toTT0 H0 e)) ++ denL T.toTT0 H0 caps = denL T.toTT0 H0 (l.map (evT e) ++ caps) := by
          rw [denL_map, denL_map, List.map_append, List.map_map]
          congr 1
          exact List.map_congr_left fun x _ => evT_den x
        rw [this]; exact hc
    · cases ha
  · cases ha
/-- A contract that fits. -/
def findC (f : Nat) (args : List (VT T)) : List (Con P T) → Option (Con P T × List (Nat × Nat))
  | [] => none
  | C :: cs => bif Nat.beq C.f f then match vkeysL C.A args with | some m => some (C, m) | none => findC f args cs else findC f args cs
theorem findC_ok {f : Nat} {args : List (VT T)} {C : Con P T} {m : List (Nat × Nat)} : ∀ (cs : List (Con P T)), findC f args cs = some (C, m) → C.f = f
  | [], h => by cases h
  | C' :: cs, h => by
    unfold findC at h
    cases hb : Nat.beq C'.f f with
    | true =>
      rw [hb, cond_true] at h
      split at h
      · cases h; exact Nat.eq_of_beq_eq_true hb
      · exact findC_ok cs h
    | false =>
      rw [hb, cond_false] at h
      exact findC_ok cs h
/-- What is handed over. -/
structure Pre (T : TT) where
  m : List (Nat × Nat)
  args : List (VT T)
  hin : TH T.toTT0
  rest : TH T.toTT0
  bor : Bool
def preT (C : Con P T) (m : List (Nat × Nat)) (args : List (VT T)) (h : TH T.toTT0) : Rs (Pre T) :=
  bif nodupB (m.map Prod.fst) && nodupB (m.map Prod.snd) then
    match splitT h m with
    | none => .no
    | some (hin, rest) => (convTL rest m C.A args).bind fun args' => .ok ⟨m, args', hin, rest, hasSlL args⟩
  else .no
def newKeys (d : Nat) : List Nat → Nat → List (Nat × Nat)
  | [], _ => []
  | k :: ks, j => (1000000 + d * 100 + j, k) :: newKeys d ks (j + 1)
def bmOf (m : List (Nat × Nat)) (d : Nat) (N : List Nat) : List (Nat × Nat) := (m.map fun x => (x.2, x.1)) ++ (match N with | [k] => [(d, k)] | N => newKeys d N 0)
def badC (m bm : List (Nat × Nat)) (k : Nat) (q : Path) : Bool := (bm.map Prod.fst).contains k && !((m.map Prod.snd).contains k && q.isEmpty)
/-- What stands behind a call. -/
def postT (pro : List Nat) (p : Pre T) (N : List Nat) (e : TE T.toTT0) (d : Nat) (r : VT T) (ho : TH T.toTT0) : Option (TE T.toTT0 × TH T.toTT0) :=
  let bm := bmOf p.m d N
  bif nodupB (bm.map Prod.fst) && nodupB (bm.map Prod.snd) && okBack p.m bm && proOk pro p.m bm && (!p.bor || (noImT r && noImHT ho)) then
    match splitT ho bm, backT bm r with
    | some (hb, _), some v => some (putE (killTE (badC p.m bm) (fun k _ => (p.m.map Prod.snd).contains k) e) d v, hb ++ delKeysT p.rest (bm.map Prod.fst))
    | _, _ => none
  else none
theorem splitH_keys : ∀ (m : List (Nat × Nat)) (h hs rest : H), splitH h m = some (hs, rest) → hs.map Prod.fst = m.map Prod.fst
  | [], h, _, _, hh => by cases hh; rfl
  | (n, o) :: m, h, _, _, hh => by
    unfold splitH at hh
    split at hh
    · split at hh
      · rename_i hs rest h2
        cases hh
        simp [splitH_keys m _ _ _ h2]
      · cases hh
    · cases hh
theorem getRow_none : ∀ (h : H) (k : Nat), k ∉ h.map Prod.fst → getRow h k = none
  | [], _, _ => rfl
  | (k', r) :: h, k, hk => by
    simp only [List.map_cons, List.mem_cons, not_or] at hk
    simp only [getRow]
    rw [if_neg (fun e => hk.1 e.symm), getRow_none h k hk.2]
theorem getRow_some : ∀ (h : H) (k : Nat), k ∈ h.map Prod.fst → ∃ r, getRow h k = some r
  | (k', r) :: h, k, hk => by
    simp only [getRow]
    by_cases e : k' = k
    · exact ⟨r, by rw [if_pos e]⟩
    · rw [if_neg e]
      refine getRow_some h k ?_
      simp only [List.map_cons, List.mem_cons] at hk
      exact hk.resolve_left (fun h => e h.symm)
theorem lookRev_pair : ∀ (m : List (Nat × Nat)) {k n : Nat}, lookRev m k = some n → (n, k) ∈ m
  | [], _, _, h => by cases h
  | (a, b) :: m, k, n, h => by
    simp only [lookRev] at h
    split at h
    · rename_i hb
      cases h; subst hb; simp
    · exact List.mem_cons_of_mem _ (lookRev_pair m h)
theorem CallG.le {f : Nat} {args args' : List AV} {hin hout : H} {r : AV} (hl : AVles args args') (hc : CallG P f args' hin r hout) : CallG P f args hin r hout := fun I σ w vs hh hv => hc I σ w vs hh (hl.L I σ (bl w) vs hv)
theorem CallOk.le {f : Nat} {args args' : List AV} {hin hout : H} {r : AV} (hl : AVles args args') (hc : CallOk P f args' hin r hout) : CallOk P f args hin r hout := fun I σ w vs hh hv => hc I σ w vs hh (hl.L I σ (bl w) vs hv)
theorem call_ok {C : Con P T} {m : List (Nat × Nat)} {args : List (VT T)} {e e1 : TE T.toTT0} {h h1 : TH T.toTT0} {p : Pre T} {d : Nat} {N : List Nat} {x : C.X} {y : C.Y} (hp : (preT C m args h).gives p)
    (h1' : C.encA x = p.args) (h2 : C.encH x = p.hin) (h3 : C.G x = some y) (h4 : postT pro p N e d (C.encR y) (C.encO y) = some (e1, h1)) :
    ∃ e0, CallBy P pro (denE T.toTT0 (denH T.toTT0 h) e) (denH T.toTT0 h) d C.f (denL T.toTT0 (denH T.toTT0 h) args) e0 (denH T.toTT0 h1) ∧ Ghost P pro e0 (denH T.toTT0 h1) (denE T.toTT0 (denH T.toTT0 h1) e1) (denH T.toTT0 h1) := by
  unfold preT at hp
  obtain ⟨hk, hp⟩ := bif_gives hp
  simp only [Bool.and_eq_true] at hk
  split at hp
  · exact hp.elim
  · rename_i hin rest hsp
    obtain ⟨args', hcv, hp⟩ := Rs.bind_gives _ hp
    cases hp
    obtain ⟨s1, s2, s3⟩ := splitT_ok m h hin rest hsp
    obtain ⟨l, q1, q2⟩ := convTL_ok (Hn := denH T.toTT0 hin) (bor := hasSlL args) s2 C.A args args' hcv (fun h => h)
    unfold postT at h4
    dsimp only at h4 h1' h2
    generalize hbm : bmOf m d N = bm at h4
    cases hb : (nodupB (bm.map Prod.fst) && nodupB (bm.map Prod.snd) && okBack m bm && proOk pro m bm && (!hasSlL args || (noImT (C.encR y) && noImHT (C.encO y)))) with
    | false => rw [hb] at h4; cases h4
    | true =>
      rw [hb, cond_true] at h4
      simp only [Bool.and_eq_true] at hb
      obtain ⟨⟨⟨⟨b1, b2⟩, b3⟩, b4⟩, b5⟩ := hb
      split at h4
      · rename_i hb' left v hsb hbk
        cases h4
        obtain ⟨t1, t2, t3⟩ := splitT_ok bm (C.encO y) hb' left hsb
        have hkeys := splitH_keys _ _ _ _ t1
        have hheap : denH T.toTT0 (hb' ++ delKeysT rest (bm.map Prod.fst)) = denH T.toTT0 hb' ++ delKeys (denH T.toTT0 rest) (bm.map Prod.fst) := by
          rw [denH_append, delKeysT_row]
        have hsub : ∀ k, (m.map Prod.snd).contains k = true → (bm.map Prod.fst).contains k = true := by
          intro k hk
          simp only [List.contains_eq_mem, decide_eq_true_eq] at hk ⊢
          rw [← hbm]
          obtain ⟨x, hx, rfl⟩ := List.mem_map.1 hk
          unfold bmOf
          rw [List.map_append, List.mem_append]
          left
          rw [List.map_map]
          exact List.mem_map.2 ⟨x, hx, rfl⟩
        have hok := (C.ok x y h3).2
        rw [h1', h2] at hok
        have hbl : ∀ k n q, lookRev bm k = some n → lenAt (denH T.toTT0 (hb' ++ delKeysT rest (bm.map Prod.fst))) n q = lenAt (denH T.toTT0 (C.encO y)) k q := by
          intro k n q hkn
          have hm := lookRev_pair bm hkn
          have hg := t3 n k b1 b2 hm
          have hn : n ∈ (denH T.toTT0 hb').map Prod.fst := by rw [hkeys]; exact List.mem_map.2 ⟨_, hm, rfl⟩
          obtain ⟨r, hr⟩ := getRow_some _ _ hn
          have : getRow (denH T.toTT0 (hb' ++ delKeysT rest (bm.map Prod.fst))) n = getRow (denH T.toTT0 (C.encO y)) k := by
            rw [hheap, getRow_append, hr, ← hg, hr]
          unfold lenAt res
          rw [this]
        refine ⟨upd (killE (badCall m bm) (denE T.toTT0 (denH T.toTT0 h) e)) d (den T.toTT0 (denH T.toTT0 (hb' ++ delKeysT rest (bm.map Prod.fst))) v), ⟨⟨m, bm, hasSlL args, denH T.toTT0 hin, denH T.toTT0 rest, _, denH T.toTT0 hb', denH T.toTT0 left, l, _, _, s1, nodupB_spec _ hk.1, q1, CallG.le q2 hok, t1, nodupB_spec _ b1, b3, b4, backT_ok hbl _ _ hbk, fun hb => ?_, rfl, hheap⟩⟩, ?_⟩
        · rw [hb] at b5
          simp only [Bool.not_true, Bool.false_or, Bool.and_eq_true] at b5
          exact ⟨noImT_ok _ b5.1, noImHT_ok _ b5.2⟩
        · refine Ghost.le fun t => ?_
          rw [denE_put]
          refine AVle.upd (fun t => ?_) (AVle.refl _) t
          simp only [killE, denE, getE_kill]
          refine kill_le (fun k q hq => hq) (fun k q hq hw => ?_) _
          have hm : (m.map Prod.snd).contains k = false := hw
          have hbk : (bm.map Prod.fst).contains k = false := by
            have hq' : badCall m bm k q = false := hq
            unfold badCall at hq'
            rw [hm] at hq'
            simpa using hq'
          refine lenAt_congr ?_
          rw [hheap, getRow_append, getRow_none _ _ (by
            rw [hkeys]
            intro hmem
            have : (bm.map Prod.fst).contains k = true := by simpa using hmem
            rw [this] at hbk; cases hbk)]
          simp only
          rw [getRow_delKeys _ _ _ hbk, s2 k hm]
      · cases h4

def callT {L : Type} (P : Program) (pro : List Nat) (cs : List (Con P T)) (e : TE T.toTT0) (h : TH T.toTT0) (d : Nat) (op : IK) (K : TE T.toTT0 → TH T.toTT0 → Raw P T pro L) : Raw P T pro L :=
  match callArgs P e op with
  | none => .no
  | some (f, args) =>
  match findC f args cs with
  | none => .no
  | some (C, m) =>
  match fixsT e h (m.map fun x => (x.2, (C.H.find? fun y => Nat.beq y.1 x.1).elim [] Prod.snd)) with
  | none => .no
  | some (e1, h1) =>
  match callArgs P e1 op with
  | none => .no
  | some (f1, args1) => bif Nat.beq f1 f then
    Raw.ofRs (fun p => .call C p.args p.hin fun y => match postT pro p C.N e1 d (C.encR y) (C.encO y) with | some (e2, h2) => K e2 h2 | none => .no) (preT C m args1 h1)
    else .no
theorem fix1T_bool {e e1 : TE T.toTT0} {h h1 : TH T.toTT0} {k : Nat} {ks : List Kd} (hf : fix1T e h k ks = some (e1, h1)) : ∀ t b, denE T.toTT0 (denH T.toTT0 h) e t = Bl b → denE T.toTT0 (denH T.toTT0 h1) e1 t = Bl b := by
  unfold fix1T at hf
  split at hf
  · rename_i s xs hr
    cases hb : xs.any (needFix ks) with
    | false => rw [hb] at hf; cases hf; exact fun _ _ h => h
    | true =>
      rw [hb] at hf
      cases hf
      intro t b ht
      simp only [denE, getE_kill] at ht ⊢
      cases hv : getE e t <;> rw [hv] at ht <;> simp [den] at ht <;> simp [killT, den, ht]
  · cases hf; exact fun _ _ h => h
  · cases hf
theorem fixsT_bool : ∀ (l : List (Nat × List Kd)) (e e1 : TE T.toTT0) (h h1 : TH T.toTT0), fixsT e h l = some (e1, h1) → ∀ t b, denE T.toTT0 (denH T.toTT0 h) e t = Bl b → denE T.toTT0 (denH T.toTT0 h1) e1 t = Bl b
  | [], _, _, _, _, hf => by cases hf; exact fun _ _ h => h
  | (k, ks) :: l, e, e1, h, h1, hf => by
    unfold fixsT at hf
    split at hf
    · rename_i e2 h2 h3
      exact fun t b ht => fixsT_bool l _ _ _ _ hf t b (fix1T_bool h3 t b ht)
    · cases hf
theorem callT_ok' {L : Type} {cs : List (Con P T)} {e : TE T.toTT0} {h : TH T.toTT0} {d : Nat} {op : IK} {K : TE T.toTT0 → TH T.toTT0 → Raw P T pro L} {Q : L → Prop} (hs : Sat (callT P pro cs e h d op K) Q) :
    ∃ e0 h0 e1 e2 h2, Ghost P pro (denE T.toTT0 (denH T.toTT0 h) e) (denH T.toTT0 h) e0 h0 ∧ IStep P pro e0 h0 d op e1 (denH T.toTT0 h2) ∧ Ghost P pro e1 (denH T.toTT0 h2) (denE T.toTT0 (denH T.toTT0 h2) e2) (denH T.toTT0 h2) ∧ Sat (K e2 h2) Q ∧
      ∀ t b, denE T.toTT0 (denH T.toTT0 h) e t = Bl b → e0 t = Bl b := by
  unfold callT at hs
  split at hs
  · exact hs.elim
  · rename_i f args ha
    split at hs
    · exact hs.elim
    · rename_i C m hf
      split at hs
      · exact hs.elim
      · rename_i e1 h1 hfx
        split at hs
        · exact hs.elim
        · rename_i f1 args1 ha1
          cases hb : Nat.beq f1 f with
          | false => rw [hb] at hs; exact hs.elim
          | true =>
            rw [hb, cond_true] at hs
            have hb := Nat.eq_of_beq_eq_true hb
            obtain ⟨p, hp, x, y, q1, q2, q3, q4⟩ := Sat.ofRs _ hs
            dsimp only at q4
            split at q4
            · rename_i e2 h2 hpost
              obtain ⟨e0, c1, c2⟩ := call_ok hp q1 q2 q3 hpost
              have hCf : C.f = f1 := (findC_ok cs hf).trans hb.symm
              rw [hCf] at c1
              exact ⟨_, _, e0, e2, h2, fixsT_ok _ _ _ _ _ hfx, callArgs_ok ha1 c1, c2, q4, fixsT_bool _ _ _ _ _ hfx⟩
            · exact q4.elim
end
end Loom
set_option linter.unusedVariables false
set_option linter.unusedSimpArgs false
namespace Loom
open Go
section
variable {P : Program} {T : TT} {pro : List Nat}
def cut1 (e : TE T.toTT0) (h : TH T.toTT0) (t : Nat) : Rs (TE T.toTT0 × TH T.toTT0) :=
  match getE e t with
  | .sl k [] 0 n =>
    match getT h k with
    | some (.typ m' t' xs) => .need (n ≤ xs.length) (.ok (putE (killTE (fun _ _ => false) (fun k' _ => Nat.beq k' k) e) t (.sw k []), (k, .typ m' t' (xs.take n)) :: delT h k))
    | _ => .no
  | _ => .ok (e, h)
theorem cut1_ok {e e1 : TE T.toTT0} {h h1 : TH T.toTT0} {t : Nat} (hg : (cut1 e h t).gives (e1, h1)) :
    Ghost P pro (denE T.toTT0 (denH T.toTT0 h) e) (denH T.toTT0 h) (denE T.toTT0 (denH T.toTT0 h1) e1) (denH T.toTT0 h1) ∧ ∀ u b, denE T.toTT0 (denH T.toTT0 h) e u = Bl b → denE T.toTT0 (denH T.toTT0 h1) e1 u = Bl b := by
  unfold cut1 at hg
  split at hg
  · rename_i k n hz
    split at hg
    · rename_i m' t' xs hr
      obtain ⟨hc, hg⟩ := hg
      cases hg
      have hgr : getRow (denH T.toTT0 h) k = some ⟨T.sz t', xs.map (T.ca m' t')⟩ := by rw [getT_row, hr]; rfl
      have h1 := Ghost.take (P := P) (pro := pro) (e := denE T.toTT0 (denH T.toTT0 h) e) n hgr
      have hh : denH T.toTT0 ((k, .typ m' t' (xs.take n)) :: delT h k) = (k, ⟨T.sz t', (xs.map (T.ca m' t')).take n⟩) :: delRow (denH T.toTT0 h) k := by
        simp only [denH, denR, List.map_take, delT_row]
      rw [hh]
      refine ⟨h1.trans (Ghost.le fun u => ?_), fun u b hu => ?_⟩
      · rw [denE_put]
        unfold upd
        split
        · rename_i hu
          subst hu
          have : lenAt ((k, ⟨T.sz t', (xs.map (T.ca m' t')).take n⟩) :: delRow (denH T.toTT0 h) k) k [] = n := by
            simp only [lenAt, res, getRow, if_true, resE, List.length_take, List.length_map]; omega
          simp only [denE, hz, den, this]; exact AVle.refl _
        · simp only [denE, getE_kill]
          have := kill_le (T := T) (H0 := denH T.toTT0 h) (H1 := (k, ⟨T.sz t', (xs.map (T.ca m' t')).take n⟩) :: delRow (denH T.toTT0 h) k) (b1 := fun _ _ => false) (bad := fun _ _ => false) (bw := fun k' _ => Nat.beq k' k) (fun _ _ h => h) (fun k' p _ hk => lenAt_congr (by
            simp only [beq_eq, decide_eq_false_iff_not] at hk
            simp only [getRow]
            rw [if_neg (fun e => hk e.symm), getRow_del hk])) (getE e u)
          rwa [nobad] at this
      · rw [denE_put]
        unfold upd
        split
        · rename_i ht
          subst ht
          simp only [denE, hz, den] at hu
          cases hu
        · simp only [denE, getE_kill] at hu ⊢
          cases hv : getE e u <;> rw [hv] at hu <;> simp [den] at hu <;> simp [killT, den, hu]
    · exact hg.elim
  · cases hg
    exact ⟨Ghost.rfl', fun _ _ h => h⟩
def cuT (pro : List Nat) (j : Nat) (e : TE T.toTT0) (h : TH T.toTT0) (v : Operand) : Rs (TE T.toTT0 × TH T.toTT0) :=
  match v with
  | .tmp t =>
    match getE e t with
    | .sl k [(i, c)] 0 _ => match det1T pro h j k i c with
      | some h1 => cut1 (renTE k i c j e) h1 t
      | none => .no
    | _ => cut1 e h t
  | _ => .ok (e, h)
theorem cuT_ok {e e1 : TE T.toTT0} {h h1 : TH T.toTT0} {j : Nat} {v : Operand} (hg : (cuT pro j e h v).gives (e1, h1)) :
    Ghost P pro (denE T.toTT0 (denH T.toTT0 h) e) (denH T.toTT0 h) (denE T.toTT0 (denH T.toTT0 h1) e1) (denH T.toTT0 h1) ∧ ∀ u b, denE T.toTT0 (denH T.toTT0 h) e u = Bl b → denE T.toTT0 (denH T.toTT0 h1) e1 u = Bl b := by
  unfold cuT at hg
  split at hg
  · split at hg
    · split at hg
      · rename_i h2 hd
        obtain ⟨q1, q2⟩ := cut1_ok (P := P) (pro := pro) hg
        exact ⟨(det1T_ok hd).trans q1, fun u b hu => q2 u b (renT_bool hu)⟩
      · exact hg.elim
    · exact cut1_ok hg
  · cases hg
    exact ⟨Ghost.rfl', fun _ _ h => h⟩
/-- A part of a row that a cell holds, that is to be appended to. -/
def dapT (pro : List Nat) (j : Nat) (e : TE T.toTT0) (h : TH T.toTT0) (v : Operand) : Option (TE T.toTT0 × TH T.toTT0) :=
  match v with
  | .tmp t => match getE e t with
    | .sl k [(i, c)] _ _ => match det1T pro h j k i c with
      | some h1 => some (renTE k i c j e, h1)
      | none => none
    | _ => some (e, h)
  | _ => some (e, h)
theorem dapT_ok {e e1 : TE T.toTT0} {h h1 : TH T.toTT0} {j : Nat} {v : Operand} (hg : dapT pro j e h v = some (e1, h1)) :
    Ghost P pro (denE T.toTT0 (denH T.toTT0 h) e) (denH T.toTT0 h) (denE T.toTT0 (denH T.toTT0 h1) e1) (denH T.toTT0 h1) ∧ ∀ u b, denE T.toTT0 (denH T.toTT0 h) e u = Bl b → denE T.toTT0 (denH T.toTT0 h1) e1 u = Bl b := by
  unfold dapT at hg
  split at hg
  · split at hg
    · split at hg
      · rename_i h2 hd
        simp only [Option.some.injEq, Prod.mk.injEq] at hg
        obtain ⟨rfl, rfl⟩ := hg
        exact ⟨det1T_ok hd, fun u b hu => renT_bool hu⟩
      · cases hg
    · simp only [Option.some.injEq, Prod.mk.injEq] at hg
      obtain ⟨rfl, rfl⟩ := hg
      exact ⟨Ghost.rfl', fun _ _ h => h⟩
  · simp only [Option.some.injEq, Prod.mk.injEq] at hg
    obtain ⟨rfl, rfl⟩ := hg
    exact ⟨Ghost.rfl', fun _ _ h => h⟩
end
end Loom
set_option linter.unusedVariables false
set_option linter.unusedSimpArgs false
namespace Loom
open Go

/-- What evaluation goes by: contracts; the types of the elements of rows that are made, by slots. -/
structure Cx (P : Program) (T : TT) where
  cs : List (Con P T)
  ty : List (Nat × Bool × Nat)
  tn : List Nat
def Cx.at {P : Program} {T : TT} (cx : Cx P T) (d : Nat) : Option (Bool × Nat) := (cx.ty.find? fun x => Nat.beq x.1 d).map Prod.snd

section
variable {P : Program} {T : TT} {pro : List Nat} {L : Type}

def skipT : IK → VT T
  | .st _ _ _ => .un
  | _ => .sc undef
theorem skipT_den {h : H} (op : IK) : den T.toTT0 h (skipT op) = skipAV op := by cases op <;> rfl
/-- By a guard. -/
def guardT (e : TE T.toTT0) (g : Option (Nat × Bool)) (go skip : TE T.toTT0 → Raw P T pro L) : Raw P T pro L :=
  match g with
  | none => go e
  | some (s, want) =>
    match getE e s with
    | .bk true => bif want then go e else skip e
    | .bk false => bif want then skip e else go e
    | .sc (.tuple _) => skip e
    | .sc (.bool b) => .ite b (bif want then go (putE e s (.bk true)) else skip (putE e s (.bk true))) (bif want then skip (putE e s (.bk false)) else go (putE e s (.bk false)))
    | _ => .no
/-- A slot of which is known what it holds. -/
theorem put_known {e : TE T.toTT0} {h : H} {s : Nat} {b : Bool} (hs : getE e s = .sc (.bool b)) : denE T.toTT0 h (putE e s (.bk b)) = denE T.toTT0 h e := by
  rw [denE_put]
  funext t
  unfold upd
  split
  · rename_i ht; subst ht
    simp only [denE, hs, den]
  · rfl
theorem guardT_ok {e : TE T.toTT0} {g : Option (Nat × Bool)} {go skip : TE T.toTT0 → Raw P T pro L} {Q : L → Prop} {H0 : H} (hs : Sat (guardT e g go skip) Q) :
    ∃ e', denE T.toTT0 H0 e' = denE T.toTT0 H0 e ∧ ((wants (denE T.toTT0 H0 e) g = some true ∧ Sat (go e') Q) ∨ (wants (denE T.toTT0 H0 e) g = some false ∧ Sat (skip e') Q)) := by
  unfold guardT at hs
  split at hs
  · exact ⟨e, rfl, .inl ⟨rfl, hs⟩⟩
  · rename_i s want
    have hw : ∀ b, denE T.toTT0 H0 e s = .sc (.bool b) → wants (denE T.toTT0 H0 e) (some (s, want)) = some (b == want) := fun b hb => by simp [wants, hb]
    split at hs
    · rename_i hv
      have hv' : denE T.toTT0 H0 e s = .sc (.bool true) := by simp only [denE, hv, den]
      cases want
      · exact ⟨e, rfl, .inr ⟨by rw [hw _ hv']; rfl, hs⟩⟩
      · exact ⟨e, rfl, .inl ⟨by rw [hw _ hv']; rfl, hs⟩⟩
    · rename_i hv
      have hv' : denE T.toTT0 H0 e s = .sc (.bool false) := by simp only [denE, hv, den]
      cases want
      · exact ⟨e, rfl, .inl ⟨by rw [hw _ hv']; rfl, hs⟩⟩
      · exact ⟨e, rfl, .inr ⟨by rw [hw _ hv']; rfl, hs⟩⟩
    · rename_i a hv
      have hv' : denE T.toTT0 H0 e s = .sc (.tuple a) := by simp only [denE, hv, den]
      exact ⟨e, rfl, .inr ⟨by simp [wants, hv'], hs⟩⟩
    · rename_i b hv
      have hv' : denE T.toTT0 H0 e s = .sc (.bool b) := by simp only [denE, hv, den]
      cases b with
      | true =>
        have h1 := hs.1 rfl
        cases want
        · exact ⟨_, put_known hv, .inr ⟨by rw [hw _ hv']; rfl, h1⟩⟩
        · exact ⟨_, put_known hv, .inl ⟨by rw [hw _ hv']; rfl, h1⟩⟩
      | false =>
        have h1 := hs.2 rfl
        cases want
        · exact ⟨_, put_known hv, .inl ⟨by rw [hw _ hv']; rfl, h1⟩⟩
        · exact ⟨_, put_known hv, .inr ⟨by rw [hw _ hv']; rfl, h1⟩⟩
    · exact hs.elim

/-- One instruction. -/
def stepT (pro : List Nat) (cx : Cx P T) (x : Ins) (e : TE T.toTT0) (h : TH T.toTT0) (K : TE T.toTT0 → TH T.toTT0 → Raw P T pro L) : Raw P T pro L :=
  match x.op with
  | .rd (.pick (.tmp s) a b) =>
    match getE e s with
    | .sc (.bool t) => .ite t (Raw.ofRs (fun v => K (putE (putE e s (.bk true)) x.dst v) h) (nnT (evT e a))) (Raw.ofRs (fun v => K (putE (putE e s (.bk false)) x.dst v) h) (nnT (evT e b)))
    | _ => Raw.ofRs (fun v => K (putE e x.dst v) h) (rdT e h (.pick (.tmp s) a b))
  | .rd b => Raw.ofRs (fun v => K (putE e x.dst v) h) (rdT e h b)
  | .mk b => match detsT pro (700000 + x.dst * 100) e h (opCells e (opsOf b)) with
    | some (e1, h1) => Raw.ofRs (fun st => K (st.env e1 x.dst) st.h) (mkT (cx.at x.dst) pro e1 h1 x.dst b)
    | none => .no
  | .app s bytes a b => match dapT pro (700000 + x.dst * 100) e h a with
    | some (e1, h1) => Raw.ofRs (fun st => K (st.env e1 x.dst) st.h) (appT (cx.at x.dst) pro e1 h1 x.dst s bytes a b)
    | none => .no
  | .st n a v => Raw.ofRs (fun (e, h) => match detsT pro (700000 + x.dst * 100) e h (opCells e [v]) with
    | some (e1, h1) => Raw.ofRs (fun st => K (st.env e1 x.dst) st.h) (stT e1 h1 n a v)
    | none => .no) (cuT pro (700000 + x.dst * 100) e h v)
  | .s2b y => match evT e y with | .sc (.string s) => K (putE e x.dst (.im T.u8 (T.bs (bytesOf s)))) h | _ => .no
  | op => callT P pro cx.cs e h x.dst op K
/-- What one instruction owes. -/
def StepOk (P : Program) (pro : List Nat) (x : Ins) (E : Env) (H0 : H) (Kp : Env → H → Prop) : Prop :=
  ∃ e0 h0 e1 h1 e2 h2, Ghost P pro E H0 e0 h0 ∧ (∀ t b, E t = Bl b → e0 t = Bl b) ∧ IStep P pro e0 h0 x.dst x.op e1 h1 ∧ Ghost P pro e1 h1 e2 h2 ∧ Kp e2 h2
theorem StepOk.pre {x : Ins} {E E1 : Env} {H0 H1 : H} {Kp : Env → H → Prop} (g : Ghost P pro E H0 E1 H1) (gb : ∀ t b, E t = Bl b → E1 t = Bl b) (h : StepOk P pro x E1 H1 Kp) : StepOk P pro x E H0 Kp := by
  obtain ⟨e0, h0, e1, h1, e2, h2, g1, b1, g2, g3, k⟩ := h
  exact ⟨e0, h0, e1, h1, e2, h2, g.trans g1, fun t b hb => b1 t b (gb t b hb), g2, g3, k⟩
/-- What stands behind, told of what is stood for. -/
def KP (K : TE T.toTT0 → TH T.toTT0 → Raw P T pro L) (Q : L → Prop) (E : Env) (H0 : H) : Prop := ∃ e h, E = denE T.toTT0 (denH T.toTT0 h) e ∧ H0 = denH T.toTT0 h ∧ Sat (K e h) Q
theorem st_step {x : Ins} {e : TE T.toTT0} {h : TH T.toTT0} {K : TE T.toTT0 → TH T.toTT0 → Raw P T pro L} {Q : L → Prop} {st : StT T} (hst : StOk P pro T e h x st) (hK : Sat (K (st.env e x.dst) st.h) Q) :
    StepOk P pro x (denE T.toTT0 (denH T.toTT0 h) e) (denH T.toTT0 h) (KP K Q) := by
  obtain ⟨e0, h0', e1, h1', g1, gb, g2, g3⟩ := hst.1 (denE T.toTT0 (denH T.toTT0 h) e) (fun _ _ => rfl)
  exact ⟨e0, h0', e1, h1', _, _, g1, gb, g2, g3.trans (StT.env_ghost hst.2.1), _, _, rfl, rfl, hK⟩
theorem rd_step {x : Ins} {b : IB} (hx : x.op = .rd b) {e e' : TE T.toTT0} {h : TH T.toTT0} {K : TE T.toTT0 → TH T.toTT0 → Raw P T pro L} {Q : L → Prop} {v : VT T} (he : denE T.toTT0 (denH T.toTT0 h) e' = denE T.toTT0 (denH T.toTT0 h) e) (hv : (rdT e h b).gives v) (hK : Sat (K (putE e' x.dst v) h) Q) :
    StepOk P pro x (denE T.toTT0 (denH T.toTT0 h) e) (denH T.toTT0 h) (KP K Q) := by
  obtain ⟨av, q1, q2⟩ := rdT_ok hv
  refine ⟨_, _, upd (denE T.toTT0 (denH T.toTT0 h) e) x.dst av, denH T.toTT0 h, _, _, Ghost.rfl', fun _ _ h => h, by rw [hx]; exact .plain (by simp only [istep, q1]), Ghost.le (e1 := denE T.toTT0 (denH T.toTT0 h) (putE e' x.dst v)) fun t => ?_, putE e' x.dst v, h, rfl, rfl, hK⟩
  rw [denE_put, he]
  exact AVle.upd (fun t => AVle.refl _) q2 t
theorem stepT_ok {cx : Cx P T} {x : Ins} {e : TE T.toTT0} {h : TH T.toTT0} {K : TE T.toTT0 → TH T.toTT0 → Raw P T pro L} {Q : L → Prop} (hs : Sat (stepT pro cx x e h K) Q) :
    StepOk P pro x (denE T.toTT0 (denH T.toTT0 h) e) (denH T.toTT0 h) (KP K Q) := by
  obtain ⟨d, g, op⟩ := x
  have call : ∀ {op : IK}, Sat (callT P pro cx.cs e h d op K) Q → StepOk P pro ⟨d, g, op⟩ (denE T.toTT0 (denH T.toTT0 h) e) (denH T.toTT0 h) (KP K Q) := fun hs => by
    obtain ⟨e0, h0, e1, e2, h2, g1, g2, g3, g4, gb⟩ := callT_ok' hs
    exact ⟨e0, h0, e1, _, _, _, g1, gb, g2, g3, e2, h2, rfl, rfl, g4⟩
  unfold stepT at hs
  dsimp only at hs
  split at hs
  · rename_i s a b
    split at hs
    · rename_i t ht
      cases t with
      | true =>
        obtain ⟨v, hv, hK⟩ := Sat.ofRs _ (hs.1 rfl)
        exact rd_step (x := ⟨d, g, _⟩) rfl (put_known ht) (by simp only [rdT, evT, ht]; exact .inl ⟨rfl, hv⟩) hK
      | false =>
        obtain ⟨v, hv, hK⟩ := Sat.ofRs _ (hs.2 rfl)
        exact rd_step (x := ⟨d, g, _⟩) rfl (put_known ht) (by simp only [rdT, evT, ht]; exact .inr ⟨rfl, hv⟩) hK
    · obtain ⟨v, hv, hK⟩ := Sat.ofRs _ hs
      exact rd_step (x := ⟨d, g, _⟩) rfl rfl hv hK
  · rename_i b _
    obtain ⟨v, hv, hK⟩ := Sat.ofRs _ hs
    exact rd_step (x := ⟨d, g, _⟩) rfl rfl hv hK
  · rename_i b
    split at hs
    · rename_i e1 h1 hd
      obtain ⟨st, hv, hK⟩ := Sat.ofRs _ hs
      exact (detsT_ok _ _ _ _ _ _ hd).elim fun q1 q2 => StepOk.pre q1 q2 (st_step (x := ⟨d, g, _⟩) (mkT_st hv) hK)
    · exact hs.elim
  · rename_i s bytes a b
    split at hs
    · rename_i e1 h1 hd
      obtain ⟨st, hv, hK⟩ := Sat.ofRs _ hs
      exact (dapT_ok hd).elim fun q1 q2 => StepOk.pre q1 q2 (st_step (x := ⟨d, g, _⟩) (appT_st hv) hK)
    · exact hs.elim
  · rename_i n a v
    obtain ⟨⟨e0, h0⟩, hc, hs⟩ := Sat.ofRs _ hs
    dsimp only at hs
    refine (cuT_ok (P := P) (pro := pro) hc).elim fun c1 c2 => StepOk.pre c1 c2 ?_
    split at hs
    · rename_i e1 h1 hd
      obtain ⟨st, hv, hK⟩ := Sat.ofRs _ hs
      exact (detsT_ok _ _ _ _ _ _ hd).elim fun q1 q2 => StepOk.pre q1 q2 (st_step (x := ⟨d, g, _⟩) (stT_st hv) hK)
    · exact hs.elim
  · rename_i y
    split at hs
    · rename_i s hy
      refine ⟨_, _, upd (denE T.toTT0 (denH T.toTT0 h) e) d (den T.toTT0 (denH T.toTT0 h) (.im T.u8 (T.bs (bytesOf s)))), denH T.toTT0 h, _, _, Ghost.rfl', fun _ _ h => h, .plain ?_, Ghost.le (e1 := denE T.toTT0 (denH T.toTT0 h) (putE e d (.im T.u8 (T.bs (bytesOf s))))) fun t => ?_, _, h, rfl, rfl, hs⟩
      · simp only [istep, evT_den, hy, den, T.bs_ok, T.bs_sz]
      · rw [denE_put]; exact AVle.refl _
    · exact hs.elim
  · exact call hs
/-- Instructions one behind the other. -/
def evR (pro : List Nat) (cx : Cx P T) : List Ins → TE T.toTT0 → TH T.toTT0 → (TE T.toTT0 → TH T.toTT0 → Raw P T pro L) → Raw P T pro L
  | [], e, h, K => K e h
  | x :: l, e, h, K => guardT e x.guard (fun e => stepT pro cx x e h fun e h => evR pro cx l e h K) (fun e => evR pro cx l (putE e x.dst (skipT x.op)) h K)
theorem evR_ok {cx : Cx P T} {K : TE T.toTT0 → TH T.toTT0 → Raw P T pro L} {Q : L → Prop} : ∀ (l : List Ins) (e : TE T.toTT0) (h : TH T.toTT0), Sat (evR pro cx l e h K) Q →
    ∃ E H', RunG P pro l (denE T.toTT0 (denH T.toTT0 h) e) (denH T.toTT0 h) E H' ∧ KP K Q E H'
  | [], e, h, hs => ⟨_, _, .nil, e, h, rfl, rfl, hs⟩
  | x :: l, e, h, hs => by
    obtain ⟨e', he, h1 | h1⟩ := guardT_ok (H0 := denH T.toTT0 h) hs
    · obtain ⟨e0, h0, e1, h1', e2, h2, g1, gb, g2, g3, e4, h4, rfl, rfl, hK⟩ := stepT_ok h1.2
      obtain ⟨E, H', r, k⟩ := evR_ok l e4 h4 hK
      rw [he] at g1 gb
      refine ⟨E, H', .ghost g1 (.step ?_ g2 (.ghost g3 r)), k⟩
      have hw := h1.1
      cases hg : x.guard with
      | none => rfl
      | some sw =>
        obtain ⟨s, want⟩ := sw
        rw [hg] at hw
        simp only [wants] at hw ⊢
        split at hw
        · rename_i b hb
          rw [gb s b hb]
          exact hw
        · cases hw
        · cases hw
    · obtain ⟨E, H', r, k⟩ := evR_ok l _ h h1.2
      rw [denE_put, he, skipT_den] at r
      exact ⟨E, H', .skip h1.1 r, k⟩
end
end Loom
set_option linter.unusedVariables false
set_option linter.unusedSimpArgs false
namespace Loom
open Go

theorem WD.mono {P : Program} {K K' : Env → H → Prop} {h0 : H} (hk : ∀ e h, K e h → K' e h) : ∀ (pre : List (Ins × List Nat)) (i : Nat) (e : Env) (acc : List (Nat × H)), WD P pre i e acc h0 K → WD P pre i e acc h0 K'
  | [], _, _, _, h => ⟨h.1, hk _ _ h.2⟩
  | _ :: pre, _, _, _, ⟨av, rows, h1, h2⟩ => ⟨av, rows, h1, WD.mono hk pre _ _ _ h2⟩
section
variable {P : Program} {T : TT} {pro : List Nat} {L : Type}

mutual
/-- All wholes of rows that a value names are of these. -/
def swIn (ok : Nat → Bool) : VT T → Bool
  | .sw k _ => ok k
  | .ag cs => swInL ok cs
  | .tu cs => swInL ok cs
  | .fn _ cs => swInL ok cs
  | .un | .sc _ | .ik _ _ | .bk _ | .zs | .im _ _ | .ip _ _ _ | .sl _ _ _ _ | .pt _ _ _ _ | .ow _ _ _ | .oo _ _ _ _ _ => true
def swInL (ok : Nat → Bool) : List (VT T) → Bool
  | [] => true
  | x :: l => swIn ok x && swInL ok l
end
mutual
theorem den_swIn {H0 H1 : H} {ok : Nat → Bool} (hk : ∀ k, ok k = true → getRow H1 k = getRow H0 k) : ∀ (v : VT T), swIn ok v = true → den T.toTT0 H1 v = den T.toTT0 H0 v
  | .sw k p, h => by simp only [swIn] at h; simp only [den, lenAt_congr (hk k h)]
  | .ag cs, h => by simp only [swIn] at h; simp only [den, denL_swIn hk cs h]
  | .tu cs, h => by simp only [swIn] at h; simp only [den, denL_swIn hk cs h]
  | .fn _ cs, h => by simp only [swIn] at h; simp only [den, denL_swIn hk cs h]
  | .un, _ | .sc _, _ | .ik _ _, _ | .bk _, _ | .zs, _ | .im _ _, _ | .ip _ _ _, _ | .sl _ _ _ _, _ | .pt _ _ _ _, _ | .ow _ _ _, _ | .oo _ _ _ _ _, _ => rfl
theorem denL_swIn {H0 H1 : H} {ok : Nat → Bool} (hk : ∀ k, ok k = true → getRow H1 k = getRow H0 k) : ∀ (v : List (VT T)), swInL ok v = true → denL T.toTT0 H1 v = denL T.toTT0 H0 v
  | [], _ => rfl
  | x :: l, h => by
    simp only [swInL, Bool.and_eq_true] at h
    simp only [denL, den_swIn hk x h.1, denL_swIn hk l h.2]
end
def allE (ok : Nat → Bool) : TE T.toTT0 → Bool
  | [] => true
  | (_, v) :: l => swIn ok v && allE ok l
theorem denE_all {H0 H1 : H} {ok : Nat → Bool} (hk : ∀ k, ok k = true → getRow H1 k = getRow H0 k) : ∀ (e : TE T.toTT0), allE ok e = true → denE T.toTT0 H1 e = denE T.toTT0 H0 e := by
  intro e he
  funext t
  unfold denE
  refine den_swIn hk _ ?_
  induction e with
  | nil => rfl
  | cons x l ih =>
    obtain ⟨k, v⟩ := x
    simp only [allE, Bool.and_eq_true] at he
    simp only [getE]
    cases Nat.beq t k
    · exact ih he.2
    · exact he.1

def hxT (D : List Nat) : List (Nat × TH T.toTT0) → TH T.toTT0
  | [] => []
  | (i, r) :: l => bif D.contains i then r ++ hxT D l else hxT D l
def hxAllT : List (Nat × TH T.toTT0) → TH T.toTT0
  | [] => []
  | (_, r) :: l => r ++ hxAllT l
def accA (T : TT) (acc : List (Nat × TH T.toTT0)) : List (Nat × H) := acc.map fun x => (x.1, denH T.toTT0 x.2)
theorem hxT_den (D : List Nat) : ∀ (acc : List (Nat × TH T.toTT0)), hx D (accA T acc) = denH T.toTT0 (hxT D acc)
  | [] => rfl
  | (i, r) :: l => by
    have ih := hxT_den D l
    simp only [accA, List.map_cons, hx, hxT]
    cases hc : D.contains i with
    | true => simp only [if_true, cond_true, denH_append]; rw [← ih]; rfl
    | false => simp only [Bool.false_eq_true, if_false, cond_false]; rw [← ih]; rfl
theorem hxAllT_den : ∀ (acc : List (Nat × TH T.toTT0)), hxAll (accA T acc) = denH T.toTT0 (hxAllT acc)
  | [] => rfl
  | (i, r) :: l => by
    have ih := hxAllT_den l
    simp only [accA, List.map_cons, hxAll, hxAllT, denH_append]
    rw [← ih]; rfl
theorem hxAllT_snoc : ∀ (acc : List (Nat × TH T.toTT0)) (i : Nat) (r : TH T.toTT0), hxAllT (acc ++ [(i, r)]) = hxAllT acc ++ r
  | [], _, _ => by simp [hxAllT]
  | (_, r') :: l, i, r => by simp [hxAllT, hxAllT_snoc l]
theorem hxT_sub (D : List Nat) : ∀ (acc : List (Nat × TH T.toTT0)) (z : Nat × TR T.El), z ∈ hxT D acc → z ∈ hxAllT acc
  | (i, r) :: l, z, hz => by
    simp only [hxT] at hz
    simp only [hxAllT, List.mem_append]
    cases hc : D.contains i with
    | true =>
      rw [hc, cond_true, List.mem_append] at hz
      exact hz.imp id (hxT_sub D l z)
    | false =>
      rw [hc, cond_false] at hz
      exact .inr (hxT_sub D l z hz)
theorem denH_mem : ∀ (h : TH T.toTT0) (z : Nat × Row), z ∈ denH T.toTT0 h ↔ ∃ k r, (k, r) ∈ h ∧ z = (k, denR T.toTT0 r)
  | [], z => by simp [denH]
  | (k, r) :: h, z => by
    simp only [denH, List.mem_cons, denH_mem h z]
    constructor
    · rintro (rfl | ⟨k', r', h1, rfl⟩)
      · exact ⟨k, r, .inl rfl, rfl⟩
      · exact ⟨k', r', .inr h1, rfl⟩
    · rintro ⟨k', r', h1 | h1, rfl⟩
      · cases h1; exact .inl rfl
      · exact .inr ⟨k', r', h1, rfl⟩
/-- What is seen by an instruction stands so in all. -/
theorem part_row {hd ha : TH T.toTT0} (hn : nodupB (ha.map Prod.fst) = true) (hs : ∀ z ∈ hd, z ∈ ha) (k : Nat) (hk : (hd.map Prod.fst).contains k = true) : getRow (denH T.toTT0 ha) k = getRow (denH T.toTT0 hd) k := by
  have hk' : k ∈ (denH T.toTT0 hd).map Prod.fst := by rw [denH_keys]; simpa using hk
  obtain ⟨r, hr⟩ := getRow_some _ _ hk'
  rw [hr]
  have hm := mem_of_getRow hr
  obtain ⟨k2, r2, h1, h2⟩ := (denH_mem hd _).1 hm
  cases h2
  exact getRow_of_mem (by rw [denH_keys]; exact nodupB_spec _ hn) ((denH_mem ha _).2 ⟨k, r2, hs _ h1, rfl⟩)

/-! ### rows made in a drawn region -/
def mkD (ty : Option (Bool × Nat)) (e : TE T.toTT0) (d : Nat) (b : IB) : Rs (VT T × TR T.El) :=
  bif (opsOf b).all (fun o => swIn (fun _ => false) (evT e o)) then
  match b with
  | .box s x =>
    match cellsOfT (evT e x) with
    | none => .no
    | some cs => bif Nat.beq cs.length s then
      match absTE (T := T) [] [d] [cs] with
      | some (xs, _, []) => .ok (.pt d [] 0 0, .lit s xs)
      | _ => .no
      else .no
  | .bsl s len zero parts =>
    match fillT (List.replicate len (constT zero)).flatten (parts.map fun (i, x) => (i * s, s, evT e x)) with
    | none => .no
    | some cs =>
      match absTE (T := T) [] [d] (chunksT s len cs) with
      | some (xs, _, []) => .ok (.sw d [], match ty with
        | some (m, t) => bif Nat.beq (T.sz t) s then (match unL m t xs with | some ys => .typ m t ys | none => .lit s xs) else .lit s xs
        | none => .lit s xs)
      | _ => .no
  | .mks s bytes zero l =>
    match intOf (evT e l), ty with
    | some n, some (m, t) => bif Nat.beq (T.sz t) s then
      match T.un m t (constT zero) with
      | some z => .need (0 ≤ n ∧ n * (bytes : Int) ≤ 140737488355328) (.ok (.sw d [], .typ m t (List.replicate n.toNat z)))
      | none => .no
      else .no
    | _, _ => .no
  | _ => .no
  else .no
theorem mkD_ok {ty : Option (Bool × Nat)} {e : TE T.toTT0} {d : Nat} {b : IB} {v : VT T} {r : TR T.El} (H0 : H) (hg : (mkD ty e d b).gives (v, r)) :
    mkop (ev (denE T.toTT0 H0 e)) [] d b = some (den T.toTT0 [(d, denR T.toTT0 r)] v, [(d, denR T.toTT0 r)]) ∧ (v = .pt d [] 0 0 ∨ v = .sw d []) := by
  unfold mkD at hg
  obtain ⟨hall, hg⟩ := bif_gives hg
  have hden : ∀ o ∈ opsOf b, den T.toTT0 H0 (evT e o) = den T.toTT0 [] (evT e o) := fun o ho => den_swIn (ok := fun _ => false) (fun k h => (by cases h)) _ (List.all_eq_true.1 hall o ho)
  have start : ∀ k, [d].contains k = false → getRow (denH T.toTT0 ([] : TH T.toTT0)) k = getRow ([] : H) k := fun _ _ => rfl
  cases b with
  | box s x =>
    dsimp only at hg
    split at hg
    · exact hg.elim
    · rename_i cs hcs
      obtain ⟨hl, hg⟩ := bif_gives hg
      split at hg
      · rename_i xs g ha
        cases hg
        obtain ⟨q1, q2, q3⟩ := absTE_ok (H0 := []) _ _ _ _ _ _ start ha
        have hc := cellsOfT_ok (h := []) hcs
        refine ⟨?_, .inl rfl⟩
        simp only [mkop, evT_den, hden x (by simp [opsOf]), hc, denL_len]
        rw [if_pos (Nat.eq_of_beq_eq_true hl)]
        simp only [List.map_cons, List.map_nil, denH] at q1
        simp only [delRow, q1]
        simp [den, denR]
      · exact hg.elim
  | bsl s len zero parts =>
    dsimp only at hg
    split at hg
    · exact hg.elim
    · rename_i cs hcs
      split at hg
      · rename_i xs g ha
        obtain ⟨q1, q2, q3⟩ := absTE_ok (H0 := []) _ _ _ _ _ _ start ha
        have hf := fillT_ok (h := []) _ _ _ hcs
        rw [List.map_map] at hf
        have hxl : xs.length = len := by rw [q3, chunksT_len]
        have key : ∀ r : TR T.El, denR T.toTT0 r = ⟨s, xs.map (denL T.toTT0 [])⟩ → mkop (ev (denE T.toTT0 H0 e)) [] d (.bsl s len zero parts) = some (den T.toTT0 [(d, denR T.toTT0 r)] (.sw d []), [(d, denR T.toTT0 r)]) := by
          intro r hr
          have e0 : denL T.toTT0 [] (List.replicate len (constT zero)).flatten = (List.replicate len (zero.map cval)).flatten := by
            rw [denL_map, List.map_flatten, List.map_replicate, ← denL_map, constT_ok]
          have e1 : (parts.map fun (i, x) => (i * s, s, ev (denE T.toTT0 H0 e) x)) = parts.map ((fun (o, n, x) => (o, n, den T.toTT0 [] x)) ∘ fun (i, x) => (i * s, s, evT e x)) :=
            List.map_congr_left fun ⟨i, x⟩ hix => by simp only [Function.comp, evT_den, hden x (by simp only [opsOf]; exact List.mem_map.2 ⟨(i, x), hix, rfl⟩)]
          simp only [mkop]
          rw [e1, ← e0, hf]
          simp only
          rw [chunksT_ok] at q1
          simp only [denH] at q1
          simp only [delRow, q1, hr]
          simp [den, lenAt, res, getRow, resE, hxl]
        cases hg
        refine ⟨key _ ?_, .inr rfl⟩
        split
        · rename_i m t
          cases hb : Nat.beq (T.sz t) s with
          | false => rfl
          | true =>
            simp only [cond_true]
            split
            · rename_i ys hy
              simp only [denR, unL_ok _ _ hy, Nat.eq_of_beq_eq_true hb]
            · rfl
        · rfl
      · exact hg.elim
  | mks s bytes zero l =>
    dsimp only at hg
    split at hg
    · rename_i n m t hn _
      obtain ⟨hs, hg⟩ := bif_gives hg
      split at hg
      · rename_i z hz
        obtain ⟨hc, hg⟩ := hg
        cases hg
        obtain ⟨kk, hi⟩ := intOf_ok (h := H0) hn
        refine ⟨?_, .inr rfl⟩
        simp only [mkop, evT_den, hi]
        rw [if_pos hc]
        have hz2 : zero.map cval = T.ca m t z := by rw [← T.un_ok _ _ _ _ hz, constT_ok]
        simp [den, lenAt, res, getRow, resE, denR, hz2, Nat.eq_of_beq_eq_true hs, delRow]
      · exact hg.elim
    · exact hg.elim
  | _ => exact hg.elim

/-- A call in a drawn region. -/
def callD (P : Program) (cs : List (Con P T)) (e : TE T.toTT0) (hd : TH T.toTT0) (d : Nat) (op : IK) (K : VT T → TH T.toTT0 → Raw P T pro L) : Raw P T pro L :=
  match callArgs P e op with
  | none => .no
  | some (f, args) =>
  match findC f args cs with
  | some (C, []) => bif C.strong && swInL (fun k => (hd.map Prod.fst).contains k) args then
    Raw.ofRs (fun args' => .call C args' [] fun y =>
      let bm := bmOf [] d C.N
      bif nodupB (bm.map Prod.fst) && nodupB (bm.map Prod.snd) && (!hasSlL args || (noImT (C.encR y) && noImHT (C.encO y))) then
        match splitT (C.encO y) bm, backT bm (C.encR y) with
        | some (hb, _), some v => K v hb
        | _, _ => .no
      else .no) (convTL hd [] C.A args)
    else .no
  | _ => .no
/-- One instruction of a drawn region. -/
def dstepT (cx : Cx P T) (x : Ins) (e : TE T.toTT0) (hd : TH T.toTT0) (K : VT T → TH T.toTT0 → Raw P T pro L) : Raw P T pro L :=
  match x.op with
  | .rd b => bif (opsOf b).all (fun o => swIn (fun k => (hd.map Prod.fst).contains k) (evT e o)) then Raw.ofRs (fun v => bif swIn (fun k => (hd.map Prod.fst).contains k) v then K v [] else .no) (rdT e hd b) else .no
  | .mk b => Raw.ofRs (fun (v, r) => K v [(x.dst, r)]) (mkD (cx.at x.dst) e x.dst b)
  | .call f l => callD P cx.cs e hd x.dst (.call f l) K
  | .callv f l => callD P cx.cs e hd x.dst (.callv f l) K
  | _ => .no
/-- The rows of an answer are new. -/
def newOk (ha : TH T.toTT0) (rows : TH T.toTT0) (e : TE T.toTT0) : Bool := (rows.map Prod.fst).all (fun k => !(ha.map Prod.fst).contains k) && allE (fun k => !(rows.map Prod.fst).contains k) e
def evD (cx : Cx P T) : List (Ins × List Nat) → Nat → TE T.toTT0 → List (Nat × TH T.toTT0) → TH T.toTT0 → (TE T.toTT0 → TH T.toTT0 → Raw P T pro L) → Raw P T pro L
  | [], _, e, acc, h0, K => bif nodupB ((hxAllT acc ++ h0).map Prod.fst) then K e (hxAllT acc ++ h0) else .no
  | x :: l, i, e, acc, h0, K => bif nodupB ((hxAllT acc ++ h0).map Prod.fst) then
    guardT e x.1.guard (fun e => dstepT cx x.1 e (hxT x.2 acc ++ h0) fun v rows => bif newOk (hxAllT acc ++ h0) rows e then evD cx l (i + 1) (putE e x.1.dst v) (acc ++ [(i, rows)]) h0 K else .no)
      (fun e => evD cx l (i + 1) (putE e x.1.dst (skipT x.1.op)) (acc ++ [(i, [])]) h0 K)
    else .no

/-- What one instruction of a drawn region answers. -/
theorem dstepT_ok {cx : Cx P T} {x : Ins} {D : List Nat} {e : TE T.toTT0} {hd ha : TH T.toTT0} {K : VT T → TH T.toTT0 → Raw P T pro L} {Q : L → Prop} (hw : wants (denE T.toTT0 (denH T.toTT0 ha) e) x.guard = some true)
    (hn : nodupB (ha.map Prod.fst) = true) (hsub : ∀ z ∈ hd, z ∈ ha) (hs : Sat (dstepT cx x e hd K) Q) :
    ∃ v rows, Sat (K v rows) Q ∧ ∀ h1 : TH T.toTT0, (∀ k, (hd.map Prod.fst).contains k = true → getRow (denH T.toTT0 h1) k = getRow (denH T.toTT0 hd) k) → (∀ k, (rows.map Prod.fst).contains k = true → getRow (denH T.toTT0 h1) k = getRow (denH T.toTT0 rows) k) →
      DOk P (denE T.toTT0 (denH T.toTT0 ha) e) (denH T.toTT0 hd) ⟨x, D, den T.toTT0 (denH T.toTT0 h1) v, denH T.toTT0 rows⟩ := by
  obtain ⟨d, g, op⟩ := x
  have hpart := part_row hn hsub
  have opd : ∀ o, swIn (fun k => (hd.map Prod.fst).contains k) (evT e o) = true → ev (denE T.toTT0 (denH T.toTT0 ha) e) o = ev (denE T.toTT0 (denH T.toTT0 hd) e) o := fun o ho => by
    rw [evT_den, evT_den, den_swIn hpart _ ho]
  have call : ∀ {op : IK}, (∀ f args, callArgs P e op = some (f, args) → swInL (fun k => (hd.map Prod.fst).contains k) args = true → CallArgs P (denE T.toTT0 (denH T.toTT0 ha) e) op f (denL T.toTT0 (denH T.toTT0 ha) args)) → Sat (callD P cx.cs e hd d op K) Q →
      ∃ v rows, Sat (K v rows) Q ∧ ∀ h1 : TH T.toTT0, (∀ k, (hd.map Prod.fst).contains k = true → getRow (denH T.toTT0 h1) k = getRow (denH T.toTT0 hd) k) → (∀ k, (rows.map Prod.fst).contains k = true → getRow (denH T.toTT0 h1) k = getRow (denH T.toTT0 rows) k) →
        DOk P (denE T.toTT0 (denH T.toTT0 ha) e) (denH T.toTT0 hd) ⟨⟨d, g, op⟩, D, den T.toTT0 (denH T.toTT0 h1) v, denH T.toTT0 rows⟩ := by
    intro op hca hs
    unfold callD at hs
    split at hs
    · exact hs.elim
    · rename_i f args hargs
      split at hs
      · rename_i C hC
        cases hb : (C.strong && swInL (fun k => (hd.map Prod.fst).contains k) args) with
        | false => rw [hb] at hs; exact hs.elim
        | true =>
          rw [hb, cond_true] at hs
          simp only [Bool.and_eq_true] at hb
          obtain ⟨args', hcv, x, y, q1, q2, q3, q4⟩ := Sat.ofRs _ hs
          dsimp only at q4
          generalize hbm : bmOf [] d C.N = bm at q4
          cases hb2 : (nodupB (bm.map Prod.fst) && nodupB (bm.map Prod.snd) && (!hasSlL args || (noImT (C.encR y) && noImHT (C.encO y)))) with
          | false => rw [hb2] at q4; exact q4.elim
          | true =>
            rw [hb2, cond_true] at q4
            simp only [Bool.and_eq_true] at hb2
            obtain ⟨⟨b1, b2⟩, b5⟩ := hb2
            split at q4
            · rename_i hb' left v hsb hbk
              refine ⟨v, hb', q4, fun h1 hp1 hp2 => ?_⟩
              obtain ⟨l, r1, r2⟩ := convTL_ok (H0 := denH T.toTT0 hd) (Hn := denH T.toTT0 []) (rest := hd) (m := []) (bor := hasSlL args) (fun _ _ => rfl) C.A args args' hcv (fun h => h)
              have hok := (C.ok x y q3).1 hb.1
              rw [q1, q2] at hok
              have hCf := findC_ok cx.cs hC
              rw [hCf] at hok
              obtain ⟨t1, t2, t3⟩ := splitT_ok bm (C.encO y) hb' left hsb
              have hkeys := splitH_keys _ _ _ _ t1
              have hde : denL T.toTT0 (denH T.toTT0 ha) args = denL T.toTT0 (denH T.toTT0 hd) args := denL_swIn hpart _ hb.2
              refine .call hw (hca f args hargs hb.2) (by rw [hde]; exact r1) (CallOk.le r2 hok) t1 (nodupB_spec _ b1) (backT_ok (fun k n q hkn => ?_) _ _ hbk) (fun hbor => ?_)
              · have hm := lookRev_pair bm hkn
                have hg := t3 n k b1 b2 hm
                have hn' : n ∈ hb'.map Prod.fst := by rw [← denH_keys, hkeys]; exact List.mem_map.2 ⟨_, hm, rfl⟩
                have := hp2 n (by simpa using hn')
                unfold lenAt res
                rw [this, hg]
              · rw [hbor] at b5
                simp only [Bool.not_true, Bool.false_or, Bool.and_eq_true] at b5
                exact ⟨noImT_ok _ b5.1, noImHT_ok _ b5.2⟩
            · exact q4.elim
      · exact hs.elim
  unfold dstepT at hs
  dsimp only at hs
  split at hs
  · rename_i b
    cases hb : (opsOf b).all (fun o => swIn (fun k => (hd.map Prod.fst).contains k) (evT e o)) with
    | false => rw [hb] at hs; exact hs.elim
    | true =>
      rw [hb, cond_true] at hs
      obtain ⟨v, hv, hs⟩ := Sat.ofRs _ hs
      cases hsv : swIn (fun k => (hd.map Prod.fst).contains k) v with
      | false => rw [hsv] at hs; exact hs.elim
      | true =>
        rw [hsv, cond_true] at hs
        refine ⟨v, [], hs, fun h1 hp1 hp2 => ?_⟩
        obtain ⟨av, r1, r2⟩ := rdT_ok hv
        refine .rd (av := av) hw rfl ?_ (by rw [den_swIn hp1 v hsv]; exact r2) rfl
        rw [← r1]
        exact rdop_congr b fun o ho => opd o (List.all_eq_true.1 hb o ho)
  · rename_i b
    obtain ⟨⟨v, r⟩, hv, hs⟩ := Sat.ofRs _ hs
    obtain ⟨m1, m2⟩ := mkD_ok (denH T.toTT0 ha) hv
    refine ⟨v, [(d, r)], hs, fun h1 hp1 hp2 => .mk hw rfl ?_⟩
    simp only [m1]
    have hr := hp2 d (by simp)
    rcases m2 with rfl | rfl
    · rfl
    · simp only [den]
      congr 2
      rw [lenAt_congr hr]
      rfl
  · rename_i f l
    refine call (fun f' args ha' hsw => ?_) hs
    cases ha'
    have : denL T.toTT0 (denH T.toTT0 ha) (l.map (evT e)) = l.map (ev (denE T.toTT0 (denH T.toTT0 ha) e)) := by
      rw [denL_map, List.map_map]
      exact List.map_congr_left fun x _ => (evT_den x).symm
    rw [this]
    exact .call
  · rename_i f l
    refine call (fun f' args ha' hsw => ?_) hs
    simp only [callArgs] at ha'
    split at ha'
    · rename_i f2 caps hx
      cases hf : fnOk P f2 with
      | false => rw [hf] at ha'; cases ha'
      | true =>
        rw [hf] at ha'
        cases ha'
        have : denL T.toTT0 (denH T.toTT0 ha) (l.map (evT e) ++ caps) = l.map (ev (denE T.toTT0 (denH T.toTT0 ha) e)) ++ denL T.toTT0 (denH T.toTT0 ha) caps := by
          rw [denL_map, denL_map, List.map_append, List.map_map]
          congr 1
          exact List.map_congr_left fun x _ => (evT_den x).symm
        rw [this]
        exact .callv (by rw [evT_den, hx]; rfl) hf
    · cases ha'
  · exact hs.elim
theorem getRow_mid {a b c : H} {k : Nat} (hk : (b.map Prod.fst).contains k = false) : getRow (a ++ b ++ c) k = getRow (a ++ c) k := by
  have hb : getRow b k = none := getRow_none b k (by intro hm; have : (b.map Prod.fst).contains k = true := (by simpa using hm); rw [this] at hk; cases hk)
  rw [getRow_append, getRow_append, getRow_append, hb]
  cases getRow a k <;> rfl
theorem evD_ok {cx : Cx P T} {K : TE T.toTT0 → TH T.toTT0 → Raw P T pro L} {Q : L → Prop} {h0 : TH T.toTT0} : ∀ (l : List (Ins × List Nat)) (i : Nat) (e : TE T.toTT0) (acc : List (Nat × TH T.toTT0)), Sat (evD cx l i e acc h0 K) Q →
    WD P l i (denE T.toTT0 (denH T.toTT0 (hxAllT acc ++ h0)) e) (accA T acc) (denH T.toTT0 h0) (KP K Q)
  | [], i, e, acc, hs => by
    unfold evD at hs
    cases hn : nodupB ((hxAllT acc ++ h0).map Prod.fst) with
    | false => rw [hn] at hs; exact hs.elim
    | true =>
      rw [hn, cond_true] at hs
      have e1 : hxAll (accA T acc) ++ denH T.toTT0 h0 = denH T.toTT0 (hxAllT acc ++ h0) := by rw [hxAllT_den, denH_append]
      refine ⟨by rw [e1, denH_keys]; exact hn, ?_⟩
      rw [e1]
      exact ⟨_, _, rfl, rfl, hs⟩
  | x :: l, i, e, acc, hs => by
    unfold evD at hs
    cases hn : nodupB ((hxAllT acc ++ h0).map Prod.fst) with
    | false => rw [hn] at hs; exact hs.elim
    | true =>
      rw [hn, cond_true] at hs
      obtain ⟨e', he, h1 | h1⟩ := guardT_ok (H0 := denH T.toTT0 (hxAllT acc ++ h0)) hs
      · obtain ⟨v, rows, hK, hd⟩ := dstepT_ok (D := x.2) (ha := hxAllT acc ++ h0) (by rw [he]; exact h1.1) hn (fun z hz => by
          rw [List.mem_append] at hz ⊢
          exact hz.imp (hxT_sub x.2 acc z) id) h1.2
        cases hno : newOk (hxAllT acc ++ h0) rows e' with
        | false => rw [hno] at hK; exact hK.elim
        | true =>
          rw [hno, cond_true] at hK
          simp only [newOk, Bool.and_eq_true] at hno
          have ih := evD_ok l (i + 1) _ _ hK
          have hrow : ∀ k, (rows.map Prod.fst).contains k = false → getRow (denH T.toTT0 (hxAllT (acc ++ [(i, rows)]) ++ h0)) k = getRow (denH T.toTT0 (hxAllT acc ++ h0)) k := fun k hk => by
            rw [hxAllT_snoc, denH_append, denH_append, denH_append]
            exact getRow_mid (by rw [denH_keys]; exact hk)
          have hnew : ∀ k, (rows.map Prod.fst).contains k = true → ((hxAllT acc ++ h0).map Prod.fst).contains k = false := fun k hk => by
            have := List.all_eq_true.1 hno.1 k (by simpa using hk)
            simpa using this
          have hd' := hd (hxAllT (acc ++ [(i, rows)]) ++ h0) (fun k hk => by
            have hsub : ∀ z ∈ hxT x.2 acc ++ h0, z ∈ hxAllT acc ++ h0 := fun z hz => by
              rw [List.mem_append] at hz ⊢
              exact hz.imp (hxT_sub x.2 acc z) id
            have hk2 : ((hxAllT acc ++ h0).map Prod.fst).contains k = true := by
              simp only [List.contains_eq_mem, decide_eq_true_eq] at hk ⊢
              obtain ⟨z, hz, rfl⟩ := List.mem_map.1 hk
              exact List.mem_map.2 ⟨z, hsub z hz, rfl⟩
            rw [hrow k (by
              cases hc : (rows.map Prod.fst).contains k with
              | false => rfl
              | true => rw [hnew k hc] at hk2; cases hk2)]
            exact part_row hn hsub k hk) (fun k hk => by
            rw [hxAllT_snoc, denH_append, denH_append]
            have ha : getRow (denH T.toTT0 (hxAllT acc)) k = none := getRow_none _ _ (by
              rw [denH_keys]
              intro hm
              have h3 := hnew k hk
              have h4 : ((hxAllT acc ++ h0).map Prod.fst).contains k = true := by
                simp only [List.map_append, List.contains_eq_mem, List.mem_append, decide_eq_true_eq]
                exact .inl hm
              rw [h3] at h4; cases h4)
            have hk' : k ∈ (denH T.toTT0 rows).map Prod.fst := by rw [denH_keys]; simpa using hk
            obtain ⟨r, hr⟩ := getRow_some _ _ hk'
            rw [List.append_assoc, getRow_append, ha]
            simp only
            rw [getRow_append, hr])
          rw [← he]
          refine ⟨den T.toTT0 (denH T.toTT0 (hxAllT (acc ++ [(i, rows)]) ++ h0)) v, denH T.toTT0 rows, by rw [hxT_den, ← denH_append]; exact hd', ?_⟩
          · rw [denE_put, denE_all (H0 := denH T.toTT0 (hxAllT acc ++ h0)) (fun k hk => hrow k (by simpa using hk)) e' hno.2] at ih
            have : accA T (acc ++ [(i, rows)]) = accA T acc ++ [(i, denH T.toTT0 rows)] := by simp [accA]
            rw [this] at ih
            exact ih
      · have ih := evD_ok l (i + 1) _ _ h1.2
        have hh : hxAllT (acc ++ [(i, ([] : TH T.toTT0))]) = hxAllT acc := by rw [hxAllT_snoc, List.append_nil]
        rw [denE_put, hh, he, skipT_den] at ih
        refine ⟨skipAV x.1.op, [], .skip h1.1 rfl rfl, ?_⟩
        have : accA T (acc ++ [(i, ([] : TH T.toTT0))]) = accA T acc ++ [(i, [])] := by simp [accA, denH]
        rw [this] at ih
        exact ih
end
end Loom
set_option linter.unusedVariables false
set_option linter.unusedSimpArgs false
namespace Loom
open Go

/-! ### what stays true of what was read -/
def Fact (e : Env) (h : H) (x : Ins) : Prop :=
  (wants e x.guard = some false ∧ e x.dst = skipAV x.op) ∨ (wants e x.guard = some true ∧ ∀ b, x.op = .rd b → ∃ hp av, (∀ z ∈ hp, z ∈ h) ∧ rdop (ev e) (res hp) b = some av ∧ AVle av (e x.dst))
def sepB : List Ins → Bool
  | [] => true
  | x :: l => !(usesI x).contains x.dst && l.all (fun y => !(usesI x).contains y.dst && !(Nat.beq y.dst x.dst)) && sepB l
theorem Fact.next {e : Env} {h h' : H} {x : Ins} {d : Nat} {av : AV} (h1 : d ∉ usesI x) (h2 : d ≠ x.dst) (hs : ∀ z ∈ h, z ∈ h') (hf : Fact e h x) : Fact (upd e d av) h' x := by
  have hw : wants (upd e d av) x.guard = wants e x.guard := wants_uses fun s hs => by
    unfold upd; rw [if_neg (by rintro rfl; exact h1 hs)]
  have hd : upd e d av x.dst = e x.dst := by unfold upd; rw [if_neg (fun e => h2 e.symm)]
  rcases hf with ⟨f1, f2⟩ | ⟨f1, f2⟩
  · exact .inl ⟨hw.trans f1, hd.trans f2⟩
  · refine .inr ⟨hw.trans f1, fun b hb => ?_⟩
    obtain ⟨hp, a, g1, g2, g3⟩ := f2 b hb
    refine ⟨hp, a, fun z hz => hs z (g1 z hz), ?_, by rw [hd]; exact g3⟩
    rw [← g2]
    exact rdop_congr b fun o ho => ev_uses (x := x) (fun s hs => by unfold upd; rw [if_neg (by rintro rfl; exact h1 hs)]) (by rw [hb]; exact ho)
theorem WD.facts {P : Program} {K : Env → H → Prop} {h0 : H} : ∀ (pre : List (Ins × List Nat)) (i : Nat) (e : Env) (acc : List (Nat × H)) (done : List Ins), WD P pre i e acc h0 K → sepB (pre.map Prod.fst) = true → (∀ x ∈ done, ∀ y ∈ pre, y.1.dst ∉ usesI x ∧ y.1.dst ≠ x.dst) →
    (∀ x ∈ done, Fact e (hxAll acc ++ h0) x) → WD P pre i e acc h0 (fun e' h' => K e' h' ∧ ∀ x ∈ done ++ pre.map Prod.fst, Fact e' h' x)
  | [], i, e, acc, done, hw, _, _, hf => ⟨hw.1, hw.2, fun x hx => hf x (by simpa using hx)⟩
  | (x, D) :: pre, i, e, acc, done, hw, hsep, hd, hf => by
    obtain ⟨av, rows, hok, hw⟩ := hw
    simp only [List.map_cons, sepB, Bool.and_eq_true, Bool.not_eq_true'] at hsep
    obtain ⟨⟨s1, s2⟩, s3⟩ := hsep
    have hown : x.dst ∉ usesI x := fun hm => by
      have : (usesI x).contains x.dst = true := by simpa using hm
      rw [this] at s1; cases s1
    have hall : ∀ acc : List (Nat × H), hxAll (acc ++ [(i, rows)]) = hxAll acc ++ rows := by
      intro acc
      induction acc with
      | nil => simp [hxAll]
      | cons y l ih => obtain ⟨j, r⟩ := y; simp [hxAll, ih]
    have hmem : ∀ z ∈ hxAll acc ++ h0, z ∈ hxAll (acc ++ [(i, rows)]) ++ h0 := fun z hz => by
      rw [hall]
      simp only [List.mem_append] at hz ⊢
      rcases hz with hz | hz
      · exact .inl (.inl hz)
      · exact .inr hz
    have hhx : ∀ (acc : List (Nat × H)) (z : Nat × Row), z ∈ hx D acc → z ∈ hxAll acc := by
      intro acc
      induction acc with
      | nil => intro z hz; cases hz
      | cons y l ih =>
        obtain ⟨j, r⟩ := y
        intro z hz
        simp only [hx] at hz
        simp only [hxAll, List.mem_append]
        split at hz
        · rw [List.mem_append] at hz; exact hz.imp id (ih z)
        · exact .inr (ih z hz)
    refine ⟨av, rows, hok, ?_⟩
    have hguard : wants (upd e x.dst av) x.guard = wants e x.guard := wants_uses fun s hs => by
      unfold upd; rw [if_neg (by rintro rfl; exact hown hs)]
    have hdst : upd e x.dst av x.dst = av := by simp [upd]
    have hnew : Fact (upd e x.dst av) (hxAll (acc ++ [(i, rows)]) ++ h0) x := by
      have hrd : ∀ (b : IB) (a : AV), x.op = .rd b → rdop (ev e) (res (hx D acc ++ h0)) b = some a → AVle a av → ∃ hp av', (∀ z ∈ hp, z ∈ hxAll (acc ++ [(i, rows)]) ++ h0) ∧ rdop (ev (upd e x.dst av)) (res hp) b = some av' ∧ AVle av' (upd e x.dst av x.dst) := by
        intro b a hb h1 h2
        refine ⟨hx D acc ++ h0, a, fun z hz => hmem z ?_, ?_, by rw [hdst]; exact h2⟩
        · rw [List.mem_append] at hz ⊢
          exact hz.imp (hhx acc z) id
        · rw [← h1]
          exact rdop_congr b fun o ho => ev_uses (x := x) (fun s hs => by unfold upd; rw [if_neg (by rintro rfl; exact hown hs)]) (by rw [hb]; exact ho)
      cases hok with
      | skip g1 g2 g3 => exact .inl ⟨hguard.trans g1, hdst.trans g2⟩
      | rd g1 g2 g3 g4 g5 =>
        refine .inr ⟨hguard.trans g1, fun b hb => ?_⟩
        simp only at g2
        rw [g2] at hb
        cases hb
        exact hrd _ _ g2 g3 g4
      | mk g1 g2 g3 => exact .inr ⟨hguard.trans g1, fun b hb => by simp only at g2; rw [g2] at hb; cases hb⟩
      | call g1 g2 => exact .inr ⟨hguard.trans g1, fun b hb => by
          simp only at g2
          rw [hb] at g2
          cases g2⟩
    have := WD.facts pre (i + 1) _ _ (done ++ [x]) hw s3 (fun y hy z hz => by
      rcases List.mem_append.1 hy with hy | hy
      · exact hd y hy z (by simp [hz])
      · simp only [List.mem_singleton] at hy
        subst hy
        have := List.all_eq_true.1 s2 z.1 (List.mem_map.2 ⟨z, hz, rfl⟩)
        simp only [Bool.and_eq_true, Bool.not_eq_true', beq_eq, decide_eq_false_iff_not] at this
        exact ⟨by simpa using this.1, this.2⟩) (fun y hy => by
      rcases List.mem_append.1 hy with hy | hy
      · obtain ⟨q1, q2⟩ := hd y hy (x, D) (by simp)
        exact (hf y hy).next q1 q2 hmem
      · simp only [List.mem_singleton] at hy
        subst hy
        exact hnew)
    simpa only [List.append_assoc, List.singleton_append, List.map_cons] using this
def refAV : AV → Option Nat
  | .pt k _ _ _ => some k
  | .sl k _ _ _ => some k
  | _ => none
theorem rdop_res {f : Operand → AV} {r r' : Nat → Path → Option (Nat × Els)} {b : IB} (h : ∀ o ∈ opsOf b, ∀ k, refAV (f o) = some k → ∀ p, r' k p = r k p) : rdop f r' b = rdop f r b := by
  cases b with
  | iad s x i =>
    have hx := h x (by simp [opsOf])
    simp only [rdop]
    cases hv : f x with
    | sl k p off len => have h2 := hx k (by rw [hv]; rfl) p; split <;> simp_all
    | pt k p i c => have h2 := hx k (by rw [hv]; rfl) p; split <;> simp_all
    | _ => split <;> simp_all
  | load agg n x =>
    have hx := h x (by simp [opsOf])
    simp only [rdop]
    cases hv : f x with
    | sl k p off len => have h2 := hx k (by rw [hv]; rfl) p; split <;> simp_all
    | pt k p i c => have h2 := hx k (by rw [hv]; rfl) p; split <;> simp_all
    | _ => split <;> simp_all
  | slc s x lo hi =>
    have hx := h x (by simp [opsOf])
    simp only [rdop]
    cases hv : f x with
    | sl k p off len => have h2 := hx k (by rw [hv]; rfl) p; split <;> simp_all
    | pt k p i c => have h2 := hx k (by rw [hv]; rfl) p; split <;> simp_all
    | _ => split <;> simp_all
  | _ => rfl

section
variable {P : Program} {T : TT} {pro : List Nat} {L : Type}

mutual
def cleanT (bad : Nat → Path → Bool) : VT T → Bool
  | .sl k p _ _ => !bad k p
  | .sw k p => !bad k p
  | .pt k p _ _ => !bad k p
  | .ag cs => cleanTL bad cs
  | .tu cs => cleanTL bad cs
  | .fn _ cs => cleanTL bad cs
  | .un | .sc _ | .ik _ _ | .bk _ | .zs | .im _ _ | .ip _ _ _ | .ow _ _ _ | .oo _ _ _ _ _ => true
def cleanTL (bad : Nat → Path → Bool) : List (VT T) → Bool
  | [] => true
  | x :: l => cleanT bad x && cleanTL bad l
end
mutual
theorem cleanT_ok {bad : Nat → Path → Bool} {H0 : H} : ∀ (v : VT T), cleanT bad v = true → kill bad (den T.toTT0 H0 v) = den T.toTT0 H0 v
  | .sl k p _ _, h => by simp only [cleanT, Bool.not_eq_true'] at h; simp only [den, kill, h, Bool.false_eq_true, if_false]
  | .sw k p, h => by simp only [cleanT, Bool.not_eq_true'] at h; simp only [den, kill, h, Bool.false_eq_true, if_false]
  | .pt k p _ _, h => by simp only [cleanT, Bool.not_eq_true'] at h; simp only [den, kill, h, Bool.false_eq_true, if_false]
  | .ag cs, h => by simp only [cleanT] at h; simp only [den, kill, cleanTL_ok cs h]
  | .tu cs, h => by simp only [cleanT] at h; simp only [den, kill, cleanTL_ok cs h]
  | .fn _ cs, h => by simp only [cleanT] at h; simp only [den, kill, cleanTL_ok cs h]
  | .un, _ | .sc _, _ | .ik _ _, _ | .bk _, _ | .zs, _ | .im _ _, _ | .ip _ _ _, _ | .ow _ _ _, _ | .oo _ _ _ _ _, _ => rfl
theorem cleanTL_ok {bad : Nat → Path → Bool} {H0 : H} : ∀ (v : List (VT T)), cleanTL bad v = true → killL bad (denL T.toTT0 H0 v) = denL T.toTT0 H0 v
  | [], _ => rfl
  | x :: l, h => by
    simp only [cleanTL, Bool.and_eq_true] at h
    simp only [denL, killL, cleanT_ok x h.1, cleanTL_ok l h.2]
end
def refT : VT T → Option Nat
  | .pt k _ _ _ => some k
  | .sl k _ _ _ => some k
  | .sw k _ => some k
  | _ => none
theorem refT_ok {H0 : H} {v : VT T} : refAV (den T.toTT0 H0 v) = refT v := by cases v <;> rfl
def rowsB : IB → Bool
  | .iad _ _ _ | .load _ _ _ | .slc _ _ _ _ => true
  | _ => false
/-- A read that answers the same behind the one instruction. -/
def stable (st : StT T) (e : TE T.toTT0) (x : Ins) : Bool :=
  match x.op with
  | .rd b => (opsOf b).all fun o => cleanT st.bad (evT e o) && (!rowsB b || match refT (evT e o) with | some k => !st.tch.contains k | none => true)
  | _ => false
def eqP : Path → Path → Bool
  | [], [] => true
  | (i, c) :: p, (j, d) :: q => Nat.beq c d && (Nat.beq i j && eqP p q)
  | _, _ => false
theorem eqP_ok : ∀ (p q : Path), eqP p q = true → p = q
  | [], [], _ => rfl
  | (i, c) :: p, (j, d) :: q, h => by
    simp only [eqP, Bool.and_eq_true] at h
    rw [Nat.eq_of_beq_eq_true h.1, Nat.eq_of_beq_eq_true h.2.1, eqP_ok p q h.2.2]
  | [], _ :: _, h => by cases h
  | _ :: _, [], h => by cases h
def eqT : VT T → VT T → Bool
  | .sw k p, .sw k' p' => Nat.beq k k' && eqP p p'
  | _, _ => false
theorem eqT_ok : ∀ (v w : VT T), eqT v w = true → v = w := by
  intro v w h
  unfold eqT at h
  split at h
  · simp only [Bool.and_eq_true] at h
    rw [Nat.eq_of_beq_eq_true h.1, eqP_ok _ _ h.2]
  · cases h
/-- A read that answers the same, read anew. -/
def stable2 (st : StT T) (e : TE T.toTT0) (x : Ins) : Bool :=
  match x.op with
  | .rd b => (opsOf b).all (fun o => cleanT (fun k p => st.bad k p || st.bw k p) (evT e o)) && match rdT e st.h b with
    | .ok v => eqT v (getE e x.dst) && cleanT (fun k p => st.bad k p || st.bw k p) v
    | _ => false
  | _ => false
def stables (dep : List Nat) (st : StT T) (e : TE T.toTT0) : List (Ins × List Nat) → Nat → Bool
  | [], _ => true
  | (x, _) :: l, i => (dep.contains i || (stable st e x || stable2 st e x)) && stables dep st e l (i + 1)
theorem wants_kill {e : Env} {g : Option (Nat × Bool)} {b : Bool} {bad : Nat → Path → Bool} (h : wants e g = some b) : wants (fun t => kill bad (e t)) g = some b := by
  cases g with
  | none => exact h
  | some sw =>
    obtain ⟨s, want⟩ := sw
    simp only [wants] at h ⊢
    split at h
    · rename_i hb; rw [hb]; simpa [kill] using h
    · rename_i hb; rw [hb]; simpa [kill] using h
    · cases h
mutual
theorem clean_den {bad : Nat → Path → Bool} {H0 H1 : H} (hl : ∀ k p, bad k p = false → lenAt H1 k p = lenAt H0 k p) : ∀ (v : VT T), cleanT bad v = true → den T.toTT0 H1 v = den T.toTT0 H0 v
  | .sw k p, h => by simp only [cleanT, Bool.not_eq_true'] at h; simp only [den, hl k p h]
  | .ag cs, h => by simp only [cleanT] at h; simp only [den, clean_denL hl cs h]
  | .tu cs, h => by simp only [cleanT] at h; simp only [den, clean_denL hl cs h]
  | .fn _ cs, h => by simp only [cleanT] at h; simp only [den, clean_denL hl cs h]
  | .un, _ | .sc _, _ | .ik _ _, _ | .bk _, _ | .zs, _ | .im _ _, _ | .ip _ _ _, _ | .sl _ _ _ _, _ | .pt _ _ _ _, _ | .ow _ _ _, _ | .oo _ _ _ _ _, _ => rfl
theorem clean_denL {bad : Nat → Path → Bool} {H0 H1 : H} (hl : ∀ k p, bad k p = false → lenAt H1 k p = lenAt H0 k p) : ∀ (v : List (VT T)), cleanTL bad v = true → denL T.toTT0 H1 v = denL T.toTT0 H0 v
  | [], _ => rfl
  | x :: l, h => by
    simp only [cleanTL, Bool.and_eq_true] at h
    simp only [denL, clean_den hl x h.1, clean_denL hl l h.2]
end
mutual
theorem clean_sub {bad bad' : Nat → Path → Bool} (hb : ∀ k p, bad k p = false → bad' k p = false) : ∀ (v : VT T), cleanT bad v = true → cleanT bad' v = true
  | .sl k p _ _, h => by simp only [cleanT, Bool.not_eq_true'] at h ⊢; exact hb k p h
  | .sw k p, h => by simp only [cleanT, Bool.not_eq_true'] at h ⊢; exact hb k p h
  | .pt k p _ _, h => by simp only [cleanT, Bool.not_eq_true'] at h ⊢; exact hb k p h
  | .ag cs, h => by simp only [cleanT] at h ⊢; exact clean_subL hb cs h
  | .tu cs, h => by simp only [cleanT] at h ⊢; exact clean_subL hb cs h
  | .fn _ cs, h => by simp only [cleanT] at h ⊢; exact clean_subL hb cs h
  | .un, _ | .sc _, _ | .ik _ _, _ | .bk _, _ | .zs, _ | .im _ _, _ | .ip _ _ _, _ | .ow _ _ _, _ | .oo _ _ _ _ _, _ => rfl
theorem clean_subL {bad bad' : Nat → Path → Bool} (hb : ∀ k p, bad k p = false → bad' k p = false) : ∀ (v : List (VT T)), cleanTL bad v = true → cleanTL bad' v = true
  | [], _ => rfl
  | x :: l, h => by
    simp only [cleanTL, Bool.and_eq_true] at h ⊢
    exact ⟨clean_sub hb x h.1, clean_subL hb l h.2⟩
end
theorem stables_ok {dep : List Nat} {st : StT T} {e : TE T.toTT0} {hA : TH T.toTT0} (hlen : ∀ k p, st.bad k p = false → st.bw k p = false → lenAt (denH T.toTT0 st.h) k p = lenAt (denH T.toTT0 hA) k p) (hn : nodupB (hA.map Prod.fst) = true) (ht : ∀ k, st.tch.contains k = false → getRow (denH T.toTT0 st.h) k = getRow (denH T.toTT0 hA) k) : ∀ (l : List (Ins × List Nat)) (i : Nat), stables dep st e l i = true →
    (∀ x ∈ l.map Prod.fst, Fact (denE T.toTT0 (denH T.toTT0 hA) e) (denH T.toTT0 hA) x) → Agains dep (kill st.bad) (denE T.toTT0 (denH T.toTT0 hA) e) (denH T.toTT0 st.h) l i
  | [], _, _, _ => trivial
  | (x, D) :: l, i, hs, hf => by
    simp only [stables, Bool.and_eq_true, Bool.or_eq_true] at hs
    refine ⟨?_, stables_ok hlen hn ht l (i + 1) hs.2 (fun y hy => hf y (by simp [hy]))⟩
    rcases hs.1 with h1 | h1 | h1
    · exact .inl h1
    rotate_left
    · right
      unfold stable2 at h1
      split at h1
      · rename_i b hb
        rcases hf x (by simp) with ⟨f1, f2⟩ | ⟨f1, f2⟩
        · refine .inl ⟨wants_kill f1, ?_⟩
          rw [f2]
          cases x.op <;> rfl
        · simp only [Bool.and_eq_true] at h1
          obtain ⟨h1, h2⟩ := h1
          split at h2
          · rename_i v hv
            simp only [Bool.and_eq_true] at h2
            have hlen' : ∀ k p, (fun k p => st.bad k p || st.bw k p) k p = false → lenAt (denH T.toTT0 st.h) k p = lenAt (denH T.toTT0 hA) k p := fun k p hk => by
              simp only [Bool.or_eq_false_iff] at hk
              exact hlen k p hk.1 hk.2
            have hsub : ∀ k p, (fun k p => st.bad k p || st.bw k p) k p = false → st.bad k p = false := fun k p hk => by
              simp only [Bool.or_eq_false_iff] at hk
              exact hk.1
            obtain ⟨av, r1, r2⟩ := rdT_ok (e := e) (h := st.h) (b := b) (v := v) (by rw [hv]; exact rfl)
            have hcl : ∀ o ∈ opsOf b, ev (fun t => kill st.bad (denE T.toTT0 (denH T.toTT0 hA) e t)) o = ev (denE T.toTT0 (denH T.toTT0 st.h) e) o := fun o ho => by
              have := List.all_eq_true.1 h1 o ho
              cases o with
              | tmp t =>
                have q1 := cleanT_ok (H0 := denH T.toTT0 hA) _ (clean_sub hsub _ this)
                have q2 := clean_den hlen' _ this
                exact q1.trans q2.symm
              | _ => rfl
            refine .inr ⟨wants_kill f1, b, av, hb, (rdop_congr b hcl).trans r1, ?_⟩
            have e1 := eqT_ok _ _ h2.1
            have q2 := clean_den hlen' _ h2.2
            have q1 := cleanT_ok (H0 := denH T.toTT0 hA) _ (clean_sub hsub _ h2.2)
            rw [q2] at r2
            show AVle av (kill st.bad (den T.toTT0 (denH T.toTT0 hA) (getE e x.dst)))
            rw [← e1, q1]
            exact r2
          · cases h2
      · cases h1
    · right
      unfold stable at h1
      split at h1
      · rename_i b hb
        rcases hf x (by simp) with ⟨f1, f2⟩ | ⟨f1, f2⟩
        · refine .inl ⟨wants_kill f1, ?_⟩
          rw [f2]
          cases x.op <;> rfl
        · obtain ⟨hp, av, g1, g2, g3⟩ := f2 b hb
          refine .inr ⟨wants_kill f1, b, av, hb, ?_, g3.trans (AVle.kill _ _)⟩
          have e1 : rdop (ev (denE T.toTT0 (denH T.toTT0 hA) e)) (res (denH T.toTT0 hA)) b = some av :=
            rdop_mono (fun k p v hv => res_mono (by rw [denH_keys]; exact nodupB_spec _ hn) g1 k p v hv) g2
          have hcl : ∀ o ∈ opsOf b, ev (fun t => kill st.bad (denE T.toTT0 (denH T.toTT0 hA) e t)) o = ev (denE T.toTT0 (denH T.toTT0 hA) e) o := fun o ho => by
            have := List.all_eq_true.1 h1 o ho
            simp only [Bool.and_eq_true] at this
            cases o with
            | tmp t => exact cleanT_ok _ this.1
            | _ => rfl
          rw [rdop_congr b hcl, ← e1]
          cases hrb : rowsB b with
          | false => cases b <;> first | rfl | cases hrb
          | true =>
            refine rdop_res fun o ho k hk p => ?_
            have := List.all_eq_true.1 h1 o ho
            simp only [Bool.and_eq_true, hrb, Bool.not_true, Bool.false_or] at this
            rw [evT_den, refT_ok] at hk
            rw [hk] at this
            simp only [Bool.not_eq_true'] at this
            unfold res
            rw [ht k this.2]
      · cases h1

/-- The one instruction. -/
def turnOp (pro : List Nat) (cx : Cx P T) (x : Ins) (e : TE T.toTT0) (h : TH T.toTT0) (K : StT T → Raw P T pro L) : Raw P T pro L :=
  match x.op with
  | .mk b => Raw.ofRs K (mkT (cx.at x.dst) pro e h x.dst b)
  | .app s bytes a b => Raw.ofRs K (appT (cx.at x.dst) pro e h x.dst s bytes a b)
  | .st n a v => Raw.ofRs K (stT e h n a v)
  | _ => .no
def turnT (pro : List Nat) (cx : Cx P T) (x : Ins) (e : TE T.toTT0) (h : TH T.toTT0) (K : StT T → Raw P T pro L) : Raw P T pro L :=
  match x.guard with
  | none => turnOp pro cx x e h K
  | some (s, want) => match getE e s with | .bk true => bif want then turnOp pro cx x e h K else .no | .bk false => bif want then .no else turnOp pro cx x e h K | _ => .no
theorem turnT_ok {cx : Cx P T} {x : Ins} {e : TE T.toTT0} {h : TH T.toTT0} {K : StT T → Raw P T pro L} {Q : L → Prop} (hs : Sat (turnT pro cx x e h K) Q) :
    ∃ st, Sat (K st) Q ∧ StOk P pro T e h x st ∧ wants (denE T.toTT0 (denH T.toTT0 h) e) x.guard = some true := by
  obtain ⟨d, g, op⟩ := x
  have go : Sat (turnOp pro cx ⟨d, g, op⟩ e h K) Q → ∃ st, Sat (K st) Q ∧ StOk P pro T e h ⟨d, g, op⟩ st := fun hs => by
    unfold turnOp at hs
    dsimp only at hs
    split at hs
    · obtain ⟨st, hv, hK⟩ := Sat.ofRs _ hs
      exact ⟨st, hK, mkT_st hv⟩
    · obtain ⟨st, hv, hK⟩ := Sat.ofRs _ hs
      exact ⟨st, hK, appT_st hv⟩
    · obtain ⟨st, hv, hK⟩ := Sat.ofRs _ hs
      exact ⟨st, hK, stT_st hv⟩
    · exact hs.elim
  unfold turnT at hs
  dsimp only at hs
  split at hs
  · obtain ⟨st, q1, q2⟩ := go hs
    exact ⟨st, q1, q2, rfl⟩
  · rename_i s want
    split at hs
    · rename_i hv
      cases want with
      | false => exact hs.elim
      | true =>
        obtain ⟨st, q1, q2⟩ := go hs
        exact ⟨st, q1, q2, by simp [wants, denE, hv, den]⟩
    · rename_i hv
      cases want with
      | true => exact hs.elim
      | false =>
        obtain ⟨st, q1, q2⟩ := go hs
        exact ⟨st, q1, q2, by simp [wants, denE, hv, den]⟩
    · exact hs.elim
theorem StOk.turn {e : TE T.toTT0} {h : TH T.toTT0} {x : Ins} {st : StT T} (hst : StOk P pro T e h x st) (hw : wants (denE T.toTT0 (denH T.toTT0 h) e) x.guard = some true) :
    TurnOk P pro x (denE T.toTT0 (denH T.toTT0 h) e) (denH T.toTT0 h) (kill st.bad) (den T.toTT0 (denH T.toTT0 st.h) st.v) (denH T.toTT0 st.h) := fun e' he => by
  obtain ⟨e0, h0', e1, h1', g1, gb, g2, g3⟩ := hst.1 e' he
  exact ⟨by rw [wants_uses he]; exact hw, e0, h0', e1, h1', g1, g2, g3⟩

/-! ### whole drawn regions -/
def keepT (keep : List Nat) (e : TE T.toTT0) : TE T.toTT0 := keep.map fun t => (t, getE e t)
theorem keepT_den {H0 : H} (keep : List Nat) (e : TE T.toTT0) : denE T.toTT0 H0 (keepT keep e) = keepE keep (denE T.toTT0 H0 e) := by
  unfold keepE keepT
  induction keep with
  | nil => rfl
  | cons s l ih =>
    simp only [List.map_cons, envOf]
    rw [← ih]
    exact denE_put (e := List.map (fun t => (t, getE e t)) l)
def dropE (ds : List Nat) : TE T.toTT0 → TE T.toTT0
  | [] => []
  | (k, v) :: l => bif ds.contains k then dropE ds l else (k, v) :: dropE ds l
theorem getE_drop {ds : List Nat} {t : Nat} : ∀ (e : TE T.toTT0), getE (dropE ds e) t = if ds.contains t then .un else getE e t
  | [] => by simp [dropE, getE]
  | (k, v) :: l => by
    have ih := getE_drop (ds := ds) (t := t) l
    simp only [dropE]
    cases hk : ds.contains k with
    | true =>
      simp only [cond_true, ih, getE, beq_eq]
      by_cases ht : t = k
      · subst ht; rw [hk]; simp
      · simp [ht]
    | false =>
      simp only [cond_false, getE, beq_eq]
      by_cases ht : t = k
      · subst ht; rw [hk]; simp
      · simp [ht, ih]
def startE (ds : List Nat) (e : TE T.toTT0) : TE T.toTT0 := killTE (fun k _ => ds.contains k) (fun _ _ => false) (dropE ds e)
theorem startE_den {ds : List Nat} {e : TE T.toTT0} {h : TH T.toTT0} : denE T.toTT0 (denH T.toTT0 (delKeysT h ds)) (startE ds e) = preE ds (denE T.toTT0 (denH T.toTT0 h) e) := by
  funext t
  simp only [denE, startE, getE_kill, getE_drop, preE]
  have hl : ∀ k p, (fun k (_ : Path) => ds.contains k) k p = false → lenAt (denH T.toTT0 (delKeysT h ds)) k p = lenAt (denH T.toTT0 h) k p := fun k p hk => lenAt_congr (by rw [← delKeysT_row]; exact getRow_delKeys _ _ _ hk)
  by_cases ht : t ∈ ds
  · rw [if_pos ht, if_pos (by simpa using ht)]; rfl
  · rw [if_neg ht, if_neg (by simpa using ht)]
    exact (kill_eq hl _).symm
def splitLast {α : Type} : List α → Option (List α × α)
  | [] => none
  | [x] => some ([], x)
  | x :: l => match splitLast l with | some (p, y) => some (x :: p, y) | none => none
theorem splitLast_ok {α : Type} : ∀ (l p : List α) (y : α), splitLast l = some (p, y) → l = p ++ [y]
  | [], _, _, h => by cases h
  | [x], _, _, h => by cases h; rfl
  | x :: z :: l, p, y, h => by
    simp only [splitLast] at h
    split at h
    · rename_i p' y' h'
      cases h
      rw [splitLast_ok (z :: l) _ _ h']; rfl
    · cases h
def isTurn (cx : Cx P T) (x : Ins) : Bool :=
  match x.op with
  | .st _ _ _ | .app _ _ _ _ => true
  | .mk _ => cx.tn.contains x.dst
  | _ => false
def keysT (ds : List Nat) (h0 h1 : TH T.toTT0) : Bool := (h1.map Prod.fst).all (fun k => ds.contains k || (h0.map Prod.fst).contains k)
def evDraw (pro : List Nat) (cx : Cx P T) (keep : List Nat) (pre : List (Ins × List Nat)) (tail : List Ins) (e : TE T.toTT0) (h : TH T.toTT0) (K : TE T.toTT0 → TH T.toTT0 → Raw P T pro L) : Raw P T pro L :=
  let ds := pre.map (·.1.dst)
  let e0 := startE ds e
  let h0 := delKeysT h ds
  let Kt : TE T.toTT0 → TH T.toTT0 → Raw P T pro L := fun e h => evR pro cx tail e h fun e h => K (keepT keep e) h
  let plain : Raw P T pro L := bif nodupB ds && okUses ds 0 pre && pro.all (fun k => !ds.contains k) && pre.all (fun x => !isSt x.1.op) then evD cx pre 0 e0 [] h0 fun e1 h1 => bif keysT ds h0 h1 then Kt e1 h1 else .no else .no
  match splitLast pre with
  | some (pre0, x, dep) => bif isTurn cx x then
      bif nodupB ds && okUses ds 0 pre && pro.all (fun k => !ds.contains k) && pre0.all (fun x => !isSt x.1.op) && onlyRd dep pre0 0 && !dep.contains pre0.length && dep.all (fun i => decide (i < pre0.length)) && pre0.all (fun x => !x.2.contains pre0.length) && sepB (pre0.map Prod.fst) then
        evD cx pre0 0 e0 [] h0 fun e1 hA => turnT pro cx x e1 hA fun st =>
          bif nodupB (hA.map Prod.fst) && keysT ds h0 hA && nodupB (st.h.map Prod.fst) && stables dep st e1 pre0 0 then Kt (st.env e1 x.dst) st.h else .no
      else .no
    else plain
  | none => plain
theorem evDraw_ok {cx : Cx P T} {keep : List Nat} {pre : List (Ins × List Nat)} {tail : List Ins} {e : TE T.toTT0} {h : TH T.toTT0} {K : TE T.toTT0 → TH T.toTT0 → Raw P T pro L} {Q : L → Prop} {Q' : Out → Env → H → Prop}
    (hQ : ∀ E H0, KP K Q E H0 → Q' .normal E H0) (hs : Sat (evDraw pro cx keep pre tail e h K) Q) : W P pro (.draw keep pre tail) Q' (denE T.toTT0 (denH T.toTT0 h) e) (denH T.toTT0 h) := by
  have tl : ∀ (e1 : TE T.toTT0) (h1 : TH T.toTT0), Sat (evR pro cx tail e1 h1 fun e h => K (keepT keep e) h) Q → RG P pro keep Q' tail (denE T.toTT0 (denH T.toTT0 h1) e1) (denH T.toTT0 h1) := fun e1 h1 hs => by
    obtain ⟨E, H', r, e2, h2, rfl, rfl, hK⟩ := evR_ok tail e1 h1 hs
    exact ⟨_, _, r, hQ _ _ ⟨_, _, (keepT_den keep e2).symm, rfl, hK⟩⟩
  have plain : Sat (bif nodupB (pre.map (·.1.dst)) && okUses (pre.map (·.1.dst)) 0 pre && pro.all (fun k => !(pre.map (·.1.dst)).contains k) && pre.all (fun x => !isSt x.1.op) then evD cx pre 0 (startE (pre.map (·.1.dst)) e) [] (delKeysT h (pre.map (·.1.dst))) fun e1 h1 => bif keysT (pre.map (·.1.dst)) (delKeysT h (pre.map (·.1.dst))) h1 then evR pro cx tail e1 h1 (fun e h => K (keepT keep e) h) else .no else .no : Raw P T pro L) Q →
      W P pro (.draw keep pre tail) Q' (denE T.toTT0 (denH T.toTT0 h) e) (denH T.toTT0 h) := fun hs => by
    cases hb : (nodupB (pre.map (·.1.dst)) && okUses (pre.map (·.1.dst)) 0 pre && pro.all (fun k => !(pre.map (·.1.dst)).contains k) && pre.all (fun x => !isSt x.1.op)) with
    | false => rw [hb] at hs; exact hs.elim
    | true =>
      rw [hb, cond_true] at hs
      refine W.drawG (pre.map (·.1.dst)) rfl hb ?_
      have := evD_ok pre 0 _ [] hs
      simp only [hxAllT, List.nil_append, startE_den, accA, List.map_nil] at this
      rw [delKeysT_row]
      refine WD.mono (fun E H0 hk => ?_) _ _ _ _ this
      obtain ⟨e1, h1, rfl, rfl, hK⟩ := hk
      dsimp only at hK
      cases hk2 : keysT (pre.map (·.1.dst)) (delKeysT h (pre.map (·.1.dst))) h1 with
      | false => rw [hk2] at hK; exact hK.elim
      | true =>
        rw [hk2, cond_true] at hK
        refine ⟨?_, tl _ _ hK⟩
        unfold keysOk
        rw [denH_keys, denH_keys]
        exact hk2
  unfold evDraw at hs
  dsimp only at hs
  split at hs
  · rename_i pre0 x dep hsl
    have hpre := splitLast_ok _ _ _ hsl
    cases ht : isTurn cx x with
    | false => rw [ht, cond_false] at hs; exact plain hs
    | true =>
      rw [ht, cond_true] at hs
      generalize hds : pre.map (·.1.dst) = ds at hs
      cases hb : (nodupB ds && okUses ds 0 pre && pro.all (fun k => !ds.contains k) && pre0.all (fun x => !isSt x.1.op) && onlyRd dep pre0 0 && !dep.contains pre0.length && dep.all (fun i => decide (i < pre0.length)) && pre0.all (fun x => !x.2.contains pre0.length) && sepB (pre0.map Prod.fst)) with
      | false => rw [hb] at hs; exact hs.elim
      | true =>
        rw [hb, cond_true] at hs
        simp only [Bool.and_eq_true] at hb
        obtain ⟨hb, hsep⟩ := hb
        rw [hpre] at hds hb ⊢
        refine W.turn ds hds (by simpa only [Bool.and_eq_true] using hb) ?_
        have hwd := evD_ok pre0 0 _ [] hs
        simp only [hxAllT, List.nil_append, startE_den, accA, List.map_nil] at hwd
        rw [delKeysT_row]
        have hf := WD.facts pre0 0 _ [] [] hwd hsep (fun _ h => (by cases h)) (fun _ h => (by cases h))
        refine WD.mono (fun E H0 hk => ?_) _ _ _ _ hf
        obtain ⟨⟨e1, hA, rfl, rfl, hK⟩, hfacts⟩ := hk
        obtain ⟨st, hK, hst, hw⟩ := turnT_ok hK
        cases hc : (nodupB (hA.map Prod.fst) && keysT ds (delKeysT h ds) hA && nodupB (st.h.map Prod.fst) && stables dep st e1 pre0 0) with
        | false => rw [hc] at hK; exact hK.elim
        | true =>
          rw [hc, cond_true] at hK
          simp only [Bool.and_eq_true] at hc
          obtain ⟨⟨⟨c1, c2⟩, c3⟩, c4⟩ := hc
          refine ⟨kill st.bad, den T.toTT0 (denH T.toTT0 st.h) st.v, denH T.toTT0 st.h, ?_, by rw [denH_keys]; exact c3, hst.turn hw, stables_ok hst.2.1 c1 hst.2.2 pre0 0 c4 (by simpa using hfacts), ?_⟩
          · unfold keysOk
            rw [denH_keys, denH_keys]
            exact c2
          · exact RG.ghost (StT.env_ghost hst.2.1) (tl _ _ hK)
  · exact plain hs
end
end Loom
set_option linter.unusedVariables false
set_option linter.unusedSimpArgs false
namespace Loom
open Go

/-- The form of a slot. -/
inductive SD where
  | any
  | un
  | im (t : Nat)
  | own (c : Nat) (m : Bool) (t : Nat)
  | ref (c : Nat)
  | ag (l : List SD)
  | fn (l : List SD)
/-- The form of a row. -/
inductive RD where
  | any
  | fix (ks : List Kd)
  | typ (m : Bool) (t : Nat)
structure Dr where
  S : List (Nat × SD)
  R : List (Nat × RD)

section
variable {P : Program} {T : TT} {pro : List Nat} {L : Type}

mutual
def plainT : VT T → Option (VT T)
  | .un => some .un
  | .sc v => some (.sc v)
  | .ik k n => some (.sc (.int k n))
  | .bk b => some (.sc (.bool b))
  | .zs => some .zs
  | .im t xs => some (.im t xs)
  | .ip s cs c => some (.ip s cs c)
  | .ag cs => match plainTL cs with | some cs' => some (.ag cs') | none => none
  | .tu cs => match plainTL cs with | some cs' => some (.tu cs') | none => none
  | .fn f cs => match plainTL cs with | some cs' => some (.fn f cs') | none => none
  | .sl _ _ _ _ | .sw _ _ | .pt _ _ _ _ | .ow _ _ _ | .oo _ _ _ _ _ => none
def plainTL : List (VT T) → Option (List (VT T))
  | [] => some []
  | x :: l => match plainT x, plainTL l with | some x', some l' => some (x' :: l') | _, _ => none
end
mutual
theorem plainT_ok {H0 : H} : ∀ (v v' : VT T), plainT v = some v' → den T.toTT0 H0 v = den T.toTT0 H0 v'
  | .un, _, h | .sc _, _, h | .ik _ _, _, h | .bk _, _, h | .zs, _, h | .im _ _, _, h | .ip _ _ _, _, h => by cases h; rfl
  | .ag cs, _, h => by
    simp only [plainT] at h
    split at h
    · rename_i cs' hc; cases h; simp only [den, plainTL_ok cs cs' hc]
    · cases h
  | .tu cs, _, h => by
    simp only [plainT] at h
    split at h
    · rename_i cs' hc; cases h; simp only [den, plainTL_ok cs cs' hc]
    · cases h
  | .fn f cs, _, h => by
    simp only [plainT] at h
    split at h
    · rename_i cs' hc; cases h; simp only [den, plainTL_ok cs cs' hc]
    · cases h
  | .sl _ _ _ _, _, h | .sw _ _, _, h | .pt _ _ _ _, _, h | .ow _ _ _, _, h | .oo _ _ _ _ _, _, h => by cases h
theorem plainTL_ok {H0 : H} : ∀ (v v' : List (VT T)), plainTL v = some v' → denL T.toTT0 H0 v = denL T.toTT0 H0 v'
  | [], _, h => by cases h; rfl
  | x :: l, _, h => by
    simp only [plainTL] at h
    split at h
    · rename_i x' l' h1 h2
      cases h
      simp only [denL, plainT_ok x x' h1, plainTL_ok l l' h2]
    · cases h
end
mutual
/-- A value in its form, and the names of the rows that it names. -/
def convV : SD → VT T → Option (VT T × List (Nat × Nat))
  | .any, v => match plainT v with | some v' => some (v', []) | none => none
  | .un, _ => some (.un, [])
  | .im t, .zs => some (.im t [], [])
  | .im _, .im t xs => some (.im t xs, [])
  | .im _, _ => none
  | .own c _ _, .sw k [] => some (.sw k [], [(c, k)])
  | .own _ _ _, _ => none
  | .ref c, .pt k p i cc => some (.pt k p i cc, [(c, k)])
  | .ref c, .sw k p => some (.sw k p, [(c, k)])
  | .ref c, .sl k p off len => some (.sl k p off len, [(c, k)])
  | .ref _, _ => none
  | .ag ds, .ag cs => match convVL ds cs with | some (cs', b) => some (.ag cs', b) | none => none
  | .ag ds, .tu cs => match convVL ds cs with | some (cs', b) => some (.tu cs', b) | none => none
  | .ag _, _ => none
  | .fn ds, .fn f cs => match convVL ds cs with | some (cs', b) => some (.fn f cs', b) | none => none
  | .fn _, _ => none
def convVL : List SD → List (VT T) → Option (List (VT T) × List (Nat × Nat))
  | [], [] => some ([], [])
  | d :: ds, v :: vs => match convV d v, convVL ds vs with | some (v', b), some (vs', b') => some (v' :: vs', b ++ b') | _, _ => none
  | _, _ => none
end
mutual
theorem convV_ok {H0 : H} : ∀ (d : SD) (v v' : VT T) (b : List (Nat × Nat)), convV d v = some (v', b) → AVle (den T.toTT0 H0 v) (den T.toTT0 H0 v')
  | .any, v, v', b, h => by
    simp only [convV] at h
    split at h
    · rename_i w hw; cases h; rw [plainT_ok v _ hw]; exact AVle.refl _
    · cases h
  | .un, v, v', b, h => by cases h; exact AVle.un _
  | .im t, v, v', b, h => by
    cases v <;> first | (cases h; done) | skip
    · cases h; simp only [den, List.map_nil]; exact AVle.zsIm _
    · cases h; exact AVle.refl _
  | .own c m t, v, v', b, h => by
    cases v with
    | sw k p =>
      cases p with
      | nil => cases h; exact AVle.refl _
      | cons _ _ => cases h
    | _ => cases h
  | .ref c, v, v', b, h => by
    cases v <;> first | (cases h; done) | (cases h; exact AVle.refl _)
  | .ag ds, v, v', b, h => by
    cases v with
    | ag cs =>
      simp only [convV] at h
      split at h
      · rename_i cs' b' hc; cases h; simp only [den]; exact AVle.ag (convVL_ok ds cs cs' _ hc).C
      · cases h
    | tu cs =>
      simp only [convV] at h
      split at h
      · rename_i cs' b' hc; cases h; simp only [den]; exact AVle.tu (convVL_ok ds cs cs' _ hc).L
      · cases h
    | _ => cases h
  | .fn ds, v, v', b, h => by
    cases v with
    | fn f cs =>
      simp only [convV] at h
      split at h
      · rename_i cs' b' hc; cases h; simp only [den]; exact AVle.fn (convVL_ok ds cs cs' _ hc).L
      · cases h
    | _ => cases h
theorem convVL_ok {H0 : H} : ∀ (d : List SD) (v v' : List (VT T)) (b : List (Nat × Nat)), convVL d v = some (v', b) → AVles (denL T.toTT0 H0 v) (denL T.toTT0 H0 v')
  | [], [], _, _, h => by cases h; exact .nil
  | [], _ :: _, _, _, h => by cases h
  | _ :: _, [], _, _, h => by cases h
  | d :: ds, v :: vs, v', b, h => by
    simp only [convVL] at h
    split at h
    · rename_i v1 b1 vs1 b2 h1 h2
      cases h
      exact .cons (convV_ok d v v1 _ h1) (convVL_ok ds vs vs1 _ h2)
    · cases h
end
/-- A thought. -/
def Gh (P : Program) (pro : List Nat) (T : TT) (e : TE T.toTT0) (h : TH T.toTT0) (e1 : TE T.toTT0) (h1 : TH T.toTT0) : Prop := Ghost P pro (denE T.toTT0 (denH T.toTT0 h) e) (denH T.toTT0 h) (denE T.toTT0 (denH T.toTT0 h1) e1) (denH T.toTT0 h1)

/-- One slot. -/
def slot1 (pro : List Nat) (e : TE T.toTT0) (h : TH T.toTT0) (t : Nat) (d : SD) : Rs (TE T.toTT0 × TH T.toTT0 × List (Nat × Nat)) :=
  match d, getE e t with
  | .own c m ty, .zs =>
    bif pro.contains (500000 + t) || (h.map Prod.fst).contains (500000 + t) then .no
    else .ok (putE (killTE (fun k _ => Nat.beq k (500000 + t)) (fun _ _ => false) e) t (.sw (500000 + t) []), (500000 + t, .typ m ty []) :: h, [(c, 500000 + t)])
  | .own c _ _, .sl k [] 0 n =>
    match getT h k with
    | some (.typ m' t' xs) => .need (n ≤ xs.length) (.ok (putE (killTE (fun _ _ => false) (fun k' _ => Nat.beq k' k) e) t (.sw k []), (k, .typ m' t' (xs.take n)) :: delT h k, [(c, k)]))
    | _ => .no
  | d, v => match convV d v with | some (v', b) => .ok (putE e t v', h, b) | none => .no
theorem slot1_ok {e e1 : TE T.toTT0} {h h1 : TH T.toTT0} {t : Nat} {d : SD} {b : List (Nat × Nat)} (hg : (slot1 pro e h t d).gives (e1, h1, b)) : Gh P pro T e h e1 h1 := by
  unfold slot1 at hg
  split at hg
  · rename_i c m ty hz
    cases hb : (pro.contains (500000 + t) || (h.map Prod.fst).contains (500000 + t)) with
    | true => rw [hb] at hg; exact hg.elim
    | false =>
      rw [hb] at hg
      cases hg
      simp only [Bool.or_eq_false_iff] at hb
      have h1 := Ghost.nil (P := P) (pro := pro) (e := denE T.toTT0 (denH T.toTT0 h) e) (h := denH T.toTT0 h) (t := t) (d := 500000 + t) (s := T.sz ty) (by simp only [denE, hz, den]) (by
        rw [denH_keys]
        intro hm
        have : (h.map Prod.fst).contains (500000 + t) = true := by simpa using hm
        rw [hb.2] at this; cases this) (by
        rw [List.all_eq_true]
        intro k hk
        simp only [bne_iff_ne, ne_eq]
        rintro rfl
        have : pro.contains (500000 + t) = true := by simpa using hk
        rw [hb.1] at this; cases this)
      have hh : denH T.toTT0 ((500000 + t, .typ m ty []) :: h) = (500000 + t, ⟨T.sz ty, []⟩) :: denH T.toTT0 h := rfl
      unfold Gh
      rw [hh]
      refine h1.trans (Ghost.le fun u => ?_)
      rw [denE_put]
      refine AVle.upd (fun u => ?_) ?_ u
      · simp only [killE, denE, getE_kill]
        refine kill_le (fun k p hk => by simpa using hk) (fun k p hk _ => lenAt_congr ?_) _
        simp only [beq_eq, decide_eq_false_iff_not] at hk
        simp only [getRow]
        rw [if_neg (fun e => hk e.symm)]
      · have : lenAt ((500000 + t, ⟨T.sz ty, []⟩) :: denH T.toTT0 h) (500000 + t) [] = 0 := by simp [lenAt, res, getRow, resE]
        simp only [den, this]; exact AVle.refl _
  · rename_i c m ty k n hz
    split at hg
    · rename_i m' t' xs hr
      obtain ⟨hc, hg⟩ := hg
      cases hg
      have hgr : getRow (denH T.toTT0 h) k = some ⟨T.sz t', xs.map (T.ca m' t')⟩ := by rw [getT_row, hr]; rfl
      have h1 := Ghost.take (P := P) (pro := pro) (e := denE T.toTT0 (denH T.toTT0 h) e) n hgr
      have hh : denH T.toTT0 ((k, .typ m' t' (xs.take n)) :: delT h k) = (k, ⟨T.sz t', (xs.map (T.ca m' t')).take n⟩) :: delRow (denH T.toTT0 h) k := by
        simp only [denH, denR, List.map_take, delT_row]
      unfold Gh
      rw [hh]
      refine h1.trans (Ghost.le fun u => ?_)
      rw [denE_put]
      unfold upd
      split
      · rename_i hu
        subst hu
        have : lenAt ((k, ⟨T.sz t', (xs.map (T.ca m' t')).take n⟩) :: delRow (denH T.toTT0 h) k) k [] = n := by
          simp only [lenAt, res, getRow, if_true, resE, List.length_take, List.length_map]; omega
        simp only [denE, hz, den, this]; exact AVle.refl _
      · simp only [denE, getE_kill]
        have := kill_le (T := T) (H0 := denH T.toTT0 h) (H1 := (k, ⟨T.sz t', (xs.map (T.ca m' t')).take n⟩) :: delRow (denH T.toTT0 h) k) (b1 := fun _ _ => false) (bad := fun _ _ => false) (bw := fun k' _ => Nat.beq k' k) (fun _ _ h => h) (fun k' p _ hk => lenAt_congr (by
          simp only [beq_eq, decide_eq_false_iff_not] at hk
          simp only [getRow]
          rw [if_neg (fun e => hk e.symm), getRow_del hk])) (getE e u)
        rwa [nobad] at this
    · exact hg.elim
  · split at hg
    · rename_i v' b' hv
      cases hg
      unfold Gh
      refine Ghost.le fun u => ?_
      rw [denE_put]
      unfold upd
      split
      · rename_i hu; subst hu; exact convV_ok _ _ _ _ hv
      · exact AVle.refl _
    · exact hg.elim
def slotsT (pro : List Nat) : List (Nat × SD) → TE T.toTT0 → TH T.toTT0 → List (Nat × Nat) → Rs (TE T.toTT0 × TH T.toTT0 × List (Nat × Nat))
  | [], e, h, b => .ok (e, h, b)
  | (t, d) :: l, e, h, b => (slot1 pro e h t d).bind fun (e, h, b') => slotsT pro l e h (b' ++ b)
theorem slotsT_ok : ∀ (l : List (Nat × SD)) (e e1 : TE T.toTT0) (h h1 : TH T.toTT0) (b b1 : List (Nat × Nat)), (slotsT pro l e h b).gives (e1, h1, b1) → Gh P pro T e h e1 h1
  | [], _, _, _, _, _, _, hg => by cases hg; exact Ghost.rfl'
  | (t, d) :: l, e, e1, h, h1, b, b1, hg => by
    obtain ⟨⟨e2, h2, b2⟩, q1, q2⟩ := Rs.bind_gives _ hg
    exact Ghost.trans (slot1_ok q1) (slotsT_ok l _ _ _ _ _ _ q2)
/-- A row of known cells seen as a list. -/
def typ1T (h : TH T.toTT0) (k : Nat) (m : Bool) (t : Nat) : Option (TH T.toTT0) :=
  match getT h k with
  | some (.lit s xs) => bif Nat.beq (T.sz t) s then match unL m t xs with | some ys => some ((k, .typ m t ys) :: delT h k) | none => none else none
  | some _ => some h
  | none => none
theorem typ1T_ok {e : TE T.toTT0} {h h1 : TH T.toTT0} {k : Nat} {m : Bool} {t : Nat} (ht : typ1T h k m t = some h1) : Gh P pro T e h e h1 := by
  unfold typ1T at ht
  split at ht
  · rename_i s xs hr
    cases hb : Nat.beq (T.sz t) s with
    | false => rw [hb] at ht; cases ht
    | true =>
      rw [hb, cond_true] at ht
      split at ht
      · rename_i ys hy
        cases ht
        have hgr : getRow (denH T.toTT0 h) k = some ⟨s, xs.map (denL T.toTT0 [])⟩ := by rw [getT_row, hr]; rfl
        have hrow : denR T.toTT0 (.typ m t ys) = ⟨s, xs.map (denL T.toTT0 [])⟩ := by simp only [denR, unL_ok _ _ hy, Nat.eq_of_beq_eq_true hb]
        have hh : denH T.toTT0 ((k, .typ m t ys) :: delT h k) = (k, ⟨s, (xs.map (denL T.toTT0 [])).map (fixA (fun _ => none) 0)⟩) :: delRow (denH T.toTT0 h) k := by
          rw [none_fix]; simp only [denH, hrow, delT_row]
        have h1 := Ghost.fix (P := P) (pro := pro) (e := denE T.toTT0 (denH T.toTT0 h) e) (fun _ => none) (fun _ _ h => (by cases h)) hgr
        unfold Gh
        rw [hh]
        refine h1.trans (Ghost.le fun u => ?_)
        have hkill : fixBad (fun _ => none) k = fun _ _ => false := by
          funext k' q
          unfold fixBad
          cases q <;> simp
        simp only [killE, hkill, nobad, denE]
        have hl : ∀ k' q, lenAt ((k, ⟨s, (xs.map (denL T.toTT0 [])).map (fixA (fun _ => none) 0)⟩) :: delRow (denH T.toTT0 h) k) k' q = lenAt (denH T.toTT0 h) k' q := fun k' q => by
          refine lenAt_congr ?_
          by_cases hk : k' = k
          · subst hk; rw [none_fix, hgr]; simp [getRow]
          · simp only [getRow]; rw [if_neg (fun e => hk e.symm), getRow_del hk]
        have := kill_eq (T := T) (bad := fun _ _ => false) (fun k' q _ => hl k' q) (getE e u)
        rw [nobad] at this
        have hid : killT (fun _ _ => false) (fun _ _ => false) (getE e u) = getE e u := killT_id _
        rw [this, hid]
        exact AVle.refl _
      · cases ht
  · cases ht; exact Ghost.rfl'
  · cases ht
def keyOf (bm : List (Nat × Nat)) (c : Nat) : Nat := match look bm c with | some k => k | none => c
def rowsT : List (Nat × RD) → TE T.toTT0 → TH T.toTT0 → List (Nat × Nat) → Option (TE T.toTT0 × TH T.toTT0)
  | [], e, h, _ => some (e, h)
  | (c, .any) :: l, e, h, b => rowsT l e h b
  | (c, .fix ks) :: l, e, h, b => match fix1T e h (keyOf b c) ks with | some (e, h) => rowsT l e h b | none => none
  | (c, .typ m t) :: l, e, h, b => match fix1T e h (keyOf b c) (T.ks m t) with
    | some (e, h) => match typ1T h (keyOf b c) m t with | some h => rowsT l e h b | none => none
    | none => none
theorem rowsT_ok : ∀ (l : List (Nat × RD)) (e e1 : TE T.toTT0) (h h1 : TH T.toTT0) (b : List (Nat × Nat)), rowsT l e h b = some (e1, h1) → Gh P pro T e h e1 h1
  | [], _, _, _, _, _, hg => by cases hg; exact Ghost.rfl'
  | (c, .any) :: l, e, e1, h, h1, b, hg => rowsT_ok l e e1 h h1 b hg
  | (c, .fix ks) :: l, e, e1, h, h1, b, hg => by
    simp only [rowsT] at hg
    split at hg
    · rename_i e2 h2 hf
      exact Ghost.trans (fix1T_ok hf) (rowsT_ok l _ _ _ _ b hg)
    · cases hg
  | (c, .typ m t) :: l, e, e1, h, h1, b, hg => by
    simp only [rowsT] at hg
    split at hg
    · rename_i e2 h2 hf
      split at hg
      · rename_i h3 ht
        exact Ghost.trans (fix1T_ok hf) (Ghost.trans (typ1T_ok ht) (rowsT_ok l _ _ _ _ b hg))
      · cases hg
    · cases hg
/-- Slots S alone, rows by their new names alone. -/
def normT (pro : List Nat) (bm : List (Nat × Nat)) (S : List Nat) (e : TE T.toTT0) (h : TH T.toTT0) : Option (EH T) :=
  bif nodupB (bm.map Prod.fst) && nodupB (bm.map Prod.snd) && pro.all (fun k => look bm k == some k) then
    match splitT h bm with
    | some (hs, _) => some (S.map fun t => (t, match backT bm (getE e t) with | some v => v | none => .un), hs)
    | none => none
  else none
theorem normT_ok {bm : List (Nat × Nat)} {S : List Nat} {e : TE T.toTT0} {h : TH T.toTT0} {eh : EH T} (hn : normT pro bm S e h = some eh) : Gh P pro T e h eh.1 eh.2 := by
  unfold normT at hn
  cases hb : (nodupB (bm.map Prod.fst) && nodupB (bm.map Prod.snd) && pro.all (fun k => look bm k == some k)) with
  | false => rw [hb] at hn; cases hn
  | true =>
    rw [hb, cond_true] at hn
    simp only [Bool.and_eq_true] at hb
    split at hn
    · rename_i hs rest hsp
      cases hn
      obtain ⟨s1, s2, s3⟩ := splitT_ok bm h hs rest hsp
      have hkeys := splitH_keys _ _ _ _ s1
      have hno : normE pro bm S (denE T.toTT0 (denH T.toTT0 h) e) (denH T.toTT0 h) = some (envOf (S.map fun t => (t, backU bm (denE T.toTT0 (denH T.toTT0 h) e t))), denH T.toTT0 hs) := by
        unfold normE
        rw [s1]
        simp only
        rw [if_pos (by simp only [Bool.and_eq_true]; exact ⟨hb.1.1, hb.2⟩)]
      refine Ghost.trans (Ghost.norm hno) (Ghost.le fun t => ?_)
      have hbl : ∀ k n q, lookRev bm k = some n → lenAt (denH T.toTT0 hs) n q = lenAt (denH T.toTT0 h) k q := fun k n q hkn => by
        have := s3 n k hb.1.1 hb.1.2 (lookRev_pair bm hkn)
        unfold lenAt res
        rw [this]
      have hv : ∀ t, AVle (backU bm (denE T.toTT0 (denH T.toTT0 h) e t)) (den T.toTT0 (denH T.toTT0 hs) (match backT bm (getE e t) with | some v => v | none => .un)) := fun t => by
        split
        · rename_i v hv
          have := backT_ok (T := T) hbl _ _ hv
          unfold backU
          simp only [denE, this]
          exact AVle.refl _
        · exact AVle.un _
      clear hno
      induction S with
      | nil => exact AVle.refl _
      | cons s S ih =>
        simp only [List.map_cons, envOf]
        rw [show denE T.toTT0 (denH T.toTT0 hs) ((s, match backT bm (getE e s) with | some v => v | none => .un) :: S.map fun t => (t, match backT bm (getE e t) with | some v => v | none => .un)) = upd (denE T.toTT0 (denH T.toTT0 hs) (S.map fun t => (t, match backT bm (getE e t) with | some v => v | none => .un))) s (den T.toTT0 (denH T.toTT0 hs) (match backT bm (getE e s) with | some v => v | none => .un)) from denE_put]
        unfold upd
        split
        · exact hv s
        · exact ih
    · cases hn
/-- A state brought to a form. -/
def cnv (pro : List Nat) (D : Dr) (e : TE T.toTT0) (h : TH T.toTT0) : Rs (EH T) :=
  (slotsT pro D.S e h []).bind fun (e, h, b) =>
    match rowsT D.R e h b with
    | some (e, h) => match normT pro (D.R.map fun x => (x.1, keyOf b x.1)) (D.S.map Prod.fst) e h with
      | some eh => .ok eh
      | none => .no
    | none => .no
theorem cnv_ok {D : Dr} {e : TE T.toTT0} {h : TH T.toTT0} {eh : EH T} (hg : (cnv pro D e h).gives eh) : Gh P pro T e h eh.1 eh.2 := by
  obtain ⟨⟨e1, h1, b⟩, q1, q2⟩ := Rs.bind_gives _ hg
  dsimp only at q2
  split at q2
  · rename_i e2 h2 hr
    split at q2
    · rename_i eh' hn
      cases q2
      exact Ghost.trans (slotsT_ok _ _ _ _ _ _ _ q1) (Ghost.trans (rowsT_ok _ _ _ _ _ _ hr) (normT_ok hn))
    · exact q2.elim
  · exact q2.elim
end
end Loom
set_option linter.unusedVariables false
set_option linter.unusedSimpArgs false
namespace Loom
open Go

/-- What stands beside code: where ways meet again, what loops do. -/
inductive An (P : Program) (T : TT) (pro : List Nat) : Type 1 where
  | no
  | two (a b : An P T pro)
  | join (S : Type) (enc : S → EH T) (D : Dr) (a b : An P T pro)
  | loop (V : Type) (c : V → LCon P T pro) (ret : Bool) (D : Dr)

section
variable {P : Program} {T : TT} {pro : List Nat}
def An.l : An P T pro → An P T pro
  | .two a _ => a
  | _ => .no
def An.r : An P T pro → An P T pro
  | .two _ b => b
  | _ => .no
def joinK {L : Type} (pro : List Nat) (D : Dr) (K : Out → TE T.toTT0 → TH T.toTT0 → Raw P T pro L) : Out → TE T.toTT0 → TH T.toTT0 → Raw P T pro (EH T ⊕ L)
  | .normal, e, h => Raw.ofRs (fun eh => .leaf (.inl eh)) (cnv pro D e h)
  | o, e, h => (K o e h).map .inr
def seqK {L : Type} (A : TE T.toTT0 → TH T.toTT0 → Raw P T pro L) (K : Out → TE T.toTT0 → TH T.toTT0 → Raw P T pro L) : Out → TE T.toTT0 → TH T.toTT0 → Raw P T pro L
  | .normal => A
  | o => K o
def blockK {L : Type} (id : Nat) (K : Out → TE T.toTT0 → TH T.toTT0 → Raw P T pro L) : Out → TE T.toTT0 → TH T.toTT0 → Raw P T pro L
  | .exit id' => bif Nat.beq id' id then K .normal else K (.exit id')
  | o => K o
def knowB (e : TE T.toTT0) (c : Operand) (b : Bool) : TE T.toTT0 := match c with | .tmp s => putE e s (.bk b) | _ => e
def evC (cx : Cx P T) : IC → An P T pro → {L : Type} → TE T.toTT0 → TH T.toTT0 → (Out → TE T.toTT0 → TH T.toTT0 → Raw P T pro L) → Raw P T pro L
  | .reg keep l, _, _, e, h, K => evR pro cx l e h fun e h => K .normal (keepT keep e) h
  | .draw keep pre tail, _, _, e, h, K => evDraw pro cx keep pre tail e h (K .normal)
  | .skip, _, _, e, h, K => K .normal e h
  | .ret, _, _, e, h, K => K .ret e h
  | .exit id, _, _, e, h, K => K (.exit id) e h
  | .seq x y, an, _, e, h, K =>
    match an with
    | .join S enc D a b => .join enc (evC cx x a e h (joinK pro D K)) fun s => evC cx y b (enc s).1 (enc s).2 K
    | an => evC cx x an.l e h (seqK (fun e h => evC cx y an.r e h K) K)
  | .cond c x y, an, _, e, h, K =>
    match evT e c with
    | .bk true => evC cx x an.l e h K
    | .bk false => evC cx y an.r e h K
    | .sc (.bool b) => .ite b (evC cx x an.l (knowB e c true) h K) (evC cx y an.r (knowB e c false) h K)
    | _ => .no
  | .block id x, an, _, e, h, K => evC cx x an.l e h (blockK id K)
  | .loop x, an, _, e, h, K =>
    match an with
    | .loop _ c ret D => Raw.ofRs (fun eh => bif ret then .loopR c x eh (fun v y => K (.exit (c v).id) ((c v).encY y).1 ((c v).encY y).2) (fun v z => K .ret ((c v).encZ z).1 ((c v).encZ z).2)
        else .loop c x eh (fun v y => K (.exit (c v).id) ((c v).encY y).1 ((c v).encY y).2)) (cnv pro D e h)
    | _ => .no

theorem knowB_ok {e : TE T.toTT0} {H0 : H} {c : Operand} {b : Bool} (hc : evT e c = .sc (.bool b)) : denE T.toTT0 H0 (knowB e c b) = denE T.toTT0 H0 e := by
  cases c with
  | tmp s => exact put_known hc
  | _ => rfl
theorem evC_ok {cx : Cx P T} : ∀ (c : IC) (an : An P T pro) {L : Type} (e : TE T.toTT0) (h : TH T.toTT0) (K : Out → TE T.toTT0 → TH T.toTT0 → Raw P T pro L) (Q : L → Prop), Sat (evC cx c an e h K) Q →
    W P pro c (fun o E H0 => KP (K o) Q E H0) (denE T.toTT0 (denH T.toTT0 h) e) (denH T.toTT0 h)
  | .reg keep l, _, _, e, h, K, Q, hs => by
    obtain ⟨E, H', r, e2, h2, rfl, rfl, hK⟩ := evR_ok l e h hs
    exact W.regG ⟨_, _, r, _, _, (keepT_den keep e2).symm, rfl, hK⟩
  | .draw keep pre tail, _, _, e, h, K, Q, hs => evDraw_ok (Q' := fun o E H0 => KP (K o) Q E H0) (fun E H0 hk => hk) hs
  | .skip, _, _, e, h, K, Q, hs => W.skip ⟨e, h, rfl, rfl, hs⟩
  | .ret, _, _, e, h, K, Q, hs => W.ret ⟨e, h, rfl, rfl, hs⟩
  | .exit id, _, _, e, h, K, Q, hs => W.exit ⟨e, h, rfl, rfl, hs⟩
  | .seq x y, an, L, e, h, K, Q, hs => by
    have plain : ∀ (a b : An P T pro), Sat (evC cx x a e h (seqK (fun e h => evC cx y b e h K) K)) Q → W P pro (.seq x y) (fun o E H0 => KP (K o) Q E H0) (denE T.toTT0 (denH T.toTT0 h) e) (denH T.toTT0 h) := fun a b hs => by
      refine W.seq (W.mono (evC_ok x a e h _ Q hs) fun o E H0 hk => ?_)
      cases o with
      | normal =>
        obtain ⟨e1, h1, rfl, rfl, hK⟩ := hk
        exact evC_ok y b e1 h1 K Q hK
      | exit id => exact hk
      | ret => exact hk
    cases an with
    | join S enc D a b =>
      have ih := evC_ok x a e h _ _ hs
      refine W.seq (W.mono ih fun o E H0 hk => ?_)
      cases o with
      | normal =>
        obtain ⟨e1, h1, rfl, rfl, hK⟩ := hk
        obtain ⟨eh, q1, s, q2, q3⟩ := Sat.ofRs _ hK
        subst q2
        exact W.ghost (cnv_ok q1) (evC_ok y b _ _ K Q q3)
      | exit id =>
        obtain ⟨e1, h1, rfl, rfl, hK⟩ := hk
        exact ⟨e1, h1, rfl, rfl, Sat.map (L := L) (L' := EH T ⊕ L) Sum.inr (K _ e1 h1) _ hK⟩
      | ret =>
        obtain ⟨e1, h1, rfl, rfl, hK⟩ := hk
        exact ⟨e1, h1, rfl, rfl, Sat.map (L := L) (L' := EH T ⊕ L) Sum.inr (K _ e1 h1) _ hK⟩
    | no => exact plain _ _ hs
    | two a b => exact plain _ _ hs
    | loop V c ret D => exact plain _ _ hs
  | .cond c x y, an, _, e, h, K, Q, hs => by
    simp only [evC] at hs
    split at hs
    · rename_i hv
      exact W.condT (by rw [evT_den, hv]; rfl) (evC_ok x an.l e h K Q hs)
    · rename_i hv
      exact W.condF (by rw [evT_den, hv]; rfl) (evC_ok y an.r e h K Q hs)
    · rename_i b hv
      refine W.cond (b := b) (by rw [evT_den, hv]; rfl) (fun hb => ?_) (fun hb => ?_)
      · subst hb
        have := evC_ok x an.l _ h K Q (hs.1 rfl)
        rwa [knowB_ok hv] at this
      · subst hb
        have := evC_ok y an.r _ h K Q (hs.2 rfl)
        rwa [knowB_ok hv] at this
    · exact hs.elim
  | .block id x, an, _, e, h, K, Q, hs => by
    refine W.block (W.mono (evC_ok x an.l e h _ Q hs) fun o E H0 hk => ?_)
    cases o with
    | normal => exact hk
    | ret => exact hk
    | exit id' =>
      simp only [inBlockQ]
      simp only [blockK, beq_eq] at hk
      split
      · rename_i e; simpa [e] using hk
      · rename_i e; simpa [e] using hk
  | .loop x, an, _, e, h, K, Q, hs => by
    cases an with
    | loop V c ret D =>
      obtain ⟨eh, q1, q2⟩ := Sat.ofRs _ hs
      refine W.ghost (cnv_ok q1) ?_
      cases ret with
      | true =>
        obtain ⟨v, hb, x', b, q3, q4, q5⟩ := q2
        subst hb q3
        refine W.mono ((c v).ok x' b q4) fun o E H0 hk => ?_
        cases b with
        | go _ => exact hk.elim
        | out y =>
          obtain ⟨rfl, rfl, rfl⟩ := hk
          exact ⟨_, _, rfl, rfl, q5⟩
        | ret z =>
          obtain ⟨_, rfl, rfl, rfl⟩ := hk
          exact ⟨_, _, rfl, rfl, q5⟩
      | false =>
        obtain ⟨v, hb, x', y, q3, _, q4, q5⟩ := q2
        subst hb q3
        refine W.mono ((c v).ok x' _ q4) fun o E H0 hk => ?_
        obtain ⟨rfl, rfl, rfl⟩ := hk
        exact ⟨_, _, rfl, rfl, q5⟩
    | no => exact hs.elim
    | two _ _ => exact hs.elim
    | join _ _ _ _ _ => exact hs.elim

/-! ### loops -/
/-- The end of a round. -/
def loopK (pro : List Nat) (id : Nat) (DX DY DZ : Dr) : Out → TE T.toTT0 → TH T.toTT0 → Raw P T pro (Bo (EH T) (EH T) (EH T))
  | .normal, e, h => Raw.ofRs (fun eh => .leaf (.go eh)) (cnv pro DX e h)
  | .exit id', e, h => bif Nat.beq id' id then Raw.ofRs (fun eh => .leaf (.out eh)) (cnv pro DY e h) else .no
  | .ret, e, h => Raw.ofRs (fun eh => .leaf (.ret eh)) (cnv pro DZ e h)
def encB {X Y Z E : Type} (a : X → E) (b : Y → E) (c : Z → E) : Bo X Y Z → Bo E E E
  | .go x => .go (a x)
  | .out y => .out (b y)
  | .ret z => .ret (c z)
def lcon {X Y Z : Type} (cx : Cx P T) (x : IC) (an : X → An P T pro) (id : Nat) (ret : Bool) (DX DY DZ : Dr) (encX : X → EH T) (encY : Y → EH T) (encZ : Z → EH T) (n : Nat) (t : X → Pt P T pro (Bo X Y Z)) (hret : ret = false → Z → False)
    (ht : ∀ s, evC cx x (an s) (encX s).1 (encX s).2 (loopK pro id DX DY DZ) = (t s).raw (encB encX encY encZ)) : LCon P T pro where
  body := x
  X := X
  Y := Y
  Z := Z
  encX := encX
  encY := encY
  encZ := encZ
  id := id
  ret := ret
  G := iter (fun s => (t s).run) n
  ok := by
    have round : ∀ s b, (t s).run = some b → W P pro x (fun o E H0 => ∃ e h, Gh P pro T e h (match encB encX encY encZ b with | .go eh => eh | .out eh => eh | .ret eh => eh).1 (match encB encX encY encZ b with | .go eh => eh | .out eh => eh | .ret eh => eh).2 ∧ E = denE T.toTT0 (denH T.toTT0 h) e ∧ H0 = denH T.toTT0 h ∧
        (match b with | .go _ => o = .normal | .out _ => o = .exit id | .ret _ => o = .ret)) (denE T.toTT0 (denH T.toTT0 (encX s).2) (encX s).1) (denH T.toTT0 (encX s).2) := by
      intro s b hb
      have h1 := run_sat (encB encX encY encZ) (t s) b hb
      rw [← ht s] at h1
      refine W.mono (evC_ok x (an s) _ _ _ _ h1) fun o E H0 hk => ?_
      obtain ⟨e, h, rfl, rfl, hK⟩ := hk
      refine ⟨e, h, ?_⟩
      cases o with
      | normal =>
        obtain ⟨eh, q1, q2⟩ := Sat.ofRs _ hK
        cases b <;> cases q2
        exact ⟨cnv_ok q1, rfl, rfl, rfl⟩
      | exit id' =>
        simp only [loopK, beq_eq] at hK
        by_cases hid : id' = id
        · subst hid
          simp only [decide_true, cond_true] at hK
          obtain ⟨eh, q1, q2⟩ := Sat.ofRs _ hK
          cases b <;> cases q2
          exact ⟨cnv_ok q1, rfl, rfl, rfl⟩
        · simp only [hid, decide_false, cond_false] at hK
          exact hK.elim
      | ret =>
        obtain ⟨eh, q1, q2⟩ := Sat.ofRs _ hK
        cases b <;> cases q2
        exact ⟨cnv_ok q1, rfl, rfl, rfl⟩
    intro s
    induction n generalizing s with
    | zero => intro b hb; cases hb
    | succ k ih =>
      intro b hb
      unfold iter at hb
      split at hb
      · rename_i s' hs
        refine W.loop (W.mono (round s _ hs) fun o E H0 hq => ?_)
        obtain ⟨e, h, g, rfl, rfl, rfl⟩ := hq
        exact W.ghost g (ih s' b hb)
      · rename_i hne
        have hr := round s _ hb
        cases b with
        | go s' => exact absurd hb (hne s')
        | out y =>
          obtain ⟨o, E, H0, hex, e, h, g, rfl, rfl, rfl⟩ := hr
          exact ⟨_, _, _, .loopX (by simp) (.after hex g), rfl, rfl, rfl⟩
        | ret z =>
          obtain ⟨o, E, H0, hex, e, h, g, rfl, rfl, rfl⟩ := hr
          refine ⟨_, _, _, .loopX (by simp) (.after hex g), ?_, rfl, rfl, rfl⟩
          cases hret' : ret with
          | true => rfl
          | false => exact (hret hret' z).elim
end
end Loom
set_option linter.unusedVariables false
set_option linter.unusedSimpArgs false
namespace Loom
open Go

/-- A function's body in instructions. -/
def fnC (P : Program) (f : Nat) (ks : List (List Nat)) : IC :=
  match P.funcs[f]? with
  | some fn => match fn.body with
    | some code => match compC P fn.ntmps code ks with | some (c, _) => c | none => .skip
    | none => .skip
  | none => .skip
def fnTs (P : Program) (f : Nat) : List RS :=
  match P.funcs[f]? with
  | some fn => match resSlots P fn.results.toList with | some ts => ts | none => []
  | none => []
def fnN (P : Program) (f : Nat) : Nat := match P.funcs[f]? with | some fn => fn.ntmps | none => 0
def fnOkB (P : Program) (f : Nat) (ks : List (List Nat)) : Bool :=
  match P.funcs[f]? with
  | some fn => match fn.body with
    | some code => (compC P fn.ntmps code ks).isSome && (resSlots P fn.results.toList).isSome
    | none => false
  | none => false
theorem fnIs_of {P : Program} {f : Nat} {ks : List (List Nat)} (h : fnOkB P f ks = true) : FnIs P f (fnN P f) (fnC P f ks) (fnTs P f) := by
  unfold fnOkB at h
  split at h
  · rename_i fn hfn
    split at h
    · rename_i code hc
      simp only [Bool.and_eq_true, Option.isSome_iff_exists] at h
      obtain ⟨⟨⟨c, ks'⟩, h1⟩, ⟨ts, h2⟩⟩ := h
      refine ⟨fn, code, hfn, hc, ?_, ?_, ks, ks', ?_⟩
      · simp [fnN, hfn]
      · simp [fnTs, hfn, h2]
      · have : fnC P f ks = c := by simp [fnC, hfn, hc, h1]
        rw [this]
        simp only [fnN, hfn]
        exact h1
    · cases h
  · cases h
/-- A piece of code. -/
def subC : List Nat → IC → IC
  | [], c => c
  | 0 :: p, .seq x _ => subC p x
  | 0 :: p, .cond _ x _ => subC p x
  | 0 :: p, .block _ x => subC p x
  | 0 :: p, .loop x => subC p x
  | _ :: p, .seq _ y => subC p y
  | _ :: p, .cond _ _ y => subC p y
  | _, c => c

section
variable {P : Program} {T : TT} {pro : List Nat}
def argT : Nat → List (VT T) → TE T.toTT0
  | _, [] => []
  | n, x :: l => (n, x) :: argT (n + 1) l
theorem argT_den {H0 : H} : ∀ (l : List (VT T)) (n : Nat), denE T.toTT0 H0 (argT n l) = argE n (denL T.toTT0 H0 l)
  | [], _ => rfl
  | x :: l, n => by
    simp only [argT, denL, argE, ← argT_den l (n + 1)]
    exact denE_put (e := argT (n + 1) l)
/-- The end of a function. -/
def finK (pro : List Nat) (D : Dr) : Out → TE T.toTT0 → TH T.toTT0 → Raw P T pro (EH T)
  | .exit _, _, _ => .no
  | _, e, h => Raw.ofRs .leaf (cnv pro D e h)
def rsT (e : TE T.toTT0) (h : TH T.toTT0) : RS → Option (VT T)
  | .t s => some (getE e s)
  | .c s agg n =>
    match getE e s with
    | .pt k [] i c => match getT h k with
      | some (.lit _ xs) => match xs[i]? with
        | some cs => match loadC agg n k [] i c cs with | .ok v => some v | _ => none
        | none => none
      | _ => none
    | _ => none
def rsTs (e : TE T.toTT0) (h : TH T.toTT0) : List RS → Option (List (VT T))
  | [] => some []
  | r :: l => match rsT e h r, rsTs e h l with | some x, some xs => some (x :: xs) | _, _ => none
/-- What a function answers; keys: the rows that stay. -/
def retT (ts : List RS) (keys : List Nat) (eh : EH T) : Option (VT T × TH T.toTT0) :=
  match rsTs eh.1 eh.2 ts, splitT eh.2 (keys.map fun k => (k, k)) with
  | some l, some (ho, _) => match backT (keys.map fun k => (k, k)) (match l with | [x] => x | l => .tu l) with
    | some r => bif nodupB keys then some (r, ho) else none
    | none => none
  | _, _ => none
theorem rsT_ok {e : TE T.toTT0} {h : TH T.toTT0} {r : RS} {v : VT T} (hr : rsT e h r = some v) : rsAV (denE T.toTT0 (denH T.toTT0 h) e) (denH T.toTT0 h) r = some (den T.toTT0 (denH T.toTT0 h) v) := by
  cases r with
  | t s => cases hr; rfl
  | c s agg n =>
    simp only [rsT] at hr
    split at hr
    · rename_i k i c hp
      split at hr
      · rename_i s' xs hg
        split at hr
        · rename_i cs hcs
          split at hr
          · rename_i w hl
            cases hr
            have hgr : getRow (denH T.toTT0 h) k = some ⟨s', xs.map (denL T.toTT0 [])⟩ := by rw [getT_row, hg]; rfl
            have hres : res (denH T.toTT0 h) k [] = some (s', xs.map (denL T.toTT0 [])) := by unfold res; rw [hgr]; rfl
            have := loadC_ok (T := T) (agg := agg) (n := n) (k := k) (i := i) (c := c) (p := []) (cs := cs) (v := v) hres (by simp [hcs]) (by rw [hl]; exact rfl)
            simp only [rsAV, rdop, ev, denE, hp, den, hres]
            exact this
          · cases hr
        · cases hr
      · cases hr
    · cases hr
theorem rsTs_ok {e : TE T.toTT0} {h : TH T.toTT0} : ∀ (ts : List RS) (l : List (VT T)), rsTs e h ts = some l → rsAVs (denE T.toTT0 (denH T.toTT0 h) e) (denH T.toTT0 h) ts = some (denL T.toTT0 (denH T.toTT0 h) l)
  | [], _, h => by cases h; rfl
  | r :: ts, l, hr => by
    simp only [rsTs] at hr
    split at hr
    · rename_i x xs h1 h2
      cases hr
      simp only [rsAVs, rsT_ok h1, rsTs_ok ts xs h2, denL]
    · cases hr
theorem look_id : ∀ (ks : List Nat) (k : Nat), k ∈ ks → look (ks.map fun k => (k, k)) k = some k
  | [], _, h => by cases h
  | k' :: ks, k, h => by
    simp only [List.map_cons, look]
    split
    · rename_i e; rw [e]
    · rename_i hne
      refine look_id ks k ?_
      rcases List.mem_cons.1 h with h | h
      · exact absurd h.symm hne
      · exact h
theorem lookRev_id : ∀ (ks : List Nat) (k n : Nat), lookRev (ks.map fun k => (k, k)) k = some n → n = k ∧ k ∈ ks
  | [], _, _, h => by cases h
  | k' :: ks, k, n, h => by
    simp only [List.map_cons, lookRev] at h
    split at h
    · rename_i e; cases h; exact ⟨e, by simp [e]⟩
    · obtain ⟨q1, q2⟩ := lookRev_id ks k n h
      exact ⟨q1, List.mem_cons_of_mem _ q2⟩
theorem retT_ok {ts : List RS} {keys : List Nat} {eh : EH T} {r : VT T} {ho hin : TH T.toTT0} (hr : retT ts keys eh = some (r, ho)) (hin' : (hin.map Prod.fst).all (fun k => keys.contains k) = true) {o : Out} (hno : ∀ id, o ≠ .exit id) :
    Ends ts (denH T.toTT0 hin) (den T.toTT0 (denH T.toTT0 ho) r) (denH T.toTT0 ho) o (denE T.toTT0 (denH T.toTT0 eh.2) eh.1) (denH T.toTT0 eh.2) := by
  unfold retT at hr
  split at hr
  · rename_i l ho' left h1 h2
    split at hr
    · rename_i r' hb
      cases hn : nodupB keys with
      | false => rw [hn] at hr; cases hr
      | true =>
        rw [hn] at hr
        cases hr
        obtain ⟨s1, s2, s3⟩ := splitT_ok _ _ _ _ h2
        have hk1 : (keys.map fun k => (k, k)).map Prod.fst = keys := by rw [List.map_map]; exact List.map_id' _
        have hk2 : (keys.map fun k => (k, k)).map Prod.snd = keys := by rw [List.map_map]; exact List.map_id' _
        refine ⟨by cases o <;> first | trivial | exact absurd rfl (hno _), keys.map fun k => (k, k), _, denH T.toTT0 left, ?_, s1, by rw [hk1]; exact hn, backT_ok (Ho := denH T.toTT0 eh.2) (fun k n q hkn => ?_) _ _ hb, ?_⟩
        · unfold resAV
          rw [rsTs_ok _ _ h1]
          cases l with
          | nil => rfl
          | cons x l => cases l <;> rfl
        · obtain ⟨e1, hk⟩ := lookRev_id keys k n hkn
          subst e1
          have := s3 n n (by rw [hk1]; exact hn) (by rw [hk2]; exact hn) (List.mem_map.2 ⟨n, hk, rfl⟩)
          unfold lenAt res
          rw [this]
        · rw [denH_keys, List.all_eq_true]
          intro k hk
          have := List.all_eq_true.1 hin' k hk
          rw [look_id keys k (by simpa using this)]
          simp
    · cases hr
  · cases hr
/-- A function's contract from its evaluation. -/
def conOf {X R : Type} (cx : Cx P T) (f : Nat) (ks : List (List Nat)) (hf : fnOkB P f ks = true) (an : X → An P T pro) (A : List VD) (Hd : List (Nat × List Kd)) (Nk : List Nat) (D : Dr) (keys : List Nat) (strong : Bool)
    (encA : X → List (VT T)) (encH : X → TH T.toTT0) (encE : R → EH T) (encR : R → VT T) (encO : R → TH T.toTT0) (t : X → Pt P T pro R)
    (ht : ∀ x, evC cx (fnC P f ks) (an x) (argT 0 (encA x)) (encH x) (finK pro D) = (t x).raw encE)
    (hp : ∀ x, (encH x).map Prod.fst = pro) (hk : pro.all (fun k => keys.contains k) = true)
    (hr : ∀ y, retT (fnTs P f) keys (encE y) = some (encR y, encO y))
    (hs : strong = true → ∀ y, (noImT (encR y) && noImHT (encO y)) = true) : Con P T where
  f := f
  X := X
  Y := R
  A := A
  H := Hd
  N := Nk
  encA := encA
  encH := encH
  G := fun x => (t x).run
  encR := encR
  encO := encO
  strong := strong
  ok := fun x y hx => by
    have h1 := run_sat encE (t x) y hx
    rw [← ht x] at h1
    have h2 := evC_ok _ (an x) _ _ _ _ h1
    rw [argT_den] at h2
    have hG : CallG P f (denL T.toTT0 (denH T.toTT0 (encH x)) (encA x)) (denH T.toTT0 (encH x)) (den T.toTT0 (denH T.toTT0 (encO y)) (encR y)) (denH T.toTT0 (encO y)) := by
      refine .of_E (fnIs_of hf) ?_
      rw [denH_keys, hp x]
      obtain ⟨o, E, H0, hex, e, h, rfl, rfl, hK⟩ := h2
      cases o with
      | exit id => exact hK.elim
      | normal =>
        obtain ⟨eh, q1, q2⟩ := Sat.ofRs _ hK
        cases q2
        exact ⟨_, _, _, .after hex (cnv_ok q1), retT_ok (hr y) (by rw [hp x]; exact hk) (by simp)⟩
      | ret =>
        obtain ⟨eh, q1, q2⟩ := Sat.ofRs _ hK
        cases q2
        exact ⟨_, _, _, .after hex (cnv_ok q1), retT_ok (hr y) (by rw [hp x]; exact hk) (by simp)⟩
    refine ⟨fun hst => ?_, hG⟩
    have := hs hst y
    simp only [Bool.and_eq_true] at this
    exact CallG.narrow hG (noImT_ok _ this.1) (noImHT_ok _ this.2)
end
/-! ### from cells to values -/
section
variable {El : Nat → Type} {T : TT0}
def gI (k : IntKind) : TV El → Option Int
  | .sc (.int k' n) => if k' = k then some n else none
  | .ik k' n => if k' = k then some n else none
  | _ => none
def gB : TV El → Option Bool
  | .sc (.bool b) => some b
  | .bk b => some b
  | _ => none
def gS : TV El → Option ByteArray
  | .sc (.string b) => some b
  | _ => none
def gM (t : Nat) : TV El → Option (List (El t))
  | .im t' xs => if h : t' = t then some (h ▸ xs) else none
  | _ => none
def gO (m : Bool) (t : Nat) : TV El → Option (List (El t))
  | .ow m' t' xs => if h : t' = t then (bif m == m' then some (h ▸ xs) else none) else none
  | _ => none
theorem gI_ok {k : IntKind} {v : TV T.El} {n : Int} {h : H} (hv : gI k v = some n) : den T h v = .sc (.int k n) := by
  unfold gI at hv
  split at hv
  · split at hv
    · rename_i hk; cases hv; subst hk; rfl
    · cases hv
  · split at hv
    · rename_i hk; cases hv; subst hk; rfl
    · cases hv
  · cases hv
theorem gB_ok {v : TV T.El} {b : Bool} {h : H} (hv : gB v = some b) : den T h v = .sc (.bool b) := by
  unfold gB at hv
  split at hv
  · cases hv; rfl
  · cases hv; rfl
  · cases hv
theorem gS_ok {v : TV T.El} {b : ByteArray} {h : H} (hv : gS v = some b) : den T h v = .sc (.string b) := by
  unfold gS at hv
  split at hv
  · cases hv; rfl
  · cases hv
theorem gM_ok {t : Nat} {v : TV T.El} {xs : List (T.El t)} {h : H} (hv : gM t v = some xs) : den T h v = .im (T.sz t) (xs.map (T.ca false t)) := by
  unfold gM at hv
  split at hv
  · split at hv
    · rename_i hk; subst hk; cases hv; rfl
    · cases hv
  · cases hv
theorem gO_ok {m : Bool} {t : Nat} {v : TV T.El} {xs : List (T.El t)} {h : H} (hv : gO m t v = some xs) : den T h v = .ow (T.sz t) (xs.map (T.ca m t)) := by
  unfold gO at hv
  split at hv
  · split at hv
    · rename_i m' _ _ hk
      subst hk
      cases hm : m == m' with
      | false => rw [hm] at hv; cases hv
      | true =>
        rw [hm] at hv
        cases hv
        have : m = m' := by simpa using hm
        subst this; rfl
    · cases hv
  · cases hv
theorem nz_all {l : List AV} (h : l.all (fun a => !isZ a) = true) : ∀ a ∈ l, isZ a = false := fun a ha => by
  have := List.all_eq_true.1 h a ha
  simpa using this
end
end Loom
