/- Loom, an abstract machine over the kit's calculus: rows, reads, stores, calls, regions, what they owe; and its evaluator (part 3 of 4). -/
import Derived.Test.YtklocljkocgndaaLoomB
import Derived.SizedLaws
import Derived.ChangeOld
import Derived.Carry
import Derived.WalkKit
import Derived.OpenShut
import Derived.Deep.CondSized
import Derived.Maps.Own
set_option linter.unusedVariables false
set_option linter.unusedSimpArgs false
namespace Loom
open Go

def isRd : IK → Bool
  | .rd _ => true
  | _ => false
/-- A read told once more, behind the one instruction. -/
def Again (e : Env) (h : H) (x : Ins) (av : AV) : Prop := (wants e x.guard = some false ∧ av = skipAV x.op) ∨ (wants e x.guard = some true ∧ ∃ b av', x.op = .rd b ∧ rdop (ev e) (res h) b = some av' ∧ AVle av' av)
def Agains (dep : List Nat) (φ : AV → AV) (e : Env) (h : H) : List (Ins × List Nat) → Nat → Prop
  | [], _ => True
  | (x, _) :: l, i => (dep.contains i = true ∨ Again (fun t => φ (e t)) h x (φ (e x.dst))) ∧ Agains dep φ e h l (i + 1)
def onlyRd (dep : List Nat) : List (Ins × List Nat) → Nat → Bool
  | [], _ => true
  | (x, _) :: l, i => (dep.contains i || isRd x.op) && onlyRd dep l (i + 1)
def KT (P : Program) (pro keep ds : List Nat) (Q : Out → Env → H → Prop) (pre0 : List (Ins × List Nat)) (xj : Ins) (dep : List Nat) (tail : List Ins) (h0 : H) (e1 : Env) (hA : H) : Prop :=
  ∃ (φ : AV → AV) (av : AV) (hN : H), keysOk ds h0 hA = true ∧ nodupB (hN.map Prod.fst) = true ∧ TurnOk P pro xj e1 hA φ av hN ∧ Agains dep φ e1 hN pre0 0 ∧ RG P pro keep Q tail (upd (fun t => φ (e1 t)) xj.dst av) hN

section
variable {P : Program} {pro keep : List Nat} {e e1 : Env} {h h1 : H} {Q : Out → Env → H → Prop} {pre0 : List (Ins × List Nat)} {tail : List Ins} {xj : Ins} {dep : List Nat}

theorem onlyRd_spec : ∀ (l : List (Ins × List Nat)) (i : Nat), onlyRd dep l i = true → ∀ (n : Nat) (x : Ins × List Nat), l[n]? = some x → i + n ∈ dep ∨ isRd x.1.op = true
  | [], _, _, _, _, h => by simp at h
  | y :: l, i, h, 0, x, hx => by
    simp only [List.getElem?_cons_zero, Option.some.injEq] at hx
    subst hx
    simp only [onlyRd, Bool.and_eq_true, Bool.or_eq_true] at h
    simpa using h.1
  | y :: l, i, h, n + 1, x, hx => by
    simp only [onlyRd, Bool.and_eq_true] at h
    have := onlyRd_spec l (i + 1) h.2 n x (by simpa using hx)
    rwa [show i + 1 + n = i + (n + 1) by omega] at this
theorem Agains_spec {φ : AV → AV} : ∀ (l : List (Ins × List Nat)) (i : Nat), Agains dep φ e h l i → ∀ (n : Nat) (x : Ins × List Nat), l[n]? = some x → i + n ∉ dep → Again (fun t => φ (e t)) h x.1 (φ (e x.1.dst))
  | [], _, _, _, _, h, _ => by simp at h
  | y :: l, i, h, 0, x, hx, hn => by
    simp only [List.getElem?_cons_zero, Option.some.injEq] at hx
    subst hx
    rcases h.1 with h | h
    · exact absurd (by simpa using h) hn
    · exact h
  | y :: l, i, h, n + 1, x, hx, hn => Agains_spec l (i + 1) h.2 n x (by simpa using hx) (by rwa [show i + 1 + n = i + (n + 1) by omega])

/-- The slots of what is done, each under its own. -/
theorem EX_atAll {E0 : Env} : ∀ (l : List DOp) (i n : Nat) (x : DOp), (dsts l).Nodup → l[n]? = some x → EX i l (fun _ => true) E0 x.ins.dst = x.av
  | [], _, _, _, _, h => by simp at h
  | y :: l, i, 0, x, _, h => by
    simp only [List.getElem?_cons_zero, Option.some.injEq] at h
    subst h
    simp [EX, upd]
  | y :: l, i, n + 1, x, hn, h => by
    simp only [dsts, List.map_cons, List.nodup_cons] at hn
    have hx : l[n]? = some x := by simpa using h
    have hne : x.ins.dst ≠ y.ins.dst := fun e => hn.1 (by rw [← e]; exact List.mem_map.2 ⟨x, List.mem_of_getElem? hx, rfl⟩)
    simp only [EX, if_true, upd, if_neg hne]
    exact EX_atAll l (i + 1) n x hn.2 hx
/-- A slot of what is done, where less is done. -/
theorem EX_prefix {E0 : Env} {X : Nat → Bool} {s : Nat} : ∀ (l : List DOp) (i : Nat), (∀ n x, l[n]? = some x → X (i + n) = false → x.ins.dst ≠ s) → EX i l X E0 s = EX i l (fun _ => true) E0 s
  | [], _, _ => rfl
  | x :: l, i, h => by
    have ih := EX_prefix (E0 := E0) l (i + 1) (fun n y hy hX => h (n + 1) y (by simpa using hy) (by rwa [show i + (n + 1) = i + 1 + n by omega]))
    simp only [EX, if_true]
    cases hX : X i with
    | true => simp only [if_true, upd]; rw [ih]
    | false =>
      have := h 0 x rfl (by simpa using hX)
      simp only [Bool.false_eq_true, if_false, upd, if_neg (Ne.symm this)]
      exact ih

theorem W.turn (ds : List Nat) (hds : (pre0 ++ [(xj, dep)]).map (·.1.dst) = ds) (ck : (nodupB ds && okUses ds 0 (pre0 ++ [(xj, dep)]) && pro.all (fun k => !ds.contains k) && pre0.all (fun x => !isSt x.1.op) && onlyRd dep pre0 0 && !dep.contains pre0.length && dep.all (fun i => decide (i < pre0.length)) && pre0.all (fun x => !x.2.contains pre0.length)) = true)
    (hw : WD P pre0 0 (preE ds e) [] (delKeys h ds) (KT P pro keep ds Q pre0 xj dep tail (delKeys h ds))) : W P pro (.draw keep (pre0 ++ [(xj, dep)]) tail) Q e h := by
  subst hds
  simp only [Bool.and_eq_true] at ck
  obtain ⟨⟨⟨⟨⟨⟨⟨k1, k2⟩, k3⟩, k4⟩, k5⟩, k6⟩, k7⟩, k8⟩ := ck
  have hnd := nodupB_spec _ k1
  rw [List.map_append] at hnd
  have huse := okUses_spec _ 0 k2
  have hnd0 : (pre0.map (·.1.dst)).Nodup := (List.nodup_append.1 hnd).1
  obtain ⟨l, q1, q2, q3, φ, av, hN, q4, q5, q6, q7, e', h', r1, r2⟩ := WD.sound (E0 := preE ((pre0 ++ [(xj, dep)]).map (·.1.dst)) e) pre0 [] hw (by simpa using hnd0) (fun j x hx i hi => by
    have := huse j x (by rw [List.getElem?_append_left (List.getElem?_eq_some_iff.1 hx).1]; exact hx)
    simp only [Nat.zero_add, okUse, Bool.and_eq_true, List.all_eq_true, decide_eq_true_eq] at this
    have := this.1 i hi
    simpa using this)
  simp only [List.nil_append, List.length_nil, Nat.zero_add] at q2 q3 q4 q6 q7 r1
  have hl : l.length = pre0.length := by rw [← q1]; simp
  have hdl : (dsts l).Nodup := by
    have : dsts l = pre0.map (·.1.dst) := by rw [← q1]; simp [dsts]
    rw [this]; exact hnd0
  let E0 := preE ((pre0 ++ [(xj, dep)]).map (·.1.dst)) e
  let eA := EX 0 l (fun _ => true) E0
  let lj : DOp := ⟨xj, dep, .un, []⟩
  let l' : List DOp := l.map (fun x => ⟨x.ins, x.dep, φ x.av, []⟩)
  let lj' : DOp := ⟨xj, dep, av, []⟩
  let E0' : Env := fun t => φ (E0 t)
  have hgl : ∀ (i : Nat) (x : DOp), i ≠ l.length → (l ++ [lj])[i]? = some x → l[i]? = some x := fun i x hi hx => by
    rcases Nat.lt_or_ge i l.length with h | h
    · rwa [List.getElem?_append_left h] at hx
    · rw [List.getElem?_append_right h] at hx
      have : i - l.length = 0 ∨ 0 < i - l.length := by omega
      rcases this with h2 | h2
      · omega
      · rw [List.getElem?_eq_none (by simp; omega)] at hx; cases hx
  have hl'l : l'.length = l.length := by simp [l']
  have hgl' : ∀ (i : Nat) (x : DOp), i ≠ l.length → (l' ++ [lj'])[i]? = some x → ∃ y, l[i]? = some y ∧ x = ⟨y.ins, y.dep, φ y.av, []⟩ := fun i x hi hx => by
    rcases Nat.lt_or_ge i l.length with h | h
    · rw [List.getElem?_append_left (by rw [hl'l]; exact h)] at hx
      simp only [l', List.getElem?_map] at hx
      obtain ⟨y, hy, rfl⟩ := Option.map_eq_some_iff.1 hx
      exact ⟨y, hy, rfl⟩
    · rw [List.getElem?_append_right (by rw [hl'l]; exact h), hl'l] at hx
      have : i - l.length = 0 ∨ 0 < i - l.length := by omega
      rcases this with h2 | h2
      · omega
      · rw [List.getElem?_eq_none (by simp; omega)] at hx; cases hx
  have hp0 : ∀ (i : Nat) (x : DOp), l[i]? = some x → pre0[i]? = some (x.ins, x.dep) := fun i x hx => by rw [← q1]; simp [hx]
  -- the whole list, cut before a place
  have hEXapp : ∀ (l1 l2 : List DOp) (i : Nat) (X : Nat → Bool) (E : Env), EX i (l1 ++ l2) X E = EX i l1 X (EX (i + l1.length) l2 X E) := by
    intro l1
    induction l1 with
    | nil => intro l2 i X E; simp [EX]
    | cons y l1 ih => intro l2 i X E; simp only [List.cons_append, EX, ih, List.length_cons]; rw [show i + 1 + l1.length = i + (l1.length + 1) by omega]
  have hHXapp : ∀ (l1 l2 : List DOp) (i : Nat) (X : Nat → Bool), HX i (l1 ++ l2) X = HX i l1 X ++ HX (i + l1.length) l2 X := by
    intro l1
    induction l1 with
    | nil => intro l2 i X; simp [HX]
    | cons y l1 ih =>
      intro l2 i X
      simp only [List.cons_append, HX, ih, List.length_cons]
      rw [show i + 1 + l1.length = i + (l1.length + 1) by omega]
      split <;> simp
  have hlast : ∀ (i : Nat) (X : Nat → Bool) (E : Env), X i = false → EX i [lj] X E = E := fun i X E hX => by simp [EX, hX]
  have hrows : ∀ (i : Nat) (x : DOp), l[i]? = some x → x.rows ≠ [] → i ∈ dep := fun i x hx hr => by
    rcases onlyRd_spec pre0 0 k5 i _ (hp0 i x hx) with h | h
    · simpa using h
    · exfalso
      have := q2 i x hx
      cases this with
      | skip _ _ h2 => exact hr h2
      | rd _ _ _ _ h2 => exact hr h2
      | mk _ h2 _ => simp only at h; rw [h2] at h; cases h
      | call _ h2 =>
        simp only at h
        generalize x.ins.op = op at h2 h
        cases h2 <;> cases h
  have hH : HX 0 l (fun k => dep.contains k) = HX 0 l (fun _ => true) := HX_some l 0 _ _ (fun n y hy hr => by simpa using hrows n y hy hr)
  have hjj : l.length ∉ dep := by rw [hl]; simpa using k6
  refine ⟨.normal, keepE keep e', h', .turn ⟨l ++ [lj], l' ++ [lj'], l.length, lj, lj', φ, E0', hN, ?_, ?_, ?_, nodupB_spec _ q5, by simp, by simp [hl'l], ?_, ?_, ?_, ?_, ?_, fun _ => rfl, ?_, ?_, ?_⟩ (fun k hk => ?_), r2⟩
  · rw [List.map_append, q1]; rfl
  · rw [hHXapp]; simpa [HX, lj] using nodupB_spec _ q3
  · have : l'.map (fun x => (x.ins, x.dep)) = l.map (fun x => (x.ins, x.dep)) := by simp [l']
    rw [List.map_append, this, q1]; rfl
  · intro i x hi hjd hx
    have hx' := hgl i x hi hx
    have hil := (List.getElem?_eq_some_iff.1 hx').1
    refine ⟨?_, ?_⟩
    · rw [hEXapp, hlast _ _ _ (by simp; omega), hHXapp]
      have : HX (0 + l.length) [lj] (fun k => x.dep.contains k) = [] := by simp [HX, lj]
      rw [this, List.append_nil]
      exact q2 i x hx'
    · have := List.all_eq_true.1 k4 _ (List.mem_of_getElem? (hp0 i x hx'))
      simpa using this
  · intro i x hi hid hx
    obtain ⟨y, hy, rfl⟩ := hgl' i x hi hx
    have hil := (List.getElem?_eq_some_iff.1 hy).1
    have hst := List.all_eq_true.1 k4 _ (List.mem_of_getElem? (hp0 i y hy))
    refine ⟨?_, by simpa using hst⟩
    have hag := Agains_spec pre0 0 q7 i _ (hp0 i y hy) (by simpa using hid)
    simp only at hag
    have hrn : HX 0 (l' ++ [lj']) (fun k => y.dep.contains k) = [] := HX_none _ 0 _ (fun z hz => by
      rcases List.mem_append.1 hz with hz | hz
      · obtain ⟨z', _, rfl⟩ := List.mem_map.1 hz; rfl
      · simp only [List.mem_singleton] at hz; subst hz; rfl)
    rw [hrn, List.nil_append]
    have hav : eA y.ins.dst = y.av := EX_atAll l 0 i y hdl hy
    -- the slots that it reads are there
    have hsl : ∀ s ∈ usesI y.ins, EX 0 (l' ++ [lj']) (fun k => decide (k < i)) E0' s = φ (eA s) := fun s hs => by
      rw [hEXapp]
      have : EX (0 + l'.length) [lj'] (fun k => decide (k < i)) E0' = E0' := by simp [EX, hl'l]; omega
      rw [this, EX_map (φ := φ) (E0 := E0) (fun _ => rfl) l l' 0 (by simp [l']) (fun n z z' hz hz' _ => by
        simp only [l', List.getElem?_map, hz, Option.map_some, Option.some.injEq] at hz'
        subst hz'
        exact ⟨rfl, rfl⟩) s]
      congr 1
      refine EX_prefix l 0 (fun n z hz hX => ?_)
      rintro rfl
      have hu := huse i (y.ins, y.dep) (by rw [List.getElem?_append_left (by omega)]; exact hp0 i y hy)
      simp only [Nat.zero_add, okUse, Bool.and_eq_true, List.all_eq_true, decide_eq_true_eq, Bool.or_eq_true, Bool.not_eq_true'] at hu
      have h3 := hu.2 _ hs
      have hzp := hp0 n z hz
      rcases h3 with h3 | h3
      · have : ((pre0 ++ [(xj, dep)]).map (·.1.dst)).contains z.ins.dst = true := by
          simp only [List.contains_eq_mem, decide_eq_true_eq]
          exact List.mem_map.2 ⟨(z.ins, z.dep), List.mem_append_left _ (List.mem_of_getElem? hzp), rfl⟩
        rw [this] at h3; cases h3
      · simp only [List.any_eq_true, beq_iff_eq] at h3
        obtain ⟨m, hm, hms⟩ := h3
        have hmi := hu.1 m hm
        have hnm : n = m := by
          have e1 : ((pre0 ++ [(xj, dep)]).map (·.1.dst))[n]? = some z.ins.dst := by
            rw [List.getElem?_map, List.getElem?_append_left (by have := (List.getElem?_eq_some_iff.1 hzp).1; omega), hzp]; rfl
          exact (List.getElem?_inj (List.getElem?_eq_some_iff.1 e1).1 (nodupB_spec _ k1)).1 (by rw [e1, hms])
        simp only [Nat.zero_add, decide_eq_false_iff_not] at hX
        omega
    have hw : wants (EX 0 (l' ++ [lj']) (fun k => decide (k < i)) E0') y.ins.guard = wants (fun t => φ (eA t)) y.ins.guard := by
      cases hg : y.ins.guard with
      | none => rfl
      | some sw =>
        obtain ⟨s, want⟩ := sw
        simp only [wants]
        rw [hsl s (by simp [usesI, hg])]
    rcases hag with ⟨g1, g2⟩ | ⟨g1, b, av', g2, g3, g4⟩
    · exact .skip (by rw [hw]; exact g1) (by rw [← hav]; exact g2) rfl
    · refine .rd (b := b) (av := av') (by rw [hw]; exact g1) g2 ?_ (by rw [← hav]; exact g4) rfl
      rw [← g3]
      exact rdop_congr b (fun o ho => by
        cases o with
        | tmp t => exact hsl t (List.mem_append_right _ (usesL_mem (by rw [g2]; exact ho)))
        | _ => rfl)
  · intro i x x' hi hjd hx hx'
    obtain ⟨y, hy, rfl⟩ := hgl' i x' hi hx'
    have := hgl i x hi hx
    rw [this] at hy
    cases hy
    rfl
  · intro i x hx hr
    by_cases hi : i = l.length
    · subst hi
      simp only [List.getElem?_append_right (Nat.le_refl _), Nat.sub_self, List.getElem?_cons_zero, Option.some.injEq] at hx
      subst hx
      exact absurd rfl hr
    · exact .inl (hrows i x (hgl i x hi hx) hr)
  · intro x hx
    rcases List.mem_append.1 hx with hx | hx
    · obtain ⟨z', _, rfl⟩ := List.mem_map.1 hx; rfl
    · simp only [List.mem_singleton] at hx; subst hx; rfl
  · have h1 : EX 0 (l ++ [lj]) (fun k => decide (k < l.length)) E0 = eA := by
      rw [hEXapp, hlast _ _ _ (by simp)]
      exact (EX_same l 0 _ _ (fun n _ hn => by simp; omega)).1
    have h2 : HX 0 (l ++ [lj]) (fun k => dep.contains k) = HX 0 l (fun _ => true) := by
      rw [hHXapp, hH]; simp [HX, lj]
    rw [h1, h2]
    exact q6
  · intro k hk
    obtain ⟨x, hx, hkx⟩ := List.mem_flatMap.1 hk
    rcases List.mem_append.1 hx with hx | hx
    · obtain ⟨z, hz, rfl⟩ := List.mem_map.1 hkx
      obtain ⟨j, hj⟩ := List.getElem?_of_mem hx
      have hz2 : z ∈ HX 0 l (fun _ => true) := (HX_mem l 0 _).2 ⟨j, x, hj, rfl, hz⟩
      have := List.all_eq_true.1 q4 z.1 (List.mem_map.2 ⟨z, List.mem_append_left _ hz2, rfl⟩)
      rw [Bool.or_eq_true] at this
      rcases this with h | h
      · simpa using h
      · exfalso
        have hnd2 := nodupB_spec _ q3
        rw [List.map_append, List.nodup_append] at hnd2
        exact hnd2.2.2 z.1 (List.mem_map.2 ⟨z, hz2, rfl⟩) z.1 (by simpa using h) rfl
    · simp only [List.mem_singleton] at hx
      subst hx
      simp [lj] at hkx
  · have h1 : EX 0 (l' ++ [lj']) (fun _ => true) E0' = upd (fun t => φ (eA t)) xj.dst av := by
      rw [hEXapp]
      funext t
      have hpt : EX (0 + l'.length) [lj'] (fun _ => true) E0' = upd E0' xj.dst av := by simp [EX, lj']
      rw [hpt]
      have hm : ∀ (l2 : List DOp) (i : Nat) (E : Env), (∀ z ∈ l2, z.ins.dst ≠ xj.dst) → EX i l2 (fun _ => true) (upd E xj.dst av) t = upd (EX i l2 (fun _ => true) E) xj.dst av t := by
        intro l2
        induction l2 with
        | nil => intro i E _; rfl
        | cons z l2 ih =>
          intro i E hz
          have := ih (i + 1) E (fun y hy => hz y (by simp [hy]))
          simp only [EX, if_true, upd] at this ⊢
          have hne := hz z (by simp)
          by_cases h1 : t = z.ins.dst
          · subst h1; simp [hne]
          · simp only [if_neg h1]; exact this
      rw [hm l' 0 E0' (fun z hz e => by
        obtain ⟨y, hy, rfl⟩ := List.mem_map.1 hz
        obtain ⟨n, hn⟩ := List.getElem?_of_mem hy
        have := (List.nodup_append.1 hnd).2.2 y.ins.dst (List.mem_map.2 ⟨_, List.mem_of_getElem? (hp0 n y hn), rfl⟩) xj.dst (by simp)
        exact this e)]
      unfold upd
      split
      · rfl
      · exact EX_map (φ := φ) (E0 := E0) (fun _ => rfl) l l' 0 (by simp [l']) (fun n z z' hz hz' _ => by
          simp only [l', List.getElem?_map, hz, Option.map_some, Option.some.injEq] at hz'
          subst hz'
          exact ⟨rfl, rfl⟩) t
    have h2 : HX 0 (l' ++ [lj']) (fun _ => true) = [] := HX_none _ 0 _ (fun z hz => by
      rcases List.mem_append.1 hz with hz | hz
      · obtain ⟨z', _, rfl⟩ := List.mem_map.1 hz; rfl
      · simp only [List.mem_singleton] at hz; subst hz; rfl)
    rw [h1, h2, List.nil_append]
    exact r1
  · have := List.all_eq_true.1 k3 k hk
    simpa using this
/-! ### what the one instruction may be -/
theorem stop_congr {f g : Operand → AV} {hp : H} {n : Nat} {a x : Operand} (h1 : f a = g a) (h2 : f x = g x) : stop f hp n a x = stop g hp n a x := by
  simp only [stop, h1, h2]
theorem apop_congr {f g : Operand → AV} {hp : H} {d s bytes : Nat} {x y : Operand} (h1 : f x = g x) (h2 : f y = g y) : apop f hp d s bytes x y = apop g hp d s bytes x y := by
  simp only [apop, h1, h2]
theorem ev_uses {x : Ins} {e EA : Env} (he : ∀ s ∈ usesI x, e s = EA s) {o : Operand} (ho : o ∈ opsK x.op) : ev e o = ev EA o := by
  cases o with
  | tmp t => exact he t (List.mem_append_right _ (usesL_mem ho))
  | _ => rfl
theorem wants_uses {x : Ins} {e EA : Env} (he : ∀ s ∈ usesI x, e s = EA s) : wants e x.guard = wants EA x.guard := by
  cases hg : x.guard with
  | none => rfl
  | some sw =>
    obtain ⟨s, want⟩ := sw
    simp only [wants]
    rw [he s (by simp [usesI, hg])]
theorem Ghost.unAt {d : Nat} : Ghost P pro e h (upd e d .un) h := fun I N σ a w R =>
  Step.of_rel ⟨R.heap, R.size, fun t => by
    unfold upd
    split
    · exact trivial
    · exact R.vals t, R.defers⟩ rfl
theorem TurnOk.st {d n : Nat} {g : Option (Nat × Bool)} {a x : Operand} {EA : Env} {hA hN : H} {bad : Nat → Path → Bool} (hw : wants EA g = some true) (hst : stop (ev EA) hA n a x = some (hN, bad)) : TurnOk P pro ⟨d, g, .st n a x⟩ EA hA (kill bad) .un hN := fun e he => by
  have h1 : ev e a = ev EA a := ev_uses he (by simp [opsK])
  have h2 : ev e x = ev EA x := ev_uses he (by simp [opsK])
  refine ⟨by rw [show wants e g = wants EA g from wants_uses he]; exact hw, e, hA, killE bad e, hN, Ghost.rfl', .plain ?_, Ghost.unAt⟩
  simp only [istep]
  rw [stop_congr (f := ev e) (g := ev EA) h1 h2, hst]
theorem TurnOk.app {d s bytes : Nat} {g : Option (Nat × Bool)} {x y : Operand} {EA : Env} {hA hN : H} {av : AV} {key : Nat} (hw : wants EA g = some true) (hap : apop (ev EA) hA d s bytes x y = some (av, hN, key)) (hp : pro.contains key = false) : TurnOk P pro ⟨d, g, .app s bytes x y⟩ EA hA (kill (fun k _ => k == key)) av hN := fun e he => by
  have h1 : ev e x = ev EA x := ev_uses he (by simp [opsK])
  have h2 : ev e y = ev EA y := ev_uses he (by simp [opsK])
  refine ⟨by rw [show wants e g = wants EA g from wants_uses he]; exact hw, e, hA, upd (killE (fun k _ => k == key) e) d av, hN, Ghost.rfl', .plain ?_, Ghost.rfl'⟩
  simp only [istep]
  rw [apop_congr (f := ev e) (g := ev EA) h1 h2, hap]
  simp only [hp, Bool.false_eq_true, if_false]
theorem W.turnT (n : Nat) (xj : Ins) (dep ds : List Nat) {pre : List (Ins × List Nat)} (hp : pre = pre.take n ++ [(xj, dep)]) (hds : (pre.take n ++ [(xj, dep)]).map (·.1.dst) = ds) (ck : (nodupB ds && okUses ds 0 (pre.take n ++ [(xj, dep)]) && pro.all (fun k => !ds.contains k) && (pre.take n).all (fun x => !isSt x.1.op) && onlyRd dep (pre.take n) 0 && !dep.contains (pre.take n).length && dep.all (fun i => decide (i < (pre.take n).length)) && (pre.take n).all (fun x => !x.2.contains (pre.take n).length)) = true)
    (hw : WD P (pre.take n) 0 (preE ds e) [] (delKeys h ds) (KT P pro keep ds Q (pre.take n) xj dep tail (delKeys h ds))) : W P pro (.draw keep pre tail) Q e h := by
  rw [hp]
  exact W.turn ds hds ck hw
theorem WD.nil {K : Env → H → Prop} {i : Nat} {acc : List (Nat × H)} {h0 : H} (hk : nodupB ((hxAll acc ++ h0).map Prod.fst) = true) (hK : K e (hxAll acc ++ h0)) : WD P [] i e acc h0 K := ⟨hk, hK⟩
theorem KT.mk {ds : List Nat} {h0 hA : H} (φ : AV → AV) (av : AV) (hN : H) (h1 : keysOk ds h0 hA = true) (h2 : nodupB (hN.map Prod.fst) = true) (h3 : TurnOk P pro xj e hA φ av hN) (h4 : Agains dep φ e hN pre0 0) (h5 : RG P pro keep Q tail (upd (fun t => φ (e t)) xj.dst av) hN) : KT P pro keep ds Q pre0 xj dep tail h0 e hA :=
  ⟨φ, av, hN, h1, h2, h3, h4, h5⟩
theorem WD.needMk {R : Type} {r : R} {c : Prop} [Decidable c] {E : Option R} {b : IB} {l : List (Ins × List Nat)} {g : Option (Nat × Bool)} {d i : Nat} {D : List Nat} {acc : List (Nat × H)} {K : Env → H → Prop} {h0 : H} (av : AV) (rows : H) (hw : wants e g = some true) (hg : need c E = some r) (hop : c → mkop (ev e) [] d b = some (av, rows))
    (hK : c → E = some r → WD P l (i + 1) (upd e d av) (acc ++ [(i, rows)]) h0 K) : WD P ((⟨d, g, .mk b⟩, D) :: l) i e acc h0 K := by
  obtain ⟨hc, hE⟩ := need_some hg
  exact WD.mk hw (hop hc) (hK hc hE)
theorem mk_mks {α : Type} {o : α → List AV} (z : α) {ρ : Operand → AV} {d s bytes : Nat} {zero : List Value} {y : Operand} {j : Int} {k : IntKind} (hi : ρ y = .sc (.int k j)) (hz : zero.map cval = o z) (hc : 0 ≤ j ∧ j * bytes ≤ 140737488355328) : mkop ρ [] d (.mks s bytes zero y) = some (.sl d [] 0 ((List.replicate j.toNat z).map o).length, [(d, ⟨s, (List.replicate j.toNat z).map o⟩)]) := by
  simp only [mkop, hi, hz]
  rw [if_pos hc]
  simp [delRow]
theorem TurnOk.ghost {x : Ins} {EA : Env} {hA h2 hN : H} {ψ φ : AV → AV} {av : AV} (hw : wants EA x.guard = some true) (hg : ∀ e, Ghost P pro e hA (fun t => ψ (e t)) h2) (hT : TurnOk P pro x (fun t => ψ (EA t)) h2 φ av hN) : TurnOk P pro x EA hA (fun z => φ (ψ z)) av hN := fun e he => by
  obtain ⟨h1, e0, h0', e1, h1', g1, hs, g2⟩ := hT (fun t => ψ (e t)) (fun s hs => by rw [he s hs])
  exact ⟨by rw [wants_uses he]; exact hw, e0, h0', e1, h1', (hg e).trans g1, hs, g2⟩
theorem apop_sl {α : Type} {o : α → List AV} {xs ws : List α} {ρ : Operand → AV} {hA : H} {d s bytes k : Nat} {x y : Operand} {mv : Option Nat} (hx : ρ x = .sl k [] 0 (xs.map o).length) (hs : srcE hA s (ρ y) = some (ws.map o, mv)) (hr : getRow (takeRow hA mv) k = some ⟨s, xs.map o⟩) (hc : (xs.length + ws.length) * bytes ≤ 140737488355328) :
    apop ρ hA d s bytes x y = some (.sl k [] 0 ((xs ++ ws).map o).length, (k, ⟨s, (xs ++ ws).map o⟩) :: delRow (takeRow hA mv) k, k) := by
  have : ((xs.map o).length + (ws.map o).length) * bytes ≤ 140737488355328 := by rw [List.length_map, List.length_map]; exact hc
  simp only [apop, hs, hx, hr]
  rw [if_pos ⟨trivial, trivial⟩, if_pos ⟨trivial, Nat.le_refl _, this⟩]
  simp only [List.take_length, List.map_append, List.length_append]
theorem apop_nil {α : Type} {o : α → List AV} {ws : List α} {ρ : Operand → AV} {hA : H} {d s bytes : Nat} {x y : Operand} {mv : Option Nat} (hx : ρ x = .zs) (hs : srcE hA s (ρ y) = some (ws.map o, mv)) (hc : ws.length * bytes ≤ 140737488355328) :
    apop ρ hA d s bytes x y = some (.sl d [] 0 (ws.map o).length, (d, ⟨s, ws.map o⟩) :: delRow (takeRow hA mv) d, d) := by
  have : (ws.map o).length * bytes ≤ 140737488355328 := by rw [List.length_map]; exact hc
  simp only [apop, hs, hx]
  rw [if_pos this]
theorem rd_slcSl {ρ : Operand → AV} {rs : Nat → Path → Option (Nat × Els)} {p : Path} {s n off len : Nat} {ys : Els} {x : Operand} {lo hi : Option Operand} {a b : Int} (hx : ρ x = .sl n p off len) (hr : rs n p = some (s, ys)) (ha : loV (lo.map ρ) = some a) (hb : hiV len (hi.map ρ) = some b) (hc : 0 ≤ a ∧ a ≤ b ∧ b ≤ len) : rdop ρ rs (.slc s x lo hi) = some (.sl n p (off + a.toNat) (b.toNat - a.toNat)) := by
  simp only [rdop, hx, hr, bounds_of ha hb hc, if_true]
theorem Abs.part {α : Type} {o : α → List AV} {h2 : H} {k s n : Nat} {xs : List α} {l l' : List AV} (hg : getRow h k = some ⟨s, xs.map o⟩) (hn : n ≤ (xs.map o).length) (t : Abs (delRow h k) l l' h2) : Abs h (.sl k [] 0 n :: l) (.ow s ((xs.take n).map o) :: l') h2 :=
  .one (by simp only [absC, hg]; rw [if_pos ⟨trivial, trivial⟩, if_pos hn, List.map_take]) t
theorem part_le {len : Nat} {a b : Int} (h : 0 ≤ a ∧ a ≤ b ∧ b ≤ len) : b.toNat - a.toNat ≤ len := by omega
theorem part_eq {len : Nat} {a b : Int} : 0 + a.toNat = a.toNat := Nat.zero_add _
theorem resE_append : ∀ (p : Path) (s : Nat) (xs : Els) (q : Path) (s' : Nat) (ys : Els), resE s xs p = some (s', ys) → resE s xs (p ++ q) = resE s' ys q
  | [], s, xs, q, s', ys, h => by
    simp only [resE, Option.some.injEq, Prod.mk.injEq] at h
    obtain ⟨rfl, rfl⟩ := h
    rfl
  | (i, c) :: p, s, xs, q, s', ys, h => by
    simp only [resE, List.cons_append] at h ⊢
    split at h
    · cases h
    · rename_i x hx
      split at h
      · rename_i s2 zs hz
        exact resE_append p s2 zs q s' ys h
      · cases h
/-- A row that an element of a row holds. -/
theorem res_at {α : Type} {o : α → List AV} {xs : List α} {hA : H} {k s s' i c : Nat} {p : Path} {z : α} {ys : Els} (hr : res hA k p = some (s, xs.map o)) (hz : xs[i]? = some z) (hc : (o z)[c]? = some (.ow s' ys)) : res hA k (p ++ [(i, c)]) = some (s', ys) := by
  unfold res at hr ⊢
  split at hr
  · rename_i r hg
    rw [resE_append p _ _ _ _ _ hr]
    simp only [resE, List.getElem?_map, hz, Option.map_some, hc]
  · cases hr
end
end Loom
namespace Loom
open Go

section
variable {P : Program} {I : Nat → Prop} {N : Nat} {σ σ' : Pl} {w w' : World} {h h' h1 : H} {e e' e1 : Env} {a a' : Act} {pro : List Nat}

theorem HRel.place_nodup {k : Nat} {r : Row} {p : Path} {s : Nat} {ys : Els} (hh : HRel I σ h w) (hg : getRow h k = some r) (hres : resE r.s r.xs p = some (s, ys)) : (fpP σ k p ys).Nodup := by
  obtain ⟨d1, d2, d3, d4, d5, d6⟩ := hh.del hg
  by_cases hp0 : p = []
  · subst hp0
    simp only [resE, Option.some.injEq, Prod.mk.injEq] at hres
    obtain ⟨rfl, rfl⟩ := hres
    exact d4
  · unfold RowOk at d2
    unfold fpR at d4
    cases hs : σ k [] with
    | none =>
      simp only [hs] at d2
      rw [d2] at hres
      cases p with
      | nil => exact absurd rfl hp0
      | cons q p => obtain ⟨i', c'⟩ := q; simp [resE] at hres
    | some L0 =>
      simp only [hs] at d2 d4
      obtain ⟨_, _, cur, E, _, _, f5⟩ := d2
      have := (res_ok p [] r.s r.xs _ s ys f5 hp0 hres).2
      rw [List.nil_append] at this
      exact this.nodup (List.nodup_cons.1 d4).2

theorem HRel.cellAt {k i c : Nat} {r : Row} {p : Path} {s : Nat} {ys : Els} {x : List AV} {y y' : AV} (hh : HRel I σ h w) (hg : getRow h k = some r) (hr : resE r.s r.xs p = some (s, ys)) (hx : ys[i]? = some x) (hy : x[c]? = some y)
    (hσ : ∀ k' q, ¬ (k' = k ∧ ∃ q', q = p ++ (i, c) :: q') → σ' k' q = σ k' q) (hC : ∀ v, Ce I σ (bl w) k p i c y v → Ce I σ' (bl w) k p i c y' v) (hfp : fpA σ' k p i c y' = []) :
    HRel I σ' ((k, ⟨r.s, updE r.xs p (fun ys => ys.set i (x.set c y'))⟩) :: delRow h k) w ∧ (∀ b ∈ fpH σ' ((k, ⟨r.s, updE r.xs p (fun ys => ys.set i (x.set c y'))⟩) :: delRow h k), b ∈ fpH σ h) ∧
      (∀ b ∈ fpA σ k p i c y, b ∈ fpH σ h ∧ b ∉ fpH σ' ((k, ⟨r.s, updE r.xs p (fun ys => ys.set i (x.set c y'))⟩) :: delRow h k)) ∧ (fpA σ k p i c y).Nodup ∧ ∃ v, Ce I σ (bl w) k p i c y v := by
  obtain ⟨d1, d2, d3, d4, d5, d6⟩ := hh.del hg
  obtain ⟨hp, hpf⟩ := hh.place (k := k) (p := p) (s := s) (ys := ys) (by unfold res; rw [hg]; exact hr)
  have hpnd := hh.place_nodup hg hr
  have hne : ∀ q', p ≠ p ++ (i, c) :: q' := fun q' e => by
    have := congrArg List.length e
    simp at this
  have hσp : σ' k p = σ k p := hσ k p (fun ⟨_, q', e⟩ => hne q' e)
  unfold PlaceOk at hp
  unfold fpP at hpf hpnd
  cases hL : σ k p with
  | none =>
    simp only [hL] at hp
    rw [hp] at hx
    simp at hx
  | some L =>
    simp only [hL] at hp hpf hpnd
    obtain ⟨f1, f2, cur, E, f3, f4, f5⟩ := hp
    obtain ⟨hxl, hCx⟩ := CeE.get ys 0 _ f5 i x hx
    simp only [Nat.zero_add] at hCx
    obtain ⟨v, hv, hCe⟩ := CeC.get x 0 _ hCx c y hy
    simp only [Nat.zero_add] at hCe
    have hC1 := CeC.setAt (σ' := σ') (B' := bl w) x 0 c _ y y' v hCx hy (by simpa using hC v hCe) (fun c' a'' v' hne2 _ hce => Ce.ren (fun q => hσ k _ (fun ⟨_, q', hq⟩ => by
      have := List.append_cancel_left hq
      simp only [List.cons.injEq, Prod.mk.injEq] at this
      exact hne2 (by omega))) a'' v' hce)
    rw [set_same hv] at hC1
    have hnl : ((cur.toList.drop (i * s)).take s).length = s := by rw [CeC.length x 0 _ hCx, hxl]
    have hE1 := CeE.setAt (σ' := σ') (B' := bl w) ys 0 i _ x (x.set c y') _ f5 hx (by simp [hxl]) hnl (by simpa using hC1) (fun i' c' a'' v' hne2 _ hce => Ce.ren (fun q => hσ k _ (fun ⟨_, q', hq⟩ => by
      have := List.append_cancel_left hq
      simp only [List.cons.injEq, Prod.mk.injEq] at this
      exact hne2 (by omega))) a'' v' hce)
    rw [take_mid] at hE1
    obtain ⟨m1, m2, hm, hm'⟩ := fpE_mem (σ := σ) (k := k) (p := p) ys 0 i x hx
    obtain ⟨n1, n2, hn, hn'⟩ := fpC_mem (σ := σ) (k := k) (p := p) (i := i) x 0 c y hy
    simp only [Nat.zero_add] at hm hn hm' hn'
    have e1 := hm' σ' (x.set c y') (fun i' c' a'' hne2 => fpA.ren (fun q => hσ k _ (fun ⟨_, q', hq⟩ => by
      have := List.append_cancel_left hq
      simp only [List.cons.injEq, Prod.mk.injEq] at this
      exact hne2 (by omega))) a'')
    have e2 := hn' σ' y' (fun c' a'' hne2 => fpA.ren (fun q => hσ k _ (fun ⟨_, q', hq⟩ => by
      have := List.append_cancel_left hq
      simp only [List.cons.injEq, Prod.mk.injEq] at this
      exact hne2 (by omega))) a'')
    rw [hfp] at e2
    rw [e2] at e1
    have hfP : fpP σ k p ys = L.b :: (m1 ++ (n1 ++ fpA σ k p i c y ++ n2) ++ m2) := by
      unfold fpP; rw [hL]; simp only; rw [hm, hn]
    have hfP' : fpP σ' k p (ys.set i (x.set c y')) = L.b :: (m1 ++ (n1 ++ [] ++ n2) ++ m2) := by
      unfold fpP; rw [hσp, hL]; simp only; rw [e1]
    have hpnd2 : (L.b :: (m1 ++ (n1 ++ fpA σ k p i c y ++ n2) ++ m2)).Nodup := by rw [← hn, ← hm]; exact hpnd
    have hsub : (L.b :: (m1 ++ (n1 ++ [] ++ n2) ++ m2)).Sublist (L.b :: (m1 ++ (n1 ++ fpA σ k p i c y ++ n2) ++ m2)) := by
      refine List.Sublist.cons_cons _ (List.Sublist.append (List.Sublist.append (List.Sublist.refl _) (List.Sublist.append (List.Sublist.append (List.Sublist.refl _) (List.nil_sublist _)) (List.Sublist.refl _))) (List.Sublist.refl _))
    obtain ⟨u1, u2, l1, l2, k2, k3⟩ := hh.updPlace (σ' := σ') (w' := w) (h1 := delRow h k) hg hr (fun ys => ys.set i (x.set c y')) (by simp) d1 d3 (fun b hb => hb) (Nat.le_refl _)
      (by unfold PlaceOk; rw [hσp, hL]; exact ⟨f1, by simpa using f2, cur, E, f3, f4, hE1⟩) hσp (fun k' q hn => hσ k' q (fun ⟨e1, q', e2⟩ => hn ⟨e1, _, List.cons_ne_nil _ _, e2⟩)) (fun _ _ _ => rfl) (by rw [hfP']; exact hsub.nodup hpnd2) (fun b hb => .inl (by rw [hfP]; rw [hfP'] at hb; exact hsub.subset hb))
    refine ⟨u1, u2, fun b hb => ⟨hpf b (by rw [hm, hn]; simp [hb]), fun hm2 => ?_⟩, ?_, v, hCe⟩
    · rw [fpH_cons, k3, hfP', fpH.ren _ (fun k' hk' q => hσ k' q (fun ⟨e, _⟩ => by subst e; exact d3 hk'))] at hm2
      rw [k2, hfP] at d4 d5
      rcases List.mem_append.1 hm2 with hm2 | hm2
      · have hA : b ∈ L.b :: (m1 ++ (n1 ++ fpA σ k p i c y ++ n2) ++ m2) := by simp [hb]
        rw [List.nodup_append, List.nodup_append] at d4
        rcases List.mem_append.1 hm2 with hm2 | hm2
        · rcases List.mem_append.1 hm2 with hm2 | hm2
          · exact d4.1.2.2 b hm2 b hA rfl
          · simp only [List.append_nil, List.nodup_cons, List.mem_append, List.nodup_append, not_or] at hpnd2 hm2
            simp only [List.mem_cons, List.mem_append] at hm2
            obtain ⟨⟨⟨p1, ⟨p2a, p2b⟩, p2c⟩, p3⟩, ⟨q1, ⟨⟨⟨q2, q3, q4⟩, q5, q6⟩, q7⟩⟩, q8, q9⟩ := hpnd2
            rcases hm2 with hm2 | (hm2 | hm2 | hm2) | hm2
            · subst hm2; exact p2b hb
            · exact q7 b hm2 b (.inl (.inr hb)) rfl
            · exact q4 b hm2 b hb rfl
            · exact q6 b (.inr hb) b hm2 rfl
            · exact q9 b (.inr (.inl (.inr hb))) b hm2 rfl
        · exact d4.2.2 b (List.mem_append_right _ hA) b hm2 rfl
      · exact (d5 b (by simp [hb])).1 hm2
    · simp only [List.nodup_cons, List.nodup_append] at hpnd2
      exact hpnd2.2.1.2.1.1.2.1

/-- A row that an element of a row holds, taken out: the slot that looks at it goes along, all others fall. -/
theorem Ghost.detachAt {t k i c s s0 : Nat} (j : Nat) {r : Row} {p : Path} {ys : Els} {x : List AV} {xs : Els} (ht : e t = .sl k (p ++ [(i, c)]) 0 xs.length) (hg : getRow h k = some r) (hr : resE r.s r.xs p = some (s0, ys)) (hx : ys[i]? = some x) (hy : x[c]? = some (.ow s xs)) (hj : (h.map Prod.fst).contains j = false) (hp : pro.all (fun k => k != j) = true) :
    Ghost P pro e h (upd (killE (fun k' q => k' == j || under k p c 1 k' q) e) t (.sl j [] 0 xs.length)) ((j, ⟨s, xs⟩) :: (k, ⟨r.s, updE r.xs p (fun ys => ys.set i (x.set c .un))⟩) :: delRow h k) := by
  intro I N σ a w R
  have hj' : j ∉ h.map Prod.fst := fun hm => by
    have : (h.map Prod.fst).contains j = true := by simpa using hm
    rw [this] at hj; cases hj
  obtain ⟨c1, c2, c3, c4, v, c5⟩ := R.heap.cellAt (σ' := σ) (y' := .un) hg hr hx hy (fun _ _ _ => rfl) (fun v hv => by
      simp only [Ce] at hv ⊢
      split at hv
      · obtain ⟨_, a, rfl⟩ := hv; rfl
      · obtain ⟨_, _, rfl, _⟩ := hv; rfl) rfl
  let σ1 : Pl := fun k' q => if k' = j then σ k (p ++ (i, c) :: q) else σ k' q
  have hne : ∀ k', k' ≠ j → ∀ q, σ1 k' q = σ k' q := fun k' hk q => if_neg hk
  have hkey : j ∉ (((k, ⟨r.s, updE r.xs p (fun ys => ys.set i (x.set c .un))⟩) :: delRow h k : H)).map Prod.fst := by
    simp only [List.map_cons, List.mem_cons, not_or]
    refine ⟨fun e => hj' ?_, fun hm => hj' ((delRow_rel R.heap k).2.2.2 j hm)⟩
    rw [e]
    exact ((getRow_perm hg).map Prod.fst).mem_iff.2 (by simp)
  have hrow : RowOk I σ1 (bl w) j ⟨s, xs⟩ ∧ fpR σ1 j ⟨s, xs⟩ = fpA σ k p i c (.ow s xs) := by
    unfold RowOk fpR
    simp only [fpA]
    have h0 : σ1 j [] = σ k (p ++ [(i, c)]) := if_pos rfl
    rw [h0]
    simp only [Ce] at c5
    cases hs : σ k (p ++ [(i, c)]) with
    | none => simp only [hs] at c5 ⊢; exact ⟨c5.1, trivial⟩
    | some L =>
      simp only [hs] at c5 ⊢
      obtain ⟨g1, g2, g3, cur, E, g4, g5, g6⟩ := c5
      have hq : ∀ i' c' q, σ1 j ([] ++ (i', c') :: q) = σ k ((p ++ [(i, c)]) ++ (i', c') :: q) := fun i' c' q => by
        show σ1 j ((i', c') :: q) = _
        simp [σ1]
      exact ⟨⟨g1, g2, cur, E, g4, g5, CeE.ren (k := k) (p := p ++ [(i, c)]) (p' := []) 0 s hq xs _ g6⟩, by rw [fpE.ren (k := k) (p := p ++ [(i, c)]) (p' := []) 0 hq xs]⟩
  have hadd := c1.add (σ' := σ1) (w' := w) (k := j) (r := ⟨s, xs⟩) hkey hne (fun _ _ _ => rfl) (Nat.le_refl _) hrow.1 (by rw [hrow.2]; exact c4) (fun b hb => by
    rw [hrow.2] at hb
    exact ⟨(c3 b hb).2, R.heap.apart b (c3 b hb).1⟩)
  refine ⟨σ1, I, fun _ h => h, fun _ h => .inl h, ⟨hadd, R.size, fun t' => ?_, R.defers⟩, fun k' hk' => ?_, Le.refl _, fun _ _ _ => rfl, fun b hb => .inl ?_⟩
  · unfold upd
    split
    · rename_i htt
      subst htt
      have hv := R.vals t'
      rw [ht] at hv
      have h0 : σ1 j [] = σ k (p ++ [(i, c)]) := if_pos rfl
      simp only [Va, h0] at hv ⊢
      exact hv
    · exact Va.kill (fun k' q hb => hne k' (fun e => by rw [e] at hb; simp at hb) q) _ _ (R.vals t')
  · have := List.all_eq_true.1 hp k' hk'
    exact hne k' (by simpa using this) []
  · rw [fpH_cons, hrow.2, fpH.ren _ (fun k' hk' q => hne k' (fun e => hkey (e ▸ hk')) q)] at hb
    rcases List.mem_append.1 hb with hb | hb
    · exact (c3 b hb).1
    · exact c2 b hb

theorem kill_kill {b1 b2 : Nat → Path → Bool} : (∀ x : AV, kill b1 (kill b2 x) = kill (fun k q => b2 k q || b1 k q) x) ∧ (∀ l : List AV, killL b1 (killL b2 l) = killL (fun k q => b2 k q || b1 k q) l) := by
  have key : ∀ n, (∀ x : AV, sizeOf x ≤ n → kill b1 (kill b2 x) = kill (fun k q => b2 k q || b1 k q) x) ∧ (∀ l : List AV, sizeOf l ≤ n → killL b1 (killL b2 l) = killL (fun k q => b2 k q || b1 k q) l) := by
    intro n
    induction n with
    | zero => exact ⟨fun x hx => by cases x <;> simp at hx, fun l hl => by cases l <;> simp at hl⟩
    | succ n ih =>
      refine ⟨fun x hx => ?_, fun l hl => ?_⟩
      · cases x with
        | sl k p o l => simp only [kill]; by_cases hb : b2 k p = true <;> simp [kill, hb]
        | pt k p i c => simp only [kill]; by_cases hb : b2 k p = true <;> simp [kill, hb]
        | ag cs => simp only [kill]; rw [ih.2 cs (by simp at hx; omega)]
        | tu cs => simp only [kill]; rw [ih.2 cs (by simp at hx; omega)]
        | fn f cs => simp only [kill]; rw [ih.2 cs (by simp at hx; omega)]
        | _ => rfl
      · cases l with
        | nil => rfl
        | cons x l => simp only [killL]; rw [ih.1 x (by simp at hl; omega), ih.2 l (by simp at hl; omega)]
  exact ⟨fun x => (key _).1 x (Nat.le_refl _), fun l => (key _).2 l (Nat.le_refl _)⟩

/-- Something behind the end of a row that an element of a row holds: it is a row by itself from then on. -/
theorem TurnOk.appAt {α : Type} {o : α → List AV} {xs ws : List α} {d s bytes t k i c s0 : Nat} (j : Nat) {g : Option (Nat × Bool)} {y : Operand} {EA : Env} {hA : H} {r : Row} {p : Path} {ys : Els} {x : List AV}
    (hw : wants EA g = some true) (ht : EA t = .sl k (p ++ [(i, c)]) 0 (xs.map o).length) (hg : getRow hA k = some r) (hr : resE r.s r.xs p = some (s0, ys)) (hx : ys[i]? = some x) (hy : x[c]? = some (.ow s (xs.map o))) (hj : (hA.map Prod.fst).contains j = false) (hp : pro.all (fun k => k != j) = true) (hpj : pro.contains j = false)
    (hyt : ∀ (av : AV), ev (upd (killE (fun k' q => k' == j || under k p c 1 k' q) EA) t av) y = ev (killE (fun k' q => k' == j || under k p c 1 k' q) EA) y)
    (hs : srcE ((j, ⟨s, xs.map o⟩) :: (k, ⟨r.s, updE r.xs p (fun ys => ys.set i (x.set c .un))⟩) :: delRow hA k) s (ev (killE (fun k' q => k' == j || under k p c 1 k' q) EA) y) = some (ws.map o, none)) (hc : (xs.length + ws.length) * bytes ≤ 140737488355328)
    (hkt : kill (fun k' q => k' == j || under k p c 1 k' q) (EA t) = .un) :
    TurnOk P pro ⟨d, g, .app s bytes (.tmp t) y⟩ EA hA (kill (fun k' q => k' == j || under k p c 1 k' q)) (.sl j [] 0 ((xs ++ ws).map o).length) ((j, ⟨s, (xs ++ ws).map o⟩) :: (k, ⟨r.s, updE r.xs p (fun ys => ys.set i (x.set c .un))⟩) :: delRow hA k) := fun e he => by
  have het : e t = EA t := he t (by simp [usesI, opsK, usesL])
  have hey : ev e y = ev EA y := ev_uses he (by simp [opsK])
  let e0 := upd (killE (fun k' q => k' == j || under k p c 1 k' q) e) t (.sl j [] 0 (xs.map o).length)
  have hgh : Ghost P pro e hA e0 ((j, ⟨s, xs.map o⟩) :: (k, ⟨r.s, updE r.xs p (fun ys => ys.set i (x.set c .un))⟩) :: delRow hA k) := Ghost.detachAt j (by rw [het]; exact ht) hg hr hx hy hj hp
  have hy0 : ev e0 y = ev (killE (fun k' q => k' == j || under k p c 1 k' q) EA) y := by
    have h1 := hyt (.sl j [] 0 (xs.map o).length)
    cases y with
    | tmp u =>
      simp only [ev, e0, upd] at h1 ⊢
      by_cases hu : u = t
      · rw [if_pos hu] at h1 ⊢
        exact h1
      · rw [if_neg hu]
        have : e u = EA u := he u (by simp [usesI, opsK, usesL])
        simp only [killE, this]
    | _ => rfl
  have hap := apop_sl (o := o) (xs := xs) (ws := ws) (ρ := ev e0) (hA := (j, ⟨s, xs.map o⟩) :: (k, ⟨r.s, updE r.xs p (fun ys => ys.set i (x.set c .un))⟩) :: delRow hA k) (d := d) (s := s) (bytes := bytes) (k := j) (x := .tmp t) (y := y) (mv := none) (by simp [ev, e0, upd]) (by rw [hy0]; exact hs) (by simp [takeRow, getRow]) hc
  refine ⟨by rw [show wants e g = wants EA g from wants_uses he]; exact hw, e0, _, _, _, hgh, .plain (e' := upd (killE (fun k' _ => k' == j) e0) d (.sl j [] 0 ((xs ++ ws).map o).length)) (h' := (j, ⟨s, (xs ++ ws).map o⟩) :: (k, ⟨r.s, updE r.xs p (fun ys => ys.set i (x.set c .un))⟩) :: delRow hA k) ?_, Ghost.same (fun u => ?_)⟩
  · simp only [istep, hap, hpj, Bool.false_eq_true, if_false]
    simp [takeRow, delRow]
  · unfold upd
    split
    · rfl
    · simp only [killE, e0, upd]
      split
      · rename_i hu
        subst hu
        rw [het, hkt]
        simp [kill]
      · rw [kill_kill.1]
        congr 1
        funext k' q
        cases hkj : (k' == j) <;> simp
theorem rd_len {ρ : Operand → AV} {rs : Nat → Path → Option (Nat × Els)} {b : IB} {k off n m : Nat} {p : Path} (hr : rdop ρ rs b = some (.sl k p off n)) (hn : n = m) : rdop ρ rs b = some (.sl k p off m) := hn ▸ hr
end

section
variable {P : Program} {pro keep : List Nat} {e e1 : Env} {h h1 : H} {Q : Out → Env → H → Prop} {l : List Ins} {R : Type} {r : R} {g : Option (Nat × Bool)} {d : Nat}
/-- A row put back into an element that stands open. -/
theorem RG.stBack {α : Type} {o : α → List AV} {xs : List α} {u : List AV} {z : α} (z' : α) {p : Path} {i c s n k : Nat} {x y : Operand} {vs vs' : List AV} {hp : H} {rw_ : Row} (bm : List (Nat × Nat)) (S : List Nat) (e1 : Env) (h1 : H)
    (hw : wants e g = some true) (hx : ev e x = .pt k p i c) (hgr : getRow h k = some rw_) (hr : resE rw_.s rw_.xs p = some (s, (xs.map o).set i u)) (hz : xs[i]? = some z) (hv : cellsOf (ev e y) = some vs) (hvl : vs.length = n) (hab : Abs (delRow h k) vs vs' hp) (hcn : decide (c + n ≤ u.length) = true)
    (ho : u.take c ++ vs' ++ u.drop (c + n) = o z') (hn : normE pro bm S (killE (under k p c n) e) ((k, ⟨rw_.s, updE rw_.xs p (fun _ => (xs.set i z').map o)⟩) :: hp) = some (e1, h1))
    (hK : RG P pro keep Q l e1 h1) : RG P pro keep Q (⟨d, g, .st n x y⟩ :: l) e h := by
  have hil : i < xs.length := (List.getElem?_eq_some_iff.1 hz).1
  have hgi : ((xs.map o).set i u)[i]? = some u := by simp [hil]
  have hst : stop (ev e) h n x y = some ((k, ⟨rw_.s, updE rw_.xs p (putCells i c n vs')⟩) :: hp, under k p c n) := by
    simp only [stop, hx, hgr, hr, hgi, hv, hvl, hab.sound]
    rw [if_pos (by simpa using hcn), if_pos trivial]
  have hup : updE rw_.xs p (putCells i c n vs') = updE rw_.xs p (fun _ => (xs.set i z').map o) := updE_congr p _ _ _ _ hr (by
    simp only [putCells, hgi, ho, List.set_set, List.map_set])
  refine RG.step hw (.plain (e' := killE (under k p c n) e) (h' := (k, ⟨rw_.s, updE rw_.xs p (putCells i c n vs')⟩) :: hp) (by simp only [istep, hst])) ?_
  rw [hup]
  exact RG.ghost (Ghost.norm hn) hK
theorem KT.mkE {pre0 : List (Ins × List Nat)} {tail : List Ins} {xj : Ins} {dep : List Nat} {ds : List Nat} {h0 hA hN0 : H} (φ : AV → AV) (av : AV) (hN : H) (h1 : keysOk ds h0 hA = true) (h2 : nodupB (hN.map Prod.fst) = true) (h3 : TurnOk P pro xj e hA φ av hN0) (heq : hN0 = hN) (h4 : Agains dep φ e hN pre0 0) (h5 : RG P pro keep Q tail (upd (fun t => φ (e t)) xj.dst av) hN) : KT P pro keep ds Q pre0 xj dep tail h0 e hA :=
  ⟨φ, av, hN, h1, h2, heq ▸ h3, h4, h5⟩
theorem map_at {α : Type} {o : α → List AV} {xs : List α} {i : Nat} {z : α} {x : List AV} (hz : xs[i]? = some z) (ho : o z = x) : (xs.map o)[i]? = some x := by
  rw [List.getElem?_map, hz, Option.map_some, ho]
end
end Loom
namespace Loom
open Go

mutual
/-- The shapes of a law's arguments: whole numbers, bools, strings, slices (cells and bytes of an element), structs. -/
inductive Ty where
  | int (k : IntKind)
  | bool
  | str
  | sl (s by' : Nat) (e : Ty)
  | st (fs : Tys)
inductive Tys where
  | nil
  | cons (t : Ty) (ts : Tys)
end

mutual
/-- Cells that are of a shape, and not too large: R of a length and the bytes of one element. -/
def OfTy (R : Nat → Nat → Prop) : Ty → List AV → Prop
  | .int k, cs => ∃ n, cs = [.sc (.int k n)] ∧ (Lit.int k n).wf = true
  | .bool, cs => ∃ b, cs = [.sc (.bool b)]
  | .str, cs => ∃ s : ByteArray, cs = [.sc (.string s)] ∧ R s.size 1
  | .sl s by' e, cs => ∃ xs : List (List AV), cs = [.im s xs] ∧ (∀ x ∈ xs, OfTy R e x) ∧ R xs.length by'
  | .st fs, cs => OfTys R fs cs
def OfTys (R : Nat → Nat → Prop) : Tys → List AV → Prop
  | .nil, cs => cs = []
  | .cons t ts, cs => ∃ a b, cs = a ++ b ∧ OfTy R t a ∧ OfTys R ts b
end

mutual
def tyOk (P : Program) (t : TypeId) : Ty → Bool
  | .int k => P.cellsOf t == 1 && (match P.underlying t with | some (.int k') => k == k' | _ => false)
  | .bool => P.cellsOf t == 1 && (match P.underlying t with | some .bool => true | _ => false)
  | .str => P.cellsOf t == 1 && (match P.underlying t with | some .string => true | _ => false)
  | .sl s by' e => P.cellsOf t == 1 && (match P.underlying t with | some (.slice u) => decide (0 < s) && P.cellsOf u == s && P.bytesOf u == by' && tyOk P u e | _ => false)
  | .st fs => match P.underlying t with | some (.struct fds) => tysOk P fds.toList 0 (P.cellsOf t) fs | _ => false
def tysOk (P : Program) (fds : List Field) (off total : Nat) : Tys → Bool
  | .nil => fds.isEmpty && off == total
  | .cons t ts => match fds with
    | [] => false
    | f :: r => f.offset == off && tyOk P f.type t && tysOk P r (off + P.cellsOf f.type) total ts
end

section
variable {H : Type} {enc : TypeId × Value → H} {P : Program} {w : World} {sp : Nat → Bool} {held : Bool} {R : Nat → Nat → Prop}
abbrev Old (w : World) : Nat → Prop := fun b => b < w.heap.size

theorem ImC.append {I : Nat → Prop} {B : Blocks} : ∀ {a b : List AV} {cs ds : List Value}, ImC I B a cs → ImC I B b ds → ImC I B (a ++ b) (cs ++ ds)
  | [], _, _, _, h, h' => by
    obtain rfl : _ = [] := h
    exact h'
  | _ :: as, _, _, _, h, h' => by
    obtain ⟨v, cs', rfl, h1, h2⟩ := h
    exact ⟨v, cs' ++ _, rfl, h1, h2.append h'⟩

theorem ImE_of {I : Nat → Prop} {B : Blocks} {s : Nat} : ∀ {xs : Els} {l : List Value}, (∀ i x, xs[i]? = some x → x.length = s ∧ ImC I B x ((l.drop (i * s)).take s)) → ImE I B s xs l
  | [], _, _ => trivial
  | x :: xs, l, h => by
    have h0 := h 0 x rfl
    simp only [Nat.zero_mul, List.drop_zero] at h0
    refine ⟨h0.1, h0.2, ImE_of fun i y hy => ?_⟩
    have h1 := h (i + 1) y hy
    rw [List.drop_drop, show s + i * s = (i + 1) * s by rw [Nat.add_mul]; omega]
    exact h1

theorem lift_list {α : Type} {Q : Nat → α → Prop} : ∀ {n : Nat}, (∀ i, i < n → ∃ x, Q i x) → ∃ xs : List α, xs.length = n ∧ ∀ i x, xs[i]? = some x → Q i x := by
  intro n
  induction n with
  | zero => intro _; exact ⟨[], rfl, fun i x h => by simp at h⟩
  | succ n ih =>
    intro h
    obtain ⟨xs, h1, h2⟩ := ih fun i hi => h i (by omega)
    obtain ⟨x, hx⟩ := h n (by omega)
    refine ⟨xs ++ [x], by simp [h1], fun i y hy => ?_⟩
    by_cases hi : i < n
    · exact h2 i y (by rw [List.getElem?_append_left (by omega)] at hy; exact hy)
    · rw [List.getElem?_append_right (by omega)] at hy
      by_cases e : i - xs.length = 0
      · rw [e] at hy
        obtain rfl := Option.some.inj hy
        obtain rfl : i = n := by omega
        exact hx
      · rw [List.getElem?_eq_none (by simp; omega)] at hy
        cases hy

theorem cell?_some {a : Addr} {v : Value} (h : w.cell? a = some v) : ∃ c E fr, w.heap[a.block]? = some (.cells c E fr) ∧ a.spot = none ∧ c[a.off]? = some v := by
  unfold World.cell? at h
  split at h
  · rename_i c E fr hc
    split at h
    · cases h
    · rename_i hs
      refine ⟨c, E, fr, hc, ?_, h⟩
      cases hsp : a.spot <;> simp_all
  · cases h

theorem weights_all {e : TypeId} : ∀ {l : List (DataW H)} {n : Nat} {d : DataW H}, d ∈ l → n ∈ d.weights P e → n ∈ DataW.weightsAll P e l
  | _ :: _, _, _, h, h' => by
    simp only [DataW.weightsAll, List.mem_append]
    cases h with
    | head => exact .inl h'
    | tail _ h => exact .inr (weights_all h h')

/-- What is known of the size of an argument's data, and of its parts. -/
structure Fit (R : Nat → Nat → Prop) (P : Program) (H : Type) where
  F : TypeId → DataW H → Prop
  E : List TypeId → List (DataW H) → Prop
  str : ∀ {t : TypeId} {l : List UInt8}, F t (.lit (.string l)) → R l.length 1
  nil : ∀ b, R 0 b
  sl : ∀ {t u : TypeId} {e s : List (DataW H)}, P.underlying t = some (.slice u) → F t (.slice e s) → R e.length (P.bytesOf u) ∧ ∀ x ∈ e, F u x
  st : ∀ {t : TypeId} {fds : Array Field} {ps : List (DataW H)}, P.underlying t = some (.struct fds) → F t (.agg ps) → E (fds.toList.map (·.type)) ps
  cons : ∀ {t : TypeId} {ts : List TypeId} {d : DataW H} {ds : List (DataW H)}, E (t :: ts) (d :: ds) → F t d ∧ E ts ds

/-- What the row itself says of sizes. -/
def fitReach (P : Program) (H : Type) : Fit (fun n b => n * b ≤ reachBytes) P H where
  F t d := ∀ n ∈ d.weights P t, n ≤ reachBytes
  E ts ds := ∀ n ∈ DataW.weightsEach P ts ds, n ≤ reachBytes
  str {t l} h := by have := h l.length (by simp [DataW.weights]); simpa using this
  nil b := by simp
  sl hu h := by
    refine ⟨?_, fun x hx m hm => h m ?_⟩
    · have := h _ (by simp only [DataW.weights, hu]; exact List.mem_cons_self ..)
      exact Nat.le_trans (Nat.mul_le_mul_right _ (Nat.le_add_right _ _)) this
    · simp only [DataW.weights, hu, List.mem_cons, List.mem_append]
      exact .inr (.inl (weights_all hx hm))
  st hu h := by intro n hn; exact h n (by simp only [DataW.weights, hu]; exact hn)
  cons h := ⟨fun n hn => h n (by simp only [DataW.weightsEach, List.mem_append]; exact .inl hn), fun n hn => h n (by simp only [DataW.weightsEach, List.mem_append]; exact .inr hn)⟩

/-- A condition on the bulk of the arguments besides: every length is at most N. -/
def fitBulk (P : Program) (H : Type) (N : Nat) (B : DataW H → Nat) (BA : List (DataW H) → Nat) (h1 : ∀ d, 1 ≤ B d) (hs : ∀ l, B (.lit (.string l)) = l.length + 1) (hsl : ∀ e s, B (.slice e s) = BA e + BA s + 1) (ha : ∀ l, B (.agg l) = BA l + 1) (hc : ∀ d r, BA (d :: r) = B d + BA r) :
    Fit (fun n b => n * b ≤ reachBytes ∧ n ≤ N) P H where
  F t d := (fitReach P H).F t d ∧ B d ≤ N
  E ts ds := (fitReach P H).E ts ds ∧ BA ds ≤ N
  str h := ⟨(fitReach P H).str h.1, by have := h.2; rw [hs] at this; omega⟩
  nil b := ⟨by simp, Nat.zero_le _⟩
  sl {t u e s} hu h := by
    obtain ⟨a, b⟩ := (fitReach P H).sl hu h.1
    have hN := h.2
    rw [hsl] at hN
    have hl : ∀ l : List (DataW H), l.length ≤ BA l := by
      intro l
      induction l with
      | nil => exact Nat.zero_le _
      | cons x r ih => rw [hc]; have := h1 x; simp only [List.length_cons]; omega
    have hm : ∀ (l : List (DataW H)), ∀ x ∈ l, B x ≤ BA l := by
      intro l
      induction l with
      | nil => intro x hx; cases hx
      | cons y r ih =>
        intro x hx
        rw [hc]
        rcases List.mem_cons.1 hx with rfl | hx
        · omega
        · have := ih x hx; omega
    exact ⟨⟨a, by have := hl e; omega⟩, fun x hx => ⟨b x hx, by have := hm e x hx; omega⟩⟩
  st hu h := ⟨(fitReach P H).st hu h.1, by have := h.2; rw [ha] at this; omega⟩
  cons h := ⟨⟨((fitReach P H).cons h.1).1, by have := h.2; rw [hc] at this; omega⟩, ((fitReach P H).cons h.1).2, by have := h.2; rw [hc] at this; omega⟩

mutual
theorem lift (Φ : Fit R P H) : ∀ (T : Ty) {t : TypeId} {fuel : Nat} {cs : List Value} {x : DataW H × List MemPlace}, tyOk P t T = true → DataW.trod enc P w 0 sp held fuel t cs = some x → Φ.F t x.1 →
    ∃ as, OfTy R T as ∧ ImC (Old w) (bl w) as cs ∧ as.length = P.cellsOf t
  | .int k, t, fuel, cs, x, ok, h, hw => by
    simp only [tyOk, Bool.and_eq_true, beq_iff_eq] at ok
    obtain ⟨o1, o2⟩ := ok
    split at o2
    · rename_i k' hu
      obtain rfl : k = k' := by simpa using o2
      obtain ⟨n, rfl, rfl, hwf⟩ := DataW.trod_int hu h
      exact ⟨_, ⟨n, rfl, hwf⟩, ⟨_, [], rfl, ⟨rfl, rfl⟩, rfl⟩, o1.symm⟩
    · cases o2
  | .bool, t, fuel, cs, x, ok, h, hw => by
    simp only [tyOk, Bool.and_eq_true, beq_iff_eq] at ok
    obtain ⟨o1, o2⟩ := ok
    split at o2
    · rename_i hu
      obtain ⟨b, rfl, rfl⟩ := DataW.trod_bool hu h
      exact ⟨_, ⟨b, rfl⟩, ⟨_, [], rfl, ⟨rfl, rfl⟩, rfl⟩, o1.symm⟩
    · cases o2
  | .str, t, fuel, cs, x, ok, h, hw => by
    simp only [tyOk, Bool.and_eq_true, beq_iff_eq] at ok
    obtain ⟨o1, o2⟩ := ok
    split at o2
    · rename_i hu
      obtain ⟨s, rfl, rfl, hs⟩ := DataW.trod_string hu h
      refine ⟨_, ⟨s, rfl, ?_⟩, ⟨_, [], rfl, ⟨rfl, rfl⟩, rfl⟩, o1.symm⟩
      have := Φ.str hw
      simpa using this
    · cases o2
  | .sl s b e, t, fuel, cs, x, ok, h, hw => by
    simp only [tyOk, Bool.and_eq_true, beq_iff_eq] at ok
    obtain ⟨o1, o2⟩ := ok
    split at o2
    · rename_i u hu
      simp only [Bool.and_eq_true, beq_iff_eq, decide_eq_true_eq] at o2
      obtain ⟨⟨⟨hs, rfl⟩, rfl⟩, oe⟩ := o2
      rcases DataW.trod_slice hu h with ⟨rfl, rfl⟩ | ⟨a, len, cap, elems, rest, n, rfl, rfl, rfl, -, hlc, -, hlen, hel, -, -⟩
      · exact ⟨[.im _ []], ⟨[], rfl, (fun x hx => by cases hx), Φ.nil _⟩, ⟨_, [], rfl, ⟨none, 0, rfl, Nat.le_refl _, fun h => (h rfl).elim⟩, rfl⟩, o1.symm⟩
      · obtain ⟨hwe, hww⟩ := Φ.sl hu hw
        have step : ∀ i, i < len → ∃ as, (OfTy R e as ∧ as.length = P.cellsOf u) ∧ ∃ cs', w.cells? 0 (a.add (i * P.cellsOf u)) (P.cellsOf u) = some cs' ∧ ImC (Old w) (bl w) as cs' := by
          intro i hi
          have h1 := hel i hi
          rw [List.getElem?_eq_getElem (by omega)] at h1
          obtain ⟨cs', h2, h3⟩ := Option.bind_eq_some_iff.1 h1
          obtain ⟨as, a1, a2, a3⟩ := lift Φ e oe h3 (hww _ (List.mem_map_of_mem (List.getElem_mem (by omega))))
          exact ⟨as, ⟨a1, a3⟩, cs', h2, a2⟩
        obtain ⟨xs, x1, x2⟩ := lift_list step
        refine ⟨[.im _ xs], ⟨xs, rfl, fun x hx => ?_, ?_⟩, ⟨_, [], rfl, ⟨some a, cap, by rw [x1], by omega, fun hne => ?_⟩, rfl⟩, o1.symm⟩
        · obtain ⟨i, hi, rfl⟩ := List.getElem_of_mem hx
          exact (x2 i _ (List.getElem?_eq_getElem hi)).1.1
        · rw [x1, ← hlen]
          simpa using hwe
        · have h0 : 0 < xs.length := List.length_pos_iff.2 hne
          obtain ⟨-, cs0, c1, -⟩ := x2 0 _ (List.getElem?_eq_getElem h0)
          have c2 := (World.cells?_some c1).2.2 0 hs
          rw [List.getElem?_eq_getElem (by have := (World.cells?_some c1).2.1; omega)] at c2
          obtain ⟨c, E, fr, hc, hsp, -⟩ := cell?_some c2
          have hsn : a.spot = none := by
            rcases a with ⟨b0, o0, s0⟩
            cases s0 with
            | none => rfl
            | some z => simp [Addr.add] at hsp
          obtain ⟨b0, o0, s0⟩ := a
          obtain rfl : s0 = none := hsn
          have hadd : ∀ o k, Addr.add ⟨b0, o, none⟩ k = ⟨b0, o + k, none⟩ := fun o k => by
            unfold Addr.add
            split
            · subst_vars; rfl
            · rfl
          simp only [hadd] at hc
          refine ⟨⟨b0, o0, none⟩, c, E, fr, rfl, rfl, ?_, hc, ImE_of fun i x hx => ?_⟩
          · show b0 < w.heap.size
            by_cases hl : b0 < w.heap.size
            · exact hl
            · rw [Array.getElem?_eq_none (by omega)] at hc; cases hc
          · obtain ⟨⟨-, q1⟩, cs', q2, q3⟩ := x2 i x hx
            refine ⟨q1, ?_⟩
            obtain ⟨-, l1, l2⟩ := World.cells?_some q2
            have : ((c.toList.drop o0).drop (i * P.cellsOf u)).take (P.cellsOf u) = cs' := by
              apply List.ext_getElem?
              intro j
              by_cases hj : j < P.cellsOf u
              · rw [← l2 j hj, List.getElem?_take_of_lt hj, List.drop_drop, List.getElem?_drop]
                simp only [World.cell?, hadd, hc]
                simp [Nat.add_assoc]
              · rw [List.getElem?_eq_none (by simp; omega), List.getElem?_eq_none (by omega)]
            rw [this]
            exact q3
    · cases o2
  | .st fs, t, fuel, cs, x, ok, h, hw => by
    simp only [tyOk] at ok
    split at ok
    · rename_i fds hu
      obtain ⟨xs, n, rfl, rfl, hl, hx, hf⟩ := DataW.trod_struct hu h
      obtain ⟨as, a1, a2, a3⟩ := lifts Φ fs (fds := fds.toList) (off := 0) (cs := cs) (total := P.cellsOf t) (xs := xs) (n := n) ok hl (by simpa using hx) (fun i f hi => hf i f (by simpa using hi)) (Φ.st hu hw)
      exact ⟨as, a1, by simpa using a2, by simpa using a3⟩
    · cases ok
theorem lifts (Φ : Fit R P H) : ∀ (T : Tys) {fds : List Field} {off total : Nat} {cs : List Value} {xs : List (DataW H × List MemPlace)} {n : Nat}, tysOk P fds off total T = true → cs.length = total → xs.length = fds.length →
    (∀ (i : Nat) (f : Field), fds[i]? = some f → DataW.trod enc P w 0 sp held n f.type ((cs.drop f.offset).take (P.cellsOf f.type)) = xs[i]?) →
    Φ.E (fds.map (·.type)) (xs.map (·.1)) →
    ∃ as, OfTys R T as ∧ ImC (Old w) (bl w) as (cs.drop off) ∧ as.length = total - off
  | .nil, fds, off, total, cs, xs, n, ok, hl, hx, hf, hw => by
    simp only [tysOk, Bool.and_eq_true, beq_iff_eq] at ok
    obtain ⟨-, rfl⟩ := ok
    refine ⟨[], rfl, ?_, by simp⟩
    rw [List.drop_eq_nil_of_le (by omega)]
    exact rfl
  | .cons t ts, fds, off, total, cs, xs, n, ok, hl, hx, hf, hw => by
    simp only [tysOk] at ok
    split at ok
    · cases ok
    · rename_i f r
      simp only [Bool.and_eq_true, beq_iff_eq] at ok
      obtain ⟨⟨rfl, o1⟩, o2⟩ := ok
      cases xs with
      | nil => simp at hx
      | cons x xs =>
        have h0 := hf 0 f rfl
        obtain ⟨as, a1, a2, a3⟩ := lift Φ t o1 h0 (Φ.cons hw).1
        obtain ⟨bs, b1, b2, b3⟩ := lifts Φ ts (fds := r) (off := f.offset + P.cellsOf f.type) (total := total) (cs := cs) (xs := xs) (n := n) o2 hl (by simpa using hx) (fun i g hg => hf (i + 1) g hg) (Φ.cons hw).2
        have e : cs.drop f.offset = (cs.drop f.offset).take (P.cellsOf f.type) ++ cs.drop (f.offset + P.cellsOf f.type) := by
          rw [← List.drop_drop, List.take_append_drop]
        refine ⟨as ++ bs, ⟨as, bs, rfl, a1, b1⟩, ?_, ?_⟩
        · rw [e]; exact a2.append b2
        · have q : ∀ {I : Nat → Prop} {B : Blocks} (l : List AV) (c : List Value), ImC I B l c → l.length = c.length := by
            intro I B l
            induction l with
            | nil => intro c h; obtain rfl : c = [] := h; rfl
            | cons a l ih => intro c h; obtain ⟨v, c', rfl, -, h'⟩ := h; simp [ih c' h']
          have e1 := q as _ a2
          have e2 := q bs _ b2
          simp only [List.length_append, List.length_take, List.length_drop] at *
          omega
end
end

/-- Lists of cells as lists of a Lean type. -/
theorem lift_map {α : Type} {c : α → List AV} {W : α → Prop} {Q : List AV → Prop} (hq : ∀ x, Q x → ∃ y, W y ∧ c y = x) : ∀ {xs : Els}, (∀ x ∈ xs, Q x) → ∃ ys : List α, (∀ y ∈ ys, W y) ∧ ys.map c = xs
  | [], _ => ⟨[], (fun y hy => by cases hy), rfl⟩
  | x :: xs, h => by
    obtain ⟨y, h1, h2⟩ := hq x (h x (List.mem_cons_self ..))
    obtain ⟨ys, h3, h4⟩ := lift_map hq (xs := xs) fun z hz => h z (List.mem_cons_of_mem _ hz)
    exact ⟨y :: ys, (fun z hz => by cases hz with | head => exact h1 | tail _ hz => exact h3 z hz), by simp [h2, h4]⟩
end Loom
namespace Loom
open Go Go.ChangeShapes Go.WideShapes Go.RowKit

/-- The abstract value of an argument of a shape, from its cells. -/
def argOf : Ty → List AV → AV
  | .st _, cs => .ag cs
  | _, cs => cs.headD .un

def OfArgs (R : Nat → Nat → Prop) : List Ty → List (List AV) → Prop
  | [], as => as = []
  | T :: Ts, as => ∃ a r, as = a :: r ∧ OfTy R T a ∧ OfArgs R Ts r
def argsOf : List Ty → List (List AV) → List AV
  | T :: Ts, a :: as => argOf T a :: argsOf Ts as
  | _, _ => []
def tysAll (P : Program) : List TypeId → List Ty → Bool
  | [], [] => true
  | t :: ts, T :: Ts => tyOk P t T && P.readableRec t && decide (t < P.types.size) && tysAll P ts Ts
  | _, _ => false

section
variable {H : Type} {enc : TypeId × Value → H} {P : Program} {W : World} {σ : Pl} {R : Nat → Nat → Prop}

theorem arg_lift (Φ : Fit R P H) {T : Ty} {t : TypeId} {v : Value} {d : DataW H} {p : List MemPlace} {r : Reach} {b0 : Nat} (ok : tyOk P t T = true) (hval : Value.okWide P W r b0 t v)
    (h : DataW.Trod enc P W 0 (fun _ => true) true t v d p) (hw : Φ.F t d) : ∃ as, OfTy R T as ∧ Va (Old W) σ (bl W) (argOf T as) v := by
  obtain ⟨fuel, h⟩ := h
  obtain ⟨as, a1, a2, -⟩ := lift Φ T ok h hw
  refine ⟨as, a1, ?_⟩
  have one : ∀ {x : AV}, as = [x] → v.cells = #[v] → Va (Old W) σ (bl W) x v := by
    rintro x rfl hc
    rw [hc] at a2
    obtain ⟨u, cs', e, h1, -⟩ := a2
    obtain ⟨rfl, -⟩ := List.cons.inj e
    exact (Im.va _ _ h1).1
  cases T with
  | int k =>
    simp only [tyOk, Bool.and_eq_true] at ok
    have ok := ok.2
    split at ok
    · rename_i hu
      obtain ⟨n, rfl⟩ := okWide_int hu hval
      obtain ⟨m, rfl, -⟩ := a1
      exact one rfl rfl
    · cases ok
  | bool =>
    simp only [tyOk, Bool.and_eq_true] at ok
    have ok := ok.2
    split at ok
    · rename_i hu
      obtain ⟨n, rfl⟩ := okWide_bool hu hval
      obtain ⟨m, rfl⟩ := a1
      exact one rfl rfl
    · cases ok
  | str =>
    simp only [tyOk, Bool.and_eq_true] at ok
    have ok := ok.2
    split at ok
    · rename_i hu
      obtain ⟨n, rfl⟩ := okWide_string hu hval
      obtain ⟨m, rfl, -⟩ := a1
      exact one rfl rfl
    · cases ok
  | sl s b e =>
    simp only [tyOk, Bool.and_eq_true] at ok
    have ok := ok.2
    split at ok
    · rename_i hu
      obtain ⟨a, l, c, rfl⟩ := okWide_slice hu hval
      obtain ⟨m, rfl, -⟩ := a1
      exact one rfl rfl
    · cases ok
  | st fs =>
    simp only [tyOk] at ok
    split at ok
    · rename_i hu
      obtain ⟨cs, rfl, -⟩ := okWide_struct hu hval
      exact ⟨cs, rfl, ImC.va _ _ a2⟩
    · cases ok

theorem args_lift (Φ : Fit R P H) (hl : laidOutB P = true) : ∀ {ts : List TypeId} {Ts : List Ty} {vs : List Value} {ds : List (DataW H)} {ps : List MemPlace}, tysAll P ts Ts = true → (∀ (j : Nat) t v, ts[j]? = some t → vs[j]? = some v → Value.okWide P W .any 0 t v) →
    DataW.TrodAll enc P W 0 (fun _ => true) true ts vs ds ps → Φ.E ts ds →
    (∃ as, OfArgs R Ts as ∧ VaL (Old W) σ (bl W) (argsOf Ts as) vs) ∧ ds.length = Ts.length ∧ ∀ W', Below W.heap.size W W' → DataW.TrodAll enc P W' 0 (fun b => decide (b < W.heap.size)) true ts vs ds ps
  | [], [], vs, ds, ps, _, _, h, _ => by
    obtain ⟨rfl, rfl, rfl⟩ := trodAll_nil h
    exact ⟨⟨[], rfl, rfl⟩, rfl, fun _ _ => rfl⟩
  | t :: ts, T :: Ts, vs, ds, ps, ok, hval, h, hw => by
    simp only [tysAll, Bool.and_eq_true, decide_eq_true_eq] at ok
    obtain ⟨⟨⟨o1, o2⟩, o3⟩, o4⟩ := ok
    obtain ⟨v, vs, d, ds, p, q, rfl, rfl, rfl, h1, h2⟩ := trodAll_cons h
    obtain ⟨a, a1, a2⟩ := arg_lift Φ (σ := σ) o1 (hval 0 _ _ rfl rfl) h1 (Φ.cons hw).1
    obtain ⟨⟨as, b1, b2⟩, b3, b4⟩ := args_lift Φ hl o4 (fun j t v e1 e2 => hval (j + 1) t v e1 e2) h2 (Φ.cons hw).2
    refine ⟨⟨a :: as, ⟨a, as, rfl, a1, b1⟩, v, vs, rfl, a2, b2⟩, by simp [b3], fun W' hb => ⟨p, q, ?_, b4 W' hb, rfl⟩⟩
    have h1' := h1
    obtain ⟨n, hn⟩ := h1
    exact RowKit.Below.trod hl o2 o3 h1' hb (DataW.trod_lt n _ _ _ hn)
  | [], _ :: _, _, _, _, ok, _, _, _ => by cases ok
  | _ :: _, [], _, _, _, ok, _, _, _ => by cases ok

theorem law_calls {f : Nat} {as : List AV} {vs : List Value} (hc : CallG P f as [] (Bl true) []) (hv : VaL (Old W) (fun _ _ => none) (bl W) as vs) :
    Calls P f vs.toArray W fun e W' => e = .returned (.bool true) ∧ Below W.heap.size W W' := by
  refine (hc (Old W) (fun _ _ => none) W vs ⟨trivial, List.nodup_nil, List.nodup_nil, (fun b hb => by cases hb), fun b hb => hb⟩ hv).mono ?_
  rintro e W' ⟨v, σ', I', rfl, -, -, -, hr, -, hle, hb, -⟩
  obtain rfl : v = .bool true := hr
  exact ⟨rfl, hle.os, hle.tape, hle.output, hle.size, fun k hk => hb k hk (by intro h; cases h)⟩
end

abbrev RSaid : Nat → Nat → Prop := fun n b => n * b ≤ reachBytes
abbrev RUpto (N : Nat) : Nat → Nat → Prop := fun n b => n * b ≤ reachBytes ∧ n ≤ N
/-- A law that answers true at every input of the given shapes: its row. -/
theorem row_of {C : Checked} {os : Os} {H : Type} {enc : TypeId × Value → H} {f : Nat} {fn : Func} {s : ChangeSpec} {ts : List TypeId} (Ts : List Ty) (tb : TypeId) (started : os.Started) (own : ownKnob C.prog.godebug = none)
    (noInit : C.prog.inits.idxOf? f = none) (hfn : C.prog.funcs[f]? = some fn)
    (witness : ∃ (w : World) (tape : Tape) (i : Input), w.os = os ∧ (w.forCall tape i).Shaped C.prog ∧ i.vars = [] ∧ Input.okWide C.prog (w.forCall tape i) .any w.heap.size f i ∧
      s.pre6 enc C.prog fn [] false (w.forCall tape i).memory i.args ∧ ({} : Assume).holds C.prog (lone (Frame.enter C.prog f i.args .normal) [] (w.forCall tape i)))
    (hl : laidOutB C.prog = true) (hps : fn.params = ts.toArray) (hrs : fn.resultTypes = #[tb]) (htb : C.prog.underlying tb = some .bool) (hts : tysAll C.prog ts Ts = true)
    (hvars : s.vars = []) (hs : ∀ ds : List (DataW H), ds.length = Ts.length → s.fn H ds = { results := [.lit (.bool true)], args := ds })
    (hc : ∀ as, OfArgs RSaid Ts as → CallG C.prog f (argsOf Ts as) [] (Bl true) []) :
    ReturnsInHanded {} C os f .any (s.pre6 enc C.prog fn [] false) (s.post enc C.prog fn false true false false) := by
  refine returnsInHanded_of_change_sized (C := C) own started noInit hfn witness ?_
  intro W base args ds gs before hval hW _ hsz _
  have hW' := hW
  obtain ⟨p, q, hA, hV, rfl, hfz, hnd⟩ := hW
  rw [hvars] at hV
  obtain ⟨rfl, rfl⟩ := trodVars_none hV
  have hvt : s.plain.varTypes C.prog = [] := by
    have : s.plain.vars = [] := hvars
    simp [DataSpec.varTypes, this]
  rw [hvt, List.append_nil, List.append_nil] at hsz
  rw [hps] at hA hsz
  obtain ⟨⟨as, a1, a2⟩, a3, a4⟩ := args_lift (fitReach C.prog H) (W := W) (σ := fun _ _ => none) hl hts (fun j t v h1 h2 => hval j t v (by rw [hps]; simpa using h1) (by simpa using h2)) hA fun n hn => by
    have := List.all_eq_true.1 hsz n hn
    simpa using this
  have := law_calls (hc as a1) a2
  rw [Array.toArray_toList] at this
  refine this.mono fun e W' ⟨he, bel⟩ => ?_
  subst he
  refine ⟨_, rfl, _, _, _, [], p, [], hW', ?_⟩
  have e : s.fn H (ds ++ []) = { results := [.lit (.bool true)], args := ds } := by rw [List.append_nil]; exact hs ds a3
  rw [e, hvars, hrs, hps]
  exact ⟨trodAll_mk1 (shut_bool htb _), a4 W' bel, rfl, bel.frame _, fun h => by cases h⟩

/-- The same for a row with a condition on the bulk of what comes in. -/
theorem row_cond {C : Checked} {os : Os} {H : Type} {enc : TypeId × Value → H} {f : Nat} {fn : Func} {s : OpenSpec} {k : (H : Type) → List (DataW H) → Bool} (hk : s.cond = some k) {F : Stop.Interp} {ts : List TypeId} (Ts : List Ty) (tb : TypeId) {R : Nat → Nat → Prop} (Φ : Fit R C.prog H) (started : os.Started) (own : ownKnob C.prog.godebug = none)
    (noInit : C.prog.inits.idxOf? f = none) (hfn : C.prog.funcs[f]? = some fn)
    (witness : ∃ (w : World) (tape : Tape) (i : Input), w.os = os ∧ (w.forCall tape i).Shaped C.prog ∧ i.vars = [] ∧ Input.okWide C.prog (w.forCall tape i) .any w.heap.size f i ∧
      s.pre6 enc C.prog fn [] false (w.forCall tape i).memory i.args ∧ ({} : Assume).holds C.prog (lone (Frame.enter C.prog f i.args .normal) [] (w.forCall tape i)))
    (hl : laidOutB C.prog = true) (hps : fn.params = ts.toArray) (hrs : fn.resultTypes = #[tb]) (htb : C.prog.underlying tb = some .bool) (hts : tysAll C.prog ts Ts = true)
    (hvars : s.vars = []) (hs : ∀ ds : List (DataW H), ds.length = Ts.length → (s.at F).fn H ds = { results := [.lit (.bool true)], args := ds })
    (hΦ : ∀ ds, k H ds = true → (fitReach C.prog H).E ts ds → Φ.E ts ds)
    (hc : ∀ as, OfArgs R Ts as → CallG C.prog f (argsOf Ts as) [] (Bl true) []) :
    ReturnsInHanded {} C os f .any (s.pre6 enc C.prog fn [] false) ((s.at F).post enc C.prog fn false true false false) := by
  refine returnsInHanded_of_cond_sized (C := C) hk own started noInit hfn witness ?_
  intro W base args ds gs before hval hW _ hkk hsz _
  have hW' := hW
  obtain ⟨p, q, hA, hV, rfl, hfz, hnd⟩ := hW
  rw [hvars] at hV
  obtain ⟨rfl, rfl⟩ := trodVars_none hV
  have hvt : s.bare.plain.varTypes C.prog = [] := by
    have : s.bare.plain.vars = [] := hvars
    simp [DataSpec.varTypes, this]
  rw [hvt, List.append_nil, List.append_nil] at hsz
  rw [List.append_nil] at hkk
  rw [hps] at hA hsz
  obtain ⟨⟨as, a1, a2⟩, a3, a4⟩ := args_lift Φ (W := W) (σ := fun _ _ => none) hl hts (fun j t v h1 h2 => hval j t v (by rw [hps]; simpa using h1) (by simpa using h2)) hA (hΦ ds hkk fun n hn => by
    have := List.all_eq_true.1 hsz n hn
    simpa using this)
  have := law_calls (hc as a1) a2
  rw [Array.toArray_toList] at this
  refine this.mono fun e W' ⟨he, bel⟩ => ?_
  subst he
  refine ⟨_, rfl, _, _, _, [], p, [], hW', ?_⟩
  have e : (s.at F).fn H (ds ++ []) = { results := [.lit (.bool true)], args := ds } := by rw [List.append_nil]; exact hs ds a3
  have hvars' : (s.at F).vars = [] := hvars
  rw [e, hvars', hrs, hps]
  exact ⟨trodAll_mk1 (shut_bool htb _), a4 W' bel, rfl, bel.frame _, fun h => by cases h⟩
end Loom
namespace Loom
open Go Go.ChangeMaps
set_option linter.unusedVariables false
set_option linter.unusedSimpArgs false


/-- A block that is a map from strings to numbers, with these keys in this order. -/
def KM (w : World) (b : Nat) (ks : List ByteArray) : Prop :=
  ∃ es cl, w.heap[b]? = some (.map es cl) ∧ es.toList.map (·.key) = ks.map Value.string ∧ ∀ x ∈ es.toList, ∃ n, x.val = .int .i64 n

section
variable {P : Program} {w : World} {b : Nat} {ks : List ByteArray} {t k e : TypeId}

def has (s : ByteArray) (ks : List ByteArray) : Bool := ks.any (· == s)
theorem find_str (s : ByteArray) : ∀ (l : List MapEntry) (ks : List ByteArray) (i : Nat), l.map (·.key) = ks.map Value.string →
    (has s ks = false ∧ Instr.findNow .string (.string s) l i = some none) ∨ ∃ j e, has s ks = true ∧ Instr.findNow .string (.string s) l i = some (some (i + j, e.val)) ∧ l[j]? = some e ∧ e.key = .string s
  | [], [], i, _ => .inl ⟨rfl, rfl⟩
  | x :: l, k :: ks, i, h => by
    simp only [List.map_cons, List.cons.injEq] at h
    obtain ⟨h1, h2⟩ := h
    cases e : k == s
    · have e' : (s == k) = false := by
        cases q : s == k
        · rfl
        · rw [(MapKept.bytes_beq s k).1 q, (MapKept.bytes_beq k k).2 rfl] at e; cases e
      have hn : Instr.findNow .string (.string s) (x :: l) i = Instr.findNow .string (.string s) l (i + 1) := by
        simp only [Instr.findNow, Instr.sameNow, h1, e']
      rw [hn]
      rcases find_str s l ks (i + 1) h2 with ⟨g1, g2⟩ | ⟨j, e', g0, g1, g2, g3⟩
      · exact .inl ⟨by simp only [has, List.any_cons, e, Bool.false_or]; exact g1, g2⟩
      · exact .inr ⟨j + 1, e', by simp only [has, List.any_cons, e, Bool.false_or]; exact g0, by rw [g1, show i + 1 + j = i + (j + 1) by omega], by simpa using g2, g3⟩
    · obtain rfl := (MapKept.bytes_beq k s).1 e
      refine .inr ⟨0, x, by simp only [has, List.any_cons, e, Bool.true_or], ?_, rfl, h1⟩
      simp only [Instr.findNow, Instr.sameNow, h1, e]
      rfl
  | [], _ :: _, _, h => by cases h
  | _ :: _, [], _, h => by cases h

theorem find_run (hk : P.underlying k = some .string) (s : ByteArray) (l : List MapEntry) {r : Option (Nat × Value)} (h : Instr.findNow .string (.string s) l 0 = some r) : (Instr.findKey k (.string s) l).run P w = .ok r w := MapKept.run_findKey hk h
theorem check_run (em : Bool) (hk : P.underlying k = some .string) (s : ByteArray) : (Instr.checkKey em 10000 k (.string s)).run P w = .ok () w := MapKept.run_checkKey hk (by simp [MapKept.IsKey]) em 9999

theorem KM.lookup (h : KM w b ks) (ht : P.underlying t = some (.map k e)) (hk : P.underlying k = some .string) (hz : (zeroValue e).run P w = .ok (.int .i64 0) w) (s : ByteArray) :
    ∃ n, (Instr.lookup t (.map (some b)) (.string s) false).run P w = .ok (.int .i64 n) w := by
  obtain ⟨es, cl, hb, h1, h2⟩ := h
  rcases find_str s es.toList ks 0 h1 with ⟨g1, g2⟩ | ⟨j, e', g0, g1, g2, g3⟩
  · exact ⟨0, by simp [Instr.lookup, run_underlying ht, MapKept.run_getObj_map hb, check_run _ hk, find_run hk _ _ g2, hz, Result.andThen]⟩
  · obtain ⟨n, hn⟩ := h2 e' (List.mem_of_getElem? g2)
    exact ⟨n, by simp [Instr.lookup, run_underlying ht, MapKept.run_getObj_map hb, check_run _ hk, find_run hk _ _ g1, Result.andThen, hn]⟩

theorem KM.update (h : KM w b ks) (ht : P.underlying t = some (.map k e)) (hk : P.underlying k = some .string) (s : ByteArray) (n : Int) :
    ∃ w', (Instr.mapUpdate t (.map (some b)) (.string s) (.int .i64 n)).run P w = .ok () w' ∧ KM w' b (bif has s ks then ks else ks ++ [s]) ∧ Le w w' ∧ ∀ i, i ≠ b → bl w' i = bl w i := by
  obtain ⟨es, cl, hb, h1, h2⟩ := h
  have le : ∀ o, Le w (setBlock w b o) := fun o => ⟨by simp [setBlock], rfl, rfl, rfl⟩
  have oth : ∀ o i, i ≠ b → bl (setBlock w b o) i = bl w i := fun o i hi => heap_setBlock_other hb o hi
  rcases find_str s es.toList ks 0 h1 with ⟨g1, g2⟩ | ⟨j, e', g0, g1, g2, g3⟩
  · refine ⟨setBlock w b (.map (es.push ⟨.string s, .int .i64 n, cl⟩) (cl + 1)), ?_, ⟨_, _, heap_setBlock_same hb _, ?_, ?_⟩, le _, oth _⟩
    · simp [Instr.mapUpdate, run_underlying ht, MapKept.run_getObj_map hb, check_run _ hk, find_run hk _ _ g2, MapKept.run_setObj_map _ hb, Result.andThen, setBlock]
    · simp [g1, h1]
    · intro x hx
      simp only [Array.toList_push, List.mem_append, List.mem_singleton] at hx
      rcases hx with hx | rfl
      · exact h2 x hx
      · exact ⟨n, rfl⟩
  · have hj : es[j]? = some e' := by simpa using g2
    have hj' : j < es.size := (Array.getElem?_eq_some_iff.1 hj).1
    refine ⟨setBlock w b (.map (es.modify j fun e => { e with key := .string s, val := .int .i64 n }) cl), ?_, ⟨_, _, heap_setBlock_same hb _, ?_, ?_⟩, le _, oth _⟩
    · simp [Instr.mapUpdate, run_underlying ht, MapKept.run_getObj_map hb, check_run _ hk, find_run hk _ _ g1, MapKept.run_setObj_map _ hb, Result.andThen, setBlock, Instr.keyThatStays, Instr.sameBits, hj, g3, (MapKept.bytes_beq s s).2 rfl]
    · simp only [g0, cond_true, ← h1]
      apply List.ext_getElem?
      intro i
      simp only [List.getElem?_map, Array.getElem?_toList, Array.getElem?_modify]
      split
      · rename_i hi
        subst hi
        simp [hj, g3]
      · rfl
    · intro x hx
      obtain ⟨i, hi⟩ := List.getElem?_of_mem hx
      simp only [Array.getElem?_toList, Array.getElem?_modify] at hi
      split at hi
      · obtain ⟨y, hy, rfl⟩ := Option.map_eq_some_iff.1 hi
        exact ⟨n, rfl⟩
      · exact h2 x (List.mem_of_getElem? (by simpa using hi))
theorem KM.len (h : KM w b ks) (ht : P.underlying t = some (.map k e)) (ty : TypeId) : (Builtin.len_ #[t] ty #[.map (some b)]).run P w = .ok (.int .i64 ks.length) w := by
  obtain ⟨es, cl, hb, h1, h2⟩ := h
  have : es.size = ks.length := by simpa using congrArg List.length h1
  simp [Builtin.len_, run_underlying ht, MapKept.run_getObj_map hb, this, Builtin.lenOf, goInt]
end


/-- Where a run with one map of its own stands: the abstract state, the map's block and keys; w0: the world in which the call began. -/
structure Now (N : Nat) (w0 : World) (m : Option (Nat × List ByteArray)) (e : Env) (h : H) (a : Act) (w : World) : Prop where
  rel : ∃ I σ, Rel I N σ e h a w ∧ (∀ x ∈ fpH σ h, w0.heap.size ≤ x) ∧ ∀ b ks, m = some (b, ks) → b ∉ fpH σ h ∧ ¬ I b
  km : ∀ b ks, m = some (b, ks) → KM w b ks ∧ w0.heap.size ≤ b
  le : Le w0 w
  old : ∀ i, i < w0.heap.size → bl w i = bl w0 i

section
variable {P : Program} {N : Nat} {w0 w w' : World} {m : Option (Nat × List ByteArray)} {e e1 : Env} {h h1 : H} {a : Act} {Q : Exit → Act → World → Prop} {ops : Array Oper}

theorem KM.lt {b : Nat} {ks : List ByteArray} (h : KM w b ks) : b < w.heap.size := by
  obtain ⟨es, cl, hb, -⟩ := h
  exact (Array.getElem?_eq_some_iff.1 hb).1
theorem KM.same {b : Nat} {ks : List ByteArray} (h : KM w b ks) (e : bl w' b = bl w b) : KM w' b ks := by
  obtain ⟨es, cl, hb, h2⟩ := h
  exact ⟨es, cl, e.trans hb, h2⟩

theorem Now.step {I : Nat → Prop} {σ : Pl} {e' : Env} {h' : H} {a' : Act} (hf : ∀ x ∈ fpH σ h, w0.heap.size ≤ x) (hm : ∀ b ks, m = some (b, ks) → b ∉ fpH σ h ∧ ¬ I b)
    (km : ∀ b ks, m = some (b, ks) → KM w b ks ∧ w0.heap.size ≤ b) (le : Le w0 w) (old : ∀ i, i < w0.heap.size → bl w i = bl w0 i) (S : Step P I N [] σ h w e' h' a' w') : Now N w0 m e' h' a' w' := by
  obtain ⟨σ', I', i1, i2, R, p1, p2, p3, p4⟩ := S.out
  have ps := p2.size
  have ls := le.size
  refine ⟨⟨I', σ', R, fun x hx => ?_, fun b ks hb => ?_⟩, fun b ks hb => ?_, le.trans p2, fun i hi => ?_⟩
  · rcases p4 x hx with h | h
    · exact hf x h
    · omega
  · have lt := (km b ks hb).1.lt
    refine ⟨fun hx => ?_, fun hx => ?_⟩
    · rcases p4 b hx with h | h
      · exact (hm b ks hb).1 h
      · omega
    · rcases i2 b hx with h | h | h
      · exact (hm b ks hb).2 h
      · exact (hm b ks hb).1 h
      · omega
  · exact ⟨(km b ks hb).1.same (p3 b (km b ks hb).1.lt (hm b ks hb).1), (km b ks hb).2⟩
  · rw [p3 i (by omega) fun hx => by have := hf i hx; omega]
    exact old i hi

theorem Now.ex {R : Out → Env → H → Prop} {code : Code} {c : IC} (n : Now N w0 m e h a w) (hc : IsC P N code c) (hw : W P [] c R e h) (hQ : ∀ o e' h' a' w', R o e' h' → Now N w0 m e' h' a' w' → Q o.ex a' w') : code.wp P Q a w := by
  obtain ⟨⟨I, σ, R', hf, hm⟩, km, le, old⟩ := n
  obtain ⟨o, e', h', hx, hr⟩ := hw
  exact (hx.owes code hc I σ a w R' Q fun a' w' S => hQ _ _ _ _ _ hr (Now.step hf hm km le old S)).1

theorem Now.loom {i : Nat} {is : List Nat} {o : Oper} {x : Ins} (n : Now N w0 m e h a w) (ho : ops[i]? = some o) (hco : comp P N ops o = some x) (hg : x.guard = none) (hs : IStep P [] e h x.dst x.op e1 h1)
    (hK : ∀ a' w', Now N w0 m e1 h1 a' w' → wpOps P ops Q is a' w') : wpOps P ops Q (i :: is) a w := by
  obtain ⟨⟨I, σ, R, hf, hm⟩, km, le, old⟩ := n
  obtain ⟨g1, g2, g3⟩ := comp_guard hco
  have hw : wants e x.guard = some true := by rw [hg]; rfl
  rw [wpOps_cons]
  unfold wpOp
  simp only [ho, wants_sound R g1 hw, if_true]
  exact .inl (IStep.sound R g2 g3 hs fun a1 w1 S => hK _ _ (Now.step hf hm km le old S))

theorem Rel.away {I : Nat → Prop} {σ : Pl} {b : Nat} (R : Rel I N σ e h a w) (le : Le w w') (hb : ∀ i, i ≠ b → bl w' i = bl w i) (h1 : b ∉ fpH σ h) (h2 : ¬ I b) : Rel I N σ e h a w' := by
  have hI : ∀ i, I i → bl w' i = bl w i := fun i hi => hb i fun e => h2 (e ▸ hi)
  have ls := le.size
  exact ⟨⟨HeapOk.mono hI h (fun i hi => hb i fun e => h1 (e ▸ hi)) R.heap.ok, R.heap.keys, R.heap.nodup, fun i hi => ⟨(R.heap.apart i hi).1, by have := (R.heap.apart i hi).2; omega⟩, fun i hi => by have := R.heap.low i hi; omega⟩,
    R.size, fun t => Va.mono hI _ _ (R.vals t), R.defers⟩

theorem wpOps_at {i : Nat} {is : List Nat} {o : Oper} (ho : ops[i]? = some o) (hg : o.guard = none) (h : o.wp P a w (wpOps P ops Q is) Q) : wpOps P ops Q (i :: is) a w := by
  rw [wpOps_cons]
  unfold wpOp
  have : Region.wanted o (yielded ops a.tmps) = true := by simp [Region.wanted, hg]
  simp only [ho, this, if_true]
  exact .inl h

theorem Now.val {i d : Nat} {is : List Nat} {o : Oper} {v : Value} (n : Now N w0 m e h a w) (ho : ops[i]? = some o) (hg : o.guard = none) (hd : o.dst = some d) (hN : d < N)
    (hrun : (execOp a.eval o).run P w = .ok (.value v) w) (hK : ∀ a', Now N w0 m (upd e d (.sc v)) h a' w → wpOps P ops Q is a' w) : wpOps P ops Q (i :: is) a w := by
  refine wpOps_at ho hg ?_
  unfold Oper.wp
  rw [hrun, Oper.upon_value, hd]
  obtain ⟨⟨I, σ, R, hf, hm⟩, km, le, old⟩ := n
  exact hK _ ⟨⟨I, σ, Rel.put R.heap R.size R.vals R.defers hN rfl, hf, hm⟩, km, le, old⟩

theorem Now.eval {v : Value} {x : Operand} (n : Now N w0 m e h a w) (hx : ev e x = .sc v) : a.eval x = v := by
  obtain ⟨⟨I, σ, R, -, -⟩, -, -, -⟩ := n
  have := ev_va R x
  rw [hx] at this
  exact this

theorem Now.make {i d : Nat} {is : List Nat} {o : Oper} {t : TypeId} (n : Now N w0 none e h a w) (ho : ops[i]? = some o) (hg : o.guard = none) (hd : o.dst = some d) (hN : d < N) (hop : o.op = .makeMap t none)
    (hK : ∀ b a' w', Now N w0 (some (b, [])) (upd e d (.sc (.map (some b)))) h a' w' → wpOps P ops Q is a' w') : wpOps P ops Q (i :: is) a w := by
  refine wpOps_at ho hg ?_
  have hrun : (execOp a.eval o).run P w = .ok (.value (.map (some w.heap.size))) (w.alloc (.map #[] 0)) := by
    simp [execOp, hop, RowKit.run_makeMap, Result.andThen]
  unfold Oper.wp
  rw [hrun, Oper.upon_value, hd]
  obtain ⟨⟨I, σ, R, hf, hm⟩, km, le, old⟩ := n
  have e1 : (w.alloc (.map #[] 0)).heap[w.heap.size]? = some (.map #[] 0) := (MapKept.heap_alloc w _).1
  have l1 : Le w (w.alloc (.map #[] 0)) := ⟨by show w.heap.size ≤ (w.heap.push _).size; simp, rfl, rfl, rfl⟩
  have nb : w.heap.size ∉ fpH σ h := fun hx => by have := (R.heap.apart _ hx).2; omega
  have ni : ¬ I w.heap.size := fun hx => by have := R.heap.low _ hx; omega
  have oth : ∀ i, i ≠ w.heap.size → bl (w.alloc (.map #[] 0)) i = bl w i := fun i hi => by
    rcases Nat.lt_or_ge i w.heap.size with h | h
    · exact bl_alloc w _ i h
    · have e2 : bl (w.alloc (.map #[] 0)) i = none := by simp only [bl]; exact Array.getElem?_eq_none (by show (w.heap.push _).size ≤ i; simp; omega)
      have e3 : bl w i = none := by simp only [bl]; exact Array.getElem?_eq_none (by omega)
      rw [e2, e3]
  have R' := R.away l1 oth nb ni
  refine hK w.heap.size _ _ ⟨⟨I, σ, Rel.put R'.heap R'.size R'.vals R'.defers hN rfl, hf, fun b ks hb => ?_⟩, fun b ks hb => ?_, le.trans l1, fun i hi => ?_⟩
  · cases hb; exact ⟨nb, ni⟩
  · cases hb; exact ⟨⟨#[], 0, e1, rfl, fun x hx => by simp at hx⟩, le.size⟩
  · have := le.size
    rw [oth i (by omega)]; exact old i hi

theorem Now.upd {i b : Nat} {ks : List ByteArray} {is : List Nat} {o : Oper} {t k et : TypeId} {xm xk xv : Operand} {s : ByteArray} {v : Int} (n : Now N w0 (some (b, ks)) e h a w) (ho : ops[i]? = some o) (hg : o.guard = none) (hd : o.dst = none) (hop : o.op = .mapUpdate t xm xk xv)
    (ht : P.underlying t = some (.map k et)) (hk : P.underlying k = some .string) (hm : ev e xm = .sc (.map (some b))) (hs : ev e xk = .sc (.string s)) (hv : ev e xv = .sc (.int .i64 v))
    (hK : ∀ a' w', Now N w0 (some (b, bif has s ks then ks else ks ++ [s])) e h a' w' → wpOps P ops Q is a' w') : wpOps P ops Q (i :: is) a w := by
  have q1 := n.eval hm
  have q2 := n.eval hs
  have q3 := n.eval hv
  obtain ⟨⟨I, σ, R, hf, hm⟩, km, le, old⟩ := n
  obtain ⟨w', r1, r2, r3, r4⟩ := (km b ks rfl).1.update (P := P) ht hk s v
  refine wpOps_at ho hg ?_
  unfold Oper.wp
  simp only [execOp, hop, q1, q2, q3, Sem.run_bind, r1, Result.andThen]
  have lt := (km b ks rfl).2
  have R' := R.away r3 r4 (hm b ks rfl).1 (hm b ks rfl).2
  refine hK _ _ ⟨⟨I, σ, ?_, hf, fun b' ks' hb => ?_⟩, fun b' ks' hb => ?_, le.trans r3, fun i hi => ?_⟩
  · rw [hd]; exact R'
  · cases hb; exact hm b ks rfl
  · cases hb; exact ⟨r2, lt⟩
  · rw [r4 i (by omega)]; exact old i hi
end
end Loom
namespace Loom
open Go Go.ChangeMaps
set_option linter.unusedVariables false
set_option linter.unusedSimpArgs false
section
def lf : Code → Code
  | .seq a _ => a
  | .cond _ a _ => a
  | .loop a => a
  | .block _ a => a
  | c => c
def rt : Code → Code
  | .seq _ b => b
  | .cond _ _ b => b
  | c => c
def rops : Code → Array Oper
  | .region _ ops _ => ops
  | _ => #[]
def rid : Code → Nat
  | .region n _ _ => n
  | _ => 0
theorem op_is {ops : Array Oper} {i : Nat} {g : Option (Nat × Bool)} {d : Option Nat} {op : Op} (h : (ops[i]?).map (fun o => (o.guard, o.dst, o.op)) = some (g, d, op)) : ∃ o, ops[i]? = some o ∧ o.guard = g ∧ o.dst = d ∧ o.op = op := by
  obtain ⟨o, h1, h2⟩ := Option.map_eq_some_iff.1 h
  simp only [Prod.mk.injEq] at h2
  exact ⟨o, h1, h2.1, h2.2.1, h2.2.2⟩
variable {P : Program} {N : Nat} {w0 w w' : World} {m : Option (Nat × List ByteArray)} {e e1 : Env} {h h1 : H} {a : Act} {Q : Exit → Act → World → Prop} {ops : Array Oper}
theorem Now.rd {i : Nat} {is : List Nat} {x : Ins} (n : Now N w0 m e h a w) (ho : (ops[i]?).bind (comp P N ops) = some x) (hs : x.guard = none ∧ istep [] e h x.dst x.op = some (e1, h1))
    (hK : ∀ a' w', Now N w0 m e1 h1 a' w' → wpOps P ops Q is a' w') : wpOps P ops Q (i :: is) a w := by
  obtain ⟨o, h1, h2⟩ := Option.bind_eq_some_iff.1 ho
  exact n.loom h1 h2 hs.1 (.plain hs.2) hK
theorem Now.rda {i d : Nat} {is : List Nat} {b : IB} (av : AV) (n : Now N w0 m e h a w) (ho : (ops[i]?).bind (comp P N ops) = some ⟨d, none, .rd b⟩) (hs : rdop (ev e) (res h) b = some av)
    (hK : ∀ a' w', Now N w0 m (Loom.upd e d av) h a' w' → wpOps P ops Q is a' w') : wpOps P ops Q (i :: is) a w :=
  n.rd ho ⟨rfl, by simp only [istep, hs]⟩ hK
theorem Now.gh (n : Now N w0 m e h a w) (g : Ghost P [] e h e1 h1) : Now N w0 m e1 h1 a w := by
  obtain ⟨⟨I, σ, R, hf, hm⟩, km, le, old⟩ := n
  exact Now.step hf hm km le old (g I N σ a w R)
theorem Now.ghost (P : Program) {S : List Nat} (n : Now N w0 m e h a w) : Now N w0 m (keepE S e) h a w := by
  obtain ⟨⟨I, σ, R, hf, hm⟩, km, le, old⟩ := n
  exact Now.step (P := P) hf hm km le old (keep_ghost I N σ a w R)
theorem Now.call {f : Nat} {fn : Func} {code : Code} {ts : List RS} {args : List AV} {v : Value} (h1 : P.funcs[f]? = some fn) (h2 : fn.body = some code) (h3 : fn.ntmps = N) (h4 : resSlots P fn.results.toList = some ts)
    (hw : ∀ (a : Act) (w0 : World) (Q : Exit → Act → World → Prop), Now N w0 none (argE 0 args) [] a w0 → (∀ m e' h' a' w', resAV e' h' ts = some (.sc v) → Now N w0 m e' h' a' w' → Q .ret a' w') → code.wp P Q a w0) : CallOk P f args [] (.sc v) [] := by
  intro I σ w vs hh hv
  apply calls_of_wp h1 h2
  have R : Rel I N σ (argE 0 args) [] { tmps := vs.toArray ++ Array.replicate (fn.ntmps - vs.toArray.size) undef, defers := [] } w := by
    refine ⟨hh, ?_, fun t => ?_, rfl⟩
    · simp only [Array.size_append, Array.size_replicate, List.size_toArray]
      omega
    · have := argE_va (I := I) (σ := σ) (B := bl w) args 0 [] vs (List.replicate (fn.ntmps - vs.toArray.size) undef) rfl hv t
      have e2 : (vs.toArray ++ Array.replicate (fn.ntmps - vs.toArray.size) undef) = (vs ++ List.replicate (fn.ntmps - vs.toArray.size) undef).toArray := by
        apply Array.ext'
        simp
      simp only [e2]
      simpa [Array.getD_eq_getD_getElem?, List.getD_eq_getElem?_getD] using this
  refine hw _ w _ ⟨⟨I, σ, R, (fun x hx => by cases hx), fun b ks hb => by cases hb⟩, (fun b ks hb => by cases hb), Le.refl w, fun _ _ => rfl⟩ fun m e' h' a' w' hr n => ?_
  obtain ⟨⟨I', σ', R', -, -⟩, -, le, old⟩ := n
  obtain ⟨u, q1, q2⟩ := results_run R' fn h4 hr
  have ls := le.size
  exact ⟨R'.defers, u, q1, u, σ, rfl, ⟨trivial, List.nodup_nil, List.nodup_nil, (fun b hb => by cases hb), fun b hb => by have := hh.low b hb; omega⟩, q2, fun _ _ => rfl, le, fun b hb _ => old b hb, fun b hb => by cases hb⟩
end

theorem VaL.scs {I : Nat → Prop} {σ : Pl} {B : Blocks} : ∀ (vs : List Value) {us : List Value}, VaL I σ B (vs.map AV.sc) us → us = vs
  | [], _, h => h
  | v :: vs, _, h => by
    obtain ⟨u, cs, rfl, h1, h2⟩ := h
    obtain rfl : u = v := h1
    rw [VaL.scs vs h2]
/-- A function that answers a plain value to plain values, and leaves the world as it is. -/
theorem CallOk.quiet {P : Program} {f : Nat} {vs : List Value} {r : Value} (hc : ∀ w, Calls P f vs.toArray w fun e w' => e = .returned r ∧ w' = w) : CallOk P f (vs.map AV.sc) [] (.sc r) [] := by
  intro I σ w us hh hv
  obtain rfl := VaL.scs vs hv
  refine (hc w).mono ?_
  rintro e w' ⟨rfl, rfl⟩
  exact ⟨r, σ, rfl, hh, rfl, fun _ _ => rfl, Le.refl _, fun _ _ _ => rfl, fun b hb => .inl hb⟩
end Loom
namespace Loom
open Go
section
variable {P : Program} {pro keep : List Nat} {σ : Pl} {I : Nat → Prop} {B : Blocks} {e : Env} {h : H}
theorem CeE.takeN {k s : Nat} {p : Path} : ∀ (m : Nat) {i : Nat} {xs : Els} {cs : List Value}, CeE I σ B k p i s xs cs → CeE I σ B k p i s (xs.take m) cs
  | 0, _, _, _, _ => by simp only [List.take_zero]; trivial
  | _ + 1, _, [], _, _ => trivial
  | m + 1, _, _ :: _, _, hc => ⟨hc.1, hc.2.1, hc.2.2.takeN m⟩
theorem fpE_takeN {k : Nat} {p : Path} : ∀ (m i : Nat) (xs : Els), (fpE σ k p i (xs.take m)).Sublist (fpE σ k p i xs)
  | 0, _, _ => by simp only [List.take_zero, fpE]; exact List.nil_sublist _
  | _ + 1, _, [] => List.Sublist.refl _
  | m + 1, i, x :: xs => by
    simp only [List.take_succ_cons, fpE]
    exact (List.Sublist.refl _).append (fpE_takeN m (i + 1) xs)
theorem HRel.take {w : World} {k : Nat} {r : Row} (m : Nat) (hh : HRel I σ h w) (hg : getRow h k = some r) : HRel I σ ((k, ⟨r.s, r.xs.take m⟩) :: delRow h k) w ∧ ∀ b ∈ fpH σ ((k, ⟨r.s, r.xs.take m⟩) :: delRow h k), b ∈ fpH σ h := by
  have hp := getRow_perm hg
  have h1 := hh.perm hp
  have hsub : (fpR σ k ⟨r.s, r.xs.take m⟩).Sublist (fpR σ k r) := by
    unfold fpR
    cases σ k [] with
    | none => exact List.Sublist.refl _
    | some L => exact (fpE_takeN m 0 r.xs).cons_cons _
  have hsubH : (fpH σ ((k, ⟨r.s, r.xs.take m⟩) :: delRow h k)).Sublist (fpH σ ((k, r) :: delRow h k)) := by
    simp only [fpH]
    exact hsub.append (List.Sublist.refl _)
  obtain ⟨ok, keys, nd, ap, low⟩ := h1
  refine ⟨⟨⟨?_, ok.2⟩, keys, hsubH.nodup nd, fun b hb => ap b (hsubH.subset hb), low⟩, fun b hb => ((fpH.perm hp).mem_iff).2 (hsubH.subset hb)⟩
  have o1 := ok.1
  unfold RowOk at o1 ⊢
  cases hs : σ k [] with
  | none => simp only [hs] at o1 ⊢; simp [o1]
  | some L =>
    simp only [hs] at o1 ⊢
    obtain ⟨q1, q2, cur, E, q3, q4, q5⟩ := o1
    exact ⟨q1, by simp; omega, cur, E, q3, q4, q5.takeN m⟩
theorem Ghost.take {k : Nat} {r : Row} (m : Nat) (hg : getRow h k = some r) : Ghost P pro e h e ((k, ⟨r.s, r.xs.take m⟩) :: delRow h k) := fun I N σ a w R => by
  obtain ⟨c1, c2⟩ := R.heap.take m hg
  exact ⟨σ, I, fun _ h => h, fun _ h => .inl h, ⟨c1, R.size, R.vals, R.defers⟩, fun _ _ => rfl, Le.refl _, fun _ _ _ => rfl, fun b hb => .inl (c2 b hb)⟩

variable {Q : Out → Env → H → Prop} {l : List Ins} {R : Type} {r : R}
/-- x[:b] of a whole row, where what stood behind it is given up. -/
theorem RG.slcTake {α : Type} {o : α → List AV} {xs : List α} {s n d : Nat} {g : Option (Nat × Bool)} {x y : Operand} {k : IntKind} {b : Int} {E : Option R} (hw : wants e g = some true) (hx : ev e x = .sl n [] 0 (xs.map o).length) (hr : getRow h n = some ⟨s, xs.map o⟩) (hb : ev e y = .sc (.int k b))
    (hg : need (0 ≤ (0 : Int) ∧ 0 ≤ b ∧ b ≤ ((xs.map o).length : Nat)) E = some r) (hK : E = some r → RG P pro keep Q l (upd e d (.sl n [] 0 ((xs.take b.toNat).map o).length)) ((n, ⟨s, (xs.take b.toNat).map o⟩) :: delRow h n)) : RG P pro keep Q (⟨d, g, .rd (.slc s x none (some y))⟩ :: l) e h := by
  have hres : res h n [] = some (s, xs.map o) := by simp only [res, hr, resE]
  refine RG.slcSl (a := 0) (b := b) hw hx hres rfl (by simp only [hiV, Option.map_some, hb]; rfl) hg fun hc hE => ?_
  refine RG.ghost (Ghost.take b.toNat hr) ?_
  have hm : b.toNat ≤ xs.length := by have := hc.2.2; rw [List.length_map] at this; omega
  have e1 : (.sl n [] (0 + (0 : Int).toNat) (b.toNat - (0 : Int).toNat) : AV) = .sl n [] 0 ((xs.take b.toNat).map o).length := by
    simp only [List.length_map, List.length_take, Nat.min_eq_left hm]
    rfl
  rw [e1]
  simpa only [List.map_take] using hK hE
theorem TurnOk.mk {d : Nat} {g : Option (Nat × Bool)} {b : IB} {EA : Env} {hA hN : H} {av : AV} (hw : wants EA g = some true) (hm : mkop (ev EA) hA d b = some (av, hN)) (hp : pro.contains d = false) : TurnOk P pro ⟨d, g, .mk b⟩ EA hA (kill (fun k _ => k == d)) av hN := fun e he => by
  refine ⟨by rw [show wants e g = wants EA g from wants_uses he]; exact hw, e, hA, upd (killE (fun k _ => k == d) e) d av, hN, Ghost.rfl', .plain ?_, Ghost.rfl'⟩
  simp only [istep, hp, Bool.false_eq_true, if_false]
  rw [mkop_congr (f := ev e) (g := ev EA) b (fun x hx => ev_uses he (by simpa [opsK] using hx)), hm]
theorem mk_bsl {ρ : Operand → AV} {hA hN : H} {d s : Nat} {zero : List Value} {parts : List (Nat × Operand)} {cs vs : List AV} (hf : fillAV (List.replicate 1 (zero.map cval)).flatten (parts.map fun (i, x) => (i * s, s, ρ x)) = some cs) (hc : chunks s 1 cs = [cs]) (ha : Abs (delRow hA d) cs vs hN) :
    mkop ρ hA d (.bsl s 1 zero parts) = some (.sl d [] 0 1, (d, ⟨s, [vs]⟩) :: hN) := by
  simp only [mkop, hf, hc, absE, ha.sound]
/-- The same, with the slots and rows read off what is said to stand there. -/
theorem RG.cut' (n : Nat) (es : List (Nat × AV)) (h1 : H) (hw : RG P pro keep Q (l.drop n) (envOf es) h1) (hc : cutL pro n (h1.map fun x => (x.1, x.1)) (es.map Prod.fst) l e h = some (envOf es, h1) := by kernel_rfl) : RG P pro keep Q l e h := RG.cut n _ _ _ _ hc hw
theorem RG.fin' (n : Nat) (es : List (Nat × AV)) (h1 : H) (hq : Q .normal (envOf es) h1) (hc : finL pro keep n (h1.map fun x => (x.1, x.1)) l e h = some (envOf es, h1) := by kernel_rfl) : RG P pro keep Q l e h := RG.fin n _ _ _ hc hq
theorem W.norm' (es : List (Nat × AV)) (h1 : H) {c : IC} (hw : W P pro c Q (envOf es) h1) (hc : normE pro (h1.map fun x => (x.1, x.1)) (es.map Prod.fst) e h = some (envOf es, h1) := by kernel_rfl) : W P pro c Q e h := W.norm _ _ _ _ hc hw
theorem W.rf (n : Nat) (es : List (Nat × AV)) (h1 : H) (hq : Q .normal (envOf es) h1) (hc : finL pro keep n (h1.map fun x => (x.1, x.1)) l e h = some (envOf es, h1) := by kernel_rfl) : W P pro (.reg keep l) Q e h := W.regG (RG.fin' n es h1 hq hc)
theorem W.sf (n : Nat) (es : List (Nat × AV)) (h1 : H) {y : IC} (hq : W P pro y Q (envOf es) h1) (hc : finL pro keep n (h1.map fun x => (x.1, x.1)) l e h = some (envOf es, h1) := by kernel_rfl) : W P pro (.seq (.reg keep l) y) Q e h := W.seq (W.rf n es h1 hq hc)
theorem W.sg {y : IC} (hw : RG P pro keep (thenQ (W P pro y Q) Q) l e h) : W P pro (.seq (.reg keep l) y) Q e h := W.seq (W.regG hw)
theorem W.condC {c : Operand} (b : Bool) {x y : Option R} {cx cy : IC} (hg : _root_.cond b x y = some r) (ht : x = some r → W P pro cx Q e h) (hf : y = some r → W P pro cy Q e h) (hc : ev e c = Bl b := by kernel_rfl) : W P pro (.cond c cx cy) Q e h := W.condB hc hg ht hf
theorem WD.rd' {l : List (Ins × List Nat)} {g : Option (Nat × Bool)} {d i : Nat} {D : List Nat} {acc : List (Nat × H)} {K : Env → H → Prop} {h0 : H} {b : IB} (av : AV) (hK : WD P l (i + 1) (upd e d av) (acc ++ [(i, [])]) h0 K) (hw : wants e g = some true := by kernel_rfl) (hop : rdop (ev e) (res (hx D acc ++ h0)) b = some av := by kernel_rfl) : WD P ((⟨d, g, .rd b⟩, D) :: l) i e acc h0 K := WD.rd hw hop hK
end
end Loom
namespace Loom
open Go
set_option linter.unusedVariables false
/-- A row gone through from place i on, with a state, until an answer. -/
def scan {α S R : Type} (f : Nat → α → S → Option (R ⊕ S)) : Nat → List α → S → Option (R ⊕ S)
  | _, [], s => some (.inr s)
  | i, x :: l, s => (f i x s).bind fun z => match z with | .inl r => some (.inl r) | .inr s' => scan f (i + 1) l s'
/-- A loop that goes through a row is its scan. -/
theorem iter_scan {α S T R St : Type} (xs : List α) (hm : xs.length < 9223372036854775807) (mk : Int → S → St) (f : Nat → α → S → Option (R ⊕ S)) (out : S → T) (body : St → Option (Bo St T R))
    (hgo : ∀ (i : Nat) (h : i < xs.length) (s : S), body (mk i s) = (f i xs[i] s).map fun z => match z with | .inl r => .ret r | .inr s' => .go (mk (IntKind.i64.wrap ((i : Int) + 1)) s')) (hend : ∀ s, body (mk xs.length s) = some (.out (out s))) :
    ∀ (k i : Nat) (s : S) (fuel : Nat), i + k = xs.length → k < fuel → iter body fuel (mk i s) = (scan f i (xs.drop i) s).map fun z => match z with | .inl r => .ret r | .inr s' => .out (out s')
  | 0, i, s, fuel + 1, h, hf => by
    obtain rfl : i = xs.length := by omega
    simp only [iter, hend, List.drop_length, scan, Option.map_some]
  | k + 1, i, s, fuel + 1, h, hf => by
    have hi : i < xs.length := by omega
    have hw : IntKind.i64.wrap ((i : Int) + 1) = ((i + 1 : Nat) : Int) := by rw [wrapI (by omega) (by omega)]; simp
    rw [List.drop_eq_getElem_cons hi]
    simp only [iter, hgo i hi, hw, scan]
    cases f i xs[i] s with
    | none => rfl
    | some z =>
      cases z with
      | inl r => rfl
      | inr s' => exact iter_scan xs hm mk f out body hgo hend k (i + 1) s' fuel (by omega) (by omega)
end Loom
set_option linter.unusedVariables false
set_option linter.unusedSimpArgs false
namespace Loom
open Go

/-- Abstract values, typed: 't' names a type of elements. -/
inductive TV (El : Nat → Type) : Type where
  | un
  | sc (v : Value)
  | ik (k : IntKind) (n : Int)
  | bk (b : Bool)
  | zs
  | ag (cs : List (TV El))
  | tu (vs : List (TV El))
  | im (t : Nat) (xs : List (El t))
  | ip (s : Nat) (cs : List (TV El)) (c : Nat)
  | sl (k : Nat) (p : Path) (off len : Nat)
  | sw (k : Nat) (p : Path)
  | pt (k : Nat) (p : Path) (i c : Nat)
  | fn (f : Nat) (caps : List (TV El))
  | ow (m : Bool) (t : Nat) (xs : List (El t))
  | oo (m : Bool) (t : Nat) (xs : List (El t)) (i : Nat) (cs : List (TV El))
/-- Rows. -/
inductive TR (El : Nat → Type) : Type where
  | typ (m : Bool) (t : Nat) (xs : List (El t))
  | lit (s : Nat) (xs : List (List (TV El)))
  | opn (m : Bool) (t : Nat) (xs : List (El t)) (i : Nat) (cs : List (TV El))

/-- The types of elements: cells of an element; own: whether what is nested is own. -/
structure TT0 where
  El : Nat → Type
  sz : Nat → Nat
  ca : Bool → (t : Nat) → El t → List AV
abbrev TE (T : TT0) := List (Nat × TV T.El)
abbrev TH (T : TT0) := List (Nat × TR T.El)

def lenAt (h : H) (k : Nat) (p : Path) : Nat :=
  match res h k p with
  | some (_, xs) => xs.length
  | none => 0

section
variable {T : TT0}
/-! What a typed value stands for, the rows being h. -/
mutual
def den (T : TT0) (h : H) : TV T.El → AV
  | .un => .un
  | .sc v => .sc v
  | .ik k n => .sc (.int k n)
  | .bk b => .sc (.bool b)
  | .zs => .zs
  | .ag cs => .ag (denL T h cs)
  | .tu cs => .tu (denL T h cs)
  | .im t xs => .im (T.sz t) (xs.map (T.ca false t))
  | .ip s cs c => .ip s [denL T [] cs] 0 c
  | .sl k p off len => .sl k p off len
  | .sw k p => .sl k p 0 (lenAt h k p)
  | .pt k p i c => .pt k p i c
  | .fn f caps => .fn f (denL T h caps)
  | .ow m t xs => .ow (T.sz t) (xs.map (T.ca m t))
  | .oo m t xs i cs => .ow (T.sz t) ((xs.map (T.ca m t)).set i (denL T [] cs))
def denL (T : TT0) (h : H) : List (TV T.El) → List AV
  | [] => []
  | x :: l => den T h x :: denL T h l
end
theorem denL_map (h : H) : ∀ (l : List (TV T.El)), denL T h l = l.map (den T h)
  | [] => rfl
  | x :: l => by simp [denL, denL_map h l]
/-! Cells of rows hold no references: what they stand for does not hang on the rows. -/
mutual
def inR : TV T.El → Bool
  | .un | .sc _ | .ik _ _ | .bk _ | .zs | .im _ _ | .ow _ _ _ => true
  | .oo _ _ _ _ cs => inRL cs
  | .ag _ | .tu _ | .ip _ _ _ | .sl _ _ _ _ | .sw _ _ | .pt _ _ _ _ | .fn _ _ => false
def inRL : List (TV T.El) → Bool
  | [] => true
  | x :: l => inR x && inRL l
end
def denR (T : TT0) : TR T.El → Row
  | .typ m t xs => ⟨T.sz t, xs.map (T.ca m t)⟩
  | .lit s xs => ⟨s, xs.map (denL T [])⟩
  | .opn m t xs i cs => ⟨T.sz t, (xs.map (T.ca m t)).set i (denL T [] cs)⟩
def denH (T : TT0) : TH T → H
  | [] => []
  | (k, r) :: h => (k, denR T r) :: denH T h
def getE : TE T → Nat → TV T.El
  | [], _ => .un
  | (k, v) :: l, t => bif Nat.beq t k then v else getE l t
def denE (T : TT0) (h : H) (e : TE T) : Env := fun t => den T h (getE e t)
def getT : TH T → Nat → Option (TR T.El)
  | [], _ => none
  | (k', r) :: h, k => bif Nat.beq k' k then some r else getT h k
def delT : TH T → Nat → TH T
  | [], _ => []
  | (k', r) :: h, k => bif Nat.beq k' k then h else (k', r) :: delT h k
def putE (e : TE T) (d : Nat) (v : TV T.El) : TE T := (d, v) :: e

theorem beq_eq {a b : Nat} : Nat.beq a b = decide (a = b) := by
  rw [Bool.eq_iff_iff]; simp
theorem getT_row : ∀ (h : TH T) (k : Nat), getRow (denH T h) k = (getT h k).map (denR T)
  | [], _ => rfl
  | (k', r) :: h, k => by
    simp only [denH, getRow, getT, beq_eq]
    by_cases e : k' = k
    · simp [e]
    · simp [e, getT_row h k]
theorem delT_row : ∀ (h : TH T) (k : Nat), delRow (denH T h) k = denH T (delT h k)
  | [], _ => rfl
  | (k', r) :: h, k => by
    simp only [denH, delRow, delT, beq_eq]
    by_cases e : k' = k
    · simp [e]
    · simp [e, denH, delT_row h k]
theorem denH_append : ∀ (a b : TH T), denH T (a ++ b) = denH T a ++ denH T b
  | [], b => rfl
  | (k, r) :: a, b => by simp [denH, denH_append a b]
theorem denH_keys : ∀ (h : TH T), (denH T h).map Prod.fst = h.map Prod.fst
  | [] => rfl
  | (k, r) :: h => by simp [denH, denH_keys h]
theorem denE_put {h : H} {e : TE T} {d : Nat} {v : TV T.El} : denE T h (putE e d v) = upd (denE T h e) d (den T h v) := by
  funext t
  simp only [denE, putE, getE, upd, beq_eq]
  by_cases e : t = d <;> simp [e]

/-- The value of an operand. -/
def cvalT (v : Value) : TV T.El :=
  match cval v with
  | .zs => .zs
  | .sc (.int k n) => .ik k n
  | .sc (.bool b) => .bk b
  | .sc v => .sc v
  | .ag cs => .ag (cs.map fun | .zs => .zs | .sc v => .sc v | _ => .un)
  | _ => .un
theorem cvalT_den (h : H) (v : Value) : den T h (cvalT v) = cval v := by
  unfold cvalT
  have key : ∀ v : Value, cval v = .zs ∨ (∃ u, cval v = .sc u) ∨ cval v = .un ∨ ∃ l : List AV, cval v = .ag l ∧ ∀ x ∈ l, x = .zs ∨ ∃ u, x = .sc u := by
    intro v
    unfold cval
    split
    · exact .inl rfl
    · split
      · refine .inr (.inr (.inr ⟨_, rfl, fun x hx => ?_⟩))
        obtain ⟨y, _, rfl⟩ := List.mem_map.1 hx
        split
        · exact .inl rfl
        · exact .inr ⟨_, rfl⟩
      · exact .inr (.inr (.inl rfl))
    · exact .inr (.inl ⟨_, rfl⟩)
  rcases key v with h1 | ⟨u, h1⟩ | h1 | ⟨l, h1, h2⟩
  · rw [h1]; rfl
  · rw [h1]
    cases u <;> rfl
  · rw [h1]; rfl
  · rw [h1]
    simp only [den, denL_map, List.map_map]
    congr 1
    refine (List.map_congr_left fun x hx => ?_).trans (List.map_id l)
    rcases h2 x hx with rfl | ⟨u, rfl⟩ <;> rfl
def evT (e : TE T) : Operand → TV T.El
  | .tmp t => getE e t
  | .const v => cvalT v
  | .func f => .fn f []
  | .global _ => .un
theorem evT_den {h : H} {e : TE T} (o : Operand) : ev (denE T h e) o = den T h (evT e o) := by
  cases o with
  | tmp t => rfl
  | const v => exact (cvalT_den h v).symm
  | func f => simp [ev, evT, den, denL]
  | global _ => rfl

/-! ### less is known -/
theorem AVle.trans {a b c : AV} (h : AVle a b) (k : AVle b c) : AVle a c := fun I σ B v x => k I σ B v (h I σ B v x)
theorem AVle.un (a : AV) : AVle a .un := fun _ _ _ _ _ => trivial
theorem AVle.kill (bad : Nat → Path → Bool) (a : AV) : AVle a (kill bad a) := fun _ _ _ v h => Va.kill (fun _ _ _ => rfl) a v h
theorem AVle.ip {s i c : Nat} {xs : Els} {x : List AV} (hx : xs[i]? = some x) : AVle (.ip s xs i c) (.ip s [x] 0 c) := fun I σ B v hv => by
  obtain ⟨A, cur, E, fr, h1, h2, h3, h4, h5⟩ := hv
  have h6 := ImE.get xs _ h5 i x hx
  refine ⟨⟨A.block, A.off + i * s, none⟩, cur, E, fr, ?_, rfl, h3, h4, h6.1, ?_, trivial⟩
  · rw [h1]; simp
  · rw [List.drop_drop] at h6
    exact h6.2
theorem AVle.zsIm (s : Nat) : AVle .zs (.im s []) := fun I σ B v ⟨x, hx⟩ => ⟨x, 0, hx, Nat.le_refl _, fun hn => absurd rfl hn⟩
/-- Slots of which less is known. -/
theorem Ghost.le {P : Program} {pro : List Nat} {e e1 : Env} {h : H} (he : ∀ t, AVle (e t) (e1 t)) : Ghost P pro e h e1 h := fun I N σ a w R =>
  Step.of_rel ⟨R.heap, R.size, fun t => he t I σ (bl w) _ (R.vals t), R.defers⟩ rfl
theorem AVle.upd {e e' : Env} {d : Nat} {a b : AV} (he : ∀ t, AVle (e t) (e' t)) (h : AVle a b) (t : Nat) : AVle (Loom.upd e d a t) (Loom.upd e' d b t) := by
  unfold Loom.upd
  split
  · exact h
  · exact he t

/-! ### references that fall -/
mutual
/-- 'bad': all references that fall; 'bw': besides, wholes of rows. -/
def killT (bad bw : Nat → Path → Bool) : TV T.El → TV T.El
  | .sl k p off len => bif bad k p then .un else .sl k p off len
  | .sw k p => bif bad k p || bw k p then .un else .sw k p
  | .pt k p i c => bif bad k p then .un else .pt k p i c
  | .ag cs => .ag (killTL bad bw cs)
  | .tu cs => .tu (killTL bad bw cs)
  | .fn f caps => .fn f (killTL bad bw caps)
  | .un => .un
  | .sc v => .sc v
  | .ik k n => .ik k n
  | .bk b => .bk b
  | .zs => .zs
  | .im t xs => .im t xs
  | .ip s cs c => .ip s cs c
  | .ow m t xs => .ow m t xs
  | .oo m t xs i cs => .oo m t xs i cs
def killTL (bad bw : Nat → Path → Bool) : List (TV T.El) → List (TV T.El)
  | [] => []
  | a :: as => killT bad bw a :: killTL bad bw as
end
def killTE (bad bw : Nat → Path → Bool) : TE T → TE T
  | [] => []
  | (k, v) :: l => (k, killT bad bw v) :: killTE bad bw l
theorem getE_kill {bad bw : Nat → Path → Bool} : ∀ (e : TE T) (t : Nat), getE (killTE bad bw e) t = killT bad bw (getE e t)
  | [], _ => rfl
  | (k, v) :: l, t => by
    simp only [killTE, getE]
    cases Nat.beq t k
    · simpa using getE_kill l t
    · rfl
end
end Loom
set_option linter.unusedVariables false
set_option linter.unusedSimpArgs false
namespace Loom
open Go

def isZ : AV → Bool
  | .zs => true
  | _ => false
/-- What a cell of an element is: nothing that could be nil, a list that never changes, a row of its own. -/
inductive Kd where
  | no
  | im (t : Nat)
  | ow (m : Bool) (t : Nat)
structure TT extends TT0 where
  ks : Bool → Nat → List Kd
  ct : Bool → (t : Nat) → El t → List (TV El)
  un : Bool → (t : Nat) → List (TV El) → Option (El t)
  ct_ok : ∀ m t x, denL toTT0 [] (ct m t x) = ca m t x
  ct_in : ∀ m t x, inRL (T := toTT0) (ct m t x) = true
  un_ok : ∀ m t cs x, un m t cs = some x → denL toTT0 [] cs = ca m t x
  im_ok : ∀ m t x, toImC (ca m t x) = ca false t x
  pl : Nat → Bool
  pl_ok : ∀ t x, pl t = true → noImC (ca false t x) = true
  u8 : Nat
  bs : List Int → List (El u8)
  bs_ok : ∀ l, (bs l).map (ca false u8) = l.map fun n => [.sc (.int .u8 n)]
  bs_sz : sz u8 = 1
  ow_ok : ∀ t x, noImC (ca true t x) = true
  fl_ok : ∀ t x, (ca false t x).all flatAV = true
  nz_ok : ∀ m t x, ∀ a ∈ ca m t x, isZ a = false

/-- Answers that hang on something. -/
inductive Rs (X : Type) : Type 1 where
  | ok (v : X)
  | no
  | bnd {A : Type} (x : Option A) (K : A → Rs X)
  | need (p : Prop) [Decidable p] (K : Rs X)
  | ite (b : Bool) (x y : Rs X)
def Rs.gives {X : Type} : Rs X → X → Prop
  | .ok v, u => u = v
  | .no, _ => False
  | .bnd x K, u => ∃ a, x = some a ∧ (K a).gives u
  | @Rs.need _ p _ K, u => p ∧ K.gives u
  | .ite b x y, u => (b = true ∧ x.gives u) ∨ (b = false ∧ y.gives u)

section
variable {T : TT}
abbrev VT (T : TT) := TV T.El
abbrev RT (T : TT) := Rs (TV T.El)

mutual
theorem den_in (h h' : H) : ∀ (x : VT T), inR (T := T.toTT0) x = true → den T.toTT0 h x = den T.toTT0 h' x
  | .un, _ | .sc _, _ | .ik _ _, _ | .bk _, _ | .zs, _ | .im _ _, _ | .ow _ _ _, _ => rfl
  | .oo _ _ _ _ cs, hi => rfl
  | .ag _, hi | .tu _, hi | .ip _ _ _, hi | .sl _ _ _ _, hi | .sw _ _, hi | .pt _ _ _ _, hi | .fn _ _, hi => by simp [inR] at hi
theorem denL_in (h h' : H) : ∀ (x : List (VT T)), inRL (T := T.toTT0) x = true → denL T.toTT0 h x = denL T.toTT0 h' x
  | [], _ => rfl
  | x :: l, hi => by
    simp only [inRL, Bool.and_eq_true] at hi
    simp only [denL, den_in h h' x hi.1, denL_in h h' l hi.2]
end

/-- What stands at a place. -/
def placeT {X : Type} (K : TR T.El → Rs X) : Path → TR T.El → Rs X
  | [], r => K r
  | (i, c) :: p, .lit s xs =>
    match xs[i]? with
    | some x => match x[c]? with
      | some (.ow m t ys) => placeT K p (.typ m t ys)
      | some (.oo m t ys j cs) => placeT K p (.opn m t ys j cs)
      | _ => .no
    | none => .no
  | (i, c) :: p, .typ m t xs =>
    .bnd (xs[i]?) fun y => match (T.ct m t y)[c]? with
      | some (.ow m t ys) => placeT K p (.typ m t ys)
      | _ => .no
  | (i, c) :: p, .opn m t xs j cs =>
    .need (i = j ∧ j < xs.length) (match cs[c]? with
      | some (.ow m t ys) => placeT K p (.typ m t ys)
      | _ => .no)
def atT {X : Type} (h : TH T.toTT0) (k : Nat) (p : Path) (K : TR T.El → Rs X) : Rs X :=
  match getT h k with
  | some r => placeT K p r
  | none => .no

theorem denL_get {h : H} {cs : List (VT T)} {c : Nat} : (denL T.toTT0 h cs)[c]? = (cs[c]?).map (den T.toTT0 h) := by rw [denL_map, List.getElem?_map]
theorem denL_len {h : H} (cs : List (VT T)) : (denL T.toTT0 h cs).length = cs.length := by rw [denL_map, List.length_map]
theorem ca_get {m : Bool} {t : Nat} {x : T.El t} {c : Nat} : (T.ca m t x)[c]? = ((T.ct m t x)[c]?).map (den T.toTT0 []) := by rw [← T.ct_ok, denL_get]

theorem placeT_ok {X : Type} {K : TR T.El → Rs X} {v : X} : ∀ (p : Path) (r : TR T.El), (placeT K p r).gives v → ∃ r', resE (denR T.toTT0 r).s (denR T.toTT0 r).xs p = some ((denR T.toTT0 r').s, (denR T.toTT0 r').xs) ∧ (K r').gives v
  | [], r, hg => ⟨r, rfl, hg⟩
  | (i, c) :: p, .lit s xs, hg => by
    simp only [placeT] at hg
    split at hg
    · rename_i x hx
      split at hg
      · rename_i m t ys hy
        obtain ⟨r', h1, h2⟩ := placeT_ok p _ hg
        refine ⟨r', ?_, h2⟩
        simp only [denR, resE, List.getElem?_map, hx, Option.map_some, denL_get, hy, den]
        exact h1
      · rename_i m t ys j cs hy
        obtain ⟨r', h1, h2⟩ := placeT_ok p _ hg
        refine ⟨r', ?_, h2⟩
        simp only [denR, resE, List.getElem?_map, hx, Option.map_some, denL_get, hy, den]
        exact h1
      · exact hg.elim
    · exact hg.elim
  | (i, c) :: p, .typ m t xs, hg => by
    obtain ⟨y, hy, hg⟩ := hg
    dsimp only at hg
    split at hg
    · rename_i m' t' ys hc
      obtain ⟨r', h1, h2⟩ := placeT_ok p _ hg
      refine ⟨r', ?_, h2⟩
      simp only [denR, resE, List.getElem?_map, hy, Option.map_some, ca_get, hc, den]
      exact h1
    · exact hg.elim
  | (i, c) :: p, .opn m t xs j cs, hg => by
    obtain ⟨⟨rfl, hj⟩, hg⟩ := hg
    split at hg
    · rename_i m' t' ys hc
      obtain ⟨r', h1, h2⟩ := placeT_ok p _ hg
      refine ⟨r', ?_, h2⟩
      simp only [denR, resE]
      rw [List.getElem?_set_self (by simpa using hj)]
      simp only [denL_get, hc, Option.map_some, den]
      exact h1
    · exact hg.elim
theorem atT_ok {X : Type} {h : TH T.toTT0} {k : Nat} {p : Path} {K : TR T.El → Rs X} {v : X} (hg : (atT h k p K).gives v) : ∃ r', res (denH T.toTT0 h) k p = some ((denR T.toTT0 r').s, (denR T.toTT0 r').xs) ∧ (K r').gives v := by
  unfold atT at hg
  split at hg
  · rename_i r hr
    obtain ⟨r', h1, h2⟩ := placeT_ok p r hg
    refine ⟨r', ?_, h2⟩
    simp only [res, getT_row, hr, Option.map_some]
    exact h1
  · exact hg.elim

def nnT : VT T → RT T
  | .un => .no
  | v => .ok v
def asc : VT T → Option Value
  | .sc v => some v
  | .ik k n => some (.int k n)
  | .bk b => some (.bool b)
  | _ => none
theorem asc_den {h : H} {v : VT T} {u : Value} (hv : asc v = some u) : den T.toTT0 h v = .sc u := by
  cases v <;> simp [asc] at hv <;> subst hv <;> rfl
def known : VT T → Bool
  | .ik _ _ | .bk _ => true
  | _ => false
def isK : Value → VT T
  | .int k n => .ik k n
  | .bool b => .bk b
  | v => .sc v
theorem isK_den (h : H) (v : Value) : den T.toTT0 h (isK v) = .sc v := by cases v <;> rfl
def scR (kn : Bool) (o : Option Value) : RT T :=
  match o with
  | some v => bif kn then .ok (isK v) else .ok (.sc v)
  | none => .no
theorem scR_ok {kn : Bool} {o : Option Value} {v : VT T} (h : H) (hg : (scR (T := T) kn o).gives v) : ∃ u, o = some u ∧ den T.toTT0 h v = .sc u := by
  unfold scR at hg
  split at hg
  · rename_i u
    cases kn
    · simp only [cond_false] at hg; cases hg; exact ⟨u, rfl, rfl⟩
    · simp only [cond_true] at hg; cases hg; exact ⟨u, rfl, isK_den h u⟩
  · exact hg.elim
/-- Two whole numbers, or strings. kn: both known. -/
def binT (op : BinOp) (kn : Bool) (a b : Value) : RT T :=
  bif kn then scR true (sbin op a b) else
  match op, a, b with
  | .shl, .int k a, .int k' b => .need (0 ≤ b) (.ok (.sc (.int k (k.wrap (a * 2 ^ min b.toNat k.bits)))))
  | .shr, .int k a, .int k' b => .need (0 ≤ b) (.ok (.sc (.int k (a.fdiv (2 ^ min b.toNat k.bits)))))
  | .quo, .int k a, .int k' b => if k = k' then .need (b ≠ 0) (.ok (.sc (.int k (k.wrap (a.tdiv b))))) else .no
  | .rem, .int k a, .int k' b => if k = k' then .need (b ≠ 0) (.ok (.sc (.int k (a.tmod b)))) else .no
  | op, a, b => scR false (sbin op a b)
theorem binT_ok {op : BinOp} {kn : Bool} {a b : Value} {v : VT T} (h : H) (hg : (binT (T := T) op kn a b).gives v) : ∃ u, sbin op a b = some u ∧ den T.toTT0 h v = .sc u := by
  unfold binT at hg
  cases kn
  · simp only [cond_false] at hg
    split at hg
    · obtain ⟨h1, rfl⟩ := hg
      exact ⟨_, by simp [sbin, h1], rfl⟩
    · obtain ⟨h1, rfl⟩ := hg
      exact ⟨_, by simp [sbin, h1], rfl⟩
    · split at hg
      · rename_i hk
        obtain ⟨h1, rfl⟩ := hg
        subst hk
        exact ⟨_, by simp [sbin, h1], rfl⟩
      · exact hg.elim
    · split at hg
      · rename_i hk
        obtain ⟨h1, rfl⟩ := hg
        subst hk
        exact ⟨_, by simp [sbin, h1], rfl⟩
      · exact hg.elim
    · exact scR_ok h hg
  · exact scR_ok h hg

/-- Cells as they stand in slots. -/
def viewT (k : Nat) (p : Path) (i c : Nat) : VT T → VT T
  | .ow _ _ _ => .sw k (p ++ [(i, c)])
  | .oo _ _ _ _ _ => .sw k (p ++ [(i, c)])
  | a => a
def viewsT (k : Nat) (p : Path) (i : Nat) : Nat → List (VT T) → List (VT T)
  | _, [] => []
  | c, a :: as => viewT k p i c a :: viewsT k p i (c + 1) as
def mkloadT : Bool → List (VT T) → RT T
  | true, cs => .ok (.ag cs)
  | false, [a] => .ok a
  | false, _ => .no
def sliceC (cs : List (VT T)) (c n : Nat) : Option (List (VT T)) := bif Nat.ble (c + n) cs.length then some ((cs.drop c).take n) else none
theorem mkloadT_ok {agg : Bool} {cs : List (VT T)} {v : VT T} {h : H} (hg : (mkloadT agg cs).gives v) : mkload agg (denL T.toTT0 h cs) = some (den T.toTT0 h v) := by
  unfold mkloadT at hg
  split at hg
  · cases hg; rfl
  · cases hg; rfl
  · exact hg.elim
theorem sliceC_ok {cs ds : List (VT T)} {c n : Nat} {h : H} (hs : sliceC cs c n = some ds) : c + n ≤ (denL T.toTT0 h cs).length ∧ ((denL T.toTT0 h cs).drop c).take n = denL T.toTT0 h ds := by
  unfold sliceC at hs
  cases hb : Nat.ble (c + n) cs.length with
  | false => rw [hb] at hs; cases hs
  | true =>
    rw [hb] at hs
    simp only [cond_true, Option.some.injEq] at hs
    subst hs
    refine ⟨by rw [denL_len]; exact Nat.le_of_ble_eq_true hb, ?_⟩
    simp [denL_map, List.map_take, List.map_drop]
/-- Cells of a place loaded: what stands at (k, p), element i, from c on. -/
def loadC (agg : Bool) (n k : Nat) (p : Path) (i c : Nat) (cs : List (VT T)) : RT T :=
  bif inRL (T := T.toTT0) cs then match sliceC cs c n with | some ds => mkloadT agg (viewsT k p i c ds) | none => .no else .no
theorem resE_append' : ∀ (p : Path) (s : Nat) (xs : Els) (q : Path) (s' : Nat) (ys : Els), resE s xs p = some (s', ys) → resE s xs (p ++ q) = resE s' ys q := resE_append
theorem views_den {h : TH T.toTT0} {k i s : Nat} {p : Path} {ys : Els} {x : List AV} (hr : res (denH T.toTT0 h) k p = some (s, ys)) (hx : ys[i]? = some x) : ∀ (ds : List (VT T)) (c : Nat), inRL (T := T.toTT0) ds = true → (∀ j a, ds[j]? = some a → x[c + j]? = some (den T.toTT0 [] a)) → views k p i c (denL T.toTT0 [] ds) = denL T.toTT0 (denH T.toTT0 h) (viewsT k p i c ds)
  | [], c, _, _ => rfl
  | a :: ds, c, hi, hj => by
    simp only [inRL, Bool.and_eq_true] at hi
    have ih := views_den hr hx ds (c + 1) hi.2 (fun j b hb => by have := hj (j + 1) b (by simpa using hb); rwa [show c + (j + 1) = c + 1 + j by omega] at this)
    have h0 := hj 0 a rfl
    rw [Nat.add_zero] at h0
    have hlen : ∀ (s2 : Nat) (zs : Els), den T.toTT0 [] a = .ow s2 zs → lenAt (denH T.toTT0 h) k (p ++ [(i, c)]) = zs.length := fun s2 zs hz => by
      rw [hz] at h0
      have : res (denH T.toTT0 h) k (p ++ [(i, c)]) = some (s2, zs) := by
        unfold res at hr ⊢
        split at hr
        · rename_i r hg
          rw [resE_append p _ _ _ _ _ hr]
          simp [resE, hx, h0]
        · cases hr
      unfold lenAt
      rw [this]
    simp only [denL, views, viewsT, ih]
    congr 1
    cases a <;> first | rfl | (simp [inR] at hi; done) | skip
    all_goals (simp only [viewT, den, view]; rw [hlen _ _ rfl])
theorem loadC_ok {agg : Bool} {n k i c s : Nat} {p : Path} {cs : List (VT T)} {v : VT T} {h : TH T.toTT0} {ys : Els} (hr : res (denH T.toTT0 h) k p = some (s, ys)) (hx : ys[i]? = some (denL T.toTT0 [] cs)) (hg : (loadC agg n k p i c cs).gives v) :
    (match cellsAt ys i c n with | some cs => mkload agg (views k p i c cs) | none => none) = some (den T.toTT0 (denH T.toTT0 h) v) := by
  unfold loadC at hg
  cases hi : inRL (T := T.toTT0) cs with
  | false => rw [hi] at hg; exact hg.elim
  | true =>
    rw [hi] at hg
    simp only [cond_true] at hg
    split at hg
    · rename_i ds hd
      obtain ⟨q1, q2⟩ := sliceC_ok (h := []) hd
      simp only [cellsAt, hx, if_pos q1, q2]
      have hid : inRL (T := T.toTT0) ds = true := by
        have key : ∀ (cs : List (VT T)), inRL (T := T.toTT0) cs = true ↔ ∀ x ∈ cs, inR (T := T.toTT0) x = true := by
          intro cs
          induction cs with
          | nil => simp [inRL]
          | cons a l ih => simp [inRL, ih]
        rw [key] at hi ⊢
        intro x hx2
        unfold sliceC at hd
        cases hb : Nat.ble (c + n) cs.length with
        | false => rw [hb] at hd; cases hd
        | true =>
          rw [hb] at hd
          simp only [cond_true, Option.some.injEq] at hd
          subst hd
          exact hi x (List.mem_of_mem_drop (List.mem_of_mem_take hx2))
      rw [views_den (T := T) hr hx ds c hid (fun j a ha => by
        have e1 : (denL T.toTT0 [] ds)[j]? = some (den T.toTT0 [] a) := by rw [denL_get, ha]; rfl
        rw [← q2, List.getElem?_take] at e1
        split at e1
        · rwa [List.getElem?_drop] at e1
        · cases e1)]
      exact mkloadT_ok hg
    · exact hg.elim
end
end Loom
set_option linter.unusedVariables false
set_option linter.unusedSimpArgs false
namespace Loom
open Go

section
variable {T : TT}

def eqCellsT (xs ys : List (VT T)) : List (Nat × Nat) → Option Bool
  | [] => some true
  | (i, q) :: is =>
    match (xs[i]?).bind asc, (ys[i]?).bind asc with
    | some a, some b =>
      match scEq q a b, eqCellsT xs ys is with
      | some r, some r' => some (r && r')
      | _, _ => none
    | _, _ => none
theorem asc_get {h : H} {xs : List (VT T)} {i : Nat} {u : Value} (hx : (xs[i]?).bind asc = some u) : (denL T.toTT0 h xs)[i]? = some (.sc u) := by
  rw [denL_get]
  cases hi : xs[i]? with
  | none => rw [hi] at hx; cases hx
  | some x =>
    rw [hi] at hx
    simp only [Option.map_some, asc_den (h := h) hx]
theorem eqCellsT_ok {h : H} {xs ys : List (VT T)} : ∀ (l : List (Nat × Nat)) (r : Bool), eqCellsT xs ys l = some r → eqCells (denL T.toTT0 h xs) (denL T.toTT0 h ys) l = some r
  | [], _, h => h
  | (i, q) :: is, r, hr => by
    unfold eqCellsT at hr
    split at hr
    · rename_i a b ha hb
      split at hr
      · rename_i r1 r2 h1 h2
        simp only [eqCells, asc_get (h := h) ha, asc_get (h := h) hb, h1, eqCellsT_ok is r2 h2]
        exact hr
      · cases hr
    · cases hr
def oneT : VT T → Bool
  | .sc u => u.oneCell'
  | .ik _ _ | .bk _ | .zs | .im _ _ | .ip _ _ _ | .sl _ _ _ _ | .sw _ _ | .pt _ _ _ _ | .fn _ _ => true
  | _ => false
def cellsOfT : VT T → Option (List (VT T))
  | .ag cs => some cs
  | a => bif oneT a then some [a] else none
theorem cellsOfT_ok {h : H} {v : VT T} {cs : List (VT T)} (hc : cellsOfT v = some cs) : cellsOf (den T.toTT0 h v) = some (denL T.toTT0 h cs) := by
  cases v <;> simp [cellsOfT, oneT] at hc
  case ag => subst hc; rfl
  case sc u =>
    cases hu : u.oneCell' with
    | true => rw [hu] at hc; simp at hc; subst hc; simp [den, cellsOf, oneAV, hu, denL]
    | false => rw [hu] at hc; simp at hc
  case ik k n => subst hc; simp [den, cellsOf, oneAV, denL, Value.oneCell']
  case bk b => subst hc; simp [den, cellsOf, oneAV, denL, Value.oneCell']
  all_goals (subst hc; simp [den, cellsOf, oneAV, denL])
def fillT (cells : List (VT T)) : List (Nat × Nat × VT T) → Option (List (VT T))
  | [] => some cells
  | (off, size, v) :: rest =>
    match cellsOfT v with
    | some cs => bif Nat.beq cs.length size && Nat.ble (off + size) cells.length then fillT (cells.take off ++ cs ++ cells.drop (off + size)) rest else none
    | none => none
theorem fillT_ok {h : H} : ∀ (parts : List (Nat × Nat × VT T)) (cells cs : List (VT T)), fillT cells parts = some cs → fillAV (denL T.toTT0 h cells) (parts.map fun (o, n, x) => (o, n, den T.toTT0 h x)) = some (denL T.toTT0 h cs)
  | [], cells, cs, hf => by simp only [fillT, Option.some.injEq] at hf; subst hf; rfl
  | (off, size, v) :: rest, cells, cs, hf => by
    unfold fillT at hf
    split at hf
    · rename_i ds hd
      cases hb : (Nat.beq ds.length size && Nat.ble (off + size) cells.length) with
      | false => rw [hb] at hf; cases hf
      | true =>
        rw [hb] at hf
        simp only [cond_true] at hf
        simp only [Bool.and_eq_true] at hb
        have h1 := Nat.eq_of_beq_eq_true hb.1
        have h2 := Nat.le_of_ble_eq_true hb.2
        have ih := fillT_ok (h := h) rest _ _ hf
        simp only [List.map_cons, fillAV, cellsOfT_ok (h := h) hd, denL_len]
        rw [if_pos ⟨h1, h2⟩]
        rw [← ih]
        congr 1
        simp [denL_map, List.map_take, List.map_drop]
    · cases hf
def constT (l : List Value) : List (VT T) := l.map cvalT
theorem constT_ok (h : H) (l : List Value) : denL T.toTT0 h (constT l) = l.map cval := by
  rw [denL_map, constT, List.map_map]
  exact List.map_congr_left fun x _ => cvalT_den h x

def intOf : VT T → Option Int
  | .sc (.int _ n) => some n
  | .ik _ n => some n
  | _ => none
theorem intOf_ok {h : H} {v : VT T} {n : Int} (hv : intOf v = some n) : ∃ k, den T.toTT0 h v = .sc (.int k n) := by
  unfold intOf at hv
  split at hv
  · cases hv; exact ⟨_, rfl⟩
  · cases hv; exact ⟨_, rfl⟩
  · cases hv
theorem intOf_nat {h : H} {v : VT T} {n : Int} (hv : intOf v = some n) : nat? (den T.toTT0 h v) = some n := by
  obtain ⟨k, hk⟩ := intOf_ok (h := h) hv
  rw [hk]; rfl
/-- Whole numbers of one kind. -/
def intsOf : List (VT T) → Option (IntKind × List Int)
  | [] => none
  | [v] => match asc v with | some (.int k n) => some (k, [n]) | _ => none
  | v :: l => match asc v, intsOf l with | some (.int k n), some (k', ns) => if k = k' then some (k, n :: ns) else none | _, _ => none
theorem intsOf_ok {h : H} : ∀ (l : List (VT T)) (k : IntKind) (ns : List Int), intsOf l = some (k, ns) → denL T.toTT0 h l = ns.map fun n => .sc (.int k n)
  | [], _, _, hl => by cases hl
  | [v], k, ns, hl => by
    simp only [intsOf] at hl
    split at hl
    · rename_i k n hv
      cases hl
      simp [denL, asc_den (h := h) hv]
    · cases hl
  | v :: w :: l, k, ns, hl => by
    simp only [intsOf] at hl
    split at hl
    · rename_i k1 n1 k2 ns2 hv hl2
      split at hl
      · rename_i hk
        subst hk
        cases hl
        have ih := intsOf_ok (h := h) (w :: l) _ _ hl2
        rw [denL, asc_den (h := h) hv, ih]
        rfl
      · cases hl
    · cases hl
/-- An element of an array, by its place. -/
def nthT (agg : Bool) (n : Nat) (cs : List (VT T)) (j : Nat) : RT T := match sliceC cs (j * n) n with | some ds => mkloadT agg ds | none => .no
def caseT (m : Int) (f : Nat → RT T) : Nat → Nat → RT T
  | 0, _ => .no
  | n + 1, j => .ite (m == (j : Int)) (f j) (caseT m f n (j + 1))
theorem caseT_ok {m : Int} {f : Nat → RT T} {v : VT T} : ∀ (n j : Nat), (caseT m f n j).gives v → ∃ i : Nat, j ≤ i ∧ i < j + n ∧ m = (i : Int) ∧ (f i).gives v
  | 0, _, h => h.elim
  | n + 1, j, h => by
    rcases h with ⟨h1, h2⟩ | ⟨_, h2⟩
    · exact ⟨j, Nat.le_refl _, by omega, by simpa using h1, h2⟩
    · obtain ⟨i, q1, q2, q3, q4⟩ := caseT_ok n (j + 1) h2
      exact ⟨i, by omega, by omega, q3, q4⟩
def idaT (agg : Bool) (len n : Nat) (cs : List (VT T)) (kn : Bool) (m : Int) : RT T :=
  bif kn then (if 0 ≤ m ∧ m < len then nthT agg n cs m.toNat else .no) else
  match agg, n, intsOf cs with
  | false, 1, some (k, ns) => bif Nat.beq ns.length len then .bnd (idx ns m) fun y => .ok (.sc (.int k y)) else .no
  | _, _, _ => caseT m (nthT agg n cs) len 0
def toNatR (o : Option Operand) (e : TE T.toTT0) : Option (Option Int) :=
  match o with
  | none => some none
  | some x => match intOf (evT e x) with | some n => some (some n) | none => none
/-- The bounds of a slice expression over so many elements. K: from where, how many. lo, hi: whether they stand there. -/
def cutT (len : Nat) (lo hi : Option Int) (K : Nat → Nat → RT T) (whole : RT T) : RT T :=
  match lo, hi with
  | none, none => whole
  | none, some b => .need (0 ≤ b ∧ b ≤ (len : Int)) (K 0 b.toNat)
  | some a, none => .need (0 ≤ a ∧ a ≤ (len : Int)) (K a.toNat len)
  | some a, some b => .need (0 ≤ a ∧ a ≤ b ∧ b ≤ (len : Int)) (K a.toNat b.toNat)
def part {α : Type} (xs : List α) (a b : Nat) : List α := (xs.take b).drop a

def rdT (e : TE T.toTT0) (h : TH T.toTT0) : IB → RT T
  | .mov x => nnT (evT e x)
  | .pick c a b =>
    match evT e c with
    | .bk true => nnT (evT e a)
    | .bk false => nnT (evT e b)
    | .sc (.bool t) => .ite t (nnT (evT e a)) (nnT (evT e b))
    | _ => .no
  | .bin op x y =>
    match asc (evT e x), asc (evT e y) with
    | some a, some b => bif known (evT e y) then scR (known (evT e x)) (sbin op a b) else binT op false a b
    | _, _ => .no
  | .beq neg x y =>
    match asc (evT e x), asc (evT e y) with
    | some (.bool a), some (.bool b) => scR (known (evT e x) && known (evT e y)) (some (.bool (if neg then a != b else a == b)))
    | _, _ => .no
  | .eqs neg n plan x y =>
    match evT e x, evT e y with
    | .ag xs, .ag ys =>
      bif Nat.beq xs.length n && Nat.beq ys.length n then match eqCellsT xs ys plan with | some r => .ok (.sc (.bool (if neg then !r else r))) | none => .no else .no
    | _, _ => .no
  | .un1 op x =>
    match op, asc (evT e x) with
    | .not, some (.bool b) => scR (known (evT e x)) (some (.bool (!b)))
    | .neg, some (.int k n) => scR (known (evT e x)) (some (.int k (k.wrap (0 - n))))
    | _, _ => .no
  | .cvt k x =>
    match asc (evT e x) with
    | some (.int _ n) => scR (known (evT e x)) (some (.int k (k.wrap n)))
    | _ => .no
  | .fad off x =>
    match evT e x with
    | .pt k p i c => .ok (.pt k p i (c + off))
    | .ip s cs c => .ok (.ip s cs (c + off))
    | _ => .no
  | .iad s x i =>
    match intOf (evT e i) with
    | none => .no
    | some n =>
    match evT e x with
    | .im t xs => bif Nat.beq (T.sz t) s then .bnd (idx xs n) fun y => .ok (.ip s (T.ct false t y) 0) else .no
    | .sw k p => atT h k p fun
      | .lit s' xs => bif Nat.beq s' s then bif known (evT e i) then (if 0 ≤ n ∧ n < (xs.length : Int) then .ok (.pt k p n.toNat 0) else .no) else .need (0 ≤ n ∧ n < (xs.length : Int)) (.ok (.pt k p n.toNat 0)) else .no
      | .typ _ t xs => bif Nat.beq (T.sz t) s then .need (0 ≤ n ∧ n < (xs.length : Int)) (.ok (.pt k p n.toNat 0)) else .no
      | .opn _ t xs _ _ => bif Nat.beq (T.sz t) s then .need (0 ≤ n ∧ n < (xs.length : Int)) (.ok (.pt k p n.toNat 0)) else .no
    | .sl k p off len => atT h k p fun r => bif Nat.beq (denR T.toTT0 r).s s then .need (0 ≤ n ∧ n < (len : Int)) (.ok (.pt k p (off + n.toNat) 0)) else .no
    | _ => .no
  | .load agg n x =>
    match evT e x with
    | .pt k p i c => atT h k p fun
      | .lit s xs => match xs[i]? with | some cs => loadC agg n k p i c cs | none => .no
      | .typ m t xs => .bnd (xs[i]?) fun y => loadC agg n k p i c (T.ct m t y)
      | .opn m t xs j cs => .need (i = j ∧ j < xs.length) (loadC agg n k p i c cs)
    | .ip s cs c => bif inRL (T := T.toTT0) cs then match sliceC cs c n with | some ds => bif inRL (T := T.toTT0) ds then mkloadT agg ds else .no | none => .no else .no
    | _ => .no
  | .fld agg off n x =>
    match evT e x with
    | .ag cs => match sliceC cs off n with | some ds => mkloadT agg ds | none => .no
    | _ => .no
  | .ida agg len n x i =>
    match evT e x, intOf (evT e i) with
    | .ag cs, some m => idaT agg len n cs (known (evT e i)) m
    | _, _ => .no
  | .ids x i =>
    match evT e x, intOf (evT e i) with
    | .sc (.string s), some m => .need (0 ≤ m ∧ m < (s.size : Int)) (.ok (.sc (.int .u8 (byteAt s m))))
    | _, _ => .no
  | .len x =>
    match evT e x with
    | .sl _ _ _ len => .ok (.sc (.int .i64 len))
    | .sw k p => atT h k p fun
      | .lit _ xs => .ok (.ik .i64 xs.length)
      | .typ _ _ xs => .ok (.sc (.int .i64 xs.length))
      | .opn _ _ xs _ _ => .ok (.sc (.int .i64 xs.length))
    | .im _ xs => .ok (.sc (.int .i64 xs.length))
    | .zs => .ok (.ik .i64 0)
    | _ => .no
  | .lens x =>
    match evT e x with
    | .sc (.string s) => .ok (.sc (.int .i64 s.size))
    | _ => .no
  | .ext n x =>
    match evT e x with
    | .tu vs => match vs[n]? with | some a => nnT a | none => .no
    | _ => .no
  | .nchk x =>
    match evT e x with
    | .pt k p i c => .ok (.pt k p i c)
    | .ip s cs c => .ok (.ip s cs c)
    | .fn f caps => .ok (.fn f caps)
    | _ => .no
  | .slc s x lo hi =>
    match toNatR lo e, toNatR hi e with
    | some lo, some hi =>
      match evT e x with
      | .sl k p off len => atT h k p fun r => bif Nat.beq (denR T.toTT0 r).s s then cutT len lo hi (fun a b => .ok (.sl k p (off + a) (b - a))) (.ok (.sl k p off len)) else .no
      | .sw k p => atT h k p fun
        | .lit s' xs => bif Nat.beq s' s then cutT xs.length lo hi (fun a b => .ok (.sl k p a (b - a))) (.ok (.sw k p)) else .no
        | .typ _ t xs => bif Nat.beq (T.sz t) s then cutT xs.length lo hi (fun a b => .ok (.sl k p a (b - a))) (.ok (.sw k p)) else .no
        | .opn _ t xs _ _ => bif Nat.beq (T.sz t) s then cutT xs.length lo hi (fun a b => .ok (.sl k p a (b - a))) (.ok (.sw k p)) else .no
      | .im t xs => bif Nat.beq (T.sz t) s then cutT xs.length lo hi (fun a b => .ok (.im t (part xs a b))) (.ok (.im t xs)) else .no
      | .zs => cutT 0 lo hi (fun a b => .ok .zs) (.ok .zs)
      | _ => .no
    | _, _ => .no
  | .slc0 x =>
    match evT e x with
    | .sl _ _ _ _ | .sw _ _ | .im _ _ | .zs => .ok .zs
    | _ => .no
  | .sls x lo hi =>
    match toNatR lo e, toNatR hi e, evT e x with
    | some lo, some hi, .sc (.string s) => cutT s.size lo hi (fun a b => .ok (.sc (.string (s.extract a b)))) (.ok (.sc (.string s)))
    | _, _, _ => .no
  | .build zero parts =>
    match fillT (constT zero) (parts.map fun (o, n, x) => (o, n, evT e x)) with
    | some cs => .ok (.ag cs)
    | none => .no
  | .mkf f caps => bif caps.all (fun x => match evT e x with | .un => false | _ => true) then .ok (.fn f (caps.map (evT e))) else .no
  | .mm isMax x y =>
    match asc (evT e x), asc (evT e y) with
    | some (.int k a), some (.int k' b) => if k = k' then scR (known (evT e x) && known (evT e y)) (some (.int k (if isMax then (if b > a then b else a) else (if b < a then b else a)))) else .no
    | _, _ => .no
  | _ => .no
end
end Loom
set_option linter.unusedVariables false
set_option linter.unusedSimpArgs false
namespace Loom
open Go

section
variable {T : TT}

theorem nn_den {h : H} {x v : VT T} (hg : (nnT x).gives v) : nn (den T.toTT0 h x) = some (den T.toTT0 h v) := by
  cases x <;> first | exact hg.elim | (cases hg; rfl) | (cases hg; simp [den, nn])
theorem bif_gives {X : Type} {b : Bool} {x : Rs X} {v : X} (hg : (bif b then x else .no).gives v) : b = true ∧ x.gives v := by
  cases b
  · exact hg.elim
  · exact ⟨rfl, hg⟩
theorem ite_gives {X : Type} {p : Prop} [Decidable p] {x : Rs X} {v : X} (hg : (if p then x else .no).gives v) : p ∧ x.gives v := by
  split at hg
  · exact ⟨by assumption, hg⟩
  · exact hg.elim
theorem scR_some {kn : Bool} {u : Value} {v : VT T} (h : H) (hg : (scR (T := T) kn (some u)).gives v) : den T.toTT0 h v = .sc u := by
  obtain ⟨u', h1, h2⟩ := scR_ok h hg
  cases h1; exact h2
theorem toNatR_lo {h : H} {e : TE T.toTT0} {o : Option Operand} {r : Option Int} (ho : toNatR o e = some r) : loV (o.map (ev (denE T.toTT0 h e))) = some (r.getD 0) := by
  unfold toNatR at ho
  cases o with
  | none => cases ho; rfl
  | some x =>
    simp only at ho
    split at ho
    · rename_i n hn
      cases ho
      simp only [Option.map_some, loV, evT_den, intOf_nat hn, Option.getD_some]
    · cases ho
theorem toNatR_hi {h : H} {e : TE T.toTT0} {o : Option Operand} {r : Option Int} {len : Nat} (ho : toNatR o e = some r) : hiV len (o.map (ev (denE T.toTT0 h e))) = some (r.getD len) := by
  unfold toNatR at ho
  cases o with
  | none => cases ho; rfl
  | some x =>
    simp only at ho
    split at ho
    · rename_i n hn
      cases ho
      simp only [Option.map_some, hiV, evT_den, intOf_nat hn, Option.getD_some]
    · cases ho
/-- What a slice expression answers. -/
theorem cutT_ok {h : H} {e : TE T.toTT0} {len : Nat} {lo hi : Option Operand} {a b : Option Int} {K : Nat → Nat → RT T} {whole : RT T} {v : VT T} (ha : toNatR lo e = some a) (hb : toNatR hi e = some b) (hg : (cutT len a b K whole).gives v) :
    ∃ l m : Nat, bounds len (lo.map (ev (denE T.toTT0 h e))) (hi.map (ev (denE T.toTT0 h e))) = some (l, m) ∧ l ≤ m ∧ m ≤ len ∧ ((K l m).gives v ∨ (l = 0 ∧ m = len ∧ whole.gives v)) := by
  have h1 := toNatR_lo (h := h) ha
  have h2 := toNatR_hi (h := h) (len := len) hb
  unfold cutT at hg
  split at hg
  · refine ⟨0, len, by simpa using bounds_of h1 h2 (by simp), Nat.zero_le _, Nat.le_refl _, .inr ⟨rfl, rfl, hg⟩⟩
  · obtain ⟨hc, hg⟩ := hg
    exact ⟨_, _, by simpa using bounds_of h1 h2 (by simp; omega), Nat.zero_le _, by omega, .inl hg⟩
  · obtain ⟨hc, hg⟩ := hg
    exact ⟨_, _, by simpa using bounds_of h1 h2 (by simp; omega), by omega, Nat.le_refl _, .inl hg⟩
  · obtain ⟨hc, hg⟩ := hg
    exact ⟨_, _, by simpa using bounds_of h1 h2 (by simp; omega), by omega, by omega, .inl hg⟩
theorem part_map {α β : Type} (f : α → β) (xs : List α) (a b : Nat) : (part xs a b).map f = ((xs.map f).take b).drop a := by simp [part, List.map_drop, List.map_take]

theorem rdT_ok {e : TE T.toTT0} {h : TH T.toTT0} {b : IB} {v : VT T} (hg : (rdT e h b).gives v) :
    ∃ av, rdop (ev (denE T.toTT0 (denH T.toTT0 h) e)) (res (denH T.toTT0 h)) b = some av ∧ AVle av (den T.toTT0 (denH T.toTT0 h) v) := by
  have fin : ∀ {o : Option AV} {w : VT T}, o = some (den T.toTT0 (denH T.toTT0 h) w) → ∃ av, o = some av ∧ AVle av (den T.toTT0 (denH T.toTT0 h) w) := fun ho => ⟨_, ho, AVle.refl _⟩
  have sc : ∀ {o : Option AV} {w : VT T} {u : Value}, o = some (.sc u) → den T.toTT0 (denH T.toTT0 h) w = .sc u → ∃ av, o = some av ∧ AVle av (den T.toTT0 (denH T.toTT0 h) w) := fun ho hw => ⟨_, ho, by rw [hw]; exact AVle.refl _⟩
  cases b with
  | mov x => exact fin (by simp only [rdop, evT_den]; exact nn_den hg)
  | pick c a b =>
    simp only [rdT] at hg
    split at hg
    · rename_i hc
      exact fin (by simp only [rdop, evT_den, hc, den, if_true]; exact nn_den hg)
    · rename_i hc
      exact fin (by simp only [rdop, evT_den, hc, den, Bool.false_eq_true, if_false]; exact nn_den hg)
    · rename_i t hc
      rcases hg with ⟨rfl, hg⟩ | ⟨rfl, hg⟩
      · exact fin (by simp only [rdop, evT_den, hc, den, if_true]; exact nn_den hg)
      · exact fin (by simp only [rdop, evT_den, hc, den, Bool.false_eq_true, if_false]; exact nn_den hg)
    · exact hg.elim
  | bin op x y =>
    simp only [rdT] at hg
    split at hg
    · rename_i a b ha hb
      have key : ∃ u, sbin op a b = some u ∧ den T.toTT0 (denH T.toTT0 h) v = .sc u := by
        cases hk : known (evT e y) with
        | true => rw [hk, cond_true] at hg; exact scR_ok _ hg
        | false => rw [hk, cond_false] at hg; exact binT_ok _ hg
      obtain ⟨u, h1, h2⟩ := key
      exact sc (by simp only [rdop, evT_den, asc_den ha, asc_den hb, h1]) h2
    · exact hg.elim
  | beq neg x y =>
    simp only [rdT] at hg
    split at hg
    · rename_i a b ha hb
      exact sc (by simp only [rdop, evT_den, asc_den ha, asc_den hb]) (scR_some _ hg)
    · exact hg.elim
  | eqs neg n plan x y =>
    simp only [rdT] at hg
    split at hg
    · rename_i xs ys hx hy
      obtain ⟨h1, hg⟩ := bif_gives hg
      simp only [Bool.and_eq_true] at h1
      split at hg
      · rename_i r hr
        cases hg
        exact fin (by
          simp only [rdop, evT_den, hx, hy, den, denL_len]
          rw [if_pos ⟨Nat.eq_of_beq_eq_true h1.1, Nat.eq_of_beq_eq_true h1.2⟩, eqCellsT_ok _ _ hr])
      · exact hg.elim
    · exact hg.elim
  | un1 op x =>
    simp only [rdT] at hg
    split at hg
    · rename_i b hb
      exact sc (by simp only [rdop, evT_den, asc_den hb]) (scR_some _ hg)
    · rename_i k n hb
      exact sc (by simp only [rdop, evT_den, asc_den hb]) (scR_some _ hg)
    · exact hg.elim
  | cvt k x =>
    simp only [rdT] at hg
    split at hg
    · rename_i k' n hb
      exact sc (by simp only [rdop, evT_den, asc_den hb]) (scR_some _ hg)
    · exact hg.elim
  | fad off x =>
    simp only [rdT] at hg
    split at hg
    · rename_i k p i c hx
      cases hg
      exact fin (by simp only [rdop, evT_den, hx, den])
    · rename_i s cs c hx
      cases hg
      exact fin (by simp only [rdop, evT_den, hx, den])
    · exact hg.elim
  | iad s x i =>
    simp only [rdT] at hg
    split at hg
    · exact hg.elim
    · rename_i n hn
      obtain ⟨kk, hi⟩ := intOf_ok (h := denH T.toTT0 h) hn
      split at hg
      · rename_i t xs hx
        obtain ⟨hs, hg⟩ := bif_gives hg
        obtain ⟨y, hy, hg⟩ := hg
        cases hg
        obtain ⟨h0, h1, h2⟩ := idx_some hy
        have hlt : n < ((xs.map (T.ca false t)).length : Int) := by rw [List.length_map]; omega
        refine ⟨.ip s (xs.map (T.ca false t)) n.toNat 0, ?_, ?_⟩
        · simp only [rdop, evT_den, hx, hi, den]
          rw [if_pos ⟨Nat.eq_of_beq_eq_true hs, h0, hlt⟩]
        · have : den T.toTT0 (denH T.toTT0 h) (.ip s (T.ct false t y) 0) = .ip s [T.ca false t y] 0 0 := by simp only [den, T.ct_ok]
          rw [this]
          exact AVle.ip (by rw [List.getElem?_map, h2]; rfl)
      · rename_i k p hx
        obtain ⟨r', hr, hg⟩ := atT_ok hg
        have hl : lenAt (denH T.toTT0 h) k p = (denR T.toTT0 r').xs.length := by unfold lenAt; rw [hr]
        have key : ∀ (s' : Nat) (len : Nat), (denR T.toTT0 r').s = s' → (denR T.toTT0 r').xs.length = len → s' = s → 0 ≤ n ∧ n < (len : Int) → ∃ av, rdop (ev (denE T.toTT0 (denH T.toTT0 h) e)) (res (denH T.toTT0 h)) (.iad s x i) = some av ∧ AVle av (den T.toTT0 (denH T.toTT0 h) (.pt k p n.toNat 0)) := by
          intro s' len e1 e2 e3 e4
          refine fin ?_
          simp only [rdop, evT_den, hx, hi, den, hl, e2]
          rw [if_pos e4, hr]
          simp [e1, e3]
        split at hg
        · rename_i s' xs
          obtain ⟨hs, hg⟩ := bif_gives hg
          have : (0 ≤ n ∧ n < (xs.length : Int)) ∧ v = .pt k p n.toNat 0 := by
            cases hk : known (evT e i) with
            | true => rw [hk] at hg; exact ite_gives hg
            | false => rw [hk] at hg; exact hg
          obtain ⟨hc, rfl⟩ := this
          exact key s' xs.length rfl (by simp [denR]) (Nat.eq_of_beq_eq_true hs) hc
        · rename_i m t xs
          obtain ⟨hs, hc, rfl⟩ := bif_gives hg
          exact key _ xs.length rfl (by simp [denR]) (Nat.eq_of_beq_eq_true hs) hc
        · rename_i m t xs _ _
          obtain ⟨hs, hc, rfl⟩ := bif_gives hg
          exact key _ xs.length rfl (by simp [denR]) (Nat.eq_of_beq_eq_true hs) hc
      · rename_i k p off len hx
        obtain ⟨r', hr, hg⟩ := atT_ok hg
        obtain ⟨hs, hc, rfl⟩ := bif_gives hg
        refine fin ?_
        simp only [rdop, evT_den, hx, hi, den]
        rw [if_pos hc, hr]
        simp [Nat.eq_of_beq_eq_true hs]
      · exact hg.elim
  | load agg n x =>
    simp only [rdT] at hg
    split at hg
    · rename_i k p i c hx
      obtain ⟨r', hr, hg⟩ := atT_ok hg
      refine fin ?_
      simp only [rdop, evT_den, hx, den, hr]
      split at hg
      · rename_i s xs
        split at hg
        · rename_i cs hcs
          exact loadC_ok (T := T) hr (by simp [denR, hcs]) hg
        · exact hg.elim
      · rename_i m t xs
        obtain ⟨y, hy, hg⟩ := hg
        exact loadC_ok (T := T) hr (by simp [denR, hy, T.ct_ok]) hg
      · rename_i m t xs j cs
        obtain ⟨⟨rfl, hj⟩, hg⟩ := hg
        exact loadC_ok (T := T) hr (by simp only [denR]; rw [List.getElem?_set_self (by simpa using hj)]) hg
    · rename_i s cs c hx
      obtain ⟨hi, hg⟩ := bif_gives hg
      split at hg
      · rename_i ds hd
        obtain ⟨hid, hg⟩ := bif_gives hg
        obtain ⟨q1, q2⟩ := sliceC_ok (h := []) hd
        refine fin ?_
        simp only [rdop, evT_den, hx, den, cellsAt, List.getElem?_cons_zero]
        rw [if_pos q1, q2]
        have := mkloadT_ok (h := denH T.toTT0 h) hg
        rwa [denL_in (denH T.toTT0 h) [] ds hid] at this
      · exact hg.elim
    · exact hg.elim
  | fld agg off n x =>
    simp only [rdT] at hg
    split at hg
    · rename_i cs hx
      split at hg
      · rename_i ds hd
        obtain ⟨q1, q2⟩ := sliceC_ok (h := denH T.toTT0 h) hd
        refine fin ?_
        simp only [rdop, evT_den, hx, den]
        rw [if_pos q1, q2]
        exact mkloadT_ok hg
      · exact hg.elim
    · exact hg.elim
  | ida agg len n x i =>
    simp only [rdT] at hg
    split at hg
    · rename_i cs m hx hm
      obtain ⟨kk, hi⟩ := intOf_ok (h := denH T.toTT0 h) hm
      have nth : ∀ (j : Nat), m = (j : Int) → m < len → (nthT agg n cs j).gives v → ∃ av, rdop (ev (denE T.toTT0 (denH T.toTT0 h) e)) (res (denH T.toTT0 h)) (.ida agg len n x i) = some av ∧ AVle av (den T.toTT0 (denH T.toTT0 h) v) := by
        clear hg
        intro j hj hlt hg
        subst hj
        unfold nthT at hg
        split at hg
        · rename_i ds hd
          obtain ⟨q1, q2⟩ := sliceC_ok (h := denH T.toTT0 h) hd
          refine fin ?_
          simp only [rdop, evT_den, hx, hi, den]
          rw [if_pos ⟨by omega, hlt, by simpa using q1⟩]
          simp only [Int.toNat_natCast, q2]
          exact mkloadT_ok hg
        · exact hg.elim
      unfold idaT at hg
      cases hk : known (evT e i) with
      | true =>
        rw [hk] at hg
        obtain ⟨hc, hg⟩ := ite_gives hg
        exact nth m.toNat (by omega) (by omega) hg
      | false =>
        rw [hk] at hg
        simp only [cond_false] at hg
        split at hg
        · rename_i k ns hns
          obtain ⟨hl, y, hy, rfl⟩ := bif_gives hg
          have hl := Nat.eq_of_beq_eq_true hl
          obtain ⟨h0, h1, h2⟩ := idx_some hy
          refine fin ?_
          have hcs := intsOf_ok (h := denH T.toTT0 h) cs k ns hns
          simp only [rdop, evT_den, hx, hi, den, hcs, Nat.mul_one, List.length_map]
          rw [if_pos ⟨h0, by omega, by omega⟩]
          have : (((ns.map fun n => AV.sc (.int k n)).drop m.toNat).take 1) = [.sc (.int k y)] := by
            rw [List.take_one]
            simp [List.head?_drop, h2]
          rw [this]
          rfl
        · obtain ⟨j, _, q2, q3, q4⟩ := caseT_ok _ _ hg
          exact nth j q3 (by omega) q4
    · exact hg.elim
  | ids x i =>
    simp only [rdT] at hg
    split at hg
    · rename_i s m hx hm
      obtain ⟨kk, hi⟩ := intOf_ok (h := denH T.toTT0 h) hm
      obtain ⟨hc, rfl⟩ := hg
      exact fin (by simp only [rdop, evT_den, hx, hi, den, byteAt]; rw [if_pos hc])
    · exact hg.elim
  | len x =>
    simp only [rdT] at hg
    split at hg
    · rename_i k p off len hx
      cases hg
      exact fin (by simp only [rdop, evT_den, hx, den])
    · rename_i k p hx
      obtain ⟨r', hr, hg⟩ := atT_ok hg
      have hl : lenAt (denH T.toTT0 h) k p = (denR T.toTT0 r').xs.length := by unfold lenAt; rw [hr]
      split at hg <;> (cases hg; exact fin (by simp [rdop, evT_den, hx, den, hl, denR]))
    · rename_i t xs hx
      cases hg
      exact fin (by simp [rdop, evT_den, hx, den])
    · rename_i hx
      cases hg
      exact fin (by simp only [rdop, evT_den, hx, den])
    · exact hg.elim
  | lens x =>
    simp only [rdT] at hg
    split at hg
    · rename_i s hx
      cases hg
      exact fin (by simp only [rdop, evT_den, hx, den])
    · exact hg.elim
  | ext n x =>
    simp only [rdT] at hg
    split at hg
    · rename_i vs hx
      split at hg
      · rename_i a ha
        exact fin (by simp only [rdop, evT_den, hx, den, denL_get, ha, Option.map_some]; exact nn_den hg)
      · exact hg.elim
    · exact hg.elim
  | nchk x =>
    simp only [rdT] at hg
    split at hg
    all_goals first
      | (rename_i hx; cases hg; exact fin (by simp only [rdop, evT_den, hx, den]))
      | exact hg.elim
  | slc s x lo hi =>
    simp only [rdT] at hg
    split at hg
    · rename_i a b ha hb
      have slice : ∀ (k : Nat) (p : Path) (off len : Nat) (r' : TR T.El) (v1 : VT T), den T.toTT0 (denH T.toTT0 h) (evT e x) = .sl k p off len → res (denH T.toTT0 h) k p = some ((denR T.toTT0 r').s, (denR T.toTT0 r').xs) → (denR T.toTT0 r').s = s →
          (cutT len a b (fun a b => .ok (.sl k p (off + a) (b - a))) (.ok v1)).gives v → den T.toTT0 (denH T.toTT0 h) v1 = .sl k p off len → ∃ av, rdop (ev (denE T.toTT0 (denH T.toTT0 h) e)) (res (denH T.toTT0 h)) (.slc s x lo hi) = some av ∧ AVle av (den T.toTT0 (denH T.toTT0 h) v) := by
        intro k p off len r' v1 hx hr hs hg h1
        obtain ⟨l, m, q1, q2, q3, q4⟩ := cutT_ok (h := denH T.toTT0 h) ha hb hg
        have : rdop (ev (denE T.toTT0 (denH T.toTT0 h) e)) (res (denH T.toTT0 h)) (.slc s x lo hi) = some (.sl k p (off + l) (m - l)) := by
          simp only [rdop, evT_den, hx, hr, hs, if_true, q1]
        rcases q4 with hv | ⟨rfl, rfl, hv⟩
        · cases hv; exact ⟨_, this, AVle.refl _⟩
        · cases hv
          exact ⟨_, this, by rw [h1, Nat.add_zero, Nat.sub_zero]; exact AVle.refl _⟩
      split at hg
      · rename_i k p off len hx
        obtain ⟨r', hr, hg⟩ := atT_ok hg
        obtain ⟨hs, hg⟩ := bif_gives hg
        exact slice k p off len r' (.sl k p off len) (by rw [hx]; rfl) hr (Nat.eq_of_beq_eq_true hs) hg rfl
      · rename_i k p hx
        obtain ⟨r', hr, hg⟩ := atT_ok hg
        have hl : lenAt (denH T.toTT0 h) k p = (denR T.toTT0 r').xs.length := by unfold lenAt; rw [hr]
        have cut0 : ∀ {len : Nat} {w : RT T}, (cutT len a b (fun a b => .ok (.sl k p a (b - a))) w).gives v → (cutT len a b (fun a b => .ok (.sl k p (0 + a) (b - a))) w).gives v := fun hg => by
          simpa only [Nat.zero_add] using hg
        split at hg
        all_goals
          obtain ⟨hs, hg⟩ := bif_gives hg
          exact slice k p 0 _ _ (.sw k p) (by rw [hx]; simp only [den, hl]; rfl) hr (Nat.eq_of_beq_eq_true hs) (by simpa [denR] using cut0 hg) (by simp only [den, hl])
      · rename_i t xs hx
        obtain ⟨hs, hg⟩ := bif_gives hg
        obtain ⟨l, m, q1, q2, q3, q4⟩ := cutT_ok (h := denH T.toTT0 h) ha hb hg
        have : rdop (ev (denE T.toTT0 (denH T.toTT0 h) e)) (res (denH T.toTT0 h)) (.slc s x lo hi) = some (.im s (((xs.map (T.ca false t)).take m).drop l)) := by
          simp only [rdop, evT_den, hx, den, Nat.eq_of_beq_eq_true hs, if_true, List.length_map, q1]
        refine ⟨_, this, ?_⟩
        rcases q4 with hv | ⟨rfl, rfl, hv⟩
        · cases hv
          simp only [den, part_map, Nat.eq_of_beq_eq_true hs]; exact AVle.refl _
        · cases hv
          simp only [den, Nat.eq_of_beq_eq_true hs, List.drop_zero]
          rw [List.take_of_length_le (by simp)]; exact AVle.refl _
      · rename_i hx
        obtain ⟨l, m, q1, q2, q3, q4⟩ := cutT_ok (h := denH T.toTT0 h) ha hb hg
        have : v = .zs := by
          rcases q4 with hv | ⟨_, _, hv⟩ <;> exact hv
        subst this
        exact fin (by simp only [rdop, evT_den, hx, den, q1])
      · exact hg.elim
    · exact hg.elim
  | slc0 x =>
    simp only [rdT] at hg
    split at hg
    all_goals first
      | (rename_i hx; cases hg; exact fin (by simp only [rdop, evT_den, hx, den]))
      | exact hg.elim
  | sls x lo hi =>
    simp only [rdT] at hg
    split at hg
    · rename_i a b s ha hb hx
      obtain ⟨l, m, q1, q2, q3, q4⟩ := cutT_ok (h := denH T.toTT0 h) ha hb hg
      have : rdop (ev (denE T.toTT0 (denH T.toTT0 h) e)) (res (denH T.toTT0 h)) (.sls x lo hi) = some (.sc (.string (s.extract l m))) := by
        simp only [rdop, evT_den, hx, den, q1]
      refine ⟨_, this, ?_⟩
      rcases q4 with hv | ⟨rfl, rfl, hv⟩
      · cases hv; exact AVle.refl _
      · cases hv
        have : s.extract 0 s.size = s := by simp
        rw [this]; exact AVle.refl _
    · exact hg.elim
  | build zero parts =>
    simp only [rdT] at hg
    split at hg
    · rename_i cs hcs
      cases hg
      have := fillT_ok (h := denH T.toTT0 h) _ _ _ hcs
      rw [constT_ok, List.map_map] at this
      refine fin ?_
      simp only [rdop, den]
      have e1 : (parts.map fun (o, n, x) => (o, n, ev (denE T.toTT0 (denH T.toTT0 h) e) x)) = parts.map ((fun (o, n, x) => (o, n, den T.toTT0 (denH T.toTT0 h) x)) ∘ fun (o, n, x) => (o, n, evT e x)) :=
        List.map_congr_left fun ⟨o, n, x⟩ _ => by simp only [Function.comp, evT_den]
      rw [e1, this]
    · exact hg.elim
  | mkf f caps =>
    simp only [rdT] at hg
    obtain ⟨hc, hg⟩ := bif_gives hg
    cases hg
    refine fin ?_
    simp only [rdop, den]
    rw [if_pos, denL_map, List.map_map]
    · congr 2
      exact List.map_congr_left fun x _ => evT_den x
    · rw [List.all_eq_true] at hc ⊢
      intro x hx
      have := hc x hx
      rw [evT_den]
      cases hv : evT e x <;> rw [hv] at this <;> simp_all [den, nn]
  | mm isMax x y =>
    simp only [rdT] at hg
    split at hg
    · rename_i k a k' b ha hb
      obtain ⟨hk, hg⟩ := ite_gives hg
      exact sc (by simp only [rdop, evT_den, asc_den ha, asc_den hb]; rw [if_pos hk]) (scR_some _ hg)
    · exact hg.elim
  | box _ _ => exact hg.elim
  | bsl _ _ _ _ => exact hg.elim
  | mks _ _ _ _ => exact hg.elim
  | app _ _ _ _ => exact hg.elim
  | store _ _ _ => exact hg.elim
  | call _ _ => exact hg.elim
  | callv _ _ => exact hg.elim
end
end Loom
set_option linter.unusedVariables false
set_option linter.unusedSimpArgs false
namespace Loom
open Go

section
variable {T : TT}

theorem AVle.ag {l l' : List AV} (h : ∀ (I : Nat → Prop) (σ : Pl) (B : Blocks) (v : List Value), VaC I σ B l v → VaC I σ B l' v) : AVle (.ag l) (.ag l') := fun I σ B v ⟨a, h1, h2⟩ => ⟨a, h1, h I σ B _ h2⟩
theorem AVle.tu {l l' : List AV} (h : ∀ (I : Nat → Prop) (σ : Pl) (B : Blocks) (v : List Value), VaL I σ B l v → VaL I σ B l' v) : AVle (.tu l) (.tu l') := fun I σ B v ⟨a, h1, h2⟩ => ⟨a, h1, h I σ B _ h2⟩
theorem AVle.fn {f : Nat} {l l' : List AV} (h : ∀ (I : Nat → Prop) (σ : Pl) (B : Blocks) (v : List Value), VaL I σ B l v → VaL I σ B l' v) : AVle (.fn f l) (.fn f l') := fun I σ B v ⟨a, h1, h2⟩ => ⟨a, h1, h I σ B _ h2⟩
inductive AVles : List AV → List AV → Prop
  | nil : AVles [] []
  | cons {a b : AV} {l l' : List AV} : AVle a b → AVles l l' → AVles (a :: l) (b :: l')
theorem AVles.C {l l' : List AV} (h : AVles l l') : ∀ (I : Nat → Prop) (σ : Pl) (B : Blocks) (v : List Value), VaC I σ B l v → VaC I σ B l' v := by
  induction h with
  | nil => exact fun _ _ _ _ h => h
  | cons h1 _ ih => exact fun I σ B v ⟨u, cs, h2, h3, h4, h5⟩ => ⟨u, cs, h2, h3, h1 I σ B u h4, ih I σ B cs h5⟩
theorem AVles.L {l l' : List AV} (h : AVles l l') : ∀ (I : Nat → Prop) (σ : Pl) (B : Blocks) (v : List Value), VaL I σ B l v → VaL I σ B l' v := by
  induction h with
  | nil => exact fun _ _ _ _ h => h
  | cons h1 _ ih => exact fun I σ B v ⟨u, cs, h2, h4, h5⟩ => ⟨u, cs, h2, h1 I σ B u h4, ih I σ B cs h5⟩
theorem lenAt_congr {h h' : H} {k : Nat} {p : Path} (hg : getRow h' k = getRow h k) : lenAt h' k p = lenAt h k p := by
  unfold lenAt res; rw [hg]

mutual
/-- What falls by b1 falls by bad. -/
theorem kill_le {H0 H1 : H} {b1 bad bw : Nat → Path → Bool} (hb : ∀ k p, b1 k p = true → bad k p = true) (hl : ∀ k p, bad k p = false → bw k p = false → lenAt H1 k p = lenAt H0 k p) : ∀ (v : VT T), AVle (kill b1 (den T.toTT0 H0 v)) (den T.toTT0 H1 (killT bad bw v))
  | .un | .sc _ | .ik _ _ | .bk _ | .zs | .im _ _ | .ip _ _ _ | .ow _ _ _ | .oo _ _ _ _ _ => AVle.refl _
  | .ag cs => by simp only [den, kill, killT]; exact AVle.ag (kill_les hb hl cs).C
  | .tu cs => by simp only [den, kill, killT]; exact AVle.tu (kill_les hb hl cs).L
  | .fn f cs => by simp only [den, kill, killT]; exact AVle.fn (kill_les hb hl cs).L
  | .sl k p off len => by
    simp only [den, kill, killT]
    cases h1 : bad k p with
    | true => simp only [cond_true, den]; exact AVle.un _
    | false =>
      have : b1 k p = false := by cases h2 : b1 k p with | false => rfl | true => rw [hb k p h2] at h1; cases h1
      simp only [this, Bool.false_eq_true, if_false, cond_false, den]; exact AVle.refl _
  | .pt k p i c => by
    simp only [den, kill, killT]
    cases h1 : bad k p with
    | true => simp only [cond_true, den]; exact AVle.un _
    | false =>
      have : b1 k p = false := by cases h2 : b1 k p with | false => rfl | true => rw [hb k p h2] at h1; cases h1
      simp only [this, Bool.false_eq_true, if_false, cond_false, den]; exact AVle.refl _
  | .sw k p => by
    simp only [den, kill, killT]
    cases h1 : bad k p with
    | true => simp only [Bool.true_or, cond_true, den]; exact AVle.un _
    | false =>
      have : b1 k p = false := by cases h2 : b1 k p with | false => rfl | true => rw [hb k p h2] at h1; cases h1
      simp only [this, Bool.false_eq_true, if_false, Bool.false_or]
      cases h3 : bw k p with
      | true => simp only [cond_true, den]; exact AVle.un _
      | false => simp only [cond_false, den, hl k p h1 h3]; exact AVle.refl _
theorem kill_les {H0 H1 : H} {b1 bad bw : Nat → Path → Bool} (hb : ∀ k p, b1 k p = true → bad k p = true) (hl : ∀ k p, bad k p = false → bw k p = false → lenAt H1 k p = lenAt H0 k p) : ∀ (l : List (VT T)), AVles (killL b1 (denL T.toTT0 H0 l)) (denL T.toTT0 H1 (killTL bad bw l))
  | [] => .nil
  | x :: l => .cons (kill_le hb hl x) (kill_les hb hl l)
end
theorem nobad (a : AV) : kill (fun _ _ => false) a = a := by
  have key : (∀ a : AV, kill (fun _ _ => false) a = a) ∧ (∀ l : List AV, killL (fun _ _ => false) l = l) := by
    constructor
    · intro a
      induction a using AV.rec (motive_2 := fun l => killL (fun _ _ => false) l = l) (motive_3 := fun _ => True) with
      | un | sc _ | zs | im _ _ _ | ip _ _ _ _ _ | ow _ _ _ => rfl
      | ag cs ih => simp only [kill, ih]
      | tu cs ih => simp only [kill, ih]
      | sl k p off len => simp [kill]
      | pt k p i c => simp [kill]
      | fn f cs ih => simp only [kill, ih]
      | nil => rfl
      | cons a l h1 h2 => simp only [killL, h1, h2]
      | _ => trivial
    · intro l
      induction l with
      | nil => rfl
      | cons x l ih =>
        simp only [killL, ih]
        congr 1
        induction x using AV.rec (motive_2 := fun l => killL (fun _ _ => false) l = l) (motive_3 := fun _ => True) with
        | un | sc _ | zs | im _ _ _ | ip _ _ _ _ _ | ow _ _ _ => rfl
        | ag cs ih => simp only [kill, ih]
        | tu cs ih => simp only [kill, ih]
        | sl k p off len => simp [kill]
        | pt k p i c => simp [kill]
        | fn f cs ih => simp only [kill, ih]
        | nil => rfl
        | cons a l h1 h2 => simp only [killL, h1, h2]
        | _ => trivial
  exact key.1 a

/-! ### what an instruction that changes rows answers -/
structure StT (T : TT) where
  v : VT T
  bad : Nat → Path → Bool
  bw : Nat → Path → Bool
  tch : List Nat
  h : TH T.toTT0
/-- What it owes. -/
def StOk (P : Program) (pro : List Nat) (T : TT) (e : TE T.toTT0) (h : TH T.toTT0) (x : Ins) (s : StT T) : Prop :=
  (∀ (e' : Env), (∀ t ∈ usesI x, e' t = denE T.toTT0 (denH T.toTT0 h) e t) → ∃ e0 h0' e1 h1', Ghost P pro e' (denH T.toTT0 h) e0 h0' ∧ (∀ t b, e' t = Bl b → e0 t = Bl b) ∧ IStep P pro e0 h0' x.dst x.op e1 h1' ∧ Ghost P pro e1 h1' (upd (fun t => kill s.bad (e' t)) x.dst (den T.toTT0 (denH T.toTT0 s.h) s.v)) (denH T.toTT0 s.h)) ∧
  (∀ k p, s.bad k p = false → s.bw k p = false → lenAt (denH T.toTT0 s.h) k p = lenAt (denH T.toTT0 h) k p) ∧
  (∀ k, s.tch.contains k = false → getRow (denH T.toTT0 s.h) k = getRow (denH T.toTT0 h) k)
/-- The slots behind it. -/
def StT.env (s : StT T) (e : TE T.toTT0) (d : Nat) : TE T.toTT0 := putE (killTE s.bad s.bw e) d s.v
theorem StT.env_ghost {P : Program} {pro : List Nat} {e : TE T.toTT0} {h : TH T.toTT0} {d : Nat} {s : StT T} (hl : ∀ k p, s.bad k p = false → s.bw k p = false → lenAt (denH T.toTT0 s.h) k p = lenAt (denH T.toTT0 h) k p) :
    Ghost P pro (upd (fun t => kill s.bad (denE T.toTT0 (denH T.toTT0 h) e t)) d (den T.toTT0 (denH T.toTT0 s.h) s.v)) (denH T.toTT0 s.h) (denE T.toTT0 (denH T.toTT0 s.h) (s.env e d)) (denH T.toTT0 s.h) := by
  refine Ghost.le fun t => ?_
  rw [StT.env, denE_put]
  refine AVle.upd (fun t => ?_) (AVle.refl _) t
  simp only [denE, getE_kill]
  exact kill_le (fun _ _ h => h) hl _

/-! ### rows taken in -/
theorem getRow_del {k k' : Nat} (hk : k' ≠ k) : ∀ (h : H), getRow (delRow h k) k' = getRow h k'
  | [] => rfl
  | (k1, r) :: h => by
    simp only [delRow, getRow]
    by_cases e : k1 = k
    · subst e
      simp only [if_true]
      rw [if_neg (fun e => hk e.symm)]
    · rw [if_neg e]
      simp only [getRow, getRow_del hk h]
def absT (h : TH T.toTT0) (g : List Nat) : VT T → Option (VT T × List Nat × TH T.toTT0)
  | .sc u => bif u.oneCell' then some (.sc u, g, h) else none
  | .ik k n => some (.sc (.int k n), g, h)
  | .bk b => some (.sc (.bool b), g, h)
  | .zs => some (.zs, g, h)
  | .im t xs => some (.im t xs, g, h)
  | .sw k [] => bif g.contains k then none else
    match getT h k with
    | some (.typ m t xs) => some (.ow m t xs, k :: g, delT h k)
    | some (.opn m t xs i cs) => some (.oo m t xs i cs, k :: g, delT h k)
    | _ => none
  | _ => none
def absTL (h : TH T.toTT0) (g : List Nat) : List (VT T) → Option (List (VT T) × List Nat × TH T.toTT0)
  | [] => some ([], g, h)
  | v :: l =>
    match absT h g v with
    | some (v', g1, h1) => match absTL h1 g1 l with
      | some (l', g2, h2) => some (v' :: l', g2, h2)
      | none => none
    | none => none
def absTE (h : TH T.toTT0) (g : List Nat) : List (List (VT T)) → Option (List (List (VT T)) × List Nat × TH T.toTT0)
  | [] => some ([], g, h)
  | v :: l =>
    match absTL h g v with
    | some (v', g1, h1) => match absTE h1 g1 l with
      | some (l', g2, h2) => some (v' :: l', g2, h2)
      | none => none
    | none => none
/-- How far rows are taken in: all but those gone stand as they stood. -/
structure Gone (H0 : H) (h : TH T.toTT0) (g g' : List Nat) (h' : TH T.toTT0) : Prop where
  sub : ∀ k, g.contains k = true → g'.contains k = true
  same : ∀ k, g'.contains k = false → getRow (denH T.toTT0 h') k = getRow H0 k
theorem absT_ok {H0 : H} {h h' : TH T.toTT0} {g g' : List Nat} {v v' : VT T} (hs : ∀ k, g.contains k = false → getRow (denH T.toTT0 h) k = getRow H0 k) (ha : absT h g v = some (v', g', h')) :
    absC (denH T.toTT0 h) (den T.toTT0 H0 v) = some (den T.toTT0 [] v', denH T.toTT0 h') ∧ Gone (T := T) H0 h g g' h' := by
  have triv : Gone (T := T) H0 h g g h := ⟨fun _ h => h, hs⟩
  unfold absT at ha
  split at ha
  · rename_i u
    cases hu : u.oneCell' with
    | false => rw [hu] at ha; cases ha
    | true => rw [hu] at ha; cases ha; exact ⟨by simp [den, absC, hu], triv⟩
  · cases ha; exact ⟨by simp [den, absC, Value.oneCell'], triv⟩
  · cases ha; exact ⟨by simp [den, absC, Value.oneCell'], triv⟩
  · cases ha; exact ⟨by simp [den, absC], triv⟩
  · cases ha; exact ⟨by simp [den, absC], triv⟩
  · rename_i k
    cases hc : g.contains k with
    | true => rw [hc] at ha; cases ha
    | false =>
      rw [hc] at ha
      simp only [cond_false] at ha
      have row : ∀ (r : TR T.El) (w : VT T), getT h k = some r → den T.toTT0 [] w = .ow (denR T.toTT0 r).s (denR T.toTT0 r).xs → absC (denH T.toTT0 h) (den T.toTT0 H0 (.sw k [])) = some (den T.toTT0 [] w, denH T.toTT0 (delT h k)) ∧ Gone (T := T) H0 h g (k :: g) (delT h k) := by
        intro r w hr hw
        have h1 : getRow (denH T.toTT0 h) k = some (denR T.toTT0 r) := by rw [getT_row, hr]; rfl
        have h2 : lenAt H0 k [] = (denR T.toTT0 r).xs.length := by
          unfold lenAt res
          rw [← hs k hc, h1]
          rfl
        refine ⟨?_, ?_, fun k' hk' => ?_⟩
        · simp only [den, absC, h1, h2]
          rw [if_pos ⟨trivial, trivial⟩, if_pos (Nat.le_refl _), List.take_length, delT_row, hw]
        · intro k' hk'; simp [hk']; exact .inr (by simpa using hk')
        · simp only [List.contains_cons, Bool.or_eq_false_iff, beq_eq_false_iff_ne] at hk'
          rw [← delT_row, getRow_del hk'.1, hs k' hk'.2]
      split at ha
      · rename_i m t xs hr
        cases ha
        exact row _ _ hr rfl
      · rename_i m t xs i cs hr
        cases ha
        exact row _ _ hr rfl
      · cases ha
  · cases ha
theorem absTL_ok {H0 : H} : ∀ (l l' : List (VT T)) (h h' : TH T.toTT0) (g g' : List Nat), (∀ k, g.contains k = false → getRow (denH T.toTT0 h) k = getRow H0 k) → absTL h g l = some (l', g', h') →
    absL (denH T.toTT0 h) (denL T.toTT0 H0 l) = some (denL T.toTT0 [] l', denH T.toTT0 h') ∧ Gone (T := T) H0 h g g' h'
  | [], _, h, _, g, _, hs, ha => by cases ha; exact ⟨rfl, fun _ h => h, hs⟩
  | v :: l, _, h, _, g, _, hs, ha => by
    unfold absTL at ha
    split at ha
    · rename_i v' g1 h1 hv
      split at ha
      · rename_i l' g2 h2 hl
        cases ha
        obtain ⟨q1, q2⟩ := absT_ok hs hv
        obtain ⟨q3, q4⟩ := absTL_ok l l' h1 _ g1 _ q2.same hl
        exact ⟨by simp only [denL, absL, q1, q3], fun k hk => q4.sub k (q2.sub k hk), q4.same⟩
      · cases ha
    · cases ha
theorem absTE_ok {H0 : H} : ∀ (l l' : List (List (VT T))) (h h' : TH T.toTT0) (g g' : List Nat), (∀ k, g.contains k = false → getRow (denH T.toTT0 h) k = getRow H0 k) → absTE h g l = some (l', g', h') →
    absE (denH T.toTT0 h) (l.map (denL T.toTT0 H0)) = some (l'.map (denL T.toTT0 []), denH T.toTT0 h') ∧ Gone (T := T) H0 h g g' h' ∧ l'.length = l.length
  | [], _, h, _, g, _, hs, ha => by cases ha; exact ⟨rfl, ⟨fun _ h => h, hs⟩, rfl⟩
  | v :: l, _, h, _, g, _, hs, ha => by
    unfold absTE at ha
    split at ha
    · rename_i v' g1 h1 hv
      split at ha
      · rename_i l' g2 h2 hl
        cases ha
        obtain ⟨q1, q2⟩ := absTL_ok _ _ _ _ _ _ hs hv
        obtain ⟨q3, q4, q5⟩ := absTE_ok l l' h1 _ g1 _ q2.same hl
        exact ⟨by simp only [List.map_cons, absE, q1, q3], ⟨fun k hk => q4.sub k (q2.sub k hk), q4.same⟩, by simp [q5]⟩
      · cases ha
    · cases ha
theorem gone_start {h : TH T.toTT0} {k : Nat} : ∀ k', [k].contains k' = false → getRow (denH T.toTT0 (delT h k)) k' = getRow (denH T.toTT0 h) k' := fun k' hk => by
  rw [← delT_row, getRow_del]
  simpa using hk
end
end Loom
set_option linter.unusedVariables false
set_option linter.unusedSimpArgs false
namespace Loom
open Go

/-- What nothing in a cell of a column is seen as. -/
def fix1 (o : Option AV) : AV → AV
  | .zs => o.getD .zs
  | y => y
def fixA (tg : Nat → Option AV) : Nat → List AV → List AV
  | _, [] => []
  | c, y :: ys => fix1 (tg c) y :: fixA tg (c + 1) ys
def tgOk (tg : Nat → Option AV) : Prop := ∀ c a, tg c = some a → ∃ s, a = .im s [] ∨ a = .ow s []
theorem fixA_len (tg : Nat → Option AV) : ∀ (l : List AV) (c : Nat), (fixA tg c l).length = l.length
  | [], _ => rfl
  | y :: l, c => by simp [fixA, fixA_len tg l]
def zsAt (tg : Nat → Option AV) (xs : Els) (i c : Nat) : Bool :=
  match (xs[i]?).bind (·[c]?) with
  | some y => isZ y && (tg c).isSome
  | none => false
def fixBad (tg : Nat → Option AV) (k : Nat) (k' : Nat) (q : Path) : Bool := k' == k && match q with | (_, c) :: _ => (tg c).isSome | [] => false

section
variable {I : Nat → Prop} {σ σ1 : Pl} {B : Blocks} {k : Nat} {tg : Nat → Option AV}

theorem CeC.fix (ht : tgOk tg) (i : Nat) : ∀ (ys : List AV) (c : Nat) (cs : List Value),
    (∀ j y, ys[j]? = some y → (y = .zs → (tg (c + j)).isSome = true → σ1 k [(i, c + j)] = none) ∧ ((y = .zs → (tg (c + j)).isSome = false) → ∀ q, σ1 k ((i, c + j) :: q) = σ k ((i, c + j) :: q))) →
    CeC I σ B k [] i c ys cs → CeC I σ1 B k [] i c (fixA tg c ys) cs ∧ fpC σ1 k [] i c (fixA tg c ys) = fpC σ k [] i c ys
  | [], c, cs, _, h => ⟨h, rfl⟩
  | y :: ys, c, _, hj, h => by
    obtain ⟨v, cs', rfl, h1, h2⟩ := h
    obtain ⟨t1, t2⟩ := CeC.fix ht i ys (c + 1) cs' (fun j y' hy => by
      have := hj (j + 1) y' (by simpa using hy)
      rwa [show c + (j + 1) = c + 1 + j by omega] at this) h2
    have h0 := hj 0 y rfl
    rw [Nat.add_zero] at h0
    have keep : ((y = .zs → (tg c).isSome = false)) → Ce I σ1 B k [] i c y v ∧ fpA σ1 k [] i c y = fpA σ k [] i c y := fun hk =>
      ⟨Ce.ren (p := []) (p' := []) (fun q => h0.2 hk q) y v h1, fpA.ren (p := []) (p' := []) (fun q => h0.2 hk q) y⟩
    have key : Ce I σ1 B k [] i c (fix1 (tg c) y) v ∧ fpA σ1 k [] i c (fix1 (tg c) y) = fpA σ k [] i c y := by
      cases y with
      | zs =>
        simp only [fix1]
        cases hc : tg c with
        | none => simp only [Option.getD_none]; exact keep (fun _ => by simp [hc])
        | some a =>
          simp only [Option.getD_some]
          have hn := h0.1 rfl (by simp [hc])
          obtain ⟨s, rfl | rfl⟩ := ht c a hc
          · refine ⟨?_, rfl⟩
            obtain ⟨x, hx⟩ := h1
            exact ⟨x, 0, hx, Nat.le_refl _, fun hn => absurd rfl hn⟩
          · refine ⟨?_, by simp only [fpA, List.nil_append, hn]⟩
            simp only [Ce, List.nil_append, hn]
            exact ⟨trivial, h1⟩
      | _ => exact keep (fun h => by cases h)
    exact ⟨⟨v, cs', rfl, key.1, t1⟩, by rw [fixA, fpC, fpC, t2, key.2]⟩
theorem CeE.fix (ht : tgOk tg) (s : Nat) : ∀ (xs : Els) (i : Nat) (cs : List Value),
    (∀ n x j y, xs[n]? = some x → x[j]? = some y → (y = .zs → (tg j).isSome = true → σ1 k [(i + n, j)] = none) ∧ ((y = .zs → (tg j).isSome = false) → ∀ q, σ1 k ((i + n, j) :: q) = σ k ((i + n, j) :: q))) →
    CeE I σ B k [] i s xs cs → CeE I σ1 B k [] i s (xs.map (fixA tg 0)) cs ∧ fpE σ1 k [] i (xs.map (fixA tg 0)) = fpE σ k [] i xs
  | [], _, _, _, h => ⟨trivial, rfl⟩
  | x :: xs, i, cs, hj, h => by
    obtain ⟨t1, t2⟩ := CeE.fix ht s xs (i + 1) _ (fun n x' j y hx hy => by
      have := hj (n + 1) x' j y (by simpa using hx) hy
      rwa [show i + (n + 1) = i + 1 + n by omega] at this) h.2.2
    obtain ⟨u1, u2⟩ := CeC.fix (σ1 := σ1) ht i x 0 _ (fun j y hy => by
      have := hj 0 x j y rfl hy
      simpa using this) h.2.1
    exact ⟨⟨by rw [fixA_len]; exact h.1, u1, t1⟩, by rw [List.map_cons, fpE, fpE, t2, u2]⟩
end

section
variable {P : Program} {pro : List Nat} {e : Env} {h : H}
theorem Ghost.fix {k : Nat} {r : Row} (tg : Nat → Option AV) (ht : tgOk tg) (hg : getRow h k = some r) :
    Ghost P pro e h (killE (fixBad tg k) e) ((k, ⟨r.s, r.xs.map (fixA tg 0)⟩) :: delRow h k) := by
  intro I N σ a w R
  let σ1 : Pl := fun k' q => match q with | [(i, c)] => if k' = k ∧ zsAt tg r.xs i c = true then none else σ k' q | q => σ k' q
  have hne : ∀ k', k' ≠ k → ∀ q, σ1 k' q = σ k' q := fun k' hk q => by
    simp only [σ1]
    split
    · rw [if_neg (fun h => hk h.1)]
    · rfl
  have hσ0 : σ1 k [] = σ k [] := rfl
  obtain ⟨d1, d2, d3, d4, d5, d6⟩ := R.heap.del hg
  have hcell : ∀ n x j y, r.xs[n]? = some x → x[j]? = some y → (y = .zs → (tg j).isSome = true → σ1 k [(n, j)] = none) ∧ ((y = .zs → (tg j).isSome = false) → ∀ q, σ1 k ((n, j) :: q) = σ k ((n, j) :: q)) := by
    intro n x j y hx hy
    have hz : zsAt tg r.xs n j = (isZ y && (tg j).isSome) := by
      unfold zsAt
      simp only [hx, Option.bind_some, hy]
    refine ⟨fun h1 h2 => ?_, fun h1 q => ?_⟩
    · simp only [σ1]
      rw [if_pos ⟨trivial, by rw [hz, h1, h2]; rfl⟩]
    · cases q with
      | nil =>
        simp only [σ1]
        rw [if_neg]
        rintro ⟨_, h2⟩
        rw [hz, Bool.and_eq_true] at h2
        have : y = .zs := by cases y <;> first | rfl | (simp [isZ] at h2)
        have := h1 this
        rw [this] at h2
        simp at h2
      | cons _ _ => rfl
  have hrow : RowOk I σ1 (bl w) k ⟨r.s, r.xs.map (fixA tg 0)⟩ ∧ fpR σ1 k ⟨r.s, r.xs.map (fixA tg 0)⟩ = fpR σ k r := by
    unfold RowOk at d2 ⊢
    unfold fpR
    rw [hσ0]
    cases hL : σ k [] with
    | none =>
      simp only [hL] at d2 ⊢
      exact ⟨by simp [d2], trivial⟩
    | some L =>
      simp only [hL] at d2 ⊢
      obtain ⟨f1, f2, cur, E, f3, f4, f5⟩ := d2
      obtain ⟨t1, t2⟩ := CeE.fix (σ1 := σ1) ht r.s r.xs 0 _ (fun n x j y hx hy => by simpa using hcell n x j y hx hy) f5
      exact ⟨⟨f1, by simpa using f2, cur, E, f3, f4, t1⟩, by rw [t2]⟩
  have hadd := d1.add (σ' := σ1) (w' := w) (k := k) (r := ⟨r.s, r.xs.map (fixA tg 0)⟩) d3 hne (fun _ _ _ => rfl) (Nat.le_refl _) hrow.1 (by rw [hrow.2]; exact d4) (fun b hb => by
    rw [hrow.2] at hb
    exact ⟨(d5 b hb).1, R.heap.apart b (d5 b hb).2⟩)
  refine ⟨σ1, I, fun _ h => h, fun _ h => .inl h, ⟨hadd, R.size, fun t => ?_, R.defers⟩, fun k' _ => ?_, Le.refl _, fun _ _ _ => rfl, fun b hb => .inl ?_⟩
  · refine Va.kill (fun k' q hb => ?_) _ _ (R.vals t)
    simp only [σ1]
    split
    · rename_i i c
      rw [if_neg]
      rintro ⟨e1, e2⟩
      subst e1
      have : (tg c).isSome = true := by
        unfold zsAt at e2
        split at e2
        · simp only [Bool.and_eq_true] at e2; exact e2.2
        · cases e2
      simp [fixBad, this] at hb
    · rfl
  · rfl
  · rw [fpH_cons, hrow.2, fpH.ren _ (fun k' hk' q => hne k' (fun e => by subst e; exact d3 hk') q)] at hb
    rcases List.mem_append.1 hb with hb | hb
    · exact (d5 b hb).2
    · exact d6 b hb
end
end Loom
set_option linter.unusedVariables false
set_option linter.unusedSimpArgs false
namespace Loom
open Go

section
variable {T : TT}

def kdAV (T : TT) : Kd → Option AV
  | .no => none
  | .im t => some (.im (T.sz t) [])
  | .ow m t => some (.ow (T.sz t) [])
def tgOf (T : TT) (ks : List Kd) (c : Nat) : Option AV := (ks[c]?).bind (kdAV T)
theorem tgOf_ok (ks : List Kd) : tgOk (tgOf T ks) := fun c a h => by
  unfold tgOf at h
  cases hk : ks[c]? with
  | none => rw [hk] at h; cases h
  | some k =>
    rw [hk] at h
    cases k <;> cases h
    · exact ⟨_, .inl rfl⟩
    · exact ⟨_, .inr rfl⟩
def fixT : List Kd → List (VT T) → List (VT T)
  | k :: ks, v :: vs => (match v with | .zs => (match k with | .im t => .im t [] | .ow m t => .ow m t [] | .no => .zs) | v => v) :: fixT ks vs
  | [], vs => vs
  | _, [] => []
theorem fixA_none : ∀ (l : List AV) (tg : Nat → Option AV) (c : Nat), (∀ j, tg (c + j) = none) → fixA tg c l = l
  | [], _, _, _ => rfl
  | y :: l, tg, c, h => by
    have h0 := h 0
    rw [Nat.add_zero] at h0
    rw [fixA, fixA_none l tg (c + 1) (fun j => by rw [show c + 1 + j = c + (j + 1) by omega]; exact h _), h0]
    cases y <;> rfl
theorem den_zs {h : H} {v : VT T} (hv : v ≠ .zs) (o : Option AV) : fix1 o (den T.toTT0 h v) = den T.toTT0 h v := by
  cases v <;> first | exact absurd rfl hv | rfl
theorem fixT_ok {h : H} (ks : List Kd) : ∀ (vs : List (VT T)) (c : Nat), denL T.toTT0 h (fixT (ks.drop c) vs) = fixA (tgOf T ks) c (denL T.toTT0 h vs)
  | [], c => by
    cases ks.drop c <;> rfl
  | v :: vs, c => by
    have ih := fixT_ok (h := h) ks vs (c + 1)
    cases hd : ks.drop c with
    | nil =>
      have : ∀ j, tgOf T ks (c + j) = none := fun j => by
        unfold tgOf
        have hl : ks.length ≤ c := by simpa using hd
        rw [List.getElem?_eq_none (by omega)]; rfl
      rw [fixA_none _ _ _ this]
      rfl
    | cons k ks' =>
      have hk : ks[c]? = some k := by
        have := congrArg (·[0]?) hd
        simpa using this
      have hd' : ks.drop (c + 1) = ks' := by
        rw [← List.drop_drop, hd]; rfl
      rw [hd'] at ih
      have htg : tgOf T ks c = kdAV T k := by unfold tgOf; rw [hk]; rfl
      simp only [fixT, denL, fixA, ih, htg]
      congr 1
      split
      · cases k <;> rfl
      · rename_i hv
        rw [den_zs hv]
def unL (m : Bool) (t : Nat) : List (List (VT T)) → Option (List (T.El t))
  | [] => some []
  | x :: l => match T.un m t x, unL m t l with | some y, some ys => some (y :: ys) | _, _ => none
theorem unL_ok {m : Bool} {t : Nat} : ∀ (l : List (List (VT T))) (ys : List (T.El t)), unL m t l = some ys → l.map (denL T.toTT0 []) = ys.map (T.ca m t)
  | [], ys, h => by cases h; rfl
  | x :: l, ys, h => by
    unfold unL at h
    split at h
    · rename_i y ys' h1 h2
      cases h
      rw [List.map_cons, List.map_cons, T.un_ok _ _ _ _ h1, unL_ok l ys' h2]
    · cases h
/-- A row of known cells: as it is, or of a type. -/
def rowT (ty : Option (Bool × Nat)) (s : Nat) (xs : List (List (VT T))) : Option (TR T.El) :=
  match ty with
  | none => some (.lit s xs)
  | some (m, t) => bif Nat.beq (T.sz t) s then match unL m t (xs.map (fixT (T.ks m t))) with | some ys => some (.typ m t ys) | none => none else none
theorem rowT_ok {ty : Option (Bool × Nat)} {s : Nat} {xs : List (List (VT T))} {r : TR T.El} (hr : rowT ty s xs = some r) : ∃ tg, tgOk tg ∧ denR T.toTT0 r = ⟨s, (xs.map (denL T.toTT0 [])).map (fixA tg 0)⟩ := by
  unfold rowT at hr
  split at hr
  · cases hr
    refine ⟨fun _ => none, fun _ _ h => (by cases h), ?_⟩
    simp only [denR, List.map_map]
    congr 1
    exact List.map_congr_left fun x _ => (fixA_none _ _ _ (fun _ => rfl)).symm
  · rename_i m t
    cases hb : Nat.beq (T.sz t) s with
    | false => rw [hb] at hr; cases hr
    | true =>
      rw [hb] at hr
      simp only [cond_true] at hr
      split at hr
      · rename_i ys hy
        cases hr
        have := unL_ok _ _ hy
        refine ⟨tgOf T (T.ks m t), tgOf_ok _, ?_⟩
        simp only [denR, ← this, List.map_map, Nat.eq_of_beq_eq_true hb]
        congr 1
        exact List.map_congr_left fun x _ => by
          have := fixT_ok (h := []) (T.ks m t) x 0
          simpa using this
      · cases hr
def chunksT {α : Type} (s : Nat) : Nat → List α → List (List α)
  | 0, _ => []
  | n + 1, l => l.take s :: chunksT s n (l.drop s)
theorem chunksT_ok {h : H} {s : Nat} : ∀ (n : Nat) (l : List (VT T)), (chunksT s n l).map (denL T.toTT0 h) = chunks s n (denL T.toTT0 h l)
  | 0, l => rfl
  | n + 1, l => by
    rw [chunksT, chunks, List.map_cons, chunksT_ok n]
    congr 1
    · simp [denL_map, List.map_take]
    · simp [denL_map, List.map_drop]
theorem chunksT_len {α : Type} {s : Nat} : ∀ (n : Nat) (l : List α), (chunksT s n l).length = n
  | 0, _ => rfl
  | n + 1, l => by simp [chunksT, chunksT_len n]

def mkT (ty : Option (Bool × Nat)) (pro : List Nat) (e : TE T.toTT0) (h : TH T.toTT0) (d : Nat) (b : IB) : Rs (StT T) :=
  bif pro.contains d then .no else
  match b with
  | .box s x =>
    match cellsOfT (evT e x) with
    | none => .no
    | some cs => bif Nat.beq cs.length s then
      match absTE (delT h d) [d] [cs] with
      | none => .no
      | some (xs, g, h') => match rowT ty s xs with
        | none => .no
        | some r => .ok ⟨.pt d [] 0 0, fun k _ => g.contains k, fun _ _ => false, g, (d, r) :: h'⟩
      else .no
  | .bsl s len zero parts =>
    match fillT (List.replicate len (constT zero)).flatten (parts.map fun (i, x) => (i * s, s, evT e x)) with
    | none => .no
    | some cs =>
      match absTE (delT h d) [d] (chunksT s len cs) with
      | none => .no
      | some (xs, g, h') => match rowT ty s xs with
        | none => .no
        | some r => .ok ⟨.sw d [], fun k _ => g.contains k, fun _ _ => false, g, (d, r) :: h'⟩
  | .mks s bytes zero l =>
    match intOf (evT e l), ty with
    | some n, some (m, t) => bif Nat.beq (T.sz t) s then
      match T.un m t (fixT (T.ks m t) (constT zero)) with
      | some z => .need (0 ≤ n ∧ n * (bytes : Int) ≤ 140737488355328) (.ok ⟨.sw d [], fun k _ => [d].contains k, fun _ _ => false, [d], (d, .typ m t (List.replicate n.toNat z)) :: delT h d⟩)
      | none => .no
      else .no
    | _, _ => .no
  | _ => .no

/-- What making a row comes to. -/
structure MkOk (T : TT) (e : TE T.toTT0) (h : TH T.toTT0) (d : Nat) (b : IB) (s : StT T) : Prop where
  ex : ∃ (av : AV) (r : Row) (rest : H) (tg : Nat → Option AV), mkop (ev (denE T.toTT0 (denH T.toTT0 h) e)) (denH T.toTT0 h) d b = some (av, (d, r) :: rest) ∧ tgOk tg ∧ denH T.toTT0 s.h = (d, ⟨r.s, r.xs.map (fixA tg 0)⟩) :: rest ∧
    av = den T.toTT0 (denH T.toTT0 s.h) s.v ∧ (∀ k, kill (fixBad tg k) av = av) ∧ (∀ k p, k = d → s.bad k p = true) ∧ (∀ k p, s.bad k p = false → s.bw k p = false → lenAt (denH T.toTT0 s.h) k p = lenAt (denH T.toTT0 h) k p) ∧ ∀ k, s.tch.contains k = false → getRow (denH T.toTT0 s.h) k = getRow (denH T.toTT0 h) k

theorem new_lens {h h' : TH T.toTT0} {d : Nat} {g : List Nat} {r : TR T.El} (hG : Gone (T := T) (denH T.toTT0 h) (delT h d) [d] g h') :
    (∀ (k : Nat) (p : Path), k = d → g.contains k = true) ∧ (∀ (k : Nat) (p : Path), g.contains k = false → lenAt (denH T.toTT0 ((d, r) :: h')) k p = lenAt (denH T.toTT0 h) k p) ∧
      ∀ (k : Nat), g.contains k = false → getRow (denH T.toTT0 ((d, r) :: h')) k = getRow (denH T.toTT0 h) k := by
  have h1 : ∀ (k : Nat) (p : Path), k = d → g.contains k = true := fun k p hk => hG.sub k (by simp [hk])
  have h2 : ∀ (k : Nat), g.contains k = false → getRow (denH T.toTT0 ((d, r) :: h')) k = getRow (denH T.toTT0 h) k := fun k hk => by
    have hkd : k ≠ d := fun e => by rw [h1 k [] e] at hk; cases hk
    simp only [denH, getRow]
    rw [if_neg (fun e => hkd e.symm)]
    exact hG.same k hk
  exact ⟨h1, fun k p hk => lenAt_congr (h2 k hk), h2⟩
theorem mkT_ok {ty : Option (Bool × Nat)} {pro : List Nat} {e : TE T.toTT0} {h : TH T.toTT0} {d : Nat} {b : IB} {s : StT T} (hg : (mkT ty pro e h d b).gives s) : pro.contains d = false ∧ MkOk T e h d b s := by
  unfold mkT at hg
  cases hp : pro.contains d with
  | true => rw [hp] at hg; exact hg.elim
  | false =>
  refine ⟨rfl, ?_⟩
  rw [hp] at hg
  simp only [cond_false] at hg
  split at hg
  · rename_i s' x
    split at hg
    · exact hg.elim
    · rename_i cs hcs
      obtain ⟨hl, hg⟩ := bif_gives hg
      split at hg
      · exact hg.elim
      · rename_i xs g h' ha
        split at hg
        · exact hg.elim
        · rename_i r hr
          cases hg
          obtain ⟨q1, q2, q3⟩ := absTE_ok (H0 := denH T.toTT0 h) _ _ _ _ _ _ gone_start ha
          obtain ⟨tg, t1, t2⟩ := rowT_ok hr
          obtain ⟨l1, l2, l3⟩ := new_lens (r := r) q2
          have hc := cellsOfT_ok (h := denH T.toTT0 h) hcs
          refine ⟨⟨.pt d [] 0 0, ⟨s', xs.map (denL T.toTT0 [])⟩, denH T.toTT0 h', tg, ?_, t1, ?_, rfl, fun k => rfl |>.trans ?_, l1, fun k p hk _ => l2 k p hk, l3⟩⟩
          · simp only [mkop, evT_den, hc, denL_len]
            rw [if_pos (Nat.eq_of_beq_eq_true hl)]
            simp only [List.map_cons, List.map_nil] at q1
            rw [delT_row, q1]
          · simp only [denH, t2]
          · simp [kill, fixBad]
  · rename_i s' len zero parts
    split at hg
    · exact hg.elim
    · rename_i cs hcs
      split at hg
      · exact hg.elim
      · rename_i xs g h' ha
        split at hg
        · exact hg.elim
        · rename_i r hr
          cases hg
          obtain ⟨q1, q2, q3⟩ := absTE_ok (H0 := denH T.toTT0 h) _ _ _ _ _ _ gone_start ha
          obtain ⟨tg, t1, t2⟩ := rowT_ok hr
          obtain ⟨l1, l2, l3⟩ := new_lens (r := r) q2
          have hf := fillT_ok (h := denH T.toTT0 h) _ _ _ hcs
          rw [List.map_map] at hf
          have hxl : xs.length = len := by rw [q3, chunksT_len]
          have hlen : lenAt (denH T.toTT0 ((d, r) :: h')) d [] = len := by
            unfold lenAt res
            simp only [denH, getRow, if_true, resE, t2, List.length_map, hxl]
          refine ⟨⟨.sl d [] 0 len, ⟨s', xs.map (denL T.toTT0 [])⟩, denH T.toTT0 h', tg, ?_, t1, ?_, ?_, fun k => rfl |>.trans ?_, l1, fun k p hk _ => l2 k p hk, l3⟩⟩
          · have e0 : denL T.toTT0 (denH T.toTT0 h) (List.replicate len (constT zero)).flatten = (List.replicate len (zero.map cval)).flatten := by
              rw [denL_map, List.map_flatten, List.map_replicate, ← denL_map, constT_ok]
            have e1 : (parts.map fun (i, x) => (i * s', s', ev (denE T.toTT0 (denH T.toTT0 h) e) x)) = parts.map ((fun (o, n, x) => (o, n, den T.toTT0 (denH T.toTT0 h) x)) ∘ fun (i, x) => (i * s', s', evT e x)) :=
              List.map_congr_left fun ⟨i, x⟩ _ => by simp only [Function.comp, evT_den]
            simp only [mkop]
            rw [e1, ← e0, hf]
            simp only
            rw [chunksT_ok] at q1
            rw [delT_row, q1]
          · simp only [denH, t2]
          · simp only [den, hlen]
          · simp [kill, fixBad]
  · rename_i s' bytes zero l
    split at hg
    · rename_i n m t hn
      obtain ⟨hs, hg⟩ := bif_gives hg
      split at hg
      · rename_i z hz
        obtain ⟨hc, rfl⟩ := hg
        obtain ⟨kk, hi⟩ := intOf_ok (h := denH T.toTT0 h) hn
        have hG : Gone (T := T) (denH T.toTT0 h) (delT h d) [d] [d] (delT h d) := ⟨fun _ h => h, gone_start⟩
        obtain ⟨l1, l2, l3⟩ := new_lens (r := .typ m t (List.replicate n.toNat z)) hG
        have hz2 : fixA (tgOf T (T.ks m t)) 0 (zero.map cval) = T.ca m t z := by
          rw [← T.un_ok _ _ _ _ hz, ← constT_ok (T := T) [] zero]
          have := fixT_ok (T := T) (h := []) (T.ks m t) (constT zero) 0
          simpa using this.symm
        refine ⟨⟨.sl d [] 0 n.toNat, ⟨s', List.replicate n.toNat (zero.map cval)⟩, denH T.toTT0 (delT h d), tgOf T (T.ks m t), ?_, tgOf_ok _, ?_, ?_, fun k => rfl |>.trans ?_, l1, fun k p hk _ => l2 k p hk, l3⟩⟩
        · simp only [mkop, evT_den, hi]
          rw [if_pos hc, delT_row]
        · simp only [denH, denR, Nat.eq_of_beq_eq_true hs, List.map_replicate, hz2]
        · simp only [den]
          congr 1
          unfold lenAt res
          simp only [denH, getRow, if_true, resE, denR, List.length_map, List.length_replicate]
        · simp [kill, fixBad]
      · exact hg.elim
    · exact hg.elim
  · exact hg.elim
theorem kill_mono {b bad : Nat → Path → Bool} (hb : ∀ k p, b k p = true → bad k p = true) (x : AV) : AVle (kill b x) (kill bad x) := by
  have h1 : kill bad (kill b x) = kill bad x := by
    rw [kill_kill.1]
    congr 1
    funext k p
    cases h : b k p with
    | false => rfl
    | true => simp [hb k p h]
  rw [← h1]
  exact AVle.kill bad _
/-- Making a row is what it owes. -/
theorem mkT_st {P : Program} {ty : Option (Bool × Nat)} {pro : List Nat} {e : TE T.toTT0} {h : TH T.toTT0} {d : Nat} {g : Option (Nat × Bool)} {b : IB} {s : StT T} (hg : (mkT ty pro e h d b).gives s) : StOk P pro T e h ⟨d, g, .mk b⟩ s := by
  obtain ⟨hp, ⟨av, r, rest, tg, m1, m2, m3, m4, m5, m6, m7⟩⟩ := mkT_ok hg
  refine ⟨fun e' he => ?_, m7⟩
  have hcg : mkop (ev e') (denH T.toTT0 h) d b = some (av, (d, r) :: rest) := by
    rw [← m1]
    exact mkop_congr b fun o ho => by
      have := ev_uses (x := ⟨d, g, .mk b⟩) (e := e') (EA := denE T.toTT0 (denH T.toTT0 h) e) he (o := o) (by simpa [opsK] using ho)
      exact this
  refine ⟨e', _, upd (killE (fun k _ => k == d) e') d av, (d, r) :: rest, Ghost.rfl', fun _ _ h => h, .plain (by simp only [istep, hp, Bool.false_eq_true, if_false, hcg]), ?_⟩
  refine Ghost.trans (Ghost.fix (k := d) (r := r) tg m2 (by simp [getRow])) ?_
  rw [show delRow ((d, r) :: rest) d = rest by simp [delRow], ← m3]
  refine Ghost.le fun t => ?_
  simp only [killE, upd]
  split
  · rw [m5, ← m4]; exact AVle.refl _
  · rw [kill_kill.1]
    refine kill_mono (fun k p hk => ?_) _
    simp only [Bool.or_eq_true, beq_iff_eq, fixBad, Bool.and_eq_true] at hk
    exact m6 k p (hk.elim id (·.1))
end
end Loom
set_option linter.unusedVariables false
set_option linter.unusedSimpArgs false
namespace Loom
open Go

/-! ### lengths -/
def lenR (s : Nat) (xs : Els) (q : Path) : Nat := match resE s xs q with | some (_, ys) => ys.length | none => 0
theorem lenAt_row {h : H} {k : Nat} {r : Row} {q : Path} (hg : getRow h k = some r) : lenAt h k q = lenR r.s r.xs q := by
  unfold lenAt lenR res; rw [hg]; first | done | rfl
theorem lenR_s {s s' : Nat} {xs : Els} {q : Path} : lenR s xs q = lenR s' xs q := by
  cases q with
  | nil => rfl
  | cons x q => obtain ⟨i, c⟩ := x; rfl
theorem lenR_cons {s i c : Nat} {xs : Els} {q : Path} : lenR s xs ((i, c) :: q) = match (xs[i]?).bind (·[c]?) with | some (.ow s' ys) => lenR s' ys q | _ => 0 := by
  unfold lenR
  simp only [resE]
  cases h1 : xs[i]? with
  | none => simp
  | some x =>
    simp only [Option.bind_some]
    cases h2 : x[c]? with
    | none => simp
    | some y => cases y <;> simp
theorem fixA_get (tg : Nat → Option AV) : ∀ (l : List AV) (c j : Nat), (fixA tg c l)[j]? = (l[j]?).map (fix1 (tg (c + j)))
  | [], _, _ => by simp [fixA]
  | y :: l, c, 0 => by simp [fixA]
  | y :: l, c, j + 1 => by simp only [fixA, List.getElem?_cons_succ]; rw [fixA_get tg l (c + 1) j, show c + 1 + j = c + (j + 1) by omega]
theorem fix_lens {tg : Nat → Option AV} (ht : tgOk tg) {s : Nat} {xs : Els} (q : Path) : lenR s (xs.map (fixA tg 0)) q = lenR s xs q := by
  cases q with
  | nil => simp [lenR, resE]
  | cons x q =>
    obtain ⟨i, c⟩ := x
    rw [lenR_cons, lenR_cons, List.getElem?_map]
    cases h1 : xs[i]? with
    | none => rfl
    | some x =>
      simp only [Option.map_some, Option.bind_some, fixA_get, Nat.zero_add]
      cases h2 : x[c]? with
      | none => rfl
      | some y =>
        simp only [Option.map_some]
        cases y with
        | zs =>
          simp only [fix1]
          cases h3 : tg c with
          | none => rfl
          | some a =>
            obtain ⟨s', rfl | rfl⟩ := ht c a h3
            · rfl
            · simp only [Option.getD_some]
              cases q with
              | nil => rfl
              | cons z q => obtain ⟨i', c'⟩ := z; rfl
        | _ => rfl
theorem put_get {l vs : List AV} {c n c' : Nat} (h : c + n ≤ l.length) (hv : vs.length = n) (hc : ¬ (c ≤ c' ∧ c' < c + n)) : (l.take c ++ vs ++ l.drop (c + n))[c']? = l[c']? := by
  rcases Nat.lt_or_ge c' c with h1 | h1
  · rw [List.append_assoc, List.getElem?_append_left (by rw [List.length_take]; omega), List.getElem?_take, if_pos h1]
  · have h2 : c + n ≤ c' := by omega
    rw [List.getElem?_append_right (by simp only [List.length_append, List.length_take]; omega), List.getElem?_drop]
    congr 1
    simp only [List.length_append, List.length_take]
    omega
theorem lenR_upd {k i c n : Nat} {vs : List AV} (hv : vs.length = n) : ∀ (p : Path) (s s1 : Nat) (xs ys : Els) (x0 : List AV) (q : Path), resE s xs p = some (s1, ys) → ys[i]? = some x0 → c + n ≤ x0.length → under k p c n k q = false →
    lenR s (updE xs p (putCells i c n vs)) q = lenR s xs q
  | [], s, s1, xs, ys, x0, q, hr, hx, hl, hu => by
    simp only [resE, Option.some.injEq, Prod.mk.injEq] at hr
    obtain ⟨_, rfl⟩ := hr
    simp only [updE, putCells, hx]
    cases q with
    | nil => simp [lenR, resE]
    | cons z q =>
      obtain ⟨i', c'⟩ := z
      have hc : ¬ (c ≤ c' ∧ c' < c + n) := fun ⟨h1, h2⟩ => by simp [under, h1, h2] at hu
      rw [lenR_cons, lenR_cons, List.getElem?_set]
      by_cases hi : i = i'
      · subst hi
        have hlt := (List.getElem?_eq_some_iff.1 hx).1
        rw [if_pos rfl, if_pos hlt, hx]
        simp only [Option.bind_some, put_get hl hv hc]
      · rw [if_neg hi]
  | (i0, c0) :: p, s, s1, xs, ys, x0, q, hr, hx, hl, hu => by
    simp only [resE] at hr
    split at hr
    · cases hr
    · rename_i x hx0
      split at hr
      · rename_i s2 zs hz
        simp only [updE, hx0, hz]
        cases q with
        | nil => simp [lenR, resE]
        | cons z q =>
          obtain ⟨i', c'⟩ := z
          rw [lenR_cons, lenR_cons, List.getElem?_set]
          have hlt := (List.getElem?_eq_some_iff.1 hx0).1
          have hlt2 := (List.getElem?_eq_some_iff.1 hz).1
          by_cases hi : i0 = i'
          · subst hi
            rw [if_pos rfl, if_pos hlt, hx0]
            simp only [Option.bind_some, List.getElem?_set]
            by_cases hc : c0 = c'
            · subst hc
              rw [if_pos rfl, if_pos hlt2, hz]
              simp only
              refine lenR_upd (k := k) hv p s2 s1 zs ys x0 q hr hx hl ?_
              simp only [under, List.length_cons, List.take_succ_cons, List.map_cons, List.drop_succ_cons, beq_self_eq_true, Bool.true_and] at hu ⊢
              have hc : ∀ A B : List Nat, (c0 :: A == c0 :: B) = (A == B) := fun A B => by
                rw [Bool.eq_iff_iff]; simp
              rw [hc] at hu
              exact hu
            · rw [if_neg hc]
          · rw [if_neg hi]
      · cases hr

section
variable {T : TT}
def Rs.bind {X Y : Type} : Rs X → (X → Rs Y) → Rs Y
  | .ok v, f => f v
  | .no, _ => .no
  | .bnd x K, f => .bnd x fun a => (K a).bind f
  | @Rs.need _ p _ K, f => .need p (K.bind f)
  | .ite b x y, f => .ite b (x.bind f) (y.bind f)
theorem Rs.bind_gives {X Y : Type} {f : X → Rs Y} {y : Y} : ∀ (r : Rs X), (r.bind f).gives y → ∃ x, r.gives x ∧ (f x).gives y
  | .ok v, h => ⟨v, rfl, h⟩
  | .no, h => h.elim
  | .bnd x K, ⟨a, h1, h2⟩ => by
    obtain ⟨x', h3, h4⟩ := Rs.bind_gives (K a) h2
    exact ⟨x', ⟨a, h1, h3⟩, h4⟩
  | @Rs.need _ p _ K, ⟨h1, h2⟩ => by
    obtain ⟨x', h3, h4⟩ := Rs.bind_gives K h2
    exact ⟨x', ⟨h1, h3⟩, h4⟩
  | .ite b x y', h => by
    rcases h with ⟨h1, h2⟩ | ⟨h1, h2⟩
    · obtain ⟨x', h3, h4⟩ := Rs.bind_gives x h2
      exact ⟨x', .inl ⟨h1, h3⟩, h4⟩
    · obtain ⟨x', h3, h4⟩ := Rs.bind_gives y' h2
      exact ⟨x', .inr ⟨h1, h3⟩, h4⟩
def cellOf : TR T.El → Option (VT T)
  | .typ m t xs => some (.ow m t xs)
  | .opn m t xs i cs => some (.oo m t xs i cs)
  | .lit _ _ => none
theorem cellOf_den {h : H} {r : TR T.El} {v : VT T} (hr : cellOf r = some v) : den T.toTT0 h v = .ow (denR T.toTT0 r).s (denR T.toTT0 r).xs := by
  cases r <;> cases hr <;> rfl
theorem denL_set {h : H} {cs : List (VT T)} {c : Nat} {v : VT T} : denL T.toTT0 h (cs.set c v) = (denL T.toTT0 h cs).set c (den T.toTT0 h v) := by simp [denL_map, List.map_set]
theorem denR_lit {s : Nat} {xs : List (List (VT T))} : denR T.toTT0 (.lit s xs) = ⟨s, xs.map (denL T.toTT0 [])⟩ := rfl
theorem denR_typ {m : Bool} {t : Nat} {xs : List (T.El t)} : denR T.toTT0 (.typ m t xs) = ⟨T.sz t, xs.map (T.ca m t)⟩ := rfl
theorem denR_opn {m : Bool} {t i : Nat} {xs : List (T.El t)} {cs : List (VT T)} : denR T.toTT0 (.opn m t xs i cs) = ⟨T.sz t, (xs.map (T.ca m t)).set i (denL T.toTT0 [] cs)⟩ := rfl
def rowOf : VT T → Option (TR T.El)
  | .ow m t xs => some (.typ m t xs)
  | .oo m t xs i cs => some (.opn m t xs i cs)
  | _ => none
theorem rowOf_den {h : H} {r : TR T.El} {v : VT T} (hr : rowOf v = some r) : den T.toTT0 h v = .ow (denR T.toTT0 r).s (denR T.toTT0 r).xs := by
  cases v <;> cases hr <;> rfl
/-- An element, or, if it is none, its cells, at a place of a list. -/
def shutT (m : Bool) (t : Nat) (xs : List (T.El t)) (j : Nat) (cs : List (VT T)) : TR T.El :=
  match T.un m t cs with
  | some y => .typ m t (xs.set j y)
  | none => .opn m t xs j cs
theorem shutT_den {m : Bool} {t : Nat} {xs : List (T.El t)} {j : Nat} {cs : List (VT T)} : denR T.toTT0 (shutT m t xs j cs) = ⟨T.sz t, (xs.map (T.ca m t)).set j (denL T.toTT0 [] cs)⟩ := by
  unfold shutT
  split
  · rename_i y hy
    simp only [denR, List.map_set, T.un_ok _ _ _ _ hy]
  · rfl
/-- A change at a place of a row. -/
def updT (f : TR T.El → Rs (TR T.El)) : Path → TR T.El → Rs (TR T.El)
  | [], r => f r
  | (i, c) :: p, .lit s xs =>
    match xs[i]? with
    | none => .no
    | some x => match (x[c]?).bind rowOf with
      | none => .no
      | some r0 => (updT f p r0).bind fun r1 => match cellOf r1 with | some v => .ok (.lit s (xs.set i (x.set c v))) | none => .no
  | (i, c) :: p, .typ m t xs =>
    .bnd (xs[i]?) fun y => match ((T.ct m t y)[c]?).bind rowOf with
      | none => .no
      | some r0 => (updT f p r0).bind fun r1 => match cellOf r1 with | some v => .ok (shutT m t xs i ((T.ct m t y).set c v)) | none => .no
  | (i, c) :: p, .opn m t xs j cs =>
    .need (i = j ∧ j < xs.length) (match (cs[c]?).bind rowOf with
      | none => .no
      | some r0 => (updT f p r0).bind fun r1 => match cellOf r1 with | some v => .ok (shutT m t xs i (cs.set c v)) | none => .no)
theorem updT_ok {f : TR T.El → Rs (TR T.El)} {F : Els → Els} {G : Nat → Els → Prop} (hf : ∀ r r', (f r).gives r' → G (denR T.toTT0 r).s (denR T.toTT0 r).xs ∧ denR T.toTT0 r' = ⟨(denR T.toTT0 r).s, F (denR T.toTT0 r).xs⟩) :
    ∀ (p : Path) (r r' : TR T.El), (updT f p r).gives r' → ∃ s ys, resE (denR T.toTT0 r).s (denR T.toTT0 r).xs p = some (s, ys) ∧ G s ys ∧ denR T.toTT0 r' = ⟨(denR T.toTT0 r).s, updE (denR T.toTT0 r).xs p F⟩
  | [], r, r', hg => by
    obtain ⟨h1, h2⟩ := hf r r' hg
    exact ⟨_, _, rfl, h1, h2⟩
  | (i, c) :: p, .lit s xs, r', hg => by
    simp only [updT] at hg
    split at hg
    · exact hg.elim
    · rename_i x hx
      split at hg
      · exact hg.elim
      · rename_i r0 h0
        obtain ⟨r1, q1, q2⟩ := Rs.bind_gives _ hg
        obtain ⟨y, hy, hr0⟩ := Option.bind_eq_some_iff.1 h0
        obtain ⟨s1, ys, t1, t2, t3⟩ := updT_ok hf p r0 r1 q1
        split at q2
        · rename_i v hv
          cases q2
          have hxe : (denR T.toTT0 (.lit s xs)).xs[i]? = some (denL T.toTT0 [] x) := by simp [denR, hx]
          have hce : (denL T.toTT0 [] x)[c]? = some (.ow (denR T.toTT0 r0).s (denR T.toTT0 r0).xs) := by rw [denL_get, hy, Option.map_some, rowOf_den hr0]
          refine ⟨s1, ys, by simp only [resE, hxe, hce]; exact t1, t2, ?_⟩
          have hv' := cellOf_den (T := T) (h := []) hv
          rw [t3] at hv'
          simp only [updE, hxe, hce]
          rw [denR_lit, List.map_set, denL_set, hv']
          rfl
        · exact q2.elim
  | (i, c) :: p, .typ m t xs, r', hg => by
    obtain ⟨z, hz, hg⟩ := hg
    dsimp only at hg
    split at hg
    · exact hg.elim
    · rename_i r0 h0
      obtain ⟨r1, q1, q2⟩ := Rs.bind_gives _ hg
      obtain ⟨y, hy, hr0⟩ := Option.bind_eq_some_iff.1 h0
      obtain ⟨s1, ys, t1, t2, t3⟩ := updT_ok hf p r0 r1 q1
      split at q2
      · rename_i v hv
        cases q2
        have hxe : (denR T.toTT0 (.typ m t xs)).xs[i]? = some (T.ca m t z) := by simp [denR, hz]
        have hce : (T.ca m t z)[c]? = some (.ow (denR T.toTT0 r0).s (denR T.toTT0 r0).xs) := by rw [ca_get, hy, Option.map_some, rowOf_den hr0]
        refine ⟨s1, ys, by simp only [resE, hxe, hce]; exact t1, t2, ?_⟩
        have hv' := cellOf_den (T := T) (h := []) hv
        rw [t3] at hv'
        simp only [updE, hxe, hce, shutT_den]
        rw [denL_set, hv', T.ct_ok]
        rfl
      · exact q2.elim
  | (i, c) :: p, .opn m t xs j cs, r', hg => by
    obtain ⟨⟨rfl, hj⟩, hg⟩ := hg
    split at hg
    · exact hg.elim
    · rename_i r0 h0
      obtain ⟨r1, q1, q2⟩ := Rs.bind_gives _ hg
      obtain ⟨y, hy, hr0⟩ := Option.bind_eq_some_iff.1 h0
      obtain ⟨s1, ys, t1, t2, t3⟩ := updT_ok hf p r0 r1 q1
      split at q2
      · rename_i v hv
        cases q2
        have hxe : (denR T.toTT0 (.opn m t xs i cs)).xs[i]? = some (denL T.toTT0 [] cs) := by
          simp only [denR]; rw [List.getElem?_set_self (by simpa using hj)]
        have hce : (denL T.toTT0 [] cs)[c]? = some (.ow (denR T.toTT0 r0).s (denR T.toTT0 r0).xs) := by rw [denL_get, hy, Option.map_some, rowOf_den hr0]
        refine ⟨s1, ys, by simp only [resE, hxe, hce]; exact t1, t2, ?_⟩
        have hv' := cellOf_den (T := T) (h := []) hv
        rw [t3] at hv'
        simp only [updE, hxe, hce, shutT_den]
        rw [denL_set, hv', denR_opn, List.set_set]
      · exact q2.elim

/-- Cells put at a place of an element. fx: whether nothing in them may be seen as empty rows. -/
def putT (fx : Bool) (i c n : Nat) (vs : List (VT T)) : TR T.El → Rs (TR T.El)
  | .lit s xs =>
    match xs[i]? with
    | some x0 => bif Nat.ble (c + n) x0.length then .ok (.lit s (xs.set i (x0.take c ++ vs ++ x0.drop (c + n)))) else .no
    | none => .no
  | .typ m t xs => .bnd (xs[i]?) fun y =>
    bif Nat.ble (c + n) (T.ct m t y).length then
      let cs := (T.ct m t y).take c ++ vs ++ (T.ct m t y).drop (c + n)
      match T.un m t (bif fx then fixT (T.ks m t) cs else cs) with
      | some z => .ok (.typ m t (xs.set i z))
      | none => bif fx then .no else .ok (.opn m t xs i cs)
    else .no
  | .opn m t xs j cs => .need (i = j ∧ j < xs.length) (bif Nat.ble (c + n) cs.length then .ok (shutT m t xs i (cs.take c ++ vs ++ cs.drop (c + n))) else .no)
/-- What fixes a row of this kind. -/
def tgR (fx : Bool) : TR T.El → Nat → Option AV
  | .typ m t _ => bif fx then tgOf T (T.ks m t) else fun _ => none
  | _ => fun _ => none
theorem tgR_ok (fx : Bool) (r : TR T.El) : tgOk (tgR fx r) := by
  cases r with
  | typ m t xs => cases fx; exact fun _ _ h => (by cases h); exact tgOf_ok _
  | _ => exact fun _ _ h => (by cases h)
theorem fixA_id (tg : Nat → Option AV) : ∀ (l : List AV) (c : Nat), (∀ a ∈ l, isZ a = false) → fixA tg c l = l
  | [], _, _ => rfl
  | y :: l, c, h => by
    rw [fixA, fixA_id tg l (c + 1) (fun a ha => h a (by simp [ha]))]
    have := h y (by simp)
    cases y <;> simp [isZ] at this <;> rfl
theorem ct_nz {m : Bool} {t : Nat} {y : T.El t} : ∀ a ∈ T.ca m t y, isZ a = false := T.nz_ok m t y
theorem map_fix_id {tg : Nat → Option AV} {m : Bool} {t : Nat} (xs : List (T.El t)) : (xs.map (T.ca m t)).map (fixA tg 0) = xs.map (T.ca m t) := by
  rw [List.map_map]
  exact List.map_congr_left fun y _ => fixA_id tg _ 0 ct_nz
theorem none_fix (xs : Els) : xs.map (fixA (fun _ => none) 0) = xs := by
  conv => rhs; rw [← List.map_id xs]
  exact List.map_congr_left fun x _ => fixA_none _ _ _ (fun _ => rfl)
theorem putT_ok {fx : Bool} {i c n : Nat} {vs : List (VT T)} (r r' : TR T.El) (hg : (putT fx i c n vs r).gives r') :
    (∃ x0, (denR T.toTT0 r).xs[i]? = some x0 ∧ c + n ≤ x0.length) ∧ denR T.toTT0 r' = ⟨(denR T.toTT0 r).s, (putCells i c n (denL T.toTT0 [] vs) (denR T.toTT0 r).xs).map (fixA (tgR fx r) 0)⟩ := by
  cases r with
  | lit s xs =>
    simp only [putT] at hg
    split at hg
    · rename_i x0 hx
      obtain ⟨hb, hg⟩ := bif_gives hg
      cases hg
      have hxe : (denR T.toTT0 (.lit s xs)).xs[i]? = some (denL T.toTT0 [] x0) := by simp [denR, hx]
      refine ⟨⟨_, hxe, by rw [denL_len]; exact Nat.le_of_ble_eq_true hb⟩, ?_⟩
      simp only [putCells, hxe, tgR, none_fix]
      simp [denR, denL_map, List.map_set, List.map_take, List.map_drop]
    · exact hg.elim
  | typ m t xs =>
    obtain ⟨y, hy, hg⟩ := hg
    obtain ⟨hb, hg⟩ := bif_gives hg
    dsimp only at hg
    split at hg
    · rename_i z hz
      cases hg
      have hxe : (denR T.toTT0 (.typ m t xs)).xs[i]? = some (T.ca m t y) := by simp [denR, hy]
      have hl : (T.ca m t y).length = (T.ct m t y).length := by rw [← T.ct_ok, denL_len]
      refine ⟨⟨_, hxe, by rw [hl]; exact Nat.le_of_ble_eq_true hb⟩, ?_⟩
      simp only [putCells, hxe, tgR]
      have hzc : fixA (bif fx then tgOf T (T.ks m t) else fun _ => none) 0 ((T.ca m t y).take c ++ denL T.toTT0 [] vs ++ (T.ca m t y).drop (c + n)) = T.ca m t z := by
        have e1 : (T.ca m t y).take c ++ denL T.toTT0 [] vs ++ (T.ca m t y).drop (c + n) = denL T.toTT0 [] ((T.ct m t y).take c ++ vs ++ (T.ct m t y).drop (c + n)) := by
          simp [← T.ct_ok, denL_map, List.map_take, List.map_drop]
        rw [e1, ← T.un_ok _ _ _ _ hz]
        cases fx
        · simp only [cond_false]; exact fixA_none _ _ _ (fun _ => rfl)
        · simp only [cond_true]
          have := fixT_ok (T := T) (h := []) (T.ks m t) ((T.ct m t y).take c ++ vs ++ (T.ct m t y).drop (c + n)) 0
          simpa using this.symm
      simp only [denR, List.map_set, hzc, map_fix_id]
    · cases hfx : fx with
      | true => rw [hfx] at hg; exact hg.elim
      | false =>
        rw [hfx, cond_false] at hg
        cases hg
        have hxe : (denR T.toTT0 (.typ m t xs)).xs[i]? = some (T.ca m t y) := by simp [denR, hy]
        have hl : (T.ca m t y).length = (T.ct m t y).length := by rw [← T.ct_ok, denL_len]
        refine ⟨⟨_, hxe, by rw [hl]; exact Nat.le_of_ble_eq_true hb⟩, ?_⟩
        simp only [putCells, hxe, tgR, cond_false, none_fix]
        simp only [denR]
        simp [← T.ct_ok, denL_map, List.map_take, List.map_drop]
  | opn m t xs j cs =>
    obtain ⟨⟨rfl, hj⟩, hg⟩ := hg
    obtain ⟨hb, hg⟩ := bif_gives hg
    cases hg
    have hxe : (denR T.toTT0 (.opn m t xs i cs)).xs[i]? = some (denL T.toTT0 [] cs) := by
      simp only [denR]; rw [List.getElem?_set_self (by simpa using hj)]
    refine ⟨⟨_, hxe, by rw [denL_len]; exact Nat.le_of_ble_eq_true hb⟩, ?_⟩
    simp only [putCells, hxe, tgR, none_fix, shutT_den]
    simp [denR, denL_map, List.map_take, List.map_drop]
end
end Loom
set_option linter.unusedVariables false
set_option linter.unusedSimpArgs false
namespace Loom
open Go

section
variable {T : TT}

def isZT : VT T → Bool
  | .zs => true
  | _ => false
def stT (e : TE T.toTT0) (h : TH T.toTT0) (n : Nat) (a x : Operand) : Rs (StT T) :=
  match evT e a with
  | .pt k p i c =>
    match getT h k, cellsOfT (evT e x) with
    | some r, some vs => bif Nat.beq vs.length n then
      match absTL (delT h k) [k] vs with
      | none => .no
      | some (vs', g, h') =>
        let fx := p.isEmpty && vs'.any isZT
        (updT (putT fx i c n vs') p r).bind fun r' =>
        .ok ⟨.un, fun k' q => under k p c n k' q || (g.contains k' && !(Nat.beq k' k)) || (fx && Nat.beq k' k && !q.isEmpty), fun _ _ => false, g, (k, r') :: h'⟩
      else .no
    | _, _ => .no
  | _ => .no

theorem updE_comp {F G : Els → Els} (hG : ∀ ys, G (F ys) = F ys) : ∀ (p : Path) (xs : Els), updE xs p (fun ys => G (F ys)) = updE xs p F := fun p xs => by
  have : (fun ys => G (F ys)) = F := funext hG
  rw [this]

theorem stT_st {P : Program} {pro : List Nat} {e : TE T.toTT0} {h : TH T.toTT0} {d : Nat} {g : Option (Nat × Bool)} {n : Nat} {a x : Operand} {s : StT T} (hg : (stT e h n a x).gives s) : StOk P pro T e h ⟨d, g, .st n a x⟩ s := by
  unfold stT at hg
  split at hg
  · rename_i k p i c ha
    split at hg
    · rename_i r vs hr hvs
      obtain ⟨hn, hg⟩ := bif_gives hg
      have hn := Nat.eq_of_beq_eq_true hn
      split at hg
      · exact hg.elim
      · rename_i vs' gg h' hab
        dsimp only at hg
        generalize hfx : (p.isEmpty && vs'.any isZT) = fx at hg
        obtain ⟨r', hup, hg⟩ := Rs.bind_gives _ hg
        cases hg
        obtain ⟨q1, q2⟩ := absTL_ok (H0 := denH T.toTT0 h) _ _ _ _ _ _ gone_start hab
        have hv := cellsOfT_ok (h := denH T.toTT0 h) hvs
        have hgr : getRow (denH T.toTT0 h) k = some (denR T.toTT0 r) := by rw [getT_row, hr]; rfl
        have hvl : (denL T.toTT0 [] vs').length = n := by
          have : ∀ (l l' : List AV) (hp hp' : H), absL hp l = some (l', hp') → l'.length = l.length := by
            intro l
            induction l with
            | nil => intro l' hp hp' hh; simp only [absL, Option.some.injEq, Prod.mk.injEq] at hh; rw [← hh.1]
            | cons y l ih =>
              intro l' hp hp' hh
              unfold absL at hh
              split at hh
              · split at hh
                · rename_i h2
                  simp only [Option.some.injEq, Prod.mk.injEq] at hh
                  rw [← hh.1, List.length_cons, ih _ _ _ h2, List.length_cons]
                · cases hh
              · cases hh
          rw [this _ _ _ _ q1, denL_len, hn]
        have hgk : gg.contains k = true := q2.sub k (by simp)
        -- the row as it is then
        obtain ⟨tg, ht, hkb, s1, ys, x0, t1, tx, tl, t3⟩ : ∃ tg, tgOk tg ∧ (fx = false → tg = fun _ => none) ∧ ∃ s1 ys x0, resE (denR T.toTT0 r).s (denR T.toTT0 r).xs p = some (s1, ys) ∧ ys[i]? = some x0 ∧ c + n ≤ x0.length ∧
            denR T.toTT0 r' = ⟨(denR T.toTT0 r).s, (updE (denR T.toTT0 r).xs p (putCells i c n (denL T.toTT0 [] vs'))).map (fixA tg 0)⟩ := by
          cases p with
          | nil =>
            obtain ⟨⟨x0, t1, t2⟩, t3⟩ := putT_ok r r' hup
            exact ⟨tgR fx r, tgR_ok _ _, fun h => by subst h; cases r <;> rfl, _, _, x0, rfl, t1, t2, t3⟩
          | cons z p =>
            have hfx : fx = false := by rw [← hfx]; rfl
            subst hfx
            obtain ⟨s1, ys, t1, ⟨x0, t2, t4⟩, t3⟩ := updT_ok (f := putT false i c n vs') (F := putCells i c n (denL T.toTT0 [] vs')) (G := fun _ ys => ∃ x0, ys[i]? = some x0 ∧ c + n ≤ x0.length) (fun r0 r1 h0 => by
              obtain ⟨h1, h2⟩ := putT_ok r0 r1 h0
              refine ⟨h1, ?_⟩
              rw [h2]
              have : tgR (T := T) false r0 = fun _ => none := by cases r0 <;> rfl
              rw [this, none_fix]) (z :: p) r r' hup
            exact ⟨fun _ => none, fun _ _ h => (by cases h), fun _ => rfl, s1, ys, x0, t1, t2, t4, by rw [t3, none_fix]⟩
        have hst : stop (ev (denE T.toTT0 (denH T.toTT0 h) e)) (denH T.toTT0 h) n a x = some ((k, ⟨(denR T.toTT0 r).s, updE (denR T.toTT0 r).xs p (putCells i c n (denL T.toTT0 [] vs'))⟩) :: denH T.toTT0 h', under k p c n) := by
          simp only [stop, evT_den, ha, den, hgr, t1, tx, hv, denL_len, delT_row, q1]
          rw [if_pos tl, if_pos hn]
        have htch : ∀ k', gg.contains k' = false → getRow (denH T.toTT0 ((k, r') :: h')) k' = getRow (denH T.toTT0 h) k' := fun k' hk' => by
          have hne : k ≠ k' := fun e => by rw [← e, hgk] at hk'; cases hk'
          simp only [denH, getRow]
          rw [if_neg hne]
          exact q2.same k' hk'
        refine ⟨fun e' he => ?_, fun k' q hb _ => ?_, htch⟩
        · have hcg : stop (ev e') (denH T.toTT0 h) n a x = some ((k, ⟨(denR T.toTT0 r).s, updE (denR T.toTT0 r).xs p (putCells i c n (denL T.toTT0 [] vs'))⟩) :: denH T.toTT0 h', under k p c n) := by
            rw [← hst]
            exact stop_congr (ev_uses (x := ⟨d, g, .st n a x⟩) he (by simp [opsK])) (ev_uses (x := ⟨d, g, .st n a x⟩) he (by simp [opsK]))
          refine ⟨e', _, killE (under k p c n) e', (k, ⟨(denR T.toTT0 r).s, updE (denR T.toTT0 r).xs p (putCells i c n (denL T.toTT0 [] vs'))⟩) :: denH T.toTT0 h', Ghost.rfl', fun _ _ h => h, .plain (by simp only [istep, hcg]), ?_⟩
          refine Ghost.trans (Ghost.fix (k := k) (r := ⟨(denR T.toTT0 r).s, updE (denR T.toTT0 r).xs p (putCells i c n (denL T.toTT0 [] vs'))⟩) tg ht (by simp [getRow])) ?_
          simp only [delRow, if_true]
          rw [show denH T.toTT0 ((k, r') :: h') = (k, ⟨(denR T.toTT0 r).s, (updE (denR T.toTT0 r).xs p (putCells i c n (denL T.toTT0 [] vs'))).map (fixA tg 0)⟩) :: denH T.toTT0 h' by simp only [denH, t3]]
          refine Ghost.le fun t => ?_
          simp only [killE, upd]
          split
          · exact AVle.un _
          · rw [kill_kill.1]
            refine kill_mono (fun k' q hk => ?_) _
            simp only [Bool.or_eq_true] at hk ⊢
            rcases hk with hk | hk
            · exact .inl (.inl hk)
            · right
              cases hf : fx with
              | false =>
                rw [hkb hf] at hk
                simp [fixBad] at hk
                split at hk <;> simp at hk
              | true =>
                simp only [fixBad, Bool.and_eq_true, beq_iff_eq] at hk
                obtain ⟨rfl, hk⟩ := hk
                cases q with
                | nil => cases hk
                | cons _ _ => simp
        · simp only [Bool.or_eq_false_iff] at hb
          by_cases hk : k' = k
          · subst hk
            rw [lenAt_row (r := denR T.toTT0 r') (by simp [denH, getRow]), lenAt_row hgr, t3]
            simp only
            rw [fix_lens ht]
            exact lenR_upd (k := k') hvl p _ s1 _ ys x0 q t1 tx tl hb.1.1
          · refine lenAt_congr ?_
            simp only [denH, getRow]
            rw [if_neg (fun e => hk e.symm)]
            refine q2.same k' ?_
            have := hb.1.2
            simp only [beq_eq, hk, decide_false, Bool.not_false, Bool.and_true] at this
            exact this
    · exact hg.elim
  · exact hg.elim
end
end Loom
set_option linter.unusedVariables false
set_option linter.unusedSimpArgs false
namespace Loom
open Go

section
variable {T : TT}

def srcT (m : Bool) (t s : Nat) (e : TE T.toTT0) (h : TH T.toTT0) (y : Operand) : Rs (List (T.El t) × Option Nat) :=
  bif Nat.beq (T.sz t) s then
  match evT e y with
  | .zs => .ok ([], none)
  | .im t' ws => if hh : t' = t then bif m then .no else .ok (hh ▸ ws, none) else .no
  | .sw k p => atT h k p fun
    | .typ m' t' ws => if hh : t' = t then
        match m', m, p with
        | false, false, _ => .ok (hh ▸ ws, none)
        | true, true, [] => .ok (hh ▸ ws, some k)
        | _, _, _ => .no
      else .no
    | _ => .no
  | .sl k p off len => atT h k p fun
    | .typ m' t' ws => if hh : t' = t then bif m || m' then .no else .need (off + len ≤ ws.length) (.ok (((hh ▸ ws : List (T.El t)).drop off).take len, none)) else .no
    | _ => .no
  | _ => .no
  else .no
theorem flat_map {t : Nat} (xs : List (T.El t)) : flatE (xs.map (T.ca false t)) = true := by
  unfold flatE
  rw [List.all_eq_true]
  intro y hy
  obtain ⟨x, _, rfl⟩ := List.mem_map.1 hy
  exact T.fl_ok t x
theorem srcT_ok {m : Bool} {t s : Nat} {e : TE T.toTT0} {h : TH T.toTT0} {y : Operand} {ws : List (T.El t)} {mv : Option Nat} (hg : (srcT m t s e h y).gives (ws, mv)) :
    T.sz t = s ∧ ∃ mv', srcE (denH T.toTT0 h) s (den T.toTT0 (denH T.toTT0 h) (evT e y)) = some (ws.map (T.ca m t), mv') ∧ (mv' = none ∨ mv' = mv) := by
  unfold srcT at hg
  obtain ⟨hs, hg⟩ := bif_gives hg
  have hs := Nat.eq_of_beq_eq_true hs
  refine ⟨hs, ?_⟩
  split at hg
  · rename_i hy
    cases hg
    exact ⟨none, by simp [hy, den, srcE], .inl rfl⟩
  · rename_i t' ws' hy
    split at hg
    · rename_i hh
      subst hh
      cases m with
      | true => exact hg.elim
      | false =>
        cases hg
        exact ⟨none, by simp only [hy, den, srcE]; rw [if_pos hs], .inl rfl⟩
    · exact hg.elim
  · rename_i k p hy
    obtain ⟨r, hr, hg⟩ := atT_ok hg
    have hl : lenAt (denH T.toTT0 h) k p = (denR T.toTT0 r).xs.length := by unfold lenAt; rw [hr]
    split at hg
    · rename_i m' t' ws'
      split at hg
      · rename_i hh
        subst hh
        split at hg
        · cases hg
          refine ⟨none, ?_, .inl rfl⟩
          simp only [hy, den, srcE, hr, hl]
          simp only [denR, hs]
          rw [if_pos ⟨trivial, by omega⟩, List.drop_zero, List.take_length, if_pos (flat_map _)]
        · cases hg
          refine ⟨if flatE ((ws'.map (T.ca true t'))) = true then none else some k, ?_, ?_⟩
          · simp only [hy, den, srcE, hr, hl]
            simp only [denR, hs]
            rw [if_pos ⟨trivial, by omega⟩, List.drop_zero, List.take_length]
            split <;> simp
          · split <;> simp
        · exact hg.elim
      · exact hg.elim
    · exact hg.elim
  · rename_i k p off len hy
    obtain ⟨r, hr, hg⟩ := atT_ok hg
    split at hg
    · rename_i m' t' ws'
      split at hg
      · rename_i hh
        subst hh
        cases m <;> cases m' <;> first | exact hg.elim | skip
        obtain ⟨hc, hg⟩ := hg
        cases hg
        refine ⟨none, ?_, .inl rfl⟩
        simp only [hy, den, srcE, hr]
        simp only [denR, hs]
        rw [if_pos ⟨trivial, by simpa using hc⟩]
        have : ((ws'.map (T.ca false t')).drop off).take len = ((ws'.drop off).take len).map (T.ca false t') := by simp [List.map_take, List.map_drop]
        rw [this, if_pos (flat_map _)]
      · exact hg.elim
    · exact hg.elim
  · exact hg.elim

theorem delRow_comm {a b : Nat} : ∀ (h : H), delRow (delRow h a) b = delRow (delRow h b) a
  | [] => rfl
  | (k, r) :: h => by
    by_cases ha : k = a
    · by_cases hb : k = b
      · subst ha; subst hb; rfl
      · simp only [delRow, if_pos ha, if_neg hb]
    · by_cases hb : k = b
      · simp only [delRow, if_neg ha, if_pos hb]
      · simp only [delRow, if_neg ha, if_neg hb, delRow_comm h]
/-- A row that nobody asks for any more. -/
theorem Ghost.drop {P : Program} {pro : List Nat} {e : Env} {h : H} (k : Nat) : Ghost P pro e h e (delRow h k) := fun I N σ a w R => by
  obtain ⟨q1, q2, q3, q4⟩ := delRow_rel R.heap k
  exact ⟨σ, I, fun _ h => h, fun _ h => .inl h, ⟨q1, R.size, R.vals, R.defers⟩, fun _ _ => rfl, Le.refl _, fun _ _ _ => rfl, fun b hb => .inl (q3 b hb)⟩
def takeT (h : TH T.toTT0) : Option Nat → TH T.toTT0
  | none => h
  | some k => delT h k
theorem takeT_row {h : TH T.toTT0} {mv : Option Nat} : takeRow (denH T.toTT0 h) mv = denH T.toTT0 (takeT h mv) := by
  cases mv with
  | none => rfl
  | some k => exact delT_row h k
def isO (mv : Option Nat) (k : Nat) : Bool := match mv with | some k' => Nat.beq k' k | none => false

/-- Append onto nothing, or onto a row. -/
def apT (ty : Option (Bool × Nat)) (pro : List Nat) (e : TE T.toTT0) (h : TH T.toTT0) (d s bytes : Nat) (x y : Operand) : Rs (StT T) :=
  match evT e x with
  | .zs =>
    match ty with
    | none => .no
    | some (m, t) => bif pro.contains d then .no else
      (srcT m t s e h y).bind fun (ws, mv) => bif isO mv d then .no else
        .need (ws.length * bytes ≤ 140737488355328) (.ok ⟨.sw d [], fun k _ => Nat.beq k d || isO mv k, fun _ _ => false, d :: mv.toList, (d, .typ m t ws) :: delT (takeT h mv) d⟩)
  | .sw k [] =>
    match getT h k with
    | some (.typ m t xs) => bif pro.contains k then .no else
      (srcT m t s e h y).bind fun (ws, mv) => bif isO mv k then .no else
        .need ((xs.length + ws.length) * bytes ≤ 140737488355328) (.ok ⟨.sw k [], fun k' _ => Nat.beq k' k || isO mv k', fun _ _ => false, k :: mv.toList, (k, .typ m t (xs ++ ws)) :: delT (takeT h mv) k⟩)
    | _ => .no
  | .sl k [] 0 len =>
    match getT h k with
    | some (.typ m t xs) => bif pro.contains k then .no else
      (srcT m t s e h y).bind fun (ws, mv) => bif isO mv k then .no else
        .need (len ≤ xs.length ∧ (len + ws.length) * bytes ≤ 140737488355328) (.ok ⟨.sw k [], fun k' _ => Nat.beq k' k || isO mv k', fun _ _ => false, k :: mv.toList, (k, .typ m t (xs.take len ++ ws)) :: delT (takeT h mv) k⟩)
    | _ => .no
  | _ => .no

/-- From the answer of append to what is owed. -/
theorem ap_fin {P : Program} {pro : List Nat} {e : TE T.toTT0} {h : TH T.toTT0} {d s bytes k : Nat} {g : Option (Nat × Bool)} {x y : Operand} {mv mv' : Option Nat} {m : Bool} {t : Nat} {zs : List (T.El t)} (hp : pro.contains k = false) (hs : T.sz t = s) (hk : isO mv k = false) (hm : mv' = none ∨ mv' = mv)
    (hap : apop (ev (denE T.toTT0 (denH T.toTT0 h) e)) (denH T.toTT0 h) d s bytes x y = some (.sl k [] 0 zs.length, (k, ⟨s, zs.map (T.ca m t)⟩) :: delRow (takeRow (denH T.toTT0 h) mv') k, k)) :
    StOk P pro T e h ⟨d, g, .app s bytes x y⟩ ⟨.sw k [], fun k' _ => Nat.beq k' k || isO mv k', fun _ _ => false, k :: mv.toList, (k, .typ m t zs) :: delT (takeT h mv) k⟩ := by
  have hsame : ∀ k', k' ≠ k → isO mv k' = false → getRow (denH T.toTT0 ((k, .typ m t zs) :: delT (takeT h mv) k)) k' = getRow (denH T.toTT0 h) k' := fun k' h1 h2 => by
    simp only [denH, getRow]
    rw [if_neg (fun e => h1 e.symm), ← delT_row, getRow_del h1]
    cases mv with
    | none => rfl
    | some k2 =>
      simp only [takeT, ← delT_row]
      refine getRow_del (fun e => ?_) _
      simp [isO, e] at h2
  refine ⟨fun e' he => ?_, fun k' q hb _ => lenAt_congr ?_, fun k' hk' => ?_⟩
  · have hcg := hap
    rw [← apop_congr (ev_uses (x := ⟨d, g, .app s bytes x y⟩) he (o := x) (by simp [opsK])) (ev_uses (x := ⟨d, g, .app s bytes x y⟩) he (o := y) (by simp [opsK]))] at hcg
    refine ⟨e', _, upd (killE (fun k' _ => k' == k) e') d (.sl k [] 0 zs.length), _, Ghost.rfl', fun _ _ h => h, .plain (by simp only [istep, hcg, hp, Bool.false_eq_true, if_false]; rfl), ?_⟩
    have hheap : Ghost P pro (upd (killE (fun k' _ => k' == k) e') d (.sl k [] 0 zs.length)) ((k, ⟨s, zs.map (T.ca m t)⟩) :: delRow (takeRow (denH T.toTT0 h) mv') k) (upd (killE (fun k' _ => k' == k) e') d (.sl k [] 0 zs.length)) (denH T.toTT0 ((k, .typ m t zs) :: delT (takeT h mv) k)) := by
      have goal : denH T.toTT0 ((k, .typ m t zs) :: delT (takeT h mv) k) = (k, ⟨s, zs.map (T.ca m t)⟩) :: delRow (takeRow (denH T.toTT0 h) mv) k := by
        simp only [denH, denR, hs, ← delT_row, takeT_row]
      rw [goal]
      rcases hm with rfl | rfl
      · cases mv with
        | none => exact Ghost.rfl'
        | some k2 =>
          have hne : k2 ≠ k := by
            simp only [isO, beq_eq, decide_eq_false_iff_not] at hk
            exact hk
          have := Ghost.drop (P := P) (pro := pro) (e := upd (killE (fun k' _ => k' == k) e') d (.sl k [] 0 zs.length)) (h := (k, ⟨s, zs.map (T.ca m t)⟩) :: delRow (denH T.toTT0 h) k) k2
          simp only [delRow, if_neg (Ne.symm hne)] at this
          rw [delRow_comm] at this
          exact this
      · exact Ghost.rfl'
    refine Ghost.trans hheap (Ghost.le fun u => ?_)
    have hl : lenAt (denH T.toTT0 ((k, .typ m t zs) :: delT (takeT h mv) k)) k [] = zs.length := by
      unfold lenAt res
      simp [denH, getRow, resE, denR]
    simp only [killE, upd]
    split
    · simp only [den, hl]; exact AVle.refl _
    · exact kill_mono (fun k' q hk' => by simp only [beq_iff_eq] at hk'; subst hk'; simp) _
  · simp only [Bool.or_eq_false_iff, beq_eq, decide_eq_false_iff_not] at hb
    exact hsame k' hb.1 hb.2
  · simp only [List.contains_cons, Bool.or_eq_false_iff, beq_eq_false_iff_ne] at hk'
    refine hsame k' hk'.1 ?_
    cases mv with
    | none => rfl
    | some k2 =>
      have := hk'.2
      simp only [Option.toList, List.contains_cons, Bool.or_eq_false_iff, beq_eq_false_iff_ne] at this
      simp only [isO, beq_eq, decide_eq_false_iff_not]
      exact fun e => this.1 e.symm
theorem apT_st {P : Program} {ty : Option (Bool × Nat)} {pro : List Nat} {e : TE T.toTT0} {h : TH T.toTT0} {d s bytes : Nat} {g : Option (Nat × Bool)} {x y : Operand} {st : StT T} (hg : (apT ty pro e h d s bytes x y).gives st) : StOk P pro T e h ⟨d, g, .app s bytes x y⟩ st := by
  have nob : ∀ {b : Bool} {X : Type} {r : Rs X} {v : X}, (bif b then .no else r).gives v → b = false ∧ r.gives v := fun {b _ _ _} hg => by
    cases b
    · exact ⟨rfl, hg⟩
    · exact hg.elim
  have take : ∀ {k : Nat} {mv mv' : Option Nat} {r : TR T.El}, isO mv k = false → (mv' = none ∨ mv' = mv) → getT h k = some r → getRow (takeRow (denH T.toTT0 h) mv') k = some (denR T.toTT0 r) := fun {k mv mv' r} hk hm hr => by
    have h0 : getRow (denH T.toTT0 h) k = some (denR T.toTT0 r) := by rw [getT_row, hr]; rfl
    rcases hm with rfl | rfl
    · exact h0
    · cases mv' with
      | none => exact h0
      | some k2 =>
        have hne : k2 ≠ k := by
          simp only [isO, beq_eq, decide_eq_false_iff_not] at hk
          exact hk
        rw [takeRow, getRow_del (Ne.symm hne), h0]
  unfold apT at hg
  split at hg
  · rename_i hx
    split at hg
    · exact hg.elim
    · rename_i m t
      obtain ⟨hp, hg⟩ := nob hg
      obtain ⟨⟨ws, mv⟩, hsrc, hg⟩ := Rs.bind_gives _ hg
      obtain ⟨hk, hg⟩ := nob hg
      obtain ⟨hc, rfl⟩ := hg
      obtain ⟨hs, mv', h1, h2⟩ := srcT_ok hsrc
      refine ap_fin hp hs hk h2 ?_
      simp only [apop, evT_den, h1, hx, den, List.length_map]
      rw [if_pos hc]
  · rename_i k hx
    split at hg
    · rename_i m t xs hr
      obtain ⟨hp, hg⟩ := nob hg
      obtain ⟨⟨ws, mv⟩, hsrc, hg⟩ := Rs.bind_gives _ hg
      obtain ⟨hk, hg⟩ := nob hg
      obtain ⟨hc, rfl⟩ := hg
      obtain ⟨hs, mv', h1, h2⟩ := srcT_ok hsrc
      refine ap_fin hp hs hk h2 ?_
      have hgr : getRow (denH T.toTT0 h) k = some (denR T.toTT0 (.typ m t xs)) := by rw [getT_row, hr]; rfl
      have hl : lenAt (denH T.toTT0 h) k [] = xs.length := by rw [lenAt_row hgr]; simp [lenR, resE, denR]
      simp only [apop, evT_den, h1, hx, den, hl, take hk h2 hr, denR, List.length_map]
      rw [if_pos ⟨trivial, trivial⟩, if_pos ⟨hs, Nat.le_refl _, hc⟩, List.take_of_length_le (by simp), List.map_append, List.length_append]
    · exact hg.elim
  · rename_i k len hx
    split at hg
    · rename_i m t xs hr
      obtain ⟨hp, hg⟩ := nob hg
      obtain ⟨⟨ws, mv⟩, hsrc, hg⟩ := Rs.bind_gives _ hg
      obtain ⟨hk, hg⟩ := nob hg
      obtain ⟨⟨hc1, hc⟩, rfl⟩ := hg
      obtain ⟨hs, mv', h1, h2⟩ := srcT_ok hsrc
      refine ap_fin hp hs hk h2 ?_
      simp only [apop, evT_den, h1, hx, den, take hk h2 hr, denR, List.length_map]
      rw [if_pos ⟨trivial, trivial⟩, if_pos ⟨hs, hc1, hc⟩, List.map_append, List.map_take, List.length_append, List.length_take, Nat.min_eq_left hc1]
    · exact hg.elim
  · exact hg.elim
end
end Loom
set_option linter.unusedVariables false
set_option linter.unusedSimpArgs false
namespace Loom
open Go

section
variable {T : TT}

mutual
theorem kill_eq {H0 H1 : H} {bad : Nat → Path → Bool} (hl : ∀ k p, bad k p = false → lenAt H1 k p = lenAt H0 k p) : ∀ (v : VT T), kill bad (den T.toTT0 H0 v) = den T.toTT0 H1 (killT bad (fun _ _ => false) v)
  | .un | .sc _ | .ik _ _ | .bk _ | .zs | .im _ _ | .ip _ _ _ | .ow _ _ _ | .oo _ _ _ _ _ => rfl
  | .ag cs => by simp only [den, kill, killT, kill_eqs hl cs]
  | .tu cs => by simp only [den, kill, killT, kill_eqs hl cs]
  | .fn f cs => by simp only [den, kill, killT, kill_eqs hl cs]
  | .sl k p off len => by
    simp only [den, kill, killT]
    cases h1 : bad k p <;> rfl
  | .pt k p i c => by
    simp only [den, kill, killT]
    cases h1 : bad k p <;> rfl
  | .sw k p => by
    simp only [den, kill, killT, Bool.or_false]
    cases h1 : bad k p with
    | true => rfl
    | false => simp only [Bool.false_eq_true, if_false, cond_false, den, hl k p h1]
theorem kill_eqs {H0 H1 : H} {bad : Nat → Path → Bool} (hl : ∀ k p, bad k p = false → lenAt H1 k p = lenAt H0 k p) : ∀ (l : List (VT T)), killL bad (denL T.toTT0 H0 l) = denL T.toTT0 H1 (killTL bad (fun _ _ => false) l)
  | [] => rfl
  | x :: l => by simp only [denL, killL, killTL, kill_eq hl x, kill_eqs hl l]
end
mutual
theorem killT_id : ∀ (v : VT T), killT (fun _ _ => false) (fun _ _ => false) v = v
  | .un | .sc _ | .ik _ _ | .bk _ | .zs | .im _ _ | .ip _ _ _ | .ow _ _ _ | .oo _ _ _ _ _ | .sl _ _ _ _ | .pt _ _ _ _ | .sw _ _ => rfl
  | .ag cs => by simp only [killT, killTL_id cs]
  | .tu cs => by simp only [killT, killTL_id cs]
  | .fn f cs => by simp only [killT, killTL_id cs]
theorem killTL_id : ∀ (l : List (VT T)), killTL (fun _ _ => false) (fun _ _ => false) l = l
  | [] => rfl
  | x :: l => by simp only [killTL, killT_id x, killTL_id l]
end
/-- An element's cells. -/
def elemT {X : Type} (i : Nat) (K : List (VT T) → Rs X) : TR T.El → Rs X
  | .lit s xs => match xs[i]? with | some cs => K cs | none => .no
  | .typ m t xs => .bnd (xs[i]?) fun y => K (T.ct m t y)
  | .opn m t xs j cs => .need (i = j ∧ j < xs.length) (K cs)
theorem elemT_ok {X : Type} {i : Nat} {K : List (VT T) → Rs X} {r : TR T.El} {v : X} (hg : (elemT i K r).gives v) : ∃ cs, (denR T.toTT0 r).xs[i]? = some (denL T.toTT0 [] cs) ∧ (K cs).gives v := by
  cases r with
  | lit s xs =>
    simp only [elemT] at hg
    split at hg
    · rename_i cs hcs
      exact ⟨cs, by simp [denR, hcs], hg⟩
    · exact hg.elim
  | typ m t xs =>
    obtain ⟨y, hy, hg⟩ := hg
    exact ⟨T.ct m t y, by simp [denR, hy, T.ct_ok], hg⟩
  | opn m t xs j cs =>
    obtain ⟨⟨rfl, hj⟩, hg⟩ := hg
    exact ⟨cs, by simp only [denR]; rw [List.getElem?_set_self (by simpa using hj)], hg⟩
def lastOf : Path → Option (Path × Nat × Nat)
  | [] => none
  | [(i, c)] => some ([], i, c)
  | x :: p => match lastOf p with | some (q, i, c) => some (x :: q, i, c) | none => none
theorem lastOf_ok : ∀ (p q : Path) (i c : Nat), lastOf p = some (q, i, c) → p = q ++ [(i, c)]
  | [], _, _, _, h => by cases h
  | [(i, c)], _, _, _, h => by cases h; rfl
  | x :: y :: p, q, i, c, h => by
    simp only [lastOf] at h
    split at h
    · rename_i q' i' c' h'
      cases h
      rw [lastOf_ok (y :: p) q' i c h']
      rfl
    · cases h
/-- What a slot looks at taken out of its cell: the rows then; j: its name. -/
def detT (pro : List Nat) (h : TH T.toTT0) (j k : Nat) (p : Path) (i c : Nat) : Rs (TH T.toTT0) :=
  bif pro.contains j || (h.map Prod.fst).contains j then .no else
  match getT h k with
  | none => .no
  | some r => placeT (elemT i fun cs => match (cs[c]?).bind rowOf with
    | none => .no
    | some rj => (updT (putT false i c 1 [.un]) p r).bind fun r' => .ok ((j, rj) :: (k, r') :: delT h k)) p r
def detBad (j k : Nat) (p : Path) (c : Nat) (k' : Nat) (q : Path) : Bool := Nat.beq k' j || under k p c 1 k' q
theorem detT_ok {P : Program} {pro : List Nat} {h h1 : TH T.toTT0} {j k i c : Nat} {p : Path} (hg : (detT pro h j k p i c).gives h1) :
    (∀ (e : Env) (t : Nat), e t = .sl k (p ++ [(i, c)]) 0 (lenAt (denH T.toTT0 h) k (p ++ [(i, c)])) → Ghost P pro e (denH T.toTT0 h) (upd (killE (detBad j k p c) e) t (.sl j [] 0 (lenAt (denH T.toTT0 h1) j []))) (denH T.toTT0 h1)) ∧
    (∀ k' q, detBad j k p c k' q = false → lenAt (denH T.toTT0 h1) k' q = lenAt (denH T.toTT0 h) k' q) ∧ (∀ k', k' ≠ j → k' ≠ k → getRow (denH T.toTT0 h1) k' = getRow (denH T.toTT0 h) k') := by
  unfold detT at hg
  have hj : pro.contains j = false ∧ (h.map Prod.fst).contains j = false := by
    cases hb : (pro.contains j || (h.map Prod.fst).contains j) with
    | true => rw [hb] at hg; exact hg.elim
    | false => simpa using hb
  rw [hj.1, hj.2] at hg
  simp only [Bool.or_false, cond_false] at hg
  split at hg
  · exact hg.elim
  · rename_i r hr
    obtain ⟨ry, hp, hg⟩ := placeT_ok _ _ hg
    obtain ⟨cs, hcs, hg⟩ := elemT_ok hg
    split at hg
    · exact hg.elim
    · rename_i rj hrj
      obtain ⟨r', hup, hg⟩ := Rs.bind_gives _ hg
      cases hg
      obtain ⟨v, hv, hrow⟩ := Option.bind_eq_some_iff.1 hrj
      have hgr : getRow (denH T.toTT0 h) k = some (denR T.toTT0 r) := by rw [getT_row, hr]; rfl
      have hcell : (denL T.toTT0 [] cs)[c]? = some (.ow (denR T.toTT0 rj).s (denR T.toTT0 rj).xs) := by rw [denL_get, hv, Option.map_some, rowOf_den hrow]
      have hlen : lenAt (denH T.toTT0 h) k (p ++ [(i, c)]) = (denR T.toTT0 rj).xs.length := by
        rw [lenAt_row hgr]
        unfold lenR
        rw [resE_append p _ _ _ _ _ hp]
        simp [resE, hcs, hcell]
      obtain ⟨s1, ys, t1, ⟨x0, t2, t4⟩, t3⟩ := updT_ok (f := putT false i c 1 [.un]) (F := putCells i c 1 [.un]) (G := fun _ ys => ∃ x0, ys[i]? = some x0 ∧ c + 1 ≤ x0.length) (fun r0 r1 h0 => by
        obtain ⟨h1, h2⟩ := putT_ok r0 r1 h0
        refine ⟨h1, ?_⟩
        rw [h2]
        have : tgR (T := T) false r0 = fun _ => none := by cases r0 <;> rfl
        rw [this, none_fix]
        rfl) p r r' hup
      rw [t1] at hp
      simp only [Option.some.injEq, Prod.mk.injEq] at hp
      obtain ⟨rfl, rfl⟩ := hp
      have hx0 : x0 = denL T.toTT0 [] cs := by rw [t2] at hcs; exact Option.some.inj hcs
      have hset : updE (denR T.toTT0 r).xs p (putCells i c 1 [.un]) = updE (denR T.toTT0 r).xs p (fun ys => ys.set i ((denL T.toTT0 [] cs).set c .un)) := by
        refine updE_congr p _ _ _ _ t1 ?_
        simp only [putCells, t2, hx0]
        congr 1
        rw [List.set_eq_take_append_cons_drop]
        rw [hx0] at t4
        rw [if_pos (by omega)]
        simp
      have hjk : j ≠ k := fun e => by
        have : (h.map Prod.fst).contains k = true := by
          have := getRow_key _ hgr
          rw [denH_keys] at this
          simpa using this
        rw [← e, hj.2] at this
        cases this
      have hlj : lenAt (denH T.toTT0 ((j, rj) :: (k, r') :: delT h k)) j [] = (denR T.toTT0 rj).xs.length := by
        unfold lenAt res; simp [denH, getRow, resE]
      refine ⟨fun e t ht => ?_, fun k' q hb => ?_, fun k' h1 h2 => by simp only [denH, getRow]; rw [if_neg (fun e => h1 e.symm), if_neg (fun e => h2 e.symm), ← delT_row, getRow_del h2]⟩
      · rw [hlen] at ht
        have := Ghost.detachAt (P := P) (pro := pro) (e := e) (h := denH T.toTT0 h) (t := t) (s0 := (denR T.toTT0 ry).s) j ht hgr t1 hcs hcell (by rw [denH_keys]; exact hj.2) (by
          rw [List.all_eq_true]
          intro k' hk'
          simp only [bne_iff_ne, ne_eq]
          rintro rfl
          have := hj.1
          simp [hk'] at this)
        rw [hlj]
        have hh : denH T.toTT0 ((j, rj) :: (k, r') :: delT h k) = (j, ⟨(denR T.toTT0 rj).s, (denR T.toTT0 rj).xs⟩) :: (k, ⟨(denR T.toTT0 r).s, updE (denR T.toTT0 r).xs p (fun ys => ys.set i ((denL T.toTT0 [] cs).set c .un))⟩) :: delRow (denH T.toTT0 h) k := by
          simp only [denH, t3, hset, delT_row]
        rw [hh]
        have hb : (fun k' q => k' == j || under k p c 1 k' q) = detBad j k p c := by
          funext k' q
          unfold detBad
          congr 1
          rw [Bool.eq_iff_iff]; simp
        rw [hb] at this
        exact this
      · simp only [detBad, Bool.or_eq_false_iff, beq_eq, decide_eq_false_iff_not] at hb
        by_cases hk : k' = k
        · subst hk
          rw [lenAt_row (r := denR T.toTT0 r') (by simp [denH, getRow, hjk]), lenAt_row hgr, t3]
          exact lenR_upd (k := k') rfl p _ _ _ _ x0 q t1 t2 t4 hb.2
        · refine lenAt_congr ?_
          simp only [denH, getRow]
          rw [if_neg (fun e => hb.1 e.symm), if_neg (fun e => hk e.symm), ← delT_row, getRow_del hk]

/-- Append, whole. -/
def appT (ty : Option (Bool × Nat)) (pro : List Nat) (e : TE T.toTT0) (h : TH T.toTT0) (d s bytes : Nat) (x y : Operand) : Rs (StT T) :=
  match evT e x, x with
  | .sw k (z :: p), .tmp t =>
    match lastOf (z :: p) with
    | none => .no
    | some (p, i, c) =>
      let j := 400000 + d
      (detT pro h j k p i c).bind fun h1 =>
        (apT ty pro (putE (killTE (detBad j k p c) (fun _ _ => false) e) t (.sw j [])) h1 d s bytes x y).bind fun st =>
          .ok ⟨st.v, fun k' q => detBad j k p c k' q || st.bad k' q, st.bw, j :: k :: st.tch, st.h⟩
  | _, _ => apT ty pro e h d s bytes x y
theorem under_self {k i c : Nat} {p : Path} : under k p c 1 k (p ++ [(i, c)]) = true := by
  simp [under]
theorem appT_st {P : Program} {ty : Option (Bool × Nat)} {pro : List Nat} {e : TE T.toTT0} {h : TH T.toTT0} {d s bytes : Nat} {g : Option (Nat × Bool)} {x y : Operand} {st : StT T} (hg : (appT ty pro e h d s bytes x y).gives st) : StOk P pro T e h ⟨d, g, .app s bytes x y⟩ st := by
  unfold appT at hg
  split at hg
  · rename_i k z p0 t hx
    split at hg
    · exact hg.elim
    · rename_i p i c hlast
      obtain ⟨h1, hd, hg⟩ := Rs.bind_gives _ hg
      obtain ⟨st1, ha, hg⟩ := Rs.bind_gives _ hg
      cases hg
      obtain ⟨d1, d2, d3⟩ := detT_ok (P := P) hd
      obtain ⟨a1, a2, a3⟩ := apT_st (P := P) (g := g) ha
      have hp := lastOf_ok _ _ _ _ hlast
      refine ⟨fun e' he => ?_, fun k' q hb hw => ?_, fun k' hk' => ?_⟩
      · have het : e' t = .sl k (p ++ [(i, c)]) 0 (lenAt (denH T.toTT0 h) k (p ++ [(i, c)])) := by
          rw [he t (by simp [usesI, opsK, usesL])]
          show den T.toTT0 _ (evT e (.tmp t)) = _
          rw [hx, hp]; rfl
        have hgh := d1 e' t het
        obtain ⟨e0, h0', e1, h1', g1, gb, g2, g3⟩ := a1 (upd (killE (detBad (400000 + d) k p c) e') t (.sl (400000 + d) [] 0 (lenAt (denH T.toTT0 h1) (400000 + d) []))) (fun u hu => by
          rw [denE_put]
          simp only [upd]
          split
          · rfl
          · simp only [killE, denE, getE_kill]
            rw [he u hu]
            exact kill_eq d2 _)
        refine ⟨e0, h0', e1, h1', hgh.trans g1, fun u b hu => gb u b ?_, g2, g3.trans (Ghost.le fun u => ?_)⟩
        · simp only [upd]
          split
          · rename_i hut
            subst hut
            rw [het] at hu; cases hu
          · simp only [killE, hu, kill]
        simp only [upd]
        split
        · exact AVle.refl _
        · split
          · rename_i hu
            subst hu
            have : kill (fun k' q => detBad (400000 + d) k p c k' q || st1.bad k' q) (e' u) = .un := by
              rw [het]; simp [kill, detBad, under_self]
            rw [this]; exact AVle.un _
          · simp only [killE]
            rw [kill_kill.1]
            exact AVle.refl _
      · simp only [Bool.or_eq_false_iff] at hb
        rw [a2 k' q hb.2 hw, d2 k' q hb.1]
      · simp only [List.contains_cons, Bool.or_eq_false_iff, beq_eq_false_iff_ne] at hk'
        rw [a3 k' hk'.2.2, d3 k' hk'.1 hk'.2.1]
  · exact apT_st hg
end
end Loom
set_option linter.unusedVariables false
set_option linter.unusedSimpArgs false
namespace Loom
open Go
section
variable {P : Program} {T : TT} {pro : List Nat}
def renP (k i c k' : Nat) (p : Path) : Option Path :=
  match p with
  | [] => none
  | (i', c') :: q => bif Nat.beq k' k && (Nat.beq c' c && Nat.beq i' i) then some q else none
mutual
def renT (k i c j : Nat) : VT T → VT T
  | .sl k' p off len => bif Nat.beq k' j then .un else match renP k i c k' p with | some q => .sl j q off len | none => .sl k' p off len
  | .sw k' p => bif Nat.beq k' j then .un else match renP k i c k' p with | some q => .sw j q | none => .sw k' p
  | .pt k' p o c0 => bif Nat.beq k' j then .un else match renP k i c k' p with | some q => .pt j q o c0 | none => .pt k' p o c0
  | .ag cs => .ag (renTL k i c j cs)
  | .tu cs => .tu (renTL k i c j cs)
  | .fn f cs => .fn f (renTL k i c j cs)
  | .un => .un
  | .sc v => .sc v
  | .ik k n => .ik k n
  | .bk b => .bk b
  | .zs => .zs
  | .im t xs => .im t xs
  | .ip s cs c => .ip s cs c
  | .ow m t xs => .ow m t xs
  | .oo m t xs i cs => .oo m t xs i cs
def renTL (k i c j : Nat) : List (VT T) → List (VT T)
  | [] => []
  | x :: l => renT k i c j x :: renTL k i c j l
end
theorem renP_none {k i c k' : Nat} {p : Path} (h : renP k i c k' p = none) : ∀ q, ¬ (k' = k ∧ p = (i, c) :: q) := by
  rintro q ⟨rfl, rfl⟩
  simp [renP] at h
theorem renP_some {k i c k' : Nat} {p q : Path} (h : renP k i c k' p = some q) : k' = k ∧ p = (i, c) :: q := by
  unfold renP at h
  split at h
  · cases h
  · rename_i i' c' q'
    cases hb : (Nat.beq k' k && (Nat.beq c' c && Nat.beq i' i)) with
    | false => rw [hb] at h; cases h
    | true =>
      rw [hb] at h
      cases h
      simp only [Bool.and_eq_true] at hb
      exact ⟨Nat.eq_of_beq_eq_true hb.1, by rw [Nat.eq_of_beq_eq_true hb.2.1, Nat.eq_of_beq_eq_true hb.2.2]⟩
theorem renV_sl {k i c j k' : Nat} {p : Path} {off len : Nat} : renV k i c j (.sl k' p off len) = if k' = j then .un else match renP k i c k' p with | some q => .sl j q off len | none => .sl k' p off len := by
  unfold renV
  split
  · rfl
  · cases p with
    | nil => rfl
    | cons x q =>
      obtain ⟨i', c'⟩ := x
      simp only [renP, beq_eq]
      by_cases h : k' = k ∧ i' = i ∧ c' = c
      · obtain ⟨rfl, rfl, rfl⟩ := h; simp
      · rw [if_neg h]
        have : (decide (k' = k) && (decide (c' = c) && decide (i' = i))) = false := by
          rw [Bool.eq_false_iff]
          intro hb
          simp only [Bool.and_eq_true, decide_eq_true_eq] at hb
          exact h ⟨hb.1, hb.2.2, hb.2.1⟩
        rw [this]; rfl
theorem renV_pt {k i c j k' : Nat} {p : Path} {o c0 : Nat} : renV k i c j (.pt k' p o c0) = if k' = j then .un else match renP k i c k' p with | some q => .pt j q o c0 | none => .pt k' p o c0 := by
  unfold renV
  split
  · rfl
  · cases p with
    | nil => rfl
    | cons x q =>
      obtain ⟨i', c'⟩ := x
      simp only [renP, beq_eq]
      by_cases h : k' = k ∧ i' = i ∧ c' = c
      · obtain ⟨rfl, rfl, rfl⟩ := h; simp
      · rw [if_neg h]
        have : (decide (k' = k) && (decide (c' = c) && decide (i' = i))) = false := by
          rw [Bool.eq_false_iff]
          intro hb
          simp only [Bool.and_eq_true, decide_eq_true_eq] at hb
          exact h ⟨hb.1, hb.2.2, hb.2.1⟩
        rw [this]; rfl
mutual
theorem renT_den {H0 H1 : H} {k i c j : Nat} (h1 : ∀ q, lenAt H1 j q = lenAt H0 k ((i, c) :: q)) (h2 : ∀ k' q, k' ≠ j → (∀ q', ¬ (k' = k ∧ q = (i, c) :: q')) → lenAt H1 k' q = lenAt H0 k' q) : ∀ (v : VT T), den T.toTT0 H1 (renT k i c j v) = renV k i c j (den T.toTT0 H0 v)
  | .un | .sc _ | .ik _ _ | .bk _ | .zs | .im _ _ | .ip _ _ _ | .ow _ _ _ | .oo _ _ _ _ _ => by simp only [renT, den, renV]
  | .ag cs => by simp only [renT, den, renV, renTL_den h1 h2 cs]
  | .tu cs => by simp only [renT, den, renV, renTL_den h1 h2 cs]
  | .fn f cs => by simp only [renT, den, renV, renTL_den h1 h2 cs]
  | .sl k' p off len => by
    simp only [renT, den, renV_sl, beq_eq]
    by_cases hj : k' = j
    · simp [hj, den]
    · simp only [hj, decide_false, cond_false, if_false]
      cases renP k i c k' p <;> rfl
  | .pt k' p o c0 => by
    simp only [renT, den, renV_pt, beq_eq]
    by_cases hj : k' = j
    · simp [hj, den]
    · simp only [hj, decide_false, cond_false, if_false]
      cases renP k i c k' p <;> rfl
  | .sw k' p => by
    simp only [renT, den, renV_sl, beq_eq]
    by_cases hj : k' = j
    · simp [hj, den]
    · simp only [hj, decide_false, cond_false, if_false]
      cases hr : renP k i c k' p with
      | some q =>
        obtain ⟨rfl, rfl⟩ := renP_some hr
        simp only [den, h1]
      | none =>
        simp only [den, h2 k' p hj (renP_none hr)]
theorem renTL_den {H0 H1 : H} {k i c j : Nat} (h1 : ∀ q, lenAt H1 j q = lenAt H0 k ((i, c) :: q)) (h2 : ∀ k' q, k' ≠ j → (∀ q', ¬ (k' = k ∧ q = (i, c) :: q')) → lenAt H1 k' q = lenAt H0 k' q) : ∀ (l : List (VT T)), denL T.toTT0 H1 (renTL k i c j l) = renVL k i c j (denL T.toTT0 H0 l)
  | [] => rfl
  | x :: l => by simp only [renTL, denL, renVL, renT_den h1 h2 x, renTL_den h1 h2 l]
end
def renTE (k i c j : Nat) : TE T.toTT0 → TE T.toTT0
  | [] => []
  | (t, v) :: l => (t, renT k i c j v) :: renTE k i c j l
theorem getE_ren {k i c j t : Nat} : ∀ (e : TE T.toTT0), getE (renTE k i c j e) t = renT k i c j (getE e t)
  | [] => by simp [renTE, getE, renT]
  | (t', v) :: l => by
    have ih := getE_ren (k := k) (i := i) (c := c) (j := j) (t := t) l
    simp only [renTE, getE]
    cases Nat.beq t t' <;> simp [ih]
def det1T (pro : List Nat) (h : TH T.toTT0) (j k i c : Nat) : Option (TH T.toTT0) :=
  bif pro.contains j || (h.map Prod.fst).contains j then none else
  match getT h k with
  | some (.lit s xs) => match xs[i]? with
    | some cs => match (cs[c]?).bind rowOf with
      | some rj => some ((j, rj) :: (k, .lit s (xs.set i (cs.set c .un))) :: delT h k)
      | none => none
    | none => none
  | _ => none
theorem det1T_ok {h h1 : TH T.toTT0} {e : TE T.toTT0} {j k i c : Nat} (hg : det1T pro h j k i c = some h1) :
    Ghost P pro (denE T.toTT0 (denH T.toTT0 h) e) (denH T.toTT0 h) (denE T.toTT0 (denH T.toTT0 h1) (renTE k i c j e)) (denH T.toTT0 h1) := by
  unfold det1T at hg
  have hj : pro.contains j = false ∧ (h.map Prod.fst).contains j = false := by
    cases hb : (pro.contains j || (h.map Prod.fst).contains j) with
    | true => rw [hb] at hg; cases hg
    | false => simpa using hb
  rw [hj.1, hj.2] at hg
  simp only [Bool.or_false, cond_false] at hg
  split at hg
  · rename_i s xs hr
    split at hg
    · rename_i cs hcs
      split at hg
      · rename_i rj hrj
        cases hg
        obtain ⟨v, hv, hrow⟩ := Option.bind_eq_some_iff.1 hrj
        have hgr : getRow (denH T.toTT0 h) k = some ⟨s, xs.map (denL T.toTT0 [])⟩ := by rw [getT_row, hr]; rfl
        have hx : (xs.map (denL T.toTT0 []))[i]? = some (denL T.toTT0 [] cs) := by simp [hcs]
        have hcell : (denL T.toTT0 [] cs)[c]? = some (.ow (denR T.toTT0 rj).s (denR T.toTT0 rj).xs) := by rw [denL_get, hv, Option.map_some, rowOf_den hrow]
        have hjk : j ≠ k := fun e => by
          have : (h.map Prod.fst).contains k = true := by
            have := getRow_key _ hgr
            rw [denH_keys] at this
            simpa using this
          rw [← e, hj.2] at this
          cases this
        have := Ghost.detach (P := P) (pro := pro) (e := denE T.toTT0 (denH T.toTT0 h) e) j hgr hx hcell (by rw [denH_keys]; exact hj.2) (by
          rw [List.all_eq_true]
          intro k' hk'
          simp only [bne_iff_ne, ne_eq]
          rintro rfl
          have := hj.1
          simp [hk'] at this)
        have hh : denH T.toTT0 ((j, rj) :: (k, TR.lit s (xs.set i (cs.set c .un))) :: delT h k) = (j, ⟨(denR T.toTT0 rj).s, (denR T.toTT0 rj).xs⟩) :: (k, ⟨s, (xs.map (denL T.toTT0 [])).set i ((denL T.toTT0 [] cs).set c .un)⟩) :: delRow (denH T.toTT0 h) k := by
          simp only [denH, denR, delT_row, List.map_set]
          congr 3
          simp only [denL_map, List.map_set]
          rfl
        rw [hh]
        have he : denE T.toTT0 ((j, ⟨(denR T.toTT0 rj).s, (denR T.toTT0 rj).xs⟩) :: (k, ⟨s, (xs.map (denL T.toTT0 [])).set i ((denL T.toTT0 [] cs).set c .un)⟩) :: delRow (denH T.toTT0 h) k) (renTE k i c j e) = fun t => renV k i c j (denE T.toTT0 (denH T.toTT0 h) e t) := by
          funext t
          simp only [denE, getE_ren]
          refine renT_den (fun q => ?_) (fun k' q hk hq => ?_) _
          · unfold lenAt res
            rw [hgr]
            simp only [getRow, if_true, resE, hx, hcell]
          · by_cases hkk : k' = k
            · subst hkk
              unfold lenAt res
              rw [hgr]
              simp only [getRow]
              rw [if_neg hjk]
              simp only [if_true]
              cases q with
              | nil => simp [resE]
              | cons z q =>
                obtain ⟨i', c'⟩ := z
                simp only [resE, List.getElem?_set]
                by_cases hi : i = i'
                · subst hi
                  have hil : i < (xs.map (denL T.toTT0 [])).length := by
                    obtain ⟨hl, _⟩ := List.getElem?_eq_some_iff.1 hx
                    exact hl
                  simp only [if_true, hil, hx]
                  have hcc : c ≠ c' := fun e => by subst e; exact hq q ⟨rfl, rfl⟩
                  rw [List.getElem?_set_ne hcc]
                · simp only [hi, if_false]
            · refine lenAt_congr ?_
              simp only [getRow]
              rw [if_neg (fun e => hk e.symm), if_neg (fun e => hkk e.symm), getRow_del hkk]
        rw [he]
        exact this
      · cases hg
    · cases hg
  · cases hg
/-- All of a list of cells. -/
def viewOf : VT T → Option (Nat × Nat × Nat)
  | .sw k [(i, c)] => some (k, i, c)
  | _ => none
def detsT (pro : List Nat) : Nat → TE T.toTT0 → TH T.toTT0 → List (VT T) → Option (TE T.toTT0 × TH T.toTT0)
  | _, e, h, [] => some (e, h)
  | j, e, h, x :: l => match viewOf x with
    | some (k, i, c) => match det1T pro h j k i c with | some h1 => detsT pro (j + 1) (renTE k i c j e) h1 l | none => none
    | none => detsT pro (j + 1) e h l
theorem renT_bool {k i c j t : Nat} {e : TE T.toTT0} {H0 H1 : H} {b : Bool} (h : denE T.toTT0 H0 e t = Bl b) : denE T.toTT0 H1 (renTE k i c j e) t = Bl b := by
  simp only [denE, getE_ren] at h ⊢
  cases hv : getE e t <;> rw [hv] at h <;> simp [den] at h <;> simp [renT, den, h]
theorem detsT_ok : ∀ (l : List (VT T)) (j : Nat) (e e1 : TE T.toTT0) (h h1 : TH T.toTT0), detsT pro j e h l = some (e1, h1) →
    Ghost P pro (denE T.toTT0 (denH T.toTT0 h) e) (denH T.toTT0 h) (denE T.toTT0 (denH T.toTT0 h1) e1) (denH T.toTT0 h1) ∧ ∀ t b, denE T.toTT0 (denH T.toTT0 h) e t = Bl b → denE T.toTT0 (denH T.toTT0 h1) e1 t = Bl b
  | [], j, e, e1, h, h1, hg => by
    simp only [detsT, Option.some.injEq, Prod.mk.injEq] at hg
    obtain ⟨rfl, rfl⟩ := hg
    exact ⟨Ghost.rfl', fun _ _ h => h⟩
  | x :: l, j, e, e1, h, h1, hg => by
    simp only [detsT] at hg
    split at hg
    · rename_i k i c heq
      split at hg
      · rename_i h2 hd
        obtain ⟨q1, q2⟩ := detsT_ok l (j + 1) _ e1 _ h1 hg
        exact ⟨(det1T_ok hd).trans q1, fun t b hb => q2 t b (renT_bool hb)⟩
      · cases hg
    · exact detsT_ok l (j + 1) e e1 h h1 hg
def opCells (e : TE T.toTT0) : List Operand → List (VT T)
  | [] => []
  | o :: l => match cellsOfT (evT e o) with | some cs => cs ++ opCells e l | none => opCells e l
end
end Loom
set_option linter.unusedVariables false
set_option linter.unusedSimpArgs false
namespace Loom
open Go

/-- How an argument is handed over. -/
inductive VD where
  | any
  | im (t : Nat)
  | ag (l : List VD)
  | pt (key : Nat)
  | fn (f : Nat) (l : List VD)

section
variable {T : TT}

/-- The contract of a Go function, typed. -/
structure Con (P : Program) (T : TT) where
  f : Nat
  X : Type
  Y : Type
  A : List VD
  H : List (Nat × List Kd)
  N : List Nat
  encA : X → List (VT T)
  encH : X → TH T.toTT0
  G : X → Option Y
  encR : Y → VT T
  encO : Y → TH T.toTT0
  strong : Bool
  ok : ∀ x y, G x = some y → (strong = true → CallOk P f (denL T.toTT0 (denH T.toTT0 (encH x)) (encA x)) (denH T.toTT0 (encH x)) (den T.toTT0 (denH T.toTT0 (encO y)) (encR y)) (denH T.toTT0 (encO y))) ∧
    CallG P f (denL T.toTT0 (denH T.toTT0 (encH x)) (encA x)) (denH T.toTT0 (encH x)) (den T.toTT0 (denH T.toTT0 (encO y)) (encR y)) (denH T.toTT0 (encO y))

mutual
/-- The rows that go along: (the callee's name, the caller's name). -/
def vkeys : VD → VT T → Option (List (Nat × Nat))
  | .pt key, .pt k [] 0 0 => some [(key, k)]
  | .pt _, _ => none
  | .fn f ds, .fn f' cs => bif Nat.beq f f' then vkeysL ds cs else none
  | .fn _ _, _ => none
  | .ag ds, .ag cs => vkeysL ds cs
  | .ag _, _ => none
  | .any, _ => some []
  | .im _, _ => some []
def vkeysL : List VD → List (VT T) → Option (List (Nat × Nat))
  | [], [] => some []
  | d :: ds, v :: vs => match vkeys d v, vkeysL ds vs with | some a, some b => some (a ++ b) | _, _ => none
  | _, _ => none
end
mutual
/-- An argument as the callee sees it. -/
def convT (rest : TH T.toTT0) (m : List (Nat × Nat)) : VD → VT T → RT T
  | .any, .sc v => .ok (.sc v)
  | .any, .ik k n => .ok (.sc (.int k n))
  | .any, .bk b => .ok (.sc (.bool b))
  | .any, .zs => .ok .zs
  | .any, .im t xs => .ok (.im t xs)
  | .any, _ => .no
  | .im t, .im t' xs => bif Nat.beq t t' then .ok (.im t' xs) else .no
  | .im t, .zs => .ok (.im t [])
  | .im t, .sw k p => bif (m.map Prod.snd).contains k then .no else atT rest k p fun
    | .typ _ t' xs => bif Nat.beq t t' then .ok (.im t' xs) else .no
    | _ => .no
  | .im t, .sl k p off len => atT rest k p fun
    | .typ _ t' xs => bif Nat.beq t t' then .need (off + len ≤ xs.length) (.ok (.im t' ((xs.drop off).take len))) else .no
    | _ => .no
  | .im _, _ => .no
  | .ag ds, .ag cs => (convTL rest m ds cs).bind fun cs' => .ok (.ag cs')
  | .ag _, _ => .no
  | .pt _, .pt k [] i c => match lookRev m k with | some n => .ok (.pt n [] i c) | none => .no
  | .pt _, _ => .no
  | .fn _ ds, .fn f cs => (convTL rest m ds cs).bind fun cs' => .ok (.fn f cs')
  | .fn _ _, _ => .no
def convTL (rest : TH T.toTT0) (m : List (Nat × Nat)) : List VD → List (VT T) → Rs (List (VT T))
  | [], [] => .ok []
  | d :: ds, v :: vs => (convT rest m d v).bind fun v' => (convTL rest m ds vs).bind fun vs' => .ok (v' :: vs')
  | _, _ => .no
end
mutual
def hasSl : VT T → Bool
  | .sl _ _ _ _ | .sw _ _ => true
  | .ag cs => hasSlL cs
  | .tu cs => hasSlL cs
  | .fn _ cs => hasSlL cs
  | .un | .sc _ | .ik _ _ | .bk _ | .zs | .im _ _ | .ip _ _ _ | .pt _ _ _ _ | .ow _ _ _ | .oo _ _ _ _ _ => false
def hasSlL : List (VT T) → Bool
  | [] => false
  | x :: l => hasSl x || hasSlL l
end
theorem toImE_typ {m : Bool} {t : Nat} (xs : List (T.El t)) : toImE (xs.map (T.ca m t)) = xs.map (T.ca false t) := toImE_map (fun x => T.im_ok m t x) xs

mutual
theorem convT_ok {H0 Hn : H} {rest : TH T.toTT0} {m : List (Nat × Nat)} {bor : Bool} (hs : ∀ k, (m.map Prod.snd).contains k = false → getRow (denH T.toTT0 rest) k = getRow H0 k) :
    ∀ (d : VD) (v v' : VT T), (convT rest m d v).gives v' → (hasSl v = true → bor = true) → ∃ a, conv (denH T.toTT0 rest) m bor (den T.toTT0 H0 v) = some a ∧ AVle a (den T.toTT0 Hn v')
  | .any, v, v', hg, hb => by
    cases v <;> first | exact hg.elim | (cases hg; exact ⟨_, rfl, AVle.refl _⟩)
  | .im t, v, v', hg, hb => by
    cases v with
    | im t' xs =>
      obtain ⟨h1, rfl⟩ := bif_gives hg
      exact ⟨_, rfl, AVle.refl _⟩
    | zs => cases hg; exact ⟨_, rfl, by simp only [den, List.map_nil]; exact AVle.zsIm _⟩
    | sw k p =>
      simp only [convT] at hg
      cases hc : (m.map Prod.snd).contains k with
      | true => rw [hc] at hg; exact hg.elim
      | false =>
        rw [hc, cond_false] at hg
        obtain ⟨r, hr, hg⟩ := atT_ok hg
        split at hg
        · rename_i m' t' xs
          obtain ⟨h1, rfl⟩ := bif_gives hg
          have hl : lenAt H0 k p = xs.length := by
            have : res H0 k p = res (denH T.toTT0 rest) k p := by unfold res; rw [hs k hc]
            unfold lenAt
            rw [this, hr]; simp [denR]
          have hbor : bor = true := hb rfl
          refine ⟨_, ?_, AVle.refl _⟩
          simp only [den, conv, hbor, if_true, hr, hl, denR]
          rw [if_pos (by simp), List.drop_zero, List.take_of_length_le (by simp), toImE_typ]
        · exact hg.elim
    | sl k p off len =>
      obtain ⟨r, hr, hg⟩ := atT_ok hg
      split at hg
      · rename_i m' t' xs
        obtain ⟨h1, hc, rfl⟩ := bif_gives hg
        have hbor : bor = true := hb rfl
        refine ⟨_, ?_, AVle.refl _⟩
        have : (((xs.map (T.ca m' t')).drop off).take len) = ((xs.drop off).take len).map (T.ca m' t') := by simp [List.map_take, List.map_drop]
        simp only [den, conv, hbor, if_true, hr, denR]
        rw [if_pos (by simpa using hc), this, toImE_typ]
      · exact hg.elim
    | _ => exact hg.elim
  | .ag ds, v, v', hg, hb => by
    cases v with
    | ag cs =>
      obtain ⟨cs', h1, h2⟩ := Rs.bind_gives _ hg
      cases h2
      obtain ⟨l, q1, q2⟩ := convTL_ok (Hn := Hn) (bor := bor) hs ds cs cs' h1 hb
      exact ⟨.ag l, by simp only [den, conv, q1], by simp only [den]; exact AVle.ag q2.C⟩
    | _ => exact hg.elim
  | .pt key, v, v', hg, hb => by
    cases v with
    | pt k p i c =>
      cases p with
      | nil =>
        simp only [convT] at hg
        split at hg
        · rename_i n hn
          cases hg
          exact ⟨_, by simp only [den, conv, hn, if_true], AVle.refl _⟩
        · exact hg.elim
      | cons _ _ => exact hg.elim
    | _ => exact hg.elim
  | .fn f ds, v, v', hg, hb => by
    cases v with
    | fn f' cs =>
      obtain ⟨cs', h1, h2⟩ := Rs.bind_gives _ hg
      cases h2
      obtain ⟨l, q1, q2⟩ := convTL_ok (Hn := Hn) (bor := bor) hs ds cs cs' h1 hb
      exact ⟨.fn f' l, by simp only [den, conv, q1], by simp only [den]; exact AVle.fn q2.L⟩
    | _ => exact hg.elim
theorem convTL_ok {H0 Hn : H} {rest : TH T.toTT0} {m : List (Nat × Nat)} {bor : Bool} (hs : ∀ k, (m.map Prod.snd).contains k = false → getRow (denH T.toTT0 rest) k = getRow H0 k) :
    ∀ (ds : List VD) (vs vs' : List (VT T)), (convTL rest m ds vs).gives vs' → (hasSlL vs = true → bor = true) → ∃ l, convL (denH T.toTT0 rest) m bor (denL T.toTT0 H0 vs) = some l ∧ AVles l (denL T.toTT0 Hn vs')
  | [], vs, vs', hg, hb => by
    cases vs with
    | nil => cases hg; exact ⟨[], rfl, .nil⟩
    | cons _ _ => exact hg.elim
  | d :: ds, vs, vs', hg, hb => by
    cases vs with
    | nil => exact hg.elim
    | cons v vs =>
      obtain ⟨v1, h1, hg⟩ := Rs.bind_gives _ hg
      obtain ⟨vs1, h2, hg⟩ := Rs.bind_gives _ hg
      cases hg
      obtain ⟨a, q1, q2⟩ := convT_ok (Hn := Hn) (bor := bor) hs d v v1 h1 (fun h => hb (by simp [hasSlL, h]))
      obtain ⟨l, q3, q4⟩ := convTL_ok (Hn := Hn) (bor := bor) hs ds vs vs1 h2 (fun h => hb (by simp [hasSlL, h]))
      exact ⟨a :: l, by simp only [denL, convL, q1, q3], .cons q2 q4⟩
end

/-! ### rows handed over -/
def splitT : TH T.toTT0 → List (Nat × Nat) → Option (TH T.toTT0 × TH T.toTT0)
  | h, [] => some ([], h)
  | h, (n, o) :: m =>
    match getT h o with
    | some r => match splitT (delT h o) m with
      | some (hs, rest) => some ((n, r) :: hs, rest)
      | none => none
    | none => none
theorem splitT_ok : ∀ (m : List (Nat × Nat)) (h hs rest : TH T.toTT0), splitT h m = some (hs, rest) →
    splitH (denH T.toTT0 h) m = some (denH T.toTT0 hs, denH T.toTT0 rest) ∧ (∀ k, (m.map Prod.snd).contains k = false → getRow (denH T.toTT0 rest) k = getRow (denH T.toTT0 h) k) ∧
    ∀ n o, nodupB (m.map Prod.fst) = true → nodupB (m.map Prod.snd) = true → (n, o) ∈ m → getRow (denH T.toTT0 hs) n = getRow (denH T.toTT0 h) o
  | [], h, _, _, hh => by cases hh; exact ⟨rfl, fun _ _ => rfl, fun _ _ _ _ h => (by cases h)⟩
  | (n, o) :: m, h, _, _, hh => by
    unfold splitT at hh
    split at hh
    · rename_i r hr
      split at hh
      · rename_i hs rest h2
        cases hh
        obtain ⟨q1, q2, q3⟩ := splitT_ok m _ _ _ h2
        have hgr : getRow (denH T.toTT0 h) o = some (denR T.toTT0 r) := by rw [getT_row, hr]; rfl
        refine ⟨?_, fun k hk => ?_, fun n' o' h1 h2 hm => ?_⟩
        · simp only [splitH, hgr, delT_row, q1, denH]
        · simp only [List.map_cons, List.contains_cons, Bool.or_eq_false_iff, beq_eq_false_iff_ne] at hk
          rw [q2 k hk.2, ← delT_row, getRow_del hk.1]
        · simp only [List.map_cons, nodupB, Bool.and_eq_true, Bool.not_eq_true'] at h1 h2
          rcases List.mem_cons.1 hm with hm | hm
          · cases hm
            simp only [denH, getRow, if_true, hgr]
          · have hn : n ≠ n' := fun e => by
              have : (m.map Prod.fst).contains n = true := by
                rw [e]; simp only [List.contains_eq_mem, decide_eq_true_eq]; exact List.mem_map.2 ⟨_, hm, rfl⟩
              rw [h1.1] at this; cases this
            have ho : o' ≠ o := fun e => by
              have : (m.map Prod.snd).contains o = true := by
                rw [← e]; simp only [List.contains_eq_mem, decide_eq_true_eq]; exact List.mem_map.2 ⟨_, hm, rfl⟩
              rw [h2.1] at this; cases this
            simp only [denH, getRow]
            rw [if_neg hn, q3 n' o' h1.2 h2.2 hm, ← delT_row, getRow_del ho]
      · cases hh
    · cases hh
def delKeysT (h : TH T.toTT0) : List Nat → TH T.toTT0
  | [] => h
  | k :: ks => delKeysT (delT h k) ks
theorem delKeysT_row : ∀ (ks : List Nat) (h : TH T.toTT0), delKeys (denH T.toTT0 h) ks = denH T.toTT0 (delKeysT h ks)
  | [], _ => rfl
  | k :: ks, h => by simp only [delKeys, delKeysT, delT_row, delKeysT_row ks]
theorem getRow_delKeys : ∀ (ks : List Nat) (h : H) (k : Nat), ks.contains k = false → getRow (delKeys h ks) k = getRow h k
  | [], _, _, _ => rfl
  | k' :: ks, h, k, hk => by
    simp only [List.contains_cons, Bool.or_eq_false_iff, beq_eq_false_iff_ne] at hk
    rw [delKeys, getRow_delKeys ks _ k hk.2, getRow_del hk.1]
theorem getRow_append : ∀ (a b : H) (k : Nat), getRow (a ++ b) k = match getRow a k with | some r => some r | none => getRow b k
  | [], _, _ => rfl
  | (k', r) :: a, b, k => by
    simp only [List.cons_append, getRow]
    split
    · rfl
    · exact getRow_append a b k
mutual
/-- An answer as the caller sees it. bm: (the caller's name, the callee's name). -/
def backT (bm : List (Nat × Nat)) : VT T → Option (VT T)
  | .sc v => some (.sc v)
  | .zs => some .zs
  | .un => some .un
  | .im t xs => some (.im t xs)
  | .sl k p off len => match lookRev bm k with | some n => some (.sl n p off len) | none => none
  | .sw k p => match lookRev bm k with | some n => some (.sw n p) | none => none
  | .pt k p i c => match lookRev bm k with | some n => some (.pt n p i c) | none => none
  | .ag cs => match backTL bm cs with | some cs' => some (.ag cs') | none => none
  | .tu vs => match backTL bm vs with | some cs' => some (.tu cs') | none => none
  | .fn f caps => match backTL bm caps with | some cs' => some (.fn f cs') | none => none
  | .ip s cs c => some (.ip s cs c)
  | .ik _ _ | .bk _ | .ow _ _ _ | .oo _ _ _ _ _ => none
def backTL (bm : List (Nat × Nat)) : List (VT T) → Option (List (VT T))
  | [] => some []
  | x :: l => match backT bm x, backTL bm l with | some x', some l' => some (x' :: l') | _, _ => none
end
mutual
theorem backT_ok {Ho H1 : H} {bm : List (Nat × Nat)} (hl : ∀ k n p, lookRev bm k = some n → lenAt H1 n p = lenAt Ho k p) : ∀ (v v' : VT T), backT bm v = some v' → back bm (den T.toTT0 Ho v) = some (den T.toTT0 H1 v')
  | .sc _, _, h | .zs, _, h | .un, _, h | .im _ _, _, h | .ip _ _ _, _, h => by cases h; rfl
  | .sl k p off len, v', h => by
    simp only [backT] at h
    split at h
    · rename_i n hn; cases h; simp only [den, back, hn]
    · cases h
  | .sw k p, v', h => by
    simp only [backT] at h
    split at h
    · rename_i n hn; cases h; simp only [den, back, hn, hl k n p hn]
    · cases h
  | .pt k p i c, v', h => by
    simp only [backT] at h
    split at h
    · rename_i n hn; cases h; simp only [den, back, hn]
    · cases h
  | .ag cs, v', h => by
    simp only [backT] at h
    split at h
    · rename_i cs' hc; cases h; simp only [den, back, backTL_ok hl cs cs' hc]
    · cases h
  | .tu cs, v', h => by
    simp only [backT] at h
    split at h
    · rename_i cs' hc; cases h; simp only [den, back, backTL_ok hl cs cs' hc]
    · cases h
  | .fn f cs, v', h => by
    simp only [backT] at h
    split at h
    · rename_i cs' hc; cases h; simp only [den, back, backTL_ok hl cs cs' hc]
    · cases h
  | .ik _ _, _, h | .bk _, _, h | .ow _ _ _, _, h | .oo _ _ _ _ _, _, h => by cases h
theorem backTL_ok {Ho H1 : H} {bm : List (Nat × Nat)} (hl : ∀ k n p, lookRev bm k = some n → lenAt H1 n p = lenAt Ho k p) : ∀ (v v' : List (VT T)), backTL bm v = some v' → backL bm (denL T.toTT0 Ho v) = some (denL T.toTT0 H1 v')
  | [], _, h => by cases h; rfl
  | x :: l, v', h => by
    simp only [backTL] at h
    split at h
    · rename_i x' l' h1 h2
      cases h
      simp only [denL, backL, backT_ok hl x x' h1, backTL_ok hl l l' h2]
    · cases h
end
mutual
def noImT : VT T → Bool
  | .im _ _ | .ip _ _ _ | .oo _ _ _ _ _ => false
  | .ow m t _ => m || T.pl t
  | .ag cs => noImTL cs
  | .tu cs => noImTL cs
  | .fn _ cs => noImTL cs
  | .un | .sc _ | .ik _ _ | .bk _ | .zs | .sl _ _ _ _ | .sw _ _ | .pt _ _ _ _ => true
def noImTL : List (VT T) → Bool
  | [] => true
  | x :: l => noImT x && noImTL l
end
theorem noIm_typ {m : Bool} {t : Nat} (h : (m || T.pl t) = true) (xs : List (T.El t)) : noImE (xs.map (T.ca m t)) = true := by
  refine noImE_map (fun x => ?_) xs
  cases m with
  | true => exact T.ow_ok t x
  | false => exact T.pl_ok t x (by simpa using h)
mutual
theorem noImT_ok {h : H} : ∀ (v : VT T), noImT v = true → noIm (den T.toTT0 h v) = true
  | .un, _ | .sc _, _ | .ik _ _, _ | .bk _, _ | .zs, _ | .sl _ _ _ _, _ | .sw _ _, _ | .pt _ _ _ _, _ => rfl
  | .im _ _, hn | .ip _ _ _, hn | .oo _ _ _ _ _, hn => by simp [noImT] at hn
  | .ow m t xs, hn => by simp only [den, noIm]; exact noIm_typ hn xs
  | .ag cs, hn => by simp only [den, noIm]; exact noImTL_ok cs hn
  | .tu cs, hn => by simp only [den, noIm]; exact noImTL_ok cs hn
  | .fn _ cs, hn => by simp only [den, noIm]; exact noImTL_ok cs hn
theorem noImTL_ok {h : H} : ∀ (v : List (VT T)), noImTL v = true → noImC (denL T.toTT0 h v) = true
  | [], _ => rfl
  | x :: l, hn => by
    simp only [noImTL, Bool.and_eq_true] at hn
    simp only [denL, noImC, noImT_ok x hn.1, noImTL_ok l hn.2, Bool.and_self]
end
def noImRT : TR T.El → Bool
  | .typ m t _ => m || T.pl t
  | .lit _ xs => xs.all noImTL
  | .opn _ _ _ _ _ => false
def noImHT (h : TH T.toTT0) : Bool := h.all fun x => noImRT x.2
theorem noImHT_ok : ∀ (h : TH T.toTT0), noImHT h = true → noImH (denH T.toTT0 h) = true
  | [], _ => rfl
  | (k, r) :: h, hn => by
    simp only [noImHT, List.all_cons, Bool.and_eq_true] at hn
    have ih := noImHT_ok h hn.2
    simp only [noImH, denH, List.all_cons, Bool.and_eq_true]
    refine ⟨?_, ih⟩
    cases r with
    | typ m t xs => exact noIm_typ hn.1 xs
    | lit s xs =>
      have h1 := hn.1
      simp only [noImRT] at h1
      simp only [denR]
      clear ih hn
      induction xs with
      | nil => rfl
      | cons x xs ih =>
        simp only [List.all_cons, Bool.and_eq_true] at h1
        simp only [List.map_cons, noImE, noImTL_ok x h1.1, ih h1.2, Bool.and_self]
    | opn => cases hn.1
end
end Loom
set_option linter.unusedVariables false
set_option linter.unusedSimpArgs false
namespace Loom
open Go

abbrev EH (T : TT) := TE T.toTT0 × TH T.toTT0

/-- A loop's contract, typed. -/
structure LCon (P : Program) (T : TT) (pro : List Nat) where
  body : IC
  X : Type
  Y : Type
  Z : Type
  encX : X → EH T
  encY : Y → EH T
  encZ : Z → EH T
  id : Nat
  ret : Bool
  G : X → Option (Bo X Y Z)
  ok : ∀ x b, G x = some b → W P pro (.loop body) (fun o e h => match b with
    | .go _ => False
    | .out y => o = .exit id ∧ e = denE T.toTT0 (denH T.toTT0 (encY y).2) (encY y).1 ∧ h = denH T.toTT0 (encY y).2
    | .ret z => ret = true ∧ o = .ret ∧ e = denE T.toTT0 (denH T.toTT0 (encZ z).2) (encZ z).1 ∧ h = denH T.toTT0 (encZ z).2) (denE T.toTT0 (denH T.toTT0 (encX x).2) (encX x).1) (denH T.toTT0 (encX x).2)

/-- What evaluation comes to. -/
inductive Raw (P : Program) (T : TT) (pro : List Nat) : Type → Type 1 where
  | leaf {L : Type} (x : L) : Raw P T pro L
  | no {L : Type} : Raw P T pro L
  | ite {L : Type} (b : Bool) (x y : Raw P T pro L) : Raw P T pro L
  | bnd {L A : Type} (x : Option A) (K : A → Raw P T pro L) : Raw P T pro L
  | need {L : Type} (p : Prop) [Decidable p] (K : Raw P T pro L) : Raw P T pro L
  | join {L S : Type} (enc : S → EH T) (B : Raw P T pro (EH T ⊕ L)) (K : S → Raw P T pro L) : Raw P T pro L
  | call {L : Type} (C : Con P T) (args : List (VT T)) (hin : TH T.toTT0) (K : C.Y → Raw P T pro L) : Raw P T pro L
  | loop {L V : Type} (c : V → LCon P T pro) (body : IC) (eh : EH T) (KY : (v : V) → (c v).Y → Raw P T pro L) : Raw P T pro L
  | loopR {L V : Type} (c : V → LCon P T pro) (body : IC) (eh : EH T) (KY : (v : V) → (c v).Y → Raw P T pro L) (KZ : (v : V) → (c v).Z → Raw P T pro L) : Raw P T pro L

section
variable {P : Program} {T : TT} {pro : List Nat}

def joinP {S E L : Type} (enc : S → E) (A : S → Prop) (Q : L → Prop) : E ⊕ L → Prop
  | .inl eh => ∃ s, enc s = eh ∧ A s
  | .inr l => Q l
def boP {X Y Z : Type} (A : Y → Prop) (B : Z → Prop) : Bo X Y Z → Prop
  | .go _ => False
  | .out y => A y
  | .ret z => B z
def orRet {S R : Type} (A : S → Option R) : S ⊕ R → Option R
  | .inl s => A s
  | .inr r => some r
def Sat : {L : Type} → Raw P T pro L → (L → Prop) → Prop
  | _, .leaf x, Q => Q x
  | _, .no, _ => False
  | _, .ite b x y, Q => (b = true → Sat x Q) ∧ (b = false → Sat y Q)
  | _, .bnd x K, Q => ∃ a, x = some a ∧ Sat (K a) Q
  | _, @Raw.need _ _ _ _ p _ K, Q => p ∧ Sat K Q
  | _, .join enc B K, Q => Sat B (joinP enc (fun s => Sat (K s) Q) Q)
  | _, .call C args hin K, Q => ∃ x y, C.encA x = args ∧ C.encH x = hin ∧ C.G x = some y ∧ Sat (K y) Q
  | _, .loop c body eh KY, Q => ∃ v, (c v).body = body ∧ ∃ x y, (c v).encX x = eh ∧ (c v).ret = false ∧ (c v).G x = some (.out y) ∧ Sat (KY v y) Q
  | _, .loopR c body eh KY KZ, Q => ∃ v, (c v).body = body ∧ ∃ x b, (c v).encX x = eh ∧ (c v).G x = some b ∧ boP (fun y => Sat (KY v y) Q) (fun z => Sat (KZ v z) Q) b
theorem Sat.mono : ∀ {L : Type} (t : Raw P T pro L) {Q Q' : L → Prop}, (∀ l, Q l → Q' l) → Sat t Q → Sat t Q'
  | _, .leaf x, _, _, h, hs => h _ hs
  | _, .no, _, _, _, hs => hs
  | _, .ite b x y, _, _, h, hs => ⟨fun hb => Sat.mono x h (hs.1 hb), fun hb => Sat.mono y h (hs.2 hb)⟩
  | _, .bnd x K, _, _, h, hs => by
    obtain ⟨a, h1, h2⟩ := hs
    exact ⟨a, h1, Sat.mono (K a) h h2⟩
  | _, @Raw.need _ _ _ _ p _ K, _, _, h, hs => ⟨hs.1, Sat.mono K h hs.2⟩
  | _, .join enc B K, _, _, h, hs => Sat.mono B (fun l hl => by
    cases l with
    | inl eh => obtain ⟨s, h1, h2⟩ := hl; exact ⟨s, h1, Sat.mono (K s) h h2⟩
    | inr l => exact h l hl) hs
  | _, .call C args hin K, _, _, h, hs => by
    obtain ⟨x, y, h1, h2, h3, h4⟩ := hs
    exact ⟨x, y, h1, h2, h3, Sat.mono (K y) h h4⟩
  | _, .loop c body eh KY, _, _, h, hs => by
    obtain ⟨v, h0, x, y, h1, hr, h2, h3⟩ := hs
    exact ⟨v, h0, x, y, h1, hr, h2, Sat.mono (KY v y) h h3⟩
  | _, .loopR c body eh KY KZ, _, _, h, hs => by
    obtain ⟨v, h0, x, b, h1, h2, h3⟩ := hs
    exact ⟨v, h0, x, b, h1, h2, by
      cases b with
      | go _ => exact h3
      | out y => exact Sat.mono (KY v y) h h3
      | ret z => exact Sat.mono (KZ v z) h h3⟩
def Raw.map : {L L' : Type} → (L → L') → Raw P T pro L → Raw P T pro L'
  | _, _, f, .leaf x => .leaf (f x)
  | _, _, _, .no => .no
  | _, _, f, .ite b x y => .ite b (x.map f) (y.map f)
  | _, _, f, .bnd x K => .bnd x fun a => (K a).map f
  | _, _, f, @Raw.need _ _ _ _ p _ K => .need p (K.map f)
  | _, _, f, .join enc B K => .join enc (B.map (Sum.map id f)) fun s => (K s).map f
  | _, _, f, .call C args hin K => .call C args hin fun y => (K y).map f
  | _, _, f, .loop c body eh KY => .loop c body eh fun v y => (KY v y).map f
  | _, _, f, .loopR c body eh KY KZ => .loopR c body eh (fun v y => (KY v y).map f) (fun v z => (KZ v z).map f)
theorem Sat.map : ∀ {L L' : Type} (f : L → L') (t : Raw P T pro L) (Q : L' → Prop), Sat (t.map f) Q → Sat t fun l => Q (f l)
  | _, _, f, .leaf x, Q, h => h
  | _, _, _, .no, _, h => h
  | _, _, f, .ite b x y, Q, h => ⟨fun hb => Sat.map f x Q (h.1 hb), fun hb => Sat.map f y Q (h.2 hb)⟩
  | _, _, f, .bnd x K, Q, h => by
    obtain ⟨a, h1, h2⟩ := h
    exact ⟨a, h1, Sat.map f (K a) Q h2⟩
  | _, _, f, @Raw.need _ _ _ _ p _ K, Q, h => ⟨h.1, Sat.map f K Q h.2⟩
  | _, _, f, .join enc B K, Q, h => by
    have := Sat.map (Sum.map id f) B _ h
    refine Sat.mono B (fun l hl => ?_) this
    cases l with
    | inl eh => obtain ⟨s, h1, h2⟩ := hl; exact ⟨s, h1, Sat.map f (K s) Q h2⟩
    | inr l => exact hl
  | _, _, f, .call C args hin K, Q, h => by
    obtain ⟨x, y, h1, h2, h3, h4⟩ := h
    exact ⟨x, y, h1, h2, h3, Sat.map f (K y) Q h4⟩
  | _, _, f, .loop c body eh KY, Q, h => by
    obtain ⟨v, h0, x, y, h1, hr, h2, h3⟩ := h
    exact ⟨v, h0, x, y, h1, hr, h2, Sat.map f (KY v y) Q h3⟩
  | _, _, f, .loopR c body eh KY KZ, Q, h => by
    obtain ⟨v, h0, x, b, h1, h2, h3⟩ := h
    exact ⟨v, h0, x, b, h1, h2, by
      cases b with
      | go _ => exact h3
      | out y => exact Sat.map f (KY v y) Q h3
      | ret z => exact Sat.map f (KZ v z) Q h3⟩
def Raw.ofRs {L X : Type} (K : X → Raw P T pro L) : Rs X → Raw P T pro L
  | .ok v => K v
  | .no => .no
  | .bnd x F => .bnd x fun a => Raw.ofRs K (F a)
  | @Rs.need _ p _ F => .need p (Raw.ofRs K F)
  | .ite b x y => .ite b (Raw.ofRs K x) (Raw.ofRs K y)
theorem Sat.ofRs {L X : Type} {K : X → Raw P T pro L} {Q : L → Prop} : ∀ (r : Rs X), Sat (Raw.ofRs K r) Q → ∃ v, r.gives v ∧ Sat (K v) Q
  | .ok v, h => ⟨v, rfl, h⟩
  | .no, h => h.elim
  | .bnd x F, h => by
    obtain ⟨a, h1, h2⟩ := h
    obtain ⟨v, h3, h4⟩ := Sat.ofRs (F a) h2
    exact ⟨v, ⟨a, h1, h3⟩, h4⟩
  | @Rs.need _ p _ F, h => by
    obtain ⟨h1, h2⟩ := h
    obtain ⟨v, h3, h4⟩ := Sat.ofRs F h2
    exact ⟨v, ⟨h1, h3⟩, h4⟩
  | .ite b x y, h => by
    obtain ⟨h1, h2⟩ := h
    cases b with
    | true =>
      obtain ⟨v, h3, h4⟩ := Sat.ofRs x (h1 rfl)
      exact ⟨v, .inl ⟨rfl, h3⟩, h4⟩
    | false =>
      obtain ⟨v, h3, h4⟩ := Sat.ofRs y (h2 rfl)
      exact ⟨v, .inr ⟨rfl, h3⟩, h4⟩

/-- The same, typed: what a function computes. -/
inductive Pt (P : Program) (T : TT) (pro : List Nat) : Type → Type 1 where
  | leaf {R : Type} (x : R) : Pt P T pro R
  | no {R : Type} : Pt P T pro R
  | ite {R : Type} (b : Bool) (x y : Pt P T pro R) : Pt P T pro R
  | bnd {R A : Type} (x : Option A) (K : A → Pt P T pro R) : Pt P T pro R
  | need {R : Type} (p : Prop) [Decidable p] (K : Pt P T pro R) : Pt P T pro R
  | join {R S : Type} (enc : S → EH T) (B : Pt P T pro (S ⊕ R)) (K : S → Pt P T pro R) : Pt P T pro R
  | call {R : Type} (C : Con P T) (x : C.X) (K : C.Y → Pt P T pro R) : Pt P T pro R
  | loop {R V : Type} (c : V → LCon P T pro) (v : V) (x : (c v).X) (KY : (v : V) → (c v).Y → Pt P T pro R) : Pt P T pro R
  | loopR {R V : Type} (c : V → LCon P T pro) (v : V) (x : (c v).X) (KY : (v : V) → (c v).Y → Pt P T pro R) (KZ : (v : V) → (c v).Z → Pt P T pro R) : Pt P T pro R
def Pt.run : {R : Type} → Pt P T pro R → Option R
  | _, .leaf x => some x
  | _, .no => none
  | _, .ite b x y => bif b then x.run else y.run
  | _, .bnd x K => x.bind fun a => (K a).run
  | _, @Pt.need _ _ _ _ p _ K => Loom.need p K.run
  | _, .join enc B K => B.run.bind (orRet fun s => (K s).run)
  | _, .call C x K => (C.G x).bind fun y => (K y).run
  | _, .loop c v x KY => ((c v).G x).bind (Bo.then (fun y => bif (c v).ret then none else (KY v y).run) (fun _ => none))
  | _, .loopR c v x KY KZ => ((c v).G x).bind (Bo.then (fun y => (KY v y).run) (fun z => (KZ v z).run))
def Pt.raw : {R L : Type} → (R → L) → Pt P T pro R → Raw P T pro L
  | _, _, f, .leaf x => .leaf (f x)
  | _, _, _, .no => .no
  | _, _, f, .ite b x y => .ite b (x.raw f) (y.raw f)
  | _, _, f, .bnd x K => .bnd x fun a => (K a).raw f
  | _, _, f, @Pt.need _ _ _ _ p _ K => .need p (K.raw f)
  | _, _, f, .join enc B K => .join enc (B.raw (Sum.map enc f)) fun s => (K s).raw f
  | _, _, f, .call C x K => .call C (C.encA x) (C.encH x) fun y => (K y).raw f
  | _, _, f, .loop c v x KY => .loop c (c v).body ((c v).encX x) fun v y => (KY v y).raw f
  | _, _, f, .loopR c v x KY KZ => .loopR c (c v).body ((c v).encX x) (fun v y => (KY v y).raw f) (fun v z => (KZ v z).raw f)
theorem run_sat : ∀ {R L : Type} (f : R → L) (t : Pt P T pro R) (r : R), t.run = some r → Sat (t.raw f) fun l => l = f r
  | _, _, f, .leaf x, r, h => by cases h; exact rfl
  | _, _, _, .no, _, h => by cases h
  | _, _, f, .ite b x y, r, h => ⟨fun hb => by subst hb; exact run_sat f x r h, fun hb => by subst hb; exact run_sat f y r h⟩
  | _, _, f, .bnd x K, r, h => by
    obtain ⟨a, h1, h2⟩ := bind_some' h
    exact ⟨a, h1, run_sat f (K a) r h2⟩
  | _, _, f, @Pt.need _ _ _ _ p _ K, r, h => by
    obtain ⟨h1, h2⟩ := need_some h
    exact ⟨h1, run_sat f K r h2⟩
  | _, _, f, .join enc B K, r, h => by
    simp only [Pt.run] at h
    obtain ⟨b, h1, h2⟩ := bind_some' h
    refine Sat.mono (B.raw (Sum.map enc f)) (fun l hl => ?_) (run_sat (Sum.map enc f) B b h1)
    subst hl
    cases b with
    | inl s => exact ⟨s, rfl, run_sat f (K s) r h2⟩
    | inr r' => cases h2; exact rfl
  | _, _, f, .call C x K, r, h => by
    obtain ⟨y, h1, h2⟩ := bind_some' h
    exact ⟨x, y, rfl, rfl, h1, run_sat f (K y) r h2⟩
  | _, _, f, .loop c v x KY, r, h => by
    obtain ⟨b, h1, h2⟩ := bind_some' h
    cases b with
    | go _ => cases h2
    | out y =>
      simp only [Bo.then] at h2
      cases hr : (c v).ret with
      | true => rw [hr] at h2; cases h2
      | false => rw [hr] at h2; exact ⟨v, rfl, x, y, rfl, hr, h1, run_sat f (KY v y) r h2⟩
    | ret z => cases h2
  | _, _, f, .loopR c v x KY KZ, r, h => by
    obtain ⟨b, h1, h2⟩ := bind_some' h
    cases b with
    | go _ => cases h2
    | out y => exact ⟨v, rfl, x, _, rfl, h1, run_sat f (KY v y) r h2⟩
    | ret z => exact ⟨v, rfl, x, _, rfl, h1, run_sat f (KZ v z) r h2⟩
end
end Loom
