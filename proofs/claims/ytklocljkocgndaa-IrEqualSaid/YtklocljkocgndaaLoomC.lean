/- Loom, an abstract machine over the kit's calculus: rows, reads, stores, calls, regions, and what they owe (part 3 of 3). -/
import Derived.Test.YtklocljkocgndaaLoomB
import Derived.SizedLaws
import Derived.ChangeOld
import Derived.Carry
import Derived.WalkKit
import Derived.OpenShut
import Derived.Maps.Own
set_option linter.unusedVariables false
set_option linter.unusedSimpArgs false
namespace Loom
open Go

def isRd : IK → Bool
  | .rd _ => true
  | _ => false
/-- A read told once more, behind the one instruction. -/
def Again (e : Env) (h : H) (x : Ins) (av : AV) : Prop := (wants e x.guard = some false ∧ av = skipAV x.op) ∨ (wants e x.guard = some true ∧ ∃ b, x.op = .rd b ∧ rdop (ev e) (res h) b = some av)
def Agains (dep : List Nat) (φ : AV → AV) (e : Env) (h : H) : List (Ins × List Nat) → Nat → Prop
  | [], _ => True
  | (x, _) :: l, i => (dep.contains i = true ∨ Again (fun t => φ (e t)) h x (φ (e x.dst))) ∧ Agains dep φ e h l (i + 1)
def onlyRd (dep : List Nat) : List (Ins × List Nat) → Nat → Bool
  | [], _ => true
  | (x, _) :: l, i => (dep.contains i || isRd x.op) && onlyRd dep l (i + 1)
def KT (P : Program) (pro keep ds : List Nat) (Q : Out → Env → H → Prop) (pre0 : List (Ins × List Nat)) (xj : Ins) (dep : List Nat) (tail : List Ins) (h0 : H) (e1 : Env) (hA : H) : Prop :=
  ∃ (φ : AV → AV) (av : AV) (hN : H), keysOk ds h0 hA = true ∧ nodupB (hN.map Prod.fst) = true ∧ TurnOk P pro xj e1 hA φ av hN ∧ Agains dep φ e1 hN pre0 0 ∧ RG P pro keep Q tail (upd (fun t => φ (e1 t)) xj.dst av) hN

section
variable {P : Program} {pro keep : List Nat} {e e1 : Env} {h h1 : H} {Q : Out → Env → H → Prop} {pre0 : List (Ins × List Nat)} {tail : List Ins} {xj : Ins} {dep : List Nat}

theorem onlyRd_spec : ∀ (l : List (Ins × List Nat)) (i : Nat), onlyRd dep l i = true → ∀ (n : Nat) (x : Ins × List Nat), l[n]? = some x → i + n ∈ dep ∨ isRd x.1.op = true
  | [], _, _, _, _, h => by simp at h
  | y :: l, i, h, 0, x, hx => by
    simp only [List.getElem?_cons_zero, Option.some.injEq] at hx
    subst hx
    simp only [onlyRd, Bool.and_eq_true, Bool.or_eq_true] at h
    simpa using h.1
  | y :: l, i, h, n + 1, x, hx => by
    simp only [onlyRd, Bool.and_eq_true] at h
    have := onlyRd_spec l (i + 1) h.2 n x (by simpa using hx)
    rwa [show i + 1 + n = i + (n + 1) by omega] at this
theorem Agains_spec {φ : AV → AV} : ∀ (l : List (Ins × List Nat)) (i : Nat), Agains dep φ e h l i → ∀ (n : Nat) (x : Ins × List Nat), l[n]? = some x → i + n ∉ dep → Again (fun t => φ (e t)) h x.1 (φ (e x.1.dst))
  | [], _, _, _, _, h, _ => by simp at h
  | y :: l, i, h, 0, x, hx, hn => by
    simp only [List.getElem?_cons_zero, Option.some.injEq] at hx
    subst hx
    rcases h.1 with h | h
    · exact absurd (by simpa using h) hn
    · exact h
  | y :: l, i, h, n + 1, x, hx, hn => Agains_spec l (i + 1) h.2 n x (by simpa using hx) (by rwa [show i + 1 + n = i + (n + 1) by omega])

/-- The slots of what is done, each under its own. -/
theorem EX_atAll {E0 : Env} : ∀ (l : List DOp) (i n : Nat) (x : DOp), (dsts l).Nodup → l[n]? = some x → EX i l (fun _ => true) E0 x.ins.dst = x.av
  | [], _, _, _, _, h => by simp at h
  | y :: l, i, 0, x, _, h => by
    simp only [List.getElem?_cons_zero, Option.some.injEq] at h
    subst h
    simp [EX, upd]
  | y :: l, i, n + 1, x, hn, h => by
    simp only [dsts, List.map_cons, List.nodup_cons] at hn
    have hx : l[n]? = some x := by simpa using h
    have hne : x.ins.dst ≠ y.ins.dst := fun e => hn.1 (by rw [← e]; exact List.mem_map.2 ⟨x, List.mem_of_getElem? hx, rfl⟩)
    simp only [EX, if_true, upd, if_neg hne]
    exact EX_atAll l (i + 1) n x hn.2 hx
/-- A slot of what is done, where less is done. -/
theorem EX_prefix {E0 : Env} {X : Nat → Bool} {s : Nat} : ∀ (l : List DOp) (i : Nat), (∀ n x, l[n]? = some x → X (i + n) = false → x.ins.dst ≠ s) → EX i l X E0 s = EX i l (fun _ => true) E0 s
  | [], _, _ => rfl
  | x :: l, i, h => by
    have ih := EX_prefix (E0 := E0) l (i + 1) (fun n y hy hX => h (n + 1) y (by simpa using hy) (by rwa [show i + (n + 1) = i + 1 + n by omega]))
    simp only [EX, if_true]
    cases hX : X i with
    | true => simp only [if_true, upd]; rw [ih]
    | false =>
      have := h 0 x rfl (by simpa using hX)
      simp only [Bool.false_eq_true, if_false, upd, if_neg (Ne.symm this)]
      exact ih

theorem W.turn (ds : List Nat) (hds : (pre0 ++ [(xj, dep)]).map (·.1.dst) = ds) (ck : (nodupB ds && okUses ds 0 (pre0 ++ [(xj, dep)]) && pro.all (fun k => !ds.contains k) && pre0.all (fun x => !isSt x.1.op) && onlyRd dep pre0 0 && !dep.contains pre0.length && dep.all (fun i => decide (i < pre0.length)) && pre0.all (fun x => !x.2.contains pre0.length)) = true)
    (hw : WD P pre0 0 (preE ds e) [] (delKeys h ds) (KT P pro keep ds Q pre0 xj dep tail (delKeys h ds))) : W P pro (.draw keep (pre0 ++ [(xj, dep)]) tail) Q e h := by
  subst hds
  simp only [Bool.and_eq_true] at ck
  obtain ⟨⟨⟨⟨⟨⟨⟨k1, k2⟩, k3⟩, k4⟩, k5⟩, k6⟩, k7⟩, k8⟩ := ck
  have hnd := nodupB_spec _ k1
  rw [List.map_append] at hnd
  have huse := okUses_spec _ 0 k2
  have hnd0 : (pre0.map (·.1.dst)).Nodup := (List.nodup_append.1 hnd).1
  obtain ⟨l, q1, q2, q3, φ, av, hN, q4, q5, q6, q7, e', h', r1, r2⟩ := WD.sound (E0 := preE ((pre0 ++ [(xj, dep)]).map (·.1.dst)) e) pre0 [] hw (by simpa using hnd0) (fun j x hx i hi => by
    have := huse j x (by rw [List.getElem?_append_left (List.getElem?_eq_some_iff.1 hx).1]; exact hx)
    simp only [Nat.zero_add, okUse, Bool.and_eq_true, List.all_eq_true, decide_eq_true_eq] at this
    have := this.1 i hi
    simpa using this)
  simp only [List.nil_append, List.length_nil, Nat.zero_add] at q2 q3 q4 q6 q7 r1
  have hl : l.length = pre0.length := by rw [← q1]; simp
  have hdl : (dsts l).Nodup := by
    have : dsts l = pre0.map (·.1.dst) := by rw [← q1]; simp [dsts]
    rw [this]; exact hnd0
  let E0 := preE ((pre0 ++ [(xj, dep)]).map (·.1.dst)) e
  let eA := EX 0 l (fun _ => true) E0
  let lj : DOp := ⟨xj, dep, .un, []⟩
  let l' : List DOp := l.map (fun x => ⟨x.ins, x.dep, φ x.av, []⟩)
  let lj' : DOp := ⟨xj, dep, av, []⟩
  let E0' : Env := fun t => φ (E0 t)
  have hgl : ∀ (i : Nat) (x : DOp), i ≠ l.length → (l ++ [lj])[i]? = some x → l[i]? = some x := fun i x hi hx => by
    rcases Nat.lt_or_ge i l.length with h | h
    · rwa [List.getElem?_append_left h] at hx
    · rw [List.getElem?_append_right h] at hx
      have : i - l.length = 0 ∨ 0 < i - l.length := by omega
      rcases this with h2 | h2
      · omega
      · rw [List.getElem?_eq_none (by simp; omega)] at hx; cases hx
  have hl'l : l'.length = l.length := by simp [l']
  have hgl' : ∀ (i : Nat) (x : DOp), i ≠ l.length → (l' ++ [lj'])[i]? = some x → ∃ y, l[i]? = some y ∧ x = ⟨y.ins, y.dep, φ y.av, []⟩ := fun i x hi hx => by
    rcases Nat.lt_or_ge i l.length with h | h
    · rw [List.getElem?_append_left (by rw [hl'l]; exact h)] at hx
      simp only [l', List.getElem?_map] at hx
      obtain ⟨y, hy, rfl⟩ := Option.map_eq_some_iff.1 hx
      exact ⟨y, hy, rfl⟩
    · rw [List.getElem?_append_right (by rw [hl'l]; exact h), hl'l] at hx
      have : i - l.length = 0 ∨ 0 < i - l.length := by omega
      rcases this with h2 | h2
      · omega
      · rw [List.getElem?_eq_none (by simp; omega)] at hx; cases hx
  have hp0 : ∀ (i : Nat) (x : DOp), l[i]? = some x → pre0[i]? = some (x.ins, x.dep) := fun i x hx => by rw [← q1]; simp [hx]
  -- the whole list, cut before a place
  have hEXapp : ∀ (l1 l2 : List DOp) (i : Nat) (X : Nat → Bool) (E : Env), EX i (l1 ++ l2) X E = EX i l1 X (EX (i + l1.length) l2 X E) := by
    intro l1
    induction l1 with
    | nil => intro l2 i X E; simp [EX]
    | cons y l1 ih => intro l2 i X E; simp only [List.cons_append, EX, ih, List.length_cons]; rw [show i + 1 + l1.length = i + (l1.length + 1) by omega]
  have hHXapp : ∀ (l1 l2 : List DOp) (i : Nat) (X : Nat → Bool), HX i (l1 ++ l2) X = HX i l1 X ++ HX (i + l1.length) l2 X := by
    intro l1
    induction l1 with
    | nil => intro l2 i X; simp [HX]
    | cons y l1 ih =>
      intro l2 i X
      simp only [List.cons_append, HX, ih, List.length_cons]
      rw [show i + 1 + l1.length = i + (l1.length + 1) by omega]
      split <;> simp
  have hlast : ∀ (i : Nat) (X : Nat → Bool) (E : Env), X i = false → EX i [lj] X E = E := fun i X E hX => by simp [EX, hX]
  have hrows : ∀ (i : Nat) (x : DOp), l[i]? = some x → x.rows ≠ [] → i ∈ dep := fun i x hx hr => by
    rcases onlyRd_spec pre0 0 k5 i _ (hp0 i x hx) with h | h
    · simpa using h
    · exfalso
      have := q2 i x hx
      cases this with
      | skip _ _ h2 => exact hr h2
      | rd _ _ _ h2 => exact hr h2
      | mk _ h2 _ => simp only at h; rw [h2] at h; cases h
      | call _ h2 =>
        simp only at h
        generalize x.ins.op = op at h2 h
        cases h2 <;> cases h
  have hH : HX 0 l (fun k => dep.contains k) = HX 0 l (fun _ => true) := HX_some l 0 _ _ (fun n y hy hr => by simpa using hrows n y hy hr)
  have hjj : l.length ∉ dep := by rw [hl]; simpa using k6
  refine ⟨.normal, keepE keep e', h', .turn ⟨l ++ [lj], l' ++ [lj'], l.length, lj, lj', φ, E0', hN, ?_, ?_, ?_, nodupB_spec _ q5, by simp, by simp [hl'l], ?_, ?_, ?_, ?_, ?_, fun _ => rfl, ?_, ?_, ?_⟩ (fun k hk => ?_), r2⟩
  · rw [List.map_append, q1]; rfl
  · rw [hHXapp]; simpa [HX, lj] using nodupB_spec _ q3
  · have : l'.map (fun x => (x.ins, x.dep)) = l.map (fun x => (x.ins, x.dep)) := by simp [l']
    rw [List.map_append, this, q1]; rfl
  · intro i x hi hjd hx
    have hx' := hgl i x hi hx
    have hil := (List.getElem?_eq_some_iff.1 hx').1
    refine ⟨?_, ?_⟩
    · rw [hEXapp, hlast _ _ _ (by simp; omega), hHXapp]
      have : HX (0 + l.length) [lj] (fun k => x.dep.contains k) = [] := by simp [HX, lj]
      rw [this, List.append_nil]
      exact q2 i x hx'
    · have := List.all_eq_true.1 k4 _ (List.mem_of_getElem? (hp0 i x hx'))
      simpa using this
  · intro i x hi hid hx
    obtain ⟨y, hy, rfl⟩ := hgl' i x hi hx
    have hil := (List.getElem?_eq_some_iff.1 hy).1
    have hst := List.all_eq_true.1 k4 _ (List.mem_of_getElem? (hp0 i y hy))
    refine ⟨?_, by simpa using hst⟩
    have hag := Agains_spec pre0 0 q7 i _ (hp0 i y hy) (by simpa using hid)
    simp only at hag
    have hrn : HX 0 (l' ++ [lj']) (fun k => y.dep.contains k) = [] := HX_none _ 0 _ (fun z hz => by
      rcases List.mem_append.1 hz with hz | hz
      · obtain ⟨z', _, rfl⟩ := List.mem_map.1 hz; rfl
      · simp only [List.mem_singleton] at hz; subst hz; rfl)
    rw [hrn, List.nil_append]
    have hav : eA y.ins.dst = y.av := EX_atAll l 0 i y hdl hy
    -- the slots that it reads are there
    have hsl : ∀ s ∈ usesI y.ins, EX 0 (l' ++ [lj']) (fun k => decide (k < i)) E0' s = φ (eA s) := fun s hs => by
      rw [hEXapp]
      have : EX (0 + l'.length) [lj'] (fun k => decide (k < i)) E0' = E0' := by simp [EX, hl'l]; omega
      rw [this, EX_map (φ := φ) (E0 := E0) (fun _ => rfl) l l' 0 (by simp [l']) (fun n z z' hz hz' _ => by
        simp only [l', List.getElem?_map, hz, Option.map_some, Option.some.injEq] at hz'
        subst hz'
        exact ⟨rfl, rfl⟩) s]
      congr 1
      refine EX_prefix l 0 (fun n z hz hX => ?_)
      rintro rfl
      have hu := huse i (y.ins, y.dep) (by rw [List.getElem?_append_left (by omega)]; exact hp0 i y hy)
      simp only [Nat.zero_add, okUse, Bool.and_eq_true, List.all_eq_true, decide_eq_true_eq, Bool.or_eq_true, Bool.not_eq_true'] at hu
      have h3 := hu.2 _ hs
      have hzp := hp0 n z hz
      rcases h3 with h3 | h3
      · have : ((pre0 ++ [(xj, dep)]).map (·.1.dst)).contains z.ins.dst = true := by
          simp only [List.contains_eq_mem, decide_eq_true_eq]
          exact List.mem_map.2 ⟨(z.ins, z.dep), List.mem_append_left _ (List.mem_of_getElem? hzp), rfl⟩
        rw [this] at h3; cases h3
      · simp only [List.any_eq_true, beq_iff_eq] at h3
        obtain ⟨m, hm, hms⟩ := h3
        have hmi := hu.1 m hm
        have hnm : n = m := by
          have e1 : ((pre0 ++ [(xj, dep)]).map (·.1.dst))[n]? = some z.ins.dst := by
            rw [List.getElem?_map, List.getElem?_append_left (by have := (List.getElem?_eq_some_iff.1 hzp).1; omega), hzp]; rfl
          exact (List.getElem?_inj (List.getElem?_eq_some_iff.1 e1).1 (nodupB_spec _ k1)).1 (by rw [e1, hms])
        simp only [Nat.zero_add, decide_eq_false_iff_not] at hX
        omega
    have hw : wants (EX 0 (l' ++ [lj']) (fun k => decide (k < i)) E0') y.ins.guard = wants (fun t => φ (eA t)) y.ins.guard := by
      cases hg : y.ins.guard with
      | none => rfl
      | some sw =>
        obtain ⟨s, want⟩ := sw
        simp only [wants]
        rw [hsl s (by simp [usesI, hg])]
    rcases hag with ⟨g1, g2⟩ | ⟨g1, b, g2, g3⟩
    · exact .skip (by rw [hw]; exact g1) (by rw [← hav]; exact g2) rfl
    · refine .rd (b := b) (by rw [hw]; exact g1) g2 ?_ rfl
      rw [← hav, ← g3]
      exact rdop_congr b (fun o ho => by
        cases o with
        | tmp t => exact hsl t (List.mem_append_right _ (usesL_mem (by rw [g2]; exact ho)))
        | _ => rfl)
  · intro i x x' hi hjd hx hx'
    obtain ⟨y, hy, rfl⟩ := hgl' i x' hi hx'
    have := hgl i x hi hx
    rw [this] at hy
    cases hy
    rfl
  · intro i x hx hr
    by_cases hi : i = l.length
    · subst hi
      simp only [List.getElem?_append_right (Nat.le_refl _), Nat.sub_self, List.getElem?_cons_zero, Option.some.injEq] at hx
      subst hx
      exact absurd rfl hr
    · exact .inl (hrows i x (hgl i x hi hx) hr)
  · intro x hx
    rcases List.mem_append.1 hx with hx | hx
    · obtain ⟨z', _, rfl⟩ := List.mem_map.1 hx; rfl
    · simp only [List.mem_singleton] at hx; subst hx; rfl
  · have h1 : EX 0 (l ++ [lj]) (fun k => decide (k < l.length)) E0 = eA := by
      rw [hEXapp, hlast _ _ _ (by simp)]
      exact (EX_same l 0 _ _ (fun n _ hn => by simp; omega)).1
    have h2 : HX 0 (l ++ [lj]) (fun k => dep.contains k) = HX 0 l (fun _ => true) := by
      rw [hHXapp, hH]; simp [HX, lj]
    rw [h1, h2]
    exact q6
  · intro k hk
    obtain ⟨x, hx, hkx⟩ := List.mem_flatMap.1 hk
    rcases List.mem_append.1 hx with hx | hx
    · obtain ⟨z, hz, rfl⟩ := List.mem_map.1 hkx
      obtain ⟨j, hj⟩ := List.getElem?_of_mem hx
      have hz2 : z ∈ HX 0 l (fun _ => true) := (HX_mem l 0 _).2 ⟨j, x, hj, rfl, hz⟩
      have := List.all_eq_true.1 q4 z.1 (List.mem_map.2 ⟨z, List.mem_append_left _ hz2, rfl⟩)
      rw [Bool.or_eq_true] at this
      rcases this with h | h
      · simpa using h
      · exfalso
        have hnd2 := nodupB_spec _ q3
        rw [List.map_append, List.nodup_append] at hnd2
        exact hnd2.2.2 z.1 (List.mem_map.2 ⟨z, hz2, rfl⟩) z.1 (by simpa using h) rfl
    · simp only [List.mem_singleton] at hx
      subst hx
      simp [lj] at hkx
  · have h1 : EX 0 (l' ++ [lj']) (fun _ => true) E0' = upd (fun t => φ (eA t)) xj.dst av := by
      rw [hEXapp]
      funext t
      have hpt : EX (0 + l'.length) [lj'] (fun _ => true) E0' = upd E0' xj.dst av := by simp [EX, lj']
      rw [hpt]
      have hm : ∀ (l2 : List DOp) (i : Nat) (E : Env), (∀ z ∈ l2, z.ins.dst ≠ xj.dst) → EX i l2 (fun _ => true) (upd E xj.dst av) t = upd (EX i l2 (fun _ => true) E) xj.dst av t := by
        intro l2
        induction l2 with
        | nil => intro i E _; rfl
        | cons z l2 ih =>
          intro i E hz
          have := ih (i + 1) E (fun y hy => hz y (by simp [hy]))
          simp only [EX, if_true, upd] at this ⊢
          have hne := hz z (by simp)
          by_cases h1 : t = z.ins.dst
          · subst h1; simp [hne]
          · simp only [if_neg h1]; exact this
      rw [hm l' 0 E0' (fun z hz e => by
        obtain ⟨y, hy, rfl⟩ := List.mem_map.1 hz
        obtain ⟨n, hn⟩ := List.getElem?_of_mem hy
        have := (List.nodup_append.1 hnd).2.2 y.ins.dst (List.mem_map.2 ⟨_, List.mem_of_getElem? (hp0 n y hn), rfl⟩) xj.dst (by simp)
        exact this e)]
      unfold upd
      split
      · rfl
      · exact EX_map (φ := φ) (E0 := E0) (fun _ => rfl) l l' 0 (by simp [l']) (fun n z z' hz hz' _ => by
          simp only [l', List.getElem?_map, hz, Option.map_some, Option.some.injEq] at hz'
          subst hz'
          exact ⟨rfl, rfl⟩) t
    have h2 : HX 0 (l' ++ [lj']) (fun _ => true) = [] := HX_none _ 0 _ (fun z hz => by
      rcases List.mem_append.1 hz with hz | hz
      · obtain ⟨z', _, rfl⟩ := List.mem_map.1 hz; rfl
      · simp only [List.mem_singleton] at hz; subst hz; rfl)
    rw [h1, h2, List.nil_append]
    exact r1
  · have := List.all_eq_true.1 k3 k hk
    simpa using this
/-! ### what the one instruction may be -/
theorem stop_congr {f g : Operand → AV} {hp : H} {n : Nat} {a x : Operand} (h1 : f a = g a) (h2 : f x = g x) : stop f hp n a x = stop g hp n a x := by
  simp only [stop, h1, h2]
theorem apop_congr {f g : Operand → AV} {hp : H} {d s bytes : Nat} {x y : Operand} (h1 : f x = g x) (h2 : f y = g y) : apop f hp d s bytes x y = apop g hp d s bytes x y := by
  simp only [apop, h1, h2]
theorem ev_uses {x : Ins} {e EA : Env} (he : ∀ s ∈ usesI x, e s = EA s) {o : Operand} (ho : o ∈ opsK x.op) : ev e o = ev EA o := by
  cases o with
  | tmp t => exact he t (List.mem_append_right _ (usesL_mem ho))
  | _ => rfl
theorem wants_uses {x : Ins} {e EA : Env} (he : ∀ s ∈ usesI x, e s = EA s) : wants e x.guard = wants EA x.guard := by
  cases hg : x.guard with
  | none => rfl
  | some sw =>
    obtain ⟨s, want⟩ := sw
    simp only [wants]
    rw [he s (by simp [usesI, hg])]
theorem Ghost.unAt {d : Nat} : Ghost P pro e h (upd e d .un) h := fun I N σ a w R =>
  Step.of_rel ⟨R.heap, R.size, fun t => by
    unfold upd
    split
    · exact trivial
    · exact R.vals t, R.defers⟩ rfl
theorem TurnOk.st {d n : Nat} {g : Option (Nat × Bool)} {a x : Operand} {EA : Env} {hA hN : H} {bad : Nat → Path → Bool} (hw : wants EA g = some true) (hst : stop (ev EA) hA n a x = some (hN, bad)) : TurnOk P pro ⟨d, g, .st n a x⟩ EA hA (kill bad) .un hN := fun e he => by
  have h1 : ev e a = ev EA a := ev_uses he (by simp [opsK])
  have h2 : ev e x = ev EA x := ev_uses he (by simp [opsK])
  refine ⟨by rw [show wants e g = wants EA g from wants_uses he]; exact hw, e, hA, killE bad e, hN, Ghost.rfl', .plain ?_, Ghost.unAt⟩
  simp only [istep]
  rw [stop_congr (f := ev e) (g := ev EA) h1 h2, hst]
theorem TurnOk.app {d s bytes : Nat} {g : Option (Nat × Bool)} {x y : Operand} {EA : Env} {hA hN : H} {av : AV} {key : Nat} (hw : wants EA g = some true) (hap : apop (ev EA) hA d s bytes x y = some (av, hN, key)) (hp : pro.contains key = false) : TurnOk P pro ⟨d, g, .app s bytes x y⟩ EA hA (kill (fun k _ => k == key)) av hN := fun e he => by
  have h1 : ev e x = ev EA x := ev_uses he (by simp [opsK])
  have h2 : ev e y = ev EA y := ev_uses he (by simp [opsK])
  refine ⟨by rw [show wants e g = wants EA g from wants_uses he]; exact hw, e, hA, upd (killE (fun k _ => k == key) e) d av, hN, Ghost.rfl', .plain ?_, Ghost.rfl'⟩
  simp only [istep]
  rw [apop_congr (f := ev e) (g := ev EA) h1 h2, hap]
  simp only [hp, Bool.false_eq_true, if_false]
theorem W.turnT (n : Nat) (xj : Ins) (dep ds : List Nat) {pre : List (Ins × List Nat)} (hp : pre = pre.take n ++ [(xj, dep)]) (hds : (pre.take n ++ [(xj, dep)]).map (·.1.dst) = ds) (ck : (nodupB ds && okUses ds 0 (pre.take n ++ [(xj, dep)]) && pro.all (fun k => !ds.contains k) && (pre.take n).all (fun x => !isSt x.1.op) && onlyRd dep (pre.take n) 0 && !dep.contains (pre.take n).length && dep.all (fun i => decide (i < (pre.take n).length)) && (pre.take n).all (fun x => !x.2.contains (pre.take n).length)) = true)
    (hw : WD P (pre.take n) 0 (preE ds e) [] (delKeys h ds) (KT P pro keep ds Q (pre.take n) xj dep tail (delKeys h ds))) : W P pro (.draw keep pre tail) Q e h := by
  rw [hp]
  exact W.turn ds hds ck hw
theorem WD.nil {K : Env → H → Prop} {i : Nat} {acc : List (Nat × H)} {h0 : H} (hk : nodupB ((hxAll acc ++ h0).map Prod.fst) = true) (hK : K e (hxAll acc ++ h0)) : WD P [] i e acc h0 K := ⟨hk, hK⟩
theorem KT.mk {ds : List Nat} {h0 hA : H} (φ : AV → AV) (av : AV) (hN : H) (h1 : keysOk ds h0 hA = true) (h2 : nodupB (hN.map Prod.fst) = true) (h3 : TurnOk P pro xj e hA φ av hN) (h4 : Agains dep φ e hN pre0 0) (h5 : RG P pro keep Q tail (upd (fun t => φ (e t)) xj.dst av) hN) : KT P pro keep ds Q pre0 xj dep tail h0 e hA :=
  ⟨φ, av, hN, h1, h2, h3, h4, h5⟩
theorem WD.needMk {R : Type} {r : R} {c : Prop} [Decidable c] {E : Option R} {b : IB} {l : List (Ins × List Nat)} {g : Option (Nat × Bool)} {d i : Nat} {D : List Nat} {acc : List (Nat × H)} {K : Env → H → Prop} {h0 : H} (av : AV) (rows : H) (hw : wants e g = some true) (hg : need c E = some r) (hop : c → mkop (ev e) [] d b = some (av, rows))
    (hK : c → E = some r → WD P l (i + 1) (upd e d av) (acc ++ [(i, rows)]) h0 K) : WD P ((⟨d, g, .mk b⟩, D) :: l) i e acc h0 K := by
  obtain ⟨hc, hE⟩ := need_some hg
  exact WD.mk hw (hop hc) (hK hc hE)
theorem mk_mks {α : Type} {o : α → List AV} (z : α) {ρ : Operand → AV} {d s bytes : Nat} {zero : List Value} {y : Operand} {j : Int} {k : IntKind} (hi : ρ y = .sc (.int k j)) (hz : zero.map cval = o z) (hc : 0 ≤ j ∧ j * bytes ≤ 140737488355328) : mkop ρ [] d (.mks s bytes zero y) = some (.sl d [] 0 ((List.replicate j.toNat z).map o).length, [(d, ⟨s, (List.replicate j.toNat z).map o⟩)]) := by
  simp only [mkop, hi, hz]
  rw [if_pos hc]
  simp [delRow]
theorem TurnOk.ghost {x : Ins} {EA : Env} {hA h2 hN : H} {ψ φ : AV → AV} {av : AV} (hw : wants EA x.guard = some true) (hg : ∀ e, Ghost P pro e hA (fun t => ψ (e t)) h2) (hT : TurnOk P pro x (fun t => ψ (EA t)) h2 φ av hN) : TurnOk P pro x EA hA (fun z => φ (ψ z)) av hN := fun e he => by
  obtain ⟨h1, e0, h0', e1, h1', g1, hs, g2⟩ := hT (fun t => ψ (e t)) (fun s hs => by rw [he s hs])
  exact ⟨by rw [wants_uses he]; exact hw, e0, h0', e1, h1', (hg e).trans g1, hs, g2⟩
theorem apop_sl {α : Type} {o : α → List AV} {xs ws : List α} {ρ : Operand → AV} {hA : H} {d s bytes k : Nat} {x y : Operand} {mv : Option Nat} (hx : ρ x = .sl k [] 0 (xs.map o).length) (hs : srcE hA s (ρ y) = some (ws.map o, mv)) (hr : getRow (takeRow hA mv) k = some ⟨s, xs.map o⟩) (hc : (xs.length + ws.length) * bytes ≤ 140737488355328) :
    apop ρ hA d s bytes x y = some (.sl k [] 0 ((xs ++ ws).map o).length, (k, ⟨s, (xs ++ ws).map o⟩) :: delRow (takeRow hA mv) k, k) := by
  have : ((xs.map o).length + (ws.map o).length) * bytes ≤ 140737488355328 := by rw [List.length_map, List.length_map]; exact hc
  simp only [apop, hs, hx, hr]
  rw [if_pos ⟨trivial, trivial⟩, if_pos ⟨trivial, Nat.le_refl _, this⟩]
  simp only [List.take_length, List.map_append, List.length_append]
theorem apop_nil {α : Type} {o : α → List AV} {ws : List α} {ρ : Operand → AV} {hA : H} {d s bytes : Nat} {x y : Operand} {mv : Option Nat} (hx : ρ x = .zs) (hs : srcE hA s (ρ y) = some (ws.map o, mv)) (hc : ws.length * bytes ≤ 140737488355328) :
    apop ρ hA d s bytes x y = some (.sl d [] 0 (ws.map o).length, (d, ⟨s, ws.map o⟩) :: delRow (takeRow hA mv) d, d) := by
  have : (ws.map o).length * bytes ≤ 140737488355328 := by rw [List.length_map]; exact hc
  simp only [apop, hs, hx]
  rw [if_pos this]
theorem rd_slcSl {ρ : Operand → AV} {rs : Nat → Path → Option (Nat × Els)} {p : Path} {s n off len : Nat} {ys : Els} {x : Operand} {lo hi : Option Operand} {a b : Int} (hx : ρ x = .sl n p off len) (hr : rs n p = some (s, ys)) (ha : loV (lo.map ρ) = some a) (hb : hiV len (hi.map ρ) = some b) (hc : 0 ≤ a ∧ a ≤ b ∧ b ≤ len) : rdop ρ rs (.slc s x lo hi) = some (.sl n p (off + a.toNat) (b.toNat - a.toNat)) := by
  simp only [rdop, hx, hr, bounds_of ha hb hc, if_true]
theorem Abs.part {α : Type} {o : α → List AV} {h2 : H} {k s n : Nat} {xs : List α} {l l' : List AV} (hg : getRow h k = some ⟨s, xs.map o⟩) (hn : n ≤ (xs.map o).length) (t : Abs (delRow h k) l l' h2) : Abs h (.sl k [] 0 n :: l) (.ow s ((xs.take n).map o) :: l') h2 :=
  .one (by simp only [absC, hg]; rw [if_pos ⟨trivial, trivial⟩, if_pos hn, List.map_take]) t
theorem part_le {len : Nat} {a b : Int} (h : 0 ≤ a ∧ a ≤ b ∧ b ≤ len) : b.toNat - a.toNat ≤ len := by omega
theorem part_eq {len : Nat} {a b : Int} : 0 + a.toNat = a.toNat := Nat.zero_add _
theorem resE_append : ∀ (p : Path) (s : Nat) (xs : Els) (q : Path) (s' : Nat) (ys : Els), resE s xs p = some (s', ys) → resE s xs (p ++ q) = resE s' ys q
  | [], s, xs, q, s', ys, h => by
    simp only [resE, Option.some.injEq, Prod.mk.injEq] at h
    obtain ⟨rfl, rfl⟩ := h
    rfl
  | (i, c) :: p, s, xs, q, s', ys, h => by
    simp only [resE, List.cons_append] at h ⊢
    split at h
    · cases h
    · rename_i x hx
      split at h
      · rename_i s2 zs hz
        exact resE_append p s2 zs q s' ys h
      · cases h
/-- A row that an element of a row holds. -/
theorem res_at {α : Type} {o : α → List AV} {xs : List α} {hA : H} {k s s' i c : Nat} {p : Path} {z : α} {ys : Els} (hr : res hA k p = some (s, xs.map o)) (hz : xs[i]? = some z) (hc : (o z)[c]? = some (.ow s' ys)) : res hA k (p ++ [(i, c)]) = some (s', ys) := by
  unfold res at hr ⊢
  split at hr
  · rename_i r hg
    rw [resE_append p _ _ _ _ _ hr]
    simp only [resE, List.getElem?_map, hz, Option.map_some, hc]
  · cases hr
end
end Loom
namespace Loom
open Go

section
variable {P : Program} {I : Nat → Prop} {N : Nat} {σ σ' : Pl} {w w' : World} {h h' h1 : H} {e e' e1 : Env} {a a' : Act} {pro : List Nat}

theorem HRel.place_nodup {k : Nat} {r : Row} {p : Path} {s : Nat} {ys : Els} (hh : HRel I σ h w) (hg : getRow h k = some r) (hres : resE r.s r.xs p = some (s, ys)) : (fpP σ k p ys).Nodup := by
  obtain ⟨d1, d2, d3, d4, d5, d6⟩ := hh.del hg
  by_cases hp0 : p = []
  · subst hp0
    simp only [resE, Option.some.injEq, Prod.mk.injEq] at hres
    obtain ⟨rfl, rfl⟩ := hres
    exact d4
  · unfold RowOk at d2
    unfold fpR at d4
    cases hs : σ k [] with
    | none =>
      simp only [hs] at d2
      rw [d2] at hres
      cases p with
      | nil => exact absurd rfl hp0
      | cons q p => obtain ⟨i', c'⟩ := q; simp [resE] at hres
    | some L0 =>
      simp only [hs] at d2 d4
      obtain ⟨_, _, cur, E, _, _, f5⟩ := d2
      have := (res_ok p [] r.s r.xs _ s ys f5 hp0 hres).2
      rw [List.nil_append] at this
      exact this.nodup (List.nodup_cons.1 d4).2

theorem HRel.cellAt {k i c : Nat} {r : Row} {p : Path} {s : Nat} {ys : Els} {x : List AV} {y y' : AV} (hh : HRel I σ h w) (hg : getRow h k = some r) (hr : resE r.s r.xs p = some (s, ys)) (hx : ys[i]? = some x) (hy : x[c]? = some y)
    (hσ : ∀ k' q, ¬ (k' = k ∧ ∃ q', q = p ++ (i, c) :: q') → σ' k' q = σ k' q) (hC : ∀ v, Ce I σ (bl w) k p i c y v → Ce I σ' (bl w) k p i c y' v) (hfp : fpA σ' k p i c y' = []) :
    HRel I σ' ((k, ⟨r.s, updE r.xs p (fun ys => ys.set i (x.set c y'))⟩) :: delRow h k) w ∧ (∀ b ∈ fpH σ' ((k, ⟨r.s, updE r.xs p (fun ys => ys.set i (x.set c y'))⟩) :: delRow h k), b ∈ fpH σ h) ∧
      (∀ b ∈ fpA σ k p i c y, b ∈ fpH σ h ∧ b ∉ fpH σ' ((k, ⟨r.s, updE r.xs p (fun ys => ys.set i (x.set c y'))⟩) :: delRow h k)) ∧ (fpA σ k p i c y).Nodup ∧ ∃ v, Ce I σ (bl w) k p i c y v := by
  obtain ⟨d1, d2, d3, d4, d5, d6⟩ := hh.del hg
  obtain ⟨hp, hpf⟩ := hh.place (k := k) (p := p) (s := s) (ys := ys) (by unfold res; rw [hg]; exact hr)
  have hpnd := hh.place_nodup hg hr
  have hne : ∀ q', p ≠ p ++ (i, c) :: q' := fun q' e => by
    have := congrArg List.length e
    simp at this
  have hσp : σ' k p = σ k p := hσ k p (fun ⟨_, q', e⟩ => hne q' e)
  unfold PlaceOk at hp
  unfold fpP at hpf hpnd
  cases hL : σ k p with
  | none =>
    simp only [hL] at hp
    rw [hp] at hx
    simp at hx
  | some L =>
    simp only [hL] at hp hpf hpnd
    obtain ⟨f1, f2, cur, E, f3, f4, f5⟩ := hp
    obtain ⟨hxl, hCx⟩ := CeE.get ys 0 _ f5 i x hx
    simp only [Nat.zero_add] at hCx
    obtain ⟨v, hv, hCe⟩ := CeC.get x 0 _ hCx c y hy
    simp only [Nat.zero_add] at hCe
    have hC1 := CeC.setAt (σ' := σ') (B' := bl w) x 0 c _ y y' v hCx hy (by simpa using hC v hCe) (fun c' a'' v' hne2 _ hce => Ce.ren (fun q => hσ k _ (fun ⟨_, q', hq⟩ => by
      have := List.append_cancel_left hq
      simp only [List.cons.injEq, Prod.mk.injEq] at this
      exact hne2 (by omega))) a'' v' hce)
    rw [set_same hv] at hC1
    have hnl : ((cur.toList.drop (i * s)).take s).length = s := by rw [CeC.length x 0 _ hCx, hxl]
    have hE1 := CeE.setAt (σ' := σ') (B' := bl w) ys 0 i _ x (x.set c y') _ f5 hx (by simp [hxl]) hnl (by simpa using hC1) (fun i' c' a'' v' hne2 _ hce => Ce.ren (fun q => hσ k _ (fun ⟨_, q', hq⟩ => by
      have := List.append_cancel_left hq
      simp only [List.cons.injEq, Prod.mk.injEq] at this
      exact hne2 (by omega))) a'' v' hce)
    rw [take_mid] at hE1
    obtain ⟨m1, m2, hm, hm'⟩ := fpE_mem (σ := σ) (k := k) (p := p) ys 0 i x hx
    obtain ⟨n1, n2, hn, hn'⟩ := fpC_mem (σ := σ) (k := k) (p := p) (i := i) x 0 c y hy
    simp only [Nat.zero_add] at hm hn hm' hn'
    have e1 := hm' σ' (x.set c y') (fun i' c' a'' hne2 => fpA.ren (fun q => hσ k _ (fun ⟨_, q', hq⟩ => by
      have := List.append_cancel_left hq
      simp only [List.cons.injEq, Prod.mk.injEq] at this
      exact hne2 (by omega))) a'')
    have e2 := hn' σ' y' (fun c' a'' hne2 => fpA.ren (fun q => hσ k _ (fun ⟨_, q', hq⟩ => by
      have := List.append_cancel_left hq
      simp only [List.cons.injEq, Prod.mk.injEq] at this
      exact hne2 (by omega))) a'')
    rw [hfp] at e2
    rw [e2] at e1
    have hfP : fpP σ k p ys = L.b :: (m1 ++ (n1 ++ fpA σ k p i c y ++ n2) ++ m2) := by
      unfold fpP; rw [hL]; simp only; rw [hm, hn]
    have hfP' : fpP σ' k p (ys.set i (x.set c y')) = L.b :: (m1 ++ (n1 ++ [] ++ n2) ++ m2) := by
      unfold fpP; rw [hσp, hL]; simp only; rw [e1]
    have hpnd2 : (L.b :: (m1 ++ (n1 ++ fpA σ k p i c y ++ n2) ++ m2)).Nodup := by rw [← hn, ← hm]; exact hpnd
    have hsub : (L.b :: (m1 ++ (n1 ++ [] ++ n2) ++ m2)).Sublist (L.b :: (m1 ++ (n1 ++ fpA σ k p i c y ++ n2) ++ m2)) := by
      refine List.Sublist.cons_cons _ (List.Sublist.append (List.Sublist.append (List.Sublist.refl _) (List.Sublist.append (List.Sublist.append (List.Sublist.refl _) (List.nil_sublist _)) (List.Sublist.refl _))) (List.Sublist.refl _))
    obtain ⟨u1, u2, l1, l2, k2, k3⟩ := hh.updPlace (σ' := σ') (w' := w) (h1 := delRow h k) hg hr (fun ys => ys.set i (x.set c y')) (by simp) d1 d3 (fun b hb => hb) (Nat.le_refl _)
      (by unfold PlaceOk; rw [hσp, hL]; exact ⟨f1, by simpa using f2, cur, E, f3, f4, hE1⟩) hσp (fun k' q hn => hσ k' q (fun ⟨e1, q', e2⟩ => hn ⟨e1, _, List.cons_ne_nil _ _, e2⟩)) (fun _ _ _ => rfl) (by rw [hfP']; exact hsub.nodup hpnd2) (fun b hb => .inl (by rw [hfP]; rw [hfP'] at hb; exact hsub.subset hb))
    refine ⟨u1, u2, fun b hb => ⟨hpf b (by rw [hm, hn]; simp [hb]), fun hm2 => ?_⟩, ?_, v, hCe⟩
    · rw [fpH_cons, k3, hfP', fpH.ren _ (fun k' hk' q => hσ k' q (fun ⟨e, _⟩ => by subst e; exact d3 hk'))] at hm2
      rw [k2, hfP] at d4 d5
      rcases List.mem_append.1 hm2 with hm2 | hm2
      · have hA : b ∈ L.b :: (m1 ++ (n1 ++ fpA σ k p i c y ++ n2) ++ m2) := by simp [hb]
        rw [List.nodup_append, List.nodup_append] at d4
        rcases List.mem_append.1 hm2 with hm2 | hm2
        · rcases List.mem_append.1 hm2 with hm2 | hm2
          · exact d4.1.2.2 b hm2 b hA rfl
          · simp only [List.append_nil, List.nodup_cons, List.mem_append, List.nodup_append, not_or] at hpnd2 hm2
            simp only [List.mem_cons, List.mem_append] at hm2
            obtain ⟨⟨⟨p1, ⟨p2a, p2b⟩, p2c⟩, p3⟩, ⟨q1, ⟨⟨⟨q2, q3, q4⟩, q5, q6⟩, q7⟩⟩, q8, q9⟩ := hpnd2
            rcases hm2 with hm2 | (hm2 | hm2 | hm2) | hm2
            · subst hm2; exact p2b hb
            · exact q7 b hm2 b (.inl (.inr hb)) rfl
            · exact q4 b hm2 b hb rfl
            · exact q6 b (.inr hb) b hm2 rfl
            · exact q9 b (.inr (.inl (.inr hb))) b hm2 rfl
        · exact d4.2.2 b (List.mem_append_right _ hA) b hm2 rfl
      · exact (d5 b (by simp [hb])).1 hm2
    · simp only [List.nodup_cons, List.nodup_append] at hpnd2
      exact hpnd2.2.1.2.1.1.2.1

/-- A row that an element of a row holds, taken out: the slot that looks at it goes along, all others fall. -/
theorem Ghost.detachAt {t k i c s s0 : Nat} (j : Nat) {r : Row} {p : Path} {ys : Els} {x : List AV} {xs : Els} (ht : e t = .sl k (p ++ [(i, c)]) 0 xs.length) (hg : getRow h k = some r) (hr : resE r.s r.xs p = some (s0, ys)) (hx : ys[i]? = some x) (hy : x[c]? = some (.ow s xs)) (hj : (h.map Prod.fst).contains j = false) (hp : pro.all (fun k => k != j) = true) :
    Ghost P pro e h (upd (killE (fun k' q => k' == j || under k p c 1 k' q) e) t (.sl j [] 0 xs.length)) ((j, ⟨s, xs⟩) :: (k, ⟨r.s, updE r.xs p (fun ys => ys.set i (x.set c .un))⟩) :: delRow h k) := by
  intro I N σ a w R
  have hj' : j ∉ h.map Prod.fst := fun hm => by
    have : (h.map Prod.fst).contains j = true := by simpa using hm
    rw [this] at hj; cases hj
  obtain ⟨c1, c2, c3, c4, v, c5⟩ := R.heap.cellAt (σ' := σ) (y' := .un) hg hr hx hy (fun _ _ _ => rfl) (fun v hv => by
      simp only [Ce] at hv ⊢
      split at hv
      · obtain ⟨_, a, rfl⟩ := hv; rfl
      · obtain ⟨_, _, rfl, _⟩ := hv; rfl) rfl
  let σ1 : Pl := fun k' q => if k' = j then σ k (p ++ (i, c) :: q) else σ k' q
  have hne : ∀ k', k' ≠ j → ∀ q, σ1 k' q = σ k' q := fun k' hk q => if_neg hk
  have hkey : j ∉ (((k, ⟨r.s, updE r.xs p (fun ys => ys.set i (x.set c .un))⟩) :: delRow h k : H)).map Prod.fst := by
    simp only [List.map_cons, List.mem_cons, not_or]
    refine ⟨fun e => hj' ?_, fun hm => hj' ((delRow_rel R.heap k).2.2.2 j hm)⟩
    rw [e]
    exact ((getRow_perm hg).map Prod.fst).mem_iff.2 (by simp)
  have hrow : RowOk I σ1 (bl w) j ⟨s, xs⟩ ∧ fpR σ1 j ⟨s, xs⟩ = fpA σ k p i c (.ow s xs) := by
    unfold RowOk fpR
    simp only [fpA]
    have h0 : σ1 j [] = σ k (p ++ [(i, c)]) := if_pos rfl
    rw [h0]
    simp only [Ce] at c5
    cases hs : σ k (p ++ [(i, c)]) with
    | none => simp only [hs] at c5 ⊢; exact ⟨c5.1, trivial⟩
    | some L =>
      simp only [hs] at c5 ⊢
      obtain ⟨g1, g2, g3, cur, E, g4, g5, g6⟩ := c5
      have hq : ∀ i' c' q, σ1 j ([] ++ (i', c') :: q) = σ k ((p ++ [(i, c)]) ++ (i', c') :: q) := fun i' c' q => by
        show σ1 j ((i', c') :: q) = _
        simp [σ1]
      exact ⟨⟨g1, g2, cur, E, g4, g5, CeE.ren (k := k) (p := p ++ [(i, c)]) (p' := []) 0 s hq xs _ g6⟩, by rw [fpE.ren (k := k) (p := p ++ [(i, c)]) (p' := []) 0 hq xs]⟩
  have hadd := c1.add (σ' := σ1) (w' := w) (k := j) (r := ⟨s, xs⟩) hkey hne (fun _ _ _ => rfl) (Nat.le_refl _) hrow.1 (by rw [hrow.2]; exact c4) (fun b hb => by
    rw [hrow.2] at hb
    exact ⟨(c3 b hb).2, R.heap.apart b (c3 b hb).1⟩)
  refine ⟨σ1, I, fun _ h => h, fun _ h => .inl h, ⟨hadd, R.size, fun t' => ?_, R.defers⟩, fun k' hk' => ?_, Le.refl _, fun _ _ _ => rfl, fun b hb => .inl ?_⟩
  · unfold upd
    split
    · rename_i htt
      subst htt
      have hv := R.vals t'
      rw [ht] at hv
      have h0 : σ1 j [] = σ k (p ++ [(i, c)]) := if_pos rfl
      simp only [Va, h0] at hv ⊢
      exact hv
    · exact Va.kill (fun k' q hb => hne k' (fun e => by rw [e] at hb; simp at hb) q) _ _ (R.vals t')
  · have := List.all_eq_true.1 hp k' hk'
    exact hne k' (by simpa using this) []
  · rw [fpH_cons, hrow.2, fpH.ren _ (fun k' hk' q => hne k' (fun e => hkey (e ▸ hk')) q)] at hb
    rcases List.mem_append.1 hb with hb | hb
    · exact (c3 b hb).1
    · exact c2 b hb

theorem kill_kill {b1 b2 : Nat → Path → Bool} : (∀ x : AV, kill b1 (kill b2 x) = kill (fun k q => b2 k q || b1 k q) x) ∧ (∀ l : List AV, killL b1 (killL b2 l) = killL (fun k q => b2 k q || b1 k q) l) := by
  have key : ∀ n, (∀ x : AV, sizeOf x ≤ n → kill b1 (kill b2 x) = kill (fun k q => b2 k q || b1 k q) x) ∧ (∀ l : List AV, sizeOf l ≤ n → killL b1 (killL b2 l) = killL (fun k q => b2 k q || b1 k q) l) := by
    intro n
    induction n with
    | zero => exact ⟨fun x hx => by cases x <;> simp at hx, fun l hl => by cases l <;> simp at hl⟩
    | succ n ih =>
      refine ⟨fun x hx => ?_, fun l hl => ?_⟩
      · cases x with
        | sl k p o l => simp only [kill]; by_cases hb : b2 k p = true <;> simp [kill, hb]
        | pt k p i c => simp only [kill]; by_cases hb : b2 k p = true <;> simp [kill, hb]
        | ag cs => simp only [kill]; rw [ih.2 cs (by simp at hx; omega)]
        | tu cs => simp only [kill]; rw [ih.2 cs (by simp at hx; omega)]
        | fn f cs => simp only [kill]; rw [ih.2 cs (by simp at hx; omega)]
        | _ => rfl
      · cases l with
        | nil => rfl
        | cons x l => simp only [killL]; rw [ih.1 x (by simp at hl; omega), ih.2 l (by simp at hl; omega)]
  exact ⟨fun x => (key _).1 x (Nat.le_refl _), fun l => (key _).2 l (Nat.le_refl _)⟩

/-- Something behind the end of a row that an element of a row holds: it is a row by itself from then on. -/
theorem TurnOk.appAt {α : Type} {o : α → List AV} {xs ws : List α} {d s bytes t k i c s0 : Nat} (j : Nat) {g : Option (Nat × Bool)} {y : Operand} {EA : Env} {hA : H} {r : Row} {p : Path} {ys : Els} {x : List AV}
    (hw : wants EA g = some true) (ht : EA t = .sl k (p ++ [(i, c)]) 0 (xs.map o).length) (hg : getRow hA k = some r) (hr : resE r.s r.xs p = some (s0, ys)) (hx : ys[i]? = some x) (hy : x[c]? = some (.ow s (xs.map o))) (hj : (hA.map Prod.fst).contains j = false) (hp : pro.all (fun k => k != j) = true) (hpj : pro.contains j = false)
    (hyt : ∀ (av : AV), ev (upd (killE (fun k' q => k' == j || under k p c 1 k' q) EA) t av) y = ev (killE (fun k' q => k' == j || under k p c 1 k' q) EA) y)
    (hs : srcE ((j, ⟨s, xs.map o⟩) :: (k, ⟨r.s, updE r.xs p (fun ys => ys.set i (x.set c .un))⟩) :: delRow hA k) s (ev (killE (fun k' q => k' == j || under k p c 1 k' q) EA) y) = some (ws.map o, none)) (hc : (xs.length + ws.length) * bytes ≤ 140737488355328)
    (hkt : kill (fun k' q => k' == j || under k p c 1 k' q) (EA t) = .un) :
    TurnOk P pro ⟨d, g, .app s bytes (.tmp t) y⟩ EA hA (kill (fun k' q => k' == j || under k p c 1 k' q)) (.sl j [] 0 ((xs ++ ws).map o).length) ((j, ⟨s, (xs ++ ws).map o⟩) :: (k, ⟨r.s, updE r.xs p (fun ys => ys.set i (x.set c .un))⟩) :: delRow hA k) := fun e he => by
  have het : e t = EA t := he t (by simp [usesI, opsK, usesL])
  have hey : ev e y = ev EA y := ev_uses he (by simp [opsK])
  let e0 := upd (killE (fun k' q => k' == j || under k p c 1 k' q) e) t (.sl j [] 0 (xs.map o).length)
  have hgh : Ghost P pro e hA e0 ((j, ⟨s, xs.map o⟩) :: (k, ⟨r.s, updE r.xs p (fun ys => ys.set i (x.set c .un))⟩) :: delRow hA k) := Ghost.detachAt j (by rw [het]; exact ht) hg hr hx hy hj hp
  have hy0 : ev e0 y = ev (killE (fun k' q => k' == j || under k p c 1 k' q) EA) y := by
    have h1 := hyt (.sl j [] 0 (xs.map o).length)
    cases y with
    | tmp u =>
      simp only [ev, e0, upd] at h1 ⊢
      by_cases hu : u = t
      · rw [if_pos hu] at h1 ⊢
        exact h1
      · rw [if_neg hu]
        have : e u = EA u := he u (by simp [usesI, opsK, usesL])
        simp only [killE, this]
    | _ => rfl
  have hap := apop_sl (o := o) (xs := xs) (ws := ws) (ρ := ev e0) (hA := (j, ⟨s, xs.map o⟩) :: (k, ⟨r.s, updE r.xs p (fun ys => ys.set i (x.set c .un))⟩) :: delRow hA k) (d := d) (s := s) (bytes := bytes) (k := j) (x := .tmp t) (y := y) (mv := none) (by simp [ev, e0, upd]) (by rw [hy0]; exact hs) (by simp [takeRow, getRow]) hc
  refine ⟨by rw [show wants e g = wants EA g from wants_uses he]; exact hw, e0, _, _, _, hgh, .plain (e' := upd (killE (fun k' _ => k' == j) e0) d (.sl j [] 0 ((xs ++ ws).map o).length)) (h' := (j, ⟨s, (xs ++ ws).map o⟩) :: (k, ⟨r.s, updE r.xs p (fun ys => ys.set i (x.set c .un))⟩) :: delRow hA k) ?_, Ghost.same (fun u => ?_)⟩
  · simp only [istep, hap, hpj, Bool.false_eq_true, if_false]
    simp [takeRow, delRow]
  · unfold upd
    split
    · rfl
    · simp only [killE, e0, upd]
      split
      · rename_i hu
        subst hu
        rw [het, hkt]
        simp [kill]
      · rw [kill_kill.1]
        congr 1
        funext k' q
        cases hkj : (k' == j) <;> simp
theorem rd_len {ρ : Operand → AV} {rs : Nat → Path → Option (Nat × Els)} {b : IB} {k off n m : Nat} {p : Path} (hr : rdop ρ rs b = some (.sl k p off n)) (hn : n = m) : rdop ρ rs b = some (.sl k p off m) := hn ▸ hr
end

section
variable {P : Program} {pro keep : List Nat} {e e1 : Env} {h h1 : H} {Q : Out → Env → H → Prop} {l : List Ins} {R : Type} {r : R} {g : Option (Nat × Bool)} {d : Nat}
/-- A row put back into an element that stands open. -/
theorem RG.stBack {α : Type} {o : α → List AV} {xs : List α} {u : List AV} {z : α} (z' : α) {p : Path} {i c s n k : Nat} {x y : Operand} {vs vs' : List AV} {hp : H} {rw_ : Row} (bm : List (Nat × Nat)) (S : List Nat) (e1 : Env) (h1 : H)
    (hw : wants e g = some true) (hx : ev e x = .pt k p i c) (hgr : getRow h k = some rw_) (hr : resE rw_.s rw_.xs p = some (s, (xs.map o).set i u)) (hz : xs[i]? = some z) (hv : cellsOf (ev e y) = some vs) (hvl : vs.length = n) (hab : Abs (delRow h k) vs vs' hp) (hcn : decide (c + n ≤ u.length) = true)
    (ho : u.take c ++ vs' ++ u.drop (c + n) = o z') (hn : normE pro bm S (killE (under k p c n) e) ((k, ⟨rw_.s, updE rw_.xs p (fun _ => (xs.set i z').map o)⟩) :: hp) = some (e1, h1))
    (hK : RG P pro keep Q l e1 h1) : RG P pro keep Q (⟨d, g, .st n x y⟩ :: l) e h := by
  have hil : i < xs.length := (List.getElem?_eq_some_iff.1 hz).1
  have hgi : ((xs.map o).set i u)[i]? = some u := by simp [hil]
  have hst : stop (ev e) h n x y = some ((k, ⟨rw_.s, updE rw_.xs p (putCells i c n vs')⟩) :: hp, under k p c n) := by
    simp only [stop, hx, hgr, hr, hgi, hv, hvl, hab.sound]
    rw [if_pos (by simpa using hcn), if_pos trivial]
  have hup : updE rw_.xs p (putCells i c n vs') = updE rw_.xs p (fun _ => (xs.set i z').map o) := updE_congr p _ _ _ _ hr (by
    simp only [putCells, hgi, ho, List.set_set, List.map_set])
  refine RG.step hw (.plain (e' := killE (under k p c n) e) (h' := (k, ⟨rw_.s, updE rw_.xs p (putCells i c n vs')⟩) :: hp) (by simp only [istep, hst])) ?_
  rw [hup]
  exact RG.ghost (Ghost.norm hn) hK
theorem KT.mkE {pre0 : List (Ins × List Nat)} {tail : List Ins} {xj : Ins} {dep : List Nat} {ds : List Nat} {h0 hA hN0 : H} (φ : AV → AV) (av : AV) (hN : H) (h1 : keysOk ds h0 hA = true) (h2 : nodupB (hN.map Prod.fst) = true) (h3 : TurnOk P pro xj e hA φ av hN0) (heq : hN0 = hN) (h4 : Agains dep φ e hN pre0 0) (h5 : RG P pro keep Q tail (upd (fun t => φ (e t)) xj.dst av) hN) : KT P pro keep ds Q pre0 xj dep tail h0 e hA :=
  ⟨φ, av, hN, h1, h2, heq ▸ h3, h4, h5⟩
theorem map_at {α : Type} {o : α → List AV} {xs : List α} {i : Nat} {z : α} {x : List AV} (hz : xs[i]? = some z) (ho : o z = x) : (xs.map o)[i]? = some x := by
  rw [List.getElem?_map, hz, Option.map_some, ho]
end
end Loom
namespace Loom
open Go

mutual
/-- The shapes of a law's arguments: whole numbers, bools, strings, slices (cells and bytes of an element), structs. -/
inductive Ty where
  | int (k : IntKind)
  | bool
  | str
  | sl (s by' : Nat) (e : Ty)
  | st (fs : Tys)
inductive Tys where
  | nil
  | cons (t : Ty) (ts : Tys)
end

mutual
/-- Cells that are of a shape, and not too large. -/
def OfTy : Ty → List AV → Prop
  | .int k, cs => ∃ n, cs = [.sc (.int k n)] ∧ (Lit.int k n).wf = true
  | .bool, cs => ∃ b, cs = [.sc (.bool b)]
  | .str, cs => ∃ s : ByteArray, cs = [.sc (.string s)] ∧ s.size ≤ reachBytes
  | .sl s by' e, cs => ∃ xs : List (List AV), cs = [.im s xs] ∧ (∀ x ∈ xs, OfTy e x) ∧ xs.length * by' ≤ reachBytes
  | .st fs, cs => OfTys fs cs
def OfTys : Tys → List AV → Prop
  | .nil, cs => cs = []
  | .cons t ts, cs => ∃ a b, cs = a ++ b ∧ OfTy t a ∧ OfTys ts b
end

mutual
def tyOk (P : Program) (t : TypeId) : Ty → Bool
  | .int k => P.cellsOf t == 1 && (match P.underlying t with | some (.int k') => k == k' | _ => false)
  | .bool => P.cellsOf t == 1 && (match P.underlying t with | some .bool => true | _ => false)
  | .str => P.cellsOf t == 1 && (match P.underlying t with | some .string => true | _ => false)
  | .sl s by' e => P.cellsOf t == 1 && (match P.underlying t with | some (.slice u) => decide (0 < s) && P.cellsOf u == s && P.bytesOf u == by' && tyOk P u e | _ => false)
  | .st fs => match P.underlying t with | some (.struct fds) => tysOk P fds.toList 0 (P.cellsOf t) fs | _ => false
def tysOk (P : Program) (fds : List Field) (off total : Nat) : Tys → Bool
  | .nil => fds.isEmpty && off == total
  | .cons t ts => match fds with
    | [] => false
    | f :: r => f.offset == off && tyOk P f.type t && tysOk P r (off + P.cellsOf f.type) total ts
end

section
variable {H : Type} {enc : TypeId × Value → H} {P : Program} {w : World} {sp : Nat → Bool} {held : Bool}
abbrev Old (w : World) : Nat → Prop := fun b => b < w.heap.size

theorem ImC.append {I : Nat → Prop} {B : Blocks} : ∀ {a b : List AV} {cs ds : List Value}, ImC I B a cs → ImC I B b ds → ImC I B (a ++ b) (cs ++ ds)
  | [], _, _, _, h, h' => by
    obtain rfl : _ = [] := h
    exact h'
  | _ :: as, _, _, _, h, h' => by
    obtain ⟨v, cs', rfl, h1, h2⟩ := h
    exact ⟨v, cs' ++ _, rfl, h1, h2.append h'⟩

theorem ImE_of {I : Nat → Prop} {B : Blocks} {s : Nat} : ∀ {xs : Els} {l : List Value}, (∀ i x, xs[i]? = some x → x.length = s ∧ ImC I B x ((l.drop (i * s)).take s)) → ImE I B s xs l
  | [], _, _ => trivial
  | x :: xs, l, h => by
    have h0 := h 0 x rfl
    simp only [Nat.zero_mul, List.drop_zero] at h0
    refine ⟨h0.1, h0.2, ImE_of fun i y hy => ?_⟩
    have h1 := h (i + 1) y hy
    rw [List.drop_drop, show s + i * s = (i + 1) * s by rw [Nat.add_mul]; omega]
    exact h1

theorem lift_list {α : Type} {Q : Nat → α → Prop} : ∀ {n : Nat}, (∀ i, i < n → ∃ x, Q i x) → ∃ xs : List α, xs.length = n ∧ ∀ i x, xs[i]? = some x → Q i x := by
  intro n
  induction n with
  | zero => intro _; exact ⟨[], rfl, fun i x h => by simp at h⟩
  | succ n ih =>
    intro h
    obtain ⟨xs, h1, h2⟩ := ih fun i hi => h i (by omega)
    obtain ⟨x, hx⟩ := h n (by omega)
    refine ⟨xs ++ [x], by simp [h1], fun i y hy => ?_⟩
    by_cases hi : i < n
    · exact h2 i y (by rw [List.getElem?_append_left (by omega)] at hy; exact hy)
    · rw [List.getElem?_append_right (by omega)] at hy
      by_cases e : i - xs.length = 0
      · rw [e] at hy
        obtain rfl := Option.some.inj hy
        obtain rfl : i = n := by omega
        exact hx
      · rw [List.getElem?_eq_none (by simp; omega)] at hy
        cases hy

theorem cell?_some {a : Addr} {v : Value} (h : w.cell? a = some v) : ∃ c E fr, w.heap[a.block]? = some (.cells c E fr) ∧ a.spot = none ∧ c[a.off]? = some v := by
  unfold World.cell? at h
  split at h
  · rename_i c E fr hc
    split at h
    · cases h
    · rename_i hs
      refine ⟨c, E, fr, hc, ?_, h⟩
      cases hsp : a.spot <;> simp_all
  · cases h

theorem weights_all {e : TypeId} : ∀ {l : List (DataW H)} {n : Nat} {d : DataW H}, d ∈ l → n ∈ d.weights P e → n ∈ DataW.weightsAll P e l
  | _ :: _, _, _, h, h' => by
    simp only [DataW.weightsAll, List.mem_append]
    cases h with
    | head => exact .inl h'
    | tail _ h => exact .inr (weights_all h h')

abbrev Light (P : Program) (t : TypeId) (d : DataW H) : Prop := ∀ n ∈ d.weights P t, n ≤ reachBytes

mutual
theorem lift : ∀ (T : Ty) {t : TypeId} {fuel : Nat} {cs : List Value} {x : DataW H × List MemPlace}, tyOk P t T = true → DataW.trod enc P w 0 sp held fuel t cs = some x → Light P t x.1 →
    ∃ as, OfTy T as ∧ ImC (Old w) (bl w) as cs ∧ as.length = P.cellsOf t
  | .int k, t, fuel, cs, x, ok, h, hw => by
    simp only [tyOk, Bool.and_eq_true, beq_iff_eq] at ok
    obtain ⟨o1, o2⟩ := ok
    split at o2
    · rename_i k' hu
      obtain rfl : k = k' := by simpa using o2
      obtain ⟨n, rfl, rfl, hwf⟩ := DataW.trod_int hu h
      exact ⟨_, ⟨n, rfl, hwf⟩, ⟨_, [], rfl, ⟨rfl, rfl⟩, rfl⟩, o1.symm⟩
    · cases o2
  | .bool, t, fuel, cs, x, ok, h, hw => by
    simp only [tyOk, Bool.and_eq_true, beq_iff_eq] at ok
    obtain ⟨o1, o2⟩ := ok
    split at o2
    · rename_i hu
      obtain ⟨b, rfl, rfl⟩ := DataW.trod_bool hu h
      exact ⟨_, ⟨b, rfl⟩, ⟨_, [], rfl, ⟨rfl, rfl⟩, rfl⟩, o1.symm⟩
    · cases o2
  | .str, t, fuel, cs, x, ok, h, hw => by
    simp only [tyOk, Bool.and_eq_true, beq_iff_eq] at ok
    obtain ⟨o1, o2⟩ := ok
    split at o2
    · rename_i hu
      obtain ⟨s, rfl, rfl, hs⟩ := DataW.trod_string hu h
      refine ⟨_, ⟨s, rfl, ?_⟩, ⟨_, [], rfl, ⟨rfl, rfl⟩, rfl⟩, o1.symm⟩
      have := hw s.data.toList.length (by simp [DataW.weights])
      simpa using this
    · cases o2
  | .sl s b e, t, fuel, cs, x, ok, h, hw => by
    simp only [tyOk, Bool.and_eq_true, beq_iff_eq] at ok
    obtain ⟨o1, o2⟩ := ok
    split at o2
    · rename_i u hu
      simp only [Bool.and_eq_true, beq_iff_eq, decide_eq_true_eq] at o2
      obtain ⟨⟨⟨hs, rfl⟩, rfl⟩, oe⟩ := o2
      rcases DataW.trod_slice hu h with ⟨rfl, rfl⟩ | ⟨a, len, cap, elems, rest, n, rfl, rfl, rfl, -, hlc, -, hlen, hel, -, -⟩
      · exact ⟨[.im _ []], ⟨[], rfl, (fun x hx => by cases hx), by simp⟩, ⟨_, [], rfl, ⟨none, 0, rfl, Nat.le_refl _, fun h => (h rfl).elim⟩, rfl⟩, o1.symm⟩
      · have hwe : (elems.length + rest.length) * P.bytesOf u ≤ reachBytes := by
          have := hw ((elems.length + rest.length) * P.bytesOf u) (by simp [DataW.weights, hu])
          exact this
        have step : ∀ i, i < len → ∃ as, (OfTy e as ∧ as.length = P.cellsOf u) ∧ ∃ cs', w.cells? 0 (a.add (i * P.cellsOf u)) (P.cellsOf u) = some cs' ∧ ImC (Old w) (bl w) as cs' := by
          intro i hi
          have h1 := hel i hi
          rw [List.getElem?_eq_getElem (by omega)] at h1
          obtain ⟨cs', h2, h3⟩ := Option.bind_eq_some_iff.1 h1
          obtain ⟨as, a1, a2, a3⟩ := lift e oe h3 fun m hm => hw m (by
            simp only [DataW.weights, hu, List.mem_cons, List.mem_append]
            exact .inr (.inl (weights_all (List.mem_map_of_mem (List.getElem_mem (by omega))) hm)))
          exact ⟨as, ⟨a1, a3⟩, cs', h2, a2⟩
        obtain ⟨xs, x1, x2⟩ := lift_list step
        refine ⟨[.im _ xs], ⟨xs, rfl, fun x hx => ?_, ?_⟩, ⟨_, [], rfl, ⟨some a, cap, by rw [x1], by omega, fun hne => ?_⟩, rfl⟩, o1.symm⟩
        · obtain ⟨i, hi, rfl⟩ := List.getElem_of_mem hx
          exact (x2 i _ (List.getElem?_eq_getElem hi)).1.1
        · refine Nat.le_trans (Nat.mul_le_mul_right _ ?_) hwe
          omega
        · have h0 : 0 < xs.length := List.length_pos_iff.2 hne
          obtain ⟨-, cs0, c1, -⟩ := x2 0 _ (List.getElem?_eq_getElem h0)
          have c2 := (World.cells?_some c1).2.2 0 hs
          rw [List.getElem?_eq_getElem (by have := (World.cells?_some c1).2.1; omega)] at c2
          obtain ⟨c, E, fr, hc, hsp, -⟩ := cell?_some c2
          have hsn : a.spot = none := by
            rcases a with ⟨b0, o0, s0⟩
            cases s0 with
            | none => rfl
            | some z => simp [Addr.add] at hsp
          obtain ⟨b0, o0, s0⟩ := a
          obtain rfl : s0 = none := hsn
          have hadd : ∀ o k, Addr.add ⟨b0, o, none⟩ k = ⟨b0, o + k, none⟩ := fun o k => by
            unfold Addr.add
            split
            · subst_vars; rfl
            · rfl
          simp only [hadd] at hc
          refine ⟨⟨b0, o0, none⟩, c, E, fr, rfl, rfl, ?_, hc, ImE_of fun i x hx => ?_⟩
          · show b0 < w.heap.size
            by_cases hl : b0 < w.heap.size
            · exact hl
            · rw [Array.getElem?_eq_none (by omega)] at hc; cases hc
          · obtain ⟨⟨-, q1⟩, cs', q2, q3⟩ := x2 i x hx
            refine ⟨q1, ?_⟩
            obtain ⟨-, l1, l2⟩ := World.cells?_some q2
            have : ((c.toList.drop o0).drop (i * P.cellsOf u)).take (P.cellsOf u) = cs' := by
              apply List.ext_getElem?
              intro j
              by_cases hj : j < P.cellsOf u
              · rw [← l2 j hj, List.getElem?_take_of_lt hj, List.drop_drop, List.getElem?_drop]
                simp only [World.cell?, hadd, hc]
                simp [Nat.add_assoc]
              · rw [List.getElem?_eq_none (by simp; omega), List.getElem?_eq_none (by omega)]
            rw [this]
            exact q3
    · cases o2
  | .st fs, t, fuel, cs, x, ok, h, hw => by
    simp only [tyOk] at ok
    split at ok
    · rename_i fds hu
      obtain ⟨xs, n, rfl, rfl, hl, hx, hf⟩ := DataW.trod_struct hu h
      obtain ⟨as, a1, a2, a3⟩ := lifts fs (fds := fds.toList) (off := 0) (cs := cs) (total := P.cellsOf t) (xs := xs) (n := n) ok hl (by simpa using hx) (fun i f hi => hf i f (by simpa using hi)) (fun m hm => hw m (by
        simp only [DataW.weights, hu]; exact hm))
      exact ⟨as, a1, by simpa using a2, by simpa using a3⟩
    · cases ok
theorem lifts : ∀ (T : Tys) {fds : List Field} {off total : Nat} {cs : List Value} {xs : List (DataW H × List MemPlace)} {n : Nat}, tysOk P fds off total T = true → cs.length = total → xs.length = fds.length →
    (∀ (i : Nat) (f : Field), fds[i]? = some f → DataW.trod enc P w 0 sp held n f.type ((cs.drop f.offset).take (P.cellsOf f.type)) = xs[i]?) →
    (∀ m ∈ DataW.weightsEach P (fds.map (·.type)) (xs.map (·.1)), m ≤ reachBytes) →
    ∃ as, OfTys T as ∧ ImC (Old w) (bl w) as (cs.drop off) ∧ as.length = total - off
  | .nil, fds, off, total, cs, xs, n, ok, hl, hx, hf, hw => by
    simp only [tysOk, Bool.and_eq_true, beq_iff_eq] at ok
    obtain ⟨-, rfl⟩ := ok
    refine ⟨[], rfl, ?_, by simp⟩
    rw [List.drop_eq_nil_of_le (by omega)]
    exact rfl
  | .cons t ts, fds, off, total, cs, xs, n, ok, hl, hx, hf, hw => by
    simp only [tysOk] at ok
    split at ok
    · cases ok
    · rename_i f r
      simp only [Bool.and_eq_true, beq_iff_eq] at ok
      obtain ⟨⟨rfl, o1⟩, o2⟩ := ok
      cases xs with
      | nil => simp at hx
      | cons x xs =>
        have h0 := hf 0 f rfl
        obtain ⟨as, a1, a2, a3⟩ := lift t o1 h0 fun m hm => hw m (by simp only [List.map_cons, DataW.weightsEach, List.mem_append]; exact .inl hm)
        obtain ⟨bs, b1, b2, b3⟩ := lifts ts (fds := r) (off := f.offset + P.cellsOf f.type) (total := total) (cs := cs) (xs := xs) (n := n) o2 hl (by simpa using hx) (fun i g hg => hf (i + 1) g hg) (fun m hm => hw m (by
          simp only [List.map_cons, DataW.weightsEach, List.mem_append]; exact .inr hm))
        have e : cs.drop f.offset = (cs.drop f.offset).take (P.cellsOf f.type) ++ cs.drop (f.offset + P.cellsOf f.type) := by
          rw [← List.drop_drop, List.take_append_drop]
        refine ⟨as ++ bs, ⟨as, bs, rfl, a1, b1⟩, ?_, ?_⟩
        · rw [e]; exact a2.append b2
        · have q : ∀ {I : Nat → Prop} {B : Blocks} (l : List AV) (c : List Value), ImC I B l c → l.length = c.length := by
            intro I B l
            induction l with
            | nil => intro c h; obtain rfl : c = [] := h; rfl
            | cons a l ih => intro c h; obtain ⟨v, c', rfl, -, h'⟩ := h; simp [ih c' h']
          have e1 := q as _ a2
          have e2 := q bs _ b2
          simp only [List.length_append, List.length_take, List.length_drop] at *
          omega
end
end

/-- Lists of cells as lists of a Lean type. -/
theorem lift_map {α : Type} {c : α → List AV} {W : α → Prop} {Q : List AV → Prop} (hq : ∀ x, Q x → ∃ y, W y ∧ c y = x) : ∀ {xs : Els}, (∀ x ∈ xs, Q x) → ∃ ys : List α, (∀ y ∈ ys, W y) ∧ ys.map c = xs
  | [], _ => ⟨[], (fun y hy => by cases hy), rfl⟩
  | x :: xs, h => by
    obtain ⟨y, h1, h2⟩ := hq x (h x (List.mem_cons_self ..))
    obtain ⟨ys, h3, h4⟩ := lift_map hq (xs := xs) fun z hz => h z (List.mem_cons_of_mem _ hz)
    exact ⟨y :: ys, (fun z hz => by cases hz with | head => exact h1 | tail _ hz => exact h3 z hz), by simp [h2, h4]⟩
end Loom
namespace Loom
open Go Go.ChangeShapes Go.WideShapes Go.RowKit

/-- The abstract value of an argument of a shape, from its cells. -/
def argOf : Ty → List AV → AV
  | .st _, cs => .ag cs
  | _, cs => cs.headD .un

def OfArgs : List Ty → List (List AV) → Prop
  | [], as => as = []
  | T :: Ts, as => ∃ a r, as = a :: r ∧ OfTy T a ∧ OfArgs Ts r
def argsOf : List Ty → List (List AV) → List AV
  | T :: Ts, a :: as => argOf T a :: argsOf Ts as
  | _, _ => []
def tysAll (P : Program) : List TypeId → List Ty → Bool
  | [], [] => true
  | t :: ts, T :: Ts => tyOk P t T && P.readableRec t && decide (t < P.types.size) && tysAll P ts Ts
  | _, _ => false

section
variable {H : Type} {enc : TypeId × Value → H} {P : Program} {W : World} {σ : Pl}

theorem arg_lift {T : Ty} {t : TypeId} {v : Value} {d : DataW H} {p : List MemPlace} {r : Reach} {b0 : Nat} (ok : tyOk P t T = true) (hval : Value.okWide P W r b0 t v)
    (h : DataW.Trod enc P W 0 (fun _ => true) true t v d p) (hw : Light P t d) : ∃ as, OfTy T as ∧ Va (Old W) σ (bl W) (argOf T as) v := by
  obtain ⟨fuel, h⟩ := h
  obtain ⟨as, a1, a2, -⟩ := lift T ok h hw
  refine ⟨as, a1, ?_⟩
  have one : ∀ {x : AV}, as = [x] → v.cells = #[v] → Va (Old W) σ (bl W) x v := by
    rintro x rfl hc
    rw [hc] at a2
    obtain ⟨u, cs', e, h1, -⟩ := a2
    obtain ⟨rfl, -⟩ := List.cons.inj e
    exact (Im.va _ _ h1).1
  cases T with
  | int k =>
    simp only [tyOk, Bool.and_eq_true] at ok
    have ok := ok.2
    split at ok
    · rename_i hu
      obtain ⟨n, rfl⟩ := okWide_int hu hval
      obtain ⟨m, rfl, -⟩ := a1
      exact one rfl rfl
    · cases ok
  | bool =>
    simp only [tyOk, Bool.and_eq_true] at ok
    have ok := ok.2
    split at ok
    · rename_i hu
      obtain ⟨n, rfl⟩ := okWide_bool hu hval
      obtain ⟨m, rfl⟩ := a1
      exact one rfl rfl
    · cases ok
  | str =>
    simp only [tyOk, Bool.and_eq_true] at ok
    have ok := ok.2
    split at ok
    · rename_i hu
      obtain ⟨n, rfl⟩ := okWide_string hu hval
      obtain ⟨m, rfl, -⟩ := a1
      exact one rfl rfl
    · cases ok
  | sl s b e =>
    simp only [tyOk, Bool.and_eq_true] at ok
    have ok := ok.2
    split at ok
    · rename_i hu
      obtain ⟨a, l, c, rfl⟩ := okWide_slice hu hval
      obtain ⟨m, rfl, -⟩ := a1
      exact one rfl rfl
    · cases ok
  | st fs =>
    simp only [tyOk] at ok
    split at ok
    · rename_i hu
      obtain ⟨cs, rfl, -⟩ := okWide_struct hu hval
      exact ⟨cs, rfl, ImC.va _ _ a2⟩
    · cases ok

theorem args_lift (hl : laidOutB P = true) : ∀ {ts : List TypeId} {Ts : List Ty} {vs : List Value} {ds : List (DataW H)} {ps : List MemPlace}, tysAll P ts Ts = true → (∀ (j : Nat) t v, ts[j]? = some t → vs[j]? = some v → Value.okWide P W .any 0 t v) →
    DataW.TrodAll enc P W 0 (fun _ => true) true ts vs ds ps → (∀ n ∈ DataW.weightsEach P ts ds, n ≤ reachBytes) →
    (∃ as, OfArgs Ts as ∧ VaL (Old W) σ (bl W) (argsOf Ts as) vs) ∧ ds.length = Ts.length ∧ ∀ W', Below W.heap.size W W' → DataW.TrodAll enc P W' 0 (fun b => decide (b < W.heap.size)) true ts vs ds ps
  | [], [], vs, ds, ps, _, _, h, _ => by
    obtain ⟨rfl, rfl, rfl⟩ := trodAll_nil h
    exact ⟨⟨[], rfl, rfl⟩, rfl, fun _ _ => rfl⟩
  | t :: ts, T :: Ts, vs, ds, ps, ok, hval, h, hw => by
    simp only [tysAll, Bool.and_eq_true, decide_eq_true_eq] at ok
    obtain ⟨⟨⟨o1, o2⟩, o3⟩, o4⟩ := ok
    obtain ⟨v, vs, d, ds, p, q, rfl, rfl, rfl, h1, h2⟩ := trodAll_cons h
    simp only [DataW.weightsEach, List.mem_append] at hw
    obtain ⟨a, a1, a2⟩ := arg_lift (σ := σ) o1 (hval 0 _ _ rfl rfl) h1 fun n hn => hw n (.inl hn)
    obtain ⟨⟨as, b1, b2⟩, b3, b4⟩ := args_lift hl o4 (fun j t v e1 e2 => hval (j + 1) t v e1 e2) h2 fun n hn => hw n (.inr hn)
    refine ⟨⟨a :: as, ⟨a, as, rfl, a1, b1⟩, v, vs, rfl, a2, b2⟩, by simp [b3], fun W' hb => ⟨p, q, ?_, b4 W' hb, rfl⟩⟩
    have h1' := h1
    obtain ⟨n, hn⟩ := h1
    exact RowKit.Below.trod hl o2 o3 h1' hb (DataW.trod_lt n _ _ _ hn)
  | [], _ :: _, _, _, _, ok, _, _, _ => by cases ok
  | _ :: _, [], _, _, _, ok, _, _, _ => by cases ok

theorem law_calls {f : Nat} {as : List AV} {vs : List Value} (hc : CallG P f as [] (Bl true) []) (hv : VaL (Old W) (fun _ _ => none) (bl W) as vs) :
    Calls P f vs.toArray W fun e W' => e = .returned (.bool true) ∧ Below W.heap.size W W' := by
  refine (hc (Old W) (fun _ _ => none) W vs ⟨trivial, List.nodup_nil, List.nodup_nil, (fun b hb => by cases hb), fun b hb => hb⟩ hv).mono ?_
  rintro e W' ⟨v, σ', I', rfl, -, -, -, hr, -, hle, hb, -⟩
  obtain rfl : v = .bool true := hr
  exact ⟨rfl, hle.os, hle.tape, hle.output, hle.size, fun k hk => hb k hk (by intro h; cases h)⟩
end

/-- A law that answers true at every input of the given shapes: its row. -/
theorem row_of {C : Checked} {os : Os} {H : Type} {enc : TypeId × Value → H} {f : Nat} {fn : Func} {s : ChangeSpec} {ts : List TypeId} (Ts : List Ty) (tb : TypeId) (started : os.Started) (own : ownKnob C.prog.godebug = none)
    (noInit : C.prog.inits.idxOf? f = none) (hfn : C.prog.funcs[f]? = some fn)
    (witness : ∃ (w : World) (tape : Tape) (i : Input), w.os = os ∧ (w.forCall tape i).Shaped C.prog ∧ i.vars = [] ∧ Input.okWide C.prog (w.forCall tape i) .any w.heap.size f i ∧
      s.pre6 enc C.prog fn [] false (w.forCall tape i).memory i.args ∧ ({} : Assume).holds C.prog (lone (Frame.enter C.prog f i.args .normal) [] (w.forCall tape i)))
    (hl : laidOutB C.prog = true) (hps : fn.params = ts.toArray) (hrs : fn.resultTypes = #[tb]) (htb : C.prog.underlying tb = some .bool) (hts : tysAll C.prog ts Ts = true)
    (hvars : s.vars = []) (hs : ∀ ds : List (DataW H), ds.length = Ts.length → s.fn H ds = { results := [.lit (.bool true)], args := ds })
    (hc : ∀ as, OfArgs Ts as → CallG C.prog f (argsOf Ts as) [] (Bl true) []) :
    ReturnsInHanded {} C os f .any (s.pre6 enc C.prog fn [] false) (s.post enc C.prog fn false true false false) := by
  refine returnsInHanded_of_change_sized (C := C) own started noInit hfn witness ?_
  intro W base args ds gs before hval hW _ hsz _
  have hW' := hW
  obtain ⟨p, q, hA, hV, rfl, hfz, hnd⟩ := hW
  rw [hvars] at hV
  obtain ⟨rfl, rfl⟩ := trodVars_none hV
  have hvt : s.plain.varTypes C.prog = [] := by
    have : s.plain.vars = [] := hvars
    simp [DataSpec.varTypes, this]
  rw [hvt, List.append_nil, List.append_nil] at hsz
  rw [hps] at hA hsz
  obtain ⟨⟨as, a1, a2⟩, a3, a4⟩ := args_lift (W := W) (σ := fun _ _ => none) hl hts (fun j t v h1 h2 => hval j t v (by rw [hps]; simpa using h1) (by simpa using h2)) hA fun n hn => by
    have := List.all_eq_true.1 hsz n hn
    simpa using this
  have := law_calls (hc as a1) a2
  rw [Array.toArray_toList] at this
  refine this.mono fun e W' ⟨he, bel⟩ => ?_
  subst he
  refine ⟨_, rfl, _, _, _, [], p, [], hW', ?_⟩
  have e : s.fn H (ds ++ []) = { results := [.lit (.bool true)], args := ds } := by rw [List.append_nil]; exact hs ds a3
  rw [e, hvars, hrs, hps]
  exact ⟨trodAll_mk1 (shut_bool htb _), a4 W' bel, rfl, bel.frame _, fun h => by cases h⟩
end Loom
namespace Loom
open Go Go.ChangeMaps
set_option linter.unusedVariables false
set_option linter.unusedSimpArgs false


/-- A block that is a map from strings to numbers, with these keys in this order. -/
def KM (w : World) (b : Nat) (ks : List ByteArray) : Prop :=
  ∃ es cl, w.heap[b]? = some (.map es cl) ∧ es.toList.map (·.key) = ks.map Value.string ∧ ∀ x ∈ es.toList, ∃ n, x.val = .int .i64 n

section
variable {P : Program} {w : World} {b : Nat} {ks : List ByteArray} {t k e : TypeId}

def has (s : ByteArray) (ks : List ByteArray) : Bool := ks.any (· == s)
theorem find_str (s : ByteArray) : ∀ (l : List MapEntry) (ks : List ByteArray) (i : Nat), l.map (·.key) = ks.map Value.string →
    (has s ks = false ∧ Instr.findNow .string (.string s) l i = some none) ∨ ∃ j e, has s ks = true ∧ Instr.findNow .string (.string s) l i = some (some (i + j, e.val)) ∧ l[j]? = some e ∧ e.key = .string s
  | [], [], i, _ => .inl ⟨rfl, rfl⟩
  | x :: l, k :: ks, i, h => by
    simp only [List.map_cons, List.cons.injEq] at h
    obtain ⟨h1, h2⟩ := h
    cases e : k == s
    · have e' : (s == k) = false := by
        cases q : s == k
        · rfl
        · rw [(MapKept.bytes_beq s k).1 q, (MapKept.bytes_beq k k).2 rfl] at e; cases e
      have hn : Instr.findNow .string (.string s) (x :: l) i = Instr.findNow .string (.string s) l (i + 1) := by
        simp only [Instr.findNow, Instr.sameNow, h1, e']
      rw [hn]
      rcases find_str s l ks (i + 1) h2 with ⟨g1, g2⟩ | ⟨j, e', g0, g1, g2, g3⟩
      · exact .inl ⟨by simp only [has, List.any_cons, e, Bool.false_or]; exact g1, g2⟩
      · exact .inr ⟨j + 1, e', by simp only [has, List.any_cons, e, Bool.false_or]; exact g0, by rw [g1, show i + 1 + j = i + (j + 1) by omega], by simpa using g2, g3⟩
    · obtain rfl := (MapKept.bytes_beq k s).1 e
      refine .inr ⟨0, x, by simp only [has, List.any_cons, e, Bool.true_or], ?_, rfl, h1⟩
      simp only [Instr.findNow, Instr.sameNow, h1, e]
      rfl
  | [], _ :: _, _, h => by cases h
  | _ :: _, [], _, h => by cases h

theorem find_run (hk : P.underlying k = some .string) (s : ByteArray) (l : List MapEntry) {r : Option (Nat × Value)} (h : Instr.findNow .string (.string s) l 0 = some r) : (Instr.findKey k (.string s) l).run P w = .ok r w := MapKept.run_findKey hk h
theorem check_run (em : Bool) (hk : P.underlying k = some .string) (s : ByteArray) : (Instr.checkKey em 10000 k (.string s)).run P w = .ok () w := MapKept.run_checkKey hk (by simp [MapKept.IsKey]) em 9999

theorem KM.lookup (h : KM w b ks) (ht : P.underlying t = some (.map k e)) (hk : P.underlying k = some .string) (hz : (zeroValue e).run P w = .ok (.int .i64 0) w) (s : ByteArray) :
    ∃ n, (Instr.lookup t (.map (some b)) (.string s) false).run P w = .ok (.int .i64 n) w := by
  obtain ⟨es, cl, hb, h1, h2⟩ := h
  rcases find_str s es.toList ks 0 h1 with ⟨g1, g2⟩ | ⟨j, e', g0, g1, g2, g3⟩
  · exact ⟨0, by simp [Instr.lookup, run_underlying ht, MapKept.run_getObj_map hb, check_run _ hk, find_run hk _ _ g2, hz, Result.andThen]⟩
  · obtain ⟨n, hn⟩ := h2 e' (List.mem_of_getElem? g2)
    exact ⟨n, by simp [Instr.lookup, run_underlying ht, MapKept.run_getObj_map hb, check_run _ hk, find_run hk _ _ g1, Result.andThen, hn]⟩

theorem KM.update (h : KM w b ks) (ht : P.underlying t = some (.map k e)) (hk : P.underlying k = some .string) (s : ByteArray) (n : Int) :
    ∃ w', (Instr.mapUpdate t (.map (some b)) (.string s) (.int .i64 n)).run P w = .ok () w' ∧ KM w' b (bif has s ks then ks else ks ++ [s]) ∧ Le w w' ∧ ∀ i, i ≠ b → bl w' i = bl w i := by
  obtain ⟨es, cl, hb, h1, h2⟩ := h
  have le : ∀ o, Le w (setBlock w b o) := fun o => ⟨by simp [setBlock], rfl, rfl, rfl⟩
  have oth : ∀ o i, i ≠ b → bl (setBlock w b o) i = bl w i := fun o i hi => heap_setBlock_other hb o hi
  rcases find_str s es.toList ks 0 h1 with ⟨g1, g2⟩ | ⟨j, e', g0, g1, g2, g3⟩
  · refine ⟨setBlock w b (.map (es.push ⟨.string s, .int .i64 n, cl⟩) (cl + 1)), ?_, ⟨_, _, heap_setBlock_same hb _, ?_, ?_⟩, le _, oth _⟩
    · simp [Instr.mapUpdate, run_underlying ht, MapKept.run_getObj_map hb, check_run _ hk, find_run hk _ _ g2, MapKept.run_setObj_map _ hb, Result.andThen, setBlock]
    · simp [g1, h1]
    · intro x hx
      simp only [Array.toList_push, List.mem_append, List.mem_singleton] at hx
      rcases hx with hx | rfl
      · exact h2 x hx
      · exact ⟨n, rfl⟩
  · have hj : es[j]? = some e' := by simpa using g2
    have hj' : j < es.size := (Array.getElem?_eq_some_iff.1 hj).1
    refine ⟨setBlock w b (.map (es.modify j fun e => { e with key := .string s, val := .int .i64 n }) cl), ?_, ⟨_, _, heap_setBlock_same hb _, ?_, ?_⟩, le _, oth _⟩
    · simp [Instr.mapUpdate, run_underlying ht, MapKept.run_getObj_map hb, check_run _ hk, find_run hk _ _ g1, MapKept.run_setObj_map _ hb, Result.andThen, setBlock, Instr.keyThatStays, Instr.sameBits, hj, g3, (MapKept.bytes_beq s s).2 rfl]
    · simp only [g0, cond_true, ← h1]
      apply List.ext_getElem?
      intro i
      simp only [List.getElem?_map, Array.getElem?_toList, Array.getElem?_modify]
      split
      · rename_i hi
        subst hi
        simp [hj, g3]
      · rfl
    · intro x hx
      obtain ⟨i, hi⟩ := List.getElem?_of_mem hx
      simp only [Array.getElem?_toList, Array.getElem?_modify] at hi
      split at hi
      · obtain ⟨y, hy, rfl⟩ := Option.map_eq_some_iff.1 hi
        exact ⟨n, rfl⟩
      · exact h2 x (List.mem_of_getElem? (by simpa using hi))
theorem KM.len (h : KM w b ks) (ht : P.underlying t = some (.map k e)) (ty : TypeId) : (Builtin.len_ #[t] ty #[.map (some b)]).run P w = .ok (.int .i64 ks.length) w := by
  obtain ⟨es, cl, hb, h1, h2⟩ := h
  have : es.size = ks.length := by simpa using congrArg List.length h1
  simp [Builtin.len_, run_underlying ht, MapKept.run_getObj_map hb, this, Builtin.lenOf, goInt]
end


/-- Where a run with one map of its own stands: the abstract state, the map's block and keys; w0: the world in which the call began. -/
structure Now (N : Nat) (w0 : World) (m : Option (Nat × List ByteArray)) (e : Env) (h : H) (a : Act) (w : World) : Prop where
  rel : ∃ I σ, Rel I N σ e h a w ∧ (∀ x ∈ fpH σ h, w0.heap.size ≤ x) ∧ ∀ b ks, m = some (b, ks) → b ∉ fpH σ h ∧ ¬ I b
  km : ∀ b ks, m = some (b, ks) → KM w b ks ∧ w0.heap.size ≤ b
  le : Le w0 w
  old : ∀ i, i < w0.heap.size → bl w i = bl w0 i

section
variable {P : Program} {N : Nat} {w0 w w' : World} {m : Option (Nat × List ByteArray)} {e e1 : Env} {h h1 : H} {a : Act} {Q : Exit → Act → World → Prop} {ops : Array Oper}

theorem KM.lt {b : Nat} {ks : List ByteArray} (h : KM w b ks) : b < w.heap.size := by
  obtain ⟨es, cl, hb, -⟩ := h
  exact (Array.getElem?_eq_some_iff.1 hb).1
theorem KM.same {b : Nat} {ks : List ByteArray} (h : KM w b ks) (e : bl w' b = bl w b) : KM w' b ks := by
  obtain ⟨es, cl, hb, h2⟩ := h
  exact ⟨es, cl, e.trans hb, h2⟩

theorem Now.step {I : Nat → Prop} {σ : Pl} {e' : Env} {h' : H} {a' : Act} (hf : ∀ x ∈ fpH σ h, w0.heap.size ≤ x) (hm : ∀ b ks, m = some (b, ks) → b ∉ fpH σ h ∧ ¬ I b)
    (km : ∀ b ks, m = some (b, ks) → KM w b ks ∧ w0.heap.size ≤ b) (le : Le w0 w) (old : ∀ i, i < w0.heap.size → bl w i = bl w0 i) (S : Step P I N [] σ h w e' h' a' w') : Now N w0 m e' h' a' w' := by
  obtain ⟨σ', I', i1, i2, R, p1, p2, p3, p4⟩ := S.out
  have ps := p2.size
  have ls := le.size
  refine ⟨⟨I', σ', R, fun x hx => ?_, fun b ks hb => ?_⟩, fun b ks hb => ?_, le.trans p2, fun i hi => ?_⟩
  · rcases p4 x hx with h | h
    · exact hf x h
    · omega
  · have lt := (km b ks hb).1.lt
    refine ⟨fun hx => ?_, fun hx => ?_⟩
    · rcases p4 b hx with h | h
      · exact (hm b ks hb).1 h
      · omega
    · rcases i2 b hx with h | h | h
      · exact (hm b ks hb).2 h
      · exact (hm b ks hb).1 h
      · omega
  · exact ⟨(km b ks hb).1.same (p3 b (km b ks hb).1.lt (hm b ks hb).1), (km b ks hb).2⟩
  · rw [p3 i (by omega) fun hx => by have := hf i hx; omega]
    exact old i hi

theorem Now.ex {R : Out → Env → H → Prop} {code : Code} {c : IC} (n : Now N w0 m e h a w) (hc : IsC P N code c) (hw : W P [] c R e h) (hQ : ∀ o e' h' a' w', R o e' h' → Now N w0 m e' h' a' w' → Q o.ex a' w') : code.wp P Q a w := by
  obtain ⟨⟨I, σ, R', hf, hm⟩, km, le, old⟩ := n
  obtain ⟨o, e', h', hx, hr⟩ := hw
  exact (hx.owes code hc I σ a w R' Q fun a' w' S => hQ _ _ _ _ _ hr (Now.step hf hm km le old S)).1

theorem Now.loom {i : Nat} {is : List Nat} {o : Oper} {x : Ins} (n : Now N w0 m e h a w) (ho : ops[i]? = some o) (hco : comp P N ops o = some x) (hg : x.guard = none) (hs : IStep P [] e h x.dst x.op e1 h1)
    (hK : ∀ a' w', Now N w0 m e1 h1 a' w' → wpOps P ops Q is a' w') : wpOps P ops Q (i :: is) a w := by
  obtain ⟨⟨I, σ, R, hf, hm⟩, km, le, old⟩ := n
  obtain ⟨g1, g2, g3⟩ := comp_guard hco
  have hw : wants e x.guard = some true := by rw [hg]; rfl
  rw [wpOps_cons]
  unfold wpOp
  simp only [ho, wants_sound R g1 hw, if_true]
  exact .inl (IStep.sound R g2 g3 hs fun a1 w1 S => hK _ _ (Now.step hf hm km le old S))

theorem Rel.away {I : Nat → Prop} {σ : Pl} {b : Nat} (R : Rel I N σ e h a w) (le : Le w w') (hb : ∀ i, i ≠ b → bl w' i = bl w i) (h1 : b ∉ fpH σ h) (h2 : ¬ I b) : Rel I N σ e h a w' := by
  have hI : ∀ i, I i → bl w' i = bl w i := fun i hi => hb i fun e => h2 (e ▸ hi)
  have ls := le.size
  exact ⟨⟨HeapOk.mono hI h (fun i hi => hb i fun e => h1 (e ▸ hi)) R.heap.ok, R.heap.keys, R.heap.nodup, fun i hi => ⟨(R.heap.apart i hi).1, by have := (R.heap.apart i hi).2; omega⟩, fun i hi => by have := R.heap.low i hi; omega⟩,
    R.size, fun t => Va.mono hI _ _ (R.vals t), R.defers⟩

theorem wpOps_at {i : Nat} {is : List Nat} {o : Oper} (ho : ops[i]? = some o) (hg : o.guard = none) (h : o.wp P a w (wpOps P ops Q is) Q) : wpOps P ops Q (i :: is) a w := by
  rw [wpOps_cons]
  unfold wpOp
  have : Region.wanted o (yielded ops a.tmps) = true := by simp [Region.wanted, hg]
  simp only [ho, this, if_true]
  exact .inl h

theorem Now.val {i d : Nat} {is : List Nat} {o : Oper} {v : Value} (n : Now N w0 m e h a w) (ho : ops[i]? = some o) (hg : o.guard = none) (hd : o.dst = some d) (hN : d < N)
    (hrun : (execOp a.eval o).run P w = .ok (.value v) w) (hK : ∀ a', Now N w0 m (upd e d (.sc v)) h a' w → wpOps P ops Q is a' w) : wpOps P ops Q (i :: is) a w := by
  refine wpOps_at ho hg ?_
  unfold Oper.wp
  rw [hrun, Oper.upon_value, hd]
  obtain ⟨⟨I, σ, R, hf, hm⟩, km, le, old⟩ := n
  exact hK _ ⟨⟨I, σ, Rel.put R.heap R.size R.vals R.defers hN rfl, hf, hm⟩, km, le, old⟩

theorem Now.eval {v : Value} {x : Operand} (n : Now N w0 m e h a w) (hx : ev e x = .sc v) : a.eval x = v := by
  obtain ⟨⟨I, σ, R, -, -⟩, -, -, -⟩ := n
  have := ev_va R x
  rw [hx] at this
  exact this

theorem Now.make {i d : Nat} {is : List Nat} {o : Oper} {t : TypeId} (n : Now N w0 none e h a w) (ho : ops[i]? = some o) (hg : o.guard = none) (hd : o.dst = some d) (hN : d < N) (hop : o.op = .makeMap t none)
    (hK : ∀ b a' w', Now N w0 (some (b, [])) (upd e d (.sc (.map (some b)))) h a' w' → wpOps P ops Q is a' w') : wpOps P ops Q (i :: is) a w := by
  refine wpOps_at ho hg ?_
  have hrun : (execOp a.eval o).run P w = .ok (.value (.map (some w.heap.size))) (w.alloc (.map #[] 0)) := by
    simp [execOp, hop, RowKit.run_makeMap, Result.andThen]
  unfold Oper.wp
  rw [hrun, Oper.upon_value, hd]
  obtain ⟨⟨I, σ, R, hf, hm⟩, km, le, old⟩ := n
  have e1 : (w.alloc (.map #[] 0)).heap[w.heap.size]? = some (.map #[] 0) := (MapKept.heap_alloc w _).1
  have l1 : Le w (w.alloc (.map #[] 0)) := ⟨by show w.heap.size ≤ (w.heap.push _).size; simp, rfl, rfl, rfl⟩
  have nb : w.heap.size ∉ fpH σ h := fun hx => by have := (R.heap.apart _ hx).2; omega
  have ni : ¬ I w.heap.size := fun hx => by have := R.heap.low _ hx; omega
  have oth : ∀ i, i ≠ w.heap.size → bl (w.alloc (.map #[] 0)) i = bl w i := fun i hi => by
    rcases Nat.lt_or_ge i w.heap.size with h | h
    · exact bl_alloc w _ i h
    · have e2 : bl (w.alloc (.map #[] 0)) i = none := by simp only [bl]; exact Array.getElem?_eq_none (by show (w.heap.push _).size ≤ i; simp; omega)
      have e3 : bl w i = none := by simp only [bl]; exact Array.getElem?_eq_none (by omega)
      rw [e2, e3]
  have R' := R.away l1 oth nb ni
  refine hK w.heap.size _ _ ⟨⟨I, σ, Rel.put R'.heap R'.size R'.vals R'.defers hN rfl, hf, fun b ks hb => ?_⟩, fun b ks hb => ?_, le.trans l1, fun i hi => ?_⟩
  · cases hb; exact ⟨nb, ni⟩
  · cases hb; exact ⟨⟨#[], 0, e1, rfl, fun x hx => by simp at hx⟩, le.size⟩
  · have := le.size
    rw [oth i (by omega)]; exact old i hi

theorem Now.upd {i b : Nat} {ks : List ByteArray} {is : List Nat} {o : Oper} {t k et : TypeId} {xm xk xv : Operand} {s : ByteArray} {v : Int} (n : Now N w0 (some (b, ks)) e h a w) (ho : ops[i]? = some o) (hg : o.guard = none) (hd : o.dst = none) (hop : o.op = .mapUpdate t xm xk xv)
    (ht : P.underlying t = some (.map k et)) (hk : P.underlying k = some .string) (hm : ev e xm = .sc (.map (some b))) (hs : ev e xk = .sc (.string s)) (hv : ev e xv = .sc (.int .i64 v))
    (hK : ∀ a' w', Now N w0 (some (b, bif has s ks then ks else ks ++ [s])) e h a' w' → wpOps P ops Q is a' w') : wpOps P ops Q (i :: is) a w := by
  have q1 := n.eval hm
  have q2 := n.eval hs
  have q3 := n.eval hv
  obtain ⟨⟨I, σ, R, hf, hm⟩, km, le, old⟩ := n
  obtain ⟨w', r1, r2, r3, r4⟩ := (km b ks rfl).1.update (P := P) ht hk s v
  refine wpOps_at ho hg ?_
  unfold Oper.wp
  simp only [execOp, hop, q1, q2, q3, Sem.run_bind, r1, Result.andThen]
  have lt := (km b ks rfl).2
  have R' := R.away r3 r4 (hm b ks rfl).1 (hm b ks rfl).2
  refine hK _ _ ⟨⟨I, σ, ?_, hf, fun b' ks' hb => ?_⟩, fun b' ks' hb => ?_, le.trans r3, fun i hi => ?_⟩
  · rw [hd]; exact R'
  · cases hb; exact hm b ks rfl
  · cases hb; exact ⟨r2, lt⟩
  · rw [r4 i (by omega)]; exact old i hi
end
end Loom
namespace Loom
open Go Go.ChangeMaps
set_option linter.unusedVariables false
set_option linter.unusedSimpArgs false
section
def lf : Code → Code
  | .seq a _ => a
  | .cond _ a _ => a
  | .loop a => a
  | .block _ a => a
  | c => c
def rt : Code → Code
  | .seq _ b => b
  | .cond _ _ b => b
  | c => c
def rops : Code → Array Oper
  | .region _ ops _ => ops
  | _ => #[]
def rid : Code → Nat
  | .region n _ _ => n
  | _ => 0
theorem op_is {ops : Array Oper} {i : Nat} {g : Option (Nat × Bool)} {d : Option Nat} {op : Op} (h : (ops[i]?).map (fun o => (o.guard, o.dst, o.op)) = some (g, d, op)) : ∃ o, ops[i]? = some o ∧ o.guard = g ∧ o.dst = d ∧ o.op = op := by
  obtain ⟨o, h1, h2⟩ := Option.map_eq_some_iff.1 h
  simp only [Prod.mk.injEq] at h2
  exact ⟨o, h1, h2.1, h2.2.1, h2.2.2⟩
variable {P : Program} {N : Nat} {w0 w w' : World} {m : Option (Nat × List ByteArray)} {e e1 : Env} {h h1 : H} {a : Act} {Q : Exit → Act → World → Prop} {ops : Array Oper}
theorem Now.rd {i : Nat} {is : List Nat} {x : Ins} (n : Now N w0 m e h a w) (ho : (ops[i]?).bind (comp P N ops) = some x) (hs : x.guard = none ∧ istep [] e h x.dst x.op = some (e1, h1))
    (hK : ∀ a' w', Now N w0 m e1 h1 a' w' → wpOps P ops Q is a' w') : wpOps P ops Q (i :: is) a w := by
  obtain ⟨o, h1, h2⟩ := Option.bind_eq_some_iff.1 ho
  exact n.loom h1 h2 hs.1 (.plain hs.2) hK
theorem Now.rda {i d : Nat} {is : List Nat} {b : IB} (av : AV) (n : Now N w0 m e h a w) (ho : (ops[i]?).bind (comp P N ops) = some ⟨d, none, .rd b⟩) (hs : rdop (ev e) (res h) b = some av)
    (hK : ∀ a' w', Now N w0 m (Loom.upd e d av) h a' w' → wpOps P ops Q is a' w') : wpOps P ops Q (i :: is) a w :=
  n.rd ho ⟨rfl, by simp only [istep, hs]⟩ hK
theorem Now.gh (n : Now N w0 m e h a w) (g : Ghost P [] e h e1 h1) : Now N w0 m e1 h1 a w := by
  obtain ⟨⟨I, σ, R, hf, hm⟩, km, le, old⟩ := n
  exact Now.step hf hm km le old (g I N σ a w R)
theorem Now.ghost (P : Program) {S : List Nat} (n : Now N w0 m e h a w) : Now N w0 m (keepE S e) h a w := by
  obtain ⟨⟨I, σ, R, hf, hm⟩, km, le, old⟩ := n
  exact Now.step (P := P) hf hm km le old (keep_ghost I N σ a w R)
theorem Now.call {f : Nat} {fn : Func} {code : Code} {ts : List RS} {args : List AV} {v : Value} (h1 : P.funcs[f]? = some fn) (h2 : fn.body = some code) (h3 : fn.ntmps = N) (h4 : resSlots P fn.results.toList = some ts)
    (hw : ∀ (a : Act) (w0 : World) (Q : Exit → Act → World → Prop), Now N w0 none (argE 0 args) [] a w0 → (∀ m e' h' a' w', resAV e' h' ts = some (.sc v) → Now N w0 m e' h' a' w' → Q .ret a' w') → code.wp P Q a w0) : CallOk P f args [] (.sc v) [] := by
  intro I σ w vs hh hv
  apply calls_of_wp h1 h2
  have R : Rel I N σ (argE 0 args) [] { tmps := vs.toArray ++ Array.replicate (fn.ntmps - vs.toArray.size) undef, defers := [] } w := by
    refine ⟨hh, ?_, fun t => ?_, rfl⟩
    · simp only [Array.size_append, Array.size_replicate, List.size_toArray]
      omega
    · have := argE_va (I := I) (σ := σ) (B := bl w) args 0 [] vs (List.replicate (fn.ntmps - vs.toArray.size) undef) rfl hv t
      have e2 : (vs.toArray ++ Array.replicate (fn.ntmps - vs.toArray.size) undef) = (vs ++ List.replicate (fn.ntmps - vs.toArray.size) undef).toArray := by
        apply Array.ext'
        simp
      simp only [e2]
      simpa [Array.getD_eq_getD_getElem?, List.getD_eq_getElem?_getD] using this
  refine hw _ w _ ⟨⟨I, σ, R, (fun x hx => by cases hx), fun b ks hb => by cases hb⟩, (fun b ks hb => by cases hb), Le.refl w, fun _ _ => rfl⟩ fun m e' h' a' w' hr n => ?_
  obtain ⟨⟨I', σ', R', -, -⟩, -, le, old⟩ := n
  obtain ⟨u, q1, q2⟩ := results_run R' fn h4 hr
  have ls := le.size
  exact ⟨R'.defers, u, q1, u, σ, rfl, ⟨trivial, List.nodup_nil, List.nodup_nil, (fun b hb => by cases hb), fun b hb => by have := hh.low b hb; omega⟩, q2, fun _ _ => rfl, le, fun b hb _ => old b hb, fun b hb => by cases hb⟩
end

theorem VaL.scs {I : Nat → Prop} {σ : Pl} {B : Blocks} : ∀ (vs : List Value) {us : List Value}, VaL I σ B (vs.map AV.sc) us → us = vs
  | [], _, h => h
  | v :: vs, _, h => by
    obtain ⟨u, cs, rfl, h1, h2⟩ := h
    obtain rfl : u = v := h1
    rw [VaL.scs vs h2]
/-- A function that answers a plain value to plain values, and leaves the world as it is. -/
theorem CallOk.quiet {P : Program} {f : Nat} {vs : List Value} {r : Value} (hc : ∀ w, Calls P f vs.toArray w fun e w' => e = .returned r ∧ w' = w) : CallOk P f (vs.map AV.sc) [] (.sc r) [] := by
  intro I σ w us hh hv
  obtain rfl := VaL.scs vs hv
  refine (hc w).mono ?_
  rintro e w' ⟨rfl, rfl⟩
  exact ⟨r, σ, rfl, hh, rfl, fun _ _ => rfl, Le.refl _, fun _ _ _ => rfl, fun b hb => .inl hb⟩
end Loom
