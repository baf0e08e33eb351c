import PyProof.Rows.All
import Wide.All
import OpenK.AllK
import Wide.FinOn
import HandS.ForMost
import HandS.Zip
import HandS.TupAny
import HandS.More
import HandS.Walk
import HandS.Evl
import HandS.CallRecv
import KE.KDictZip
import PySem.Challenge.RW_everyrow_k38_whole_no_run_leaves_ranges
set_option Elab.async false
set_option linter.all false
set_option maxRecDepth 100000
set_option maxHeartbeats 4000000
/-! The plain law of ranges: values, ranges, ways; no program in sight. -/
namespace Er
inductive Sg where
  | add | sub | mul
def Sg.ap : Sg → Int → Int → Int
  | .add, a, b => a + b
  | .sub, a, b => a - b
  | .mul, a, b => a * b
inductive Xp where
  | num (i : Int)
  | box (j : Nat)
  | op (s : Sg) (a b : Xp)
abbrev Rg := List (Int × Int)
def Xp.worth (vs : List Int) : Xp → Int
  | .num i => i
  | .box j => vs.getD j 0
  | .op s a b => s.ap (a.worth vs) (b.worth vs)
def prodR (p q : Int × Int) : Int × Int :=
  (min (min (p.1 * q.1) (p.1 * q.2)) (min (p.2 * q.1) (p.2 * q.2)), max (max (p.1 * q.1) (p.1 * q.2)) (max (p.2 * q.1) (p.2 * q.2)))
def Sg.rap : Sg → Int × Int → Int × Int → Int × Int
  | .add, p, q => (p.1 + q.1, p.2 + q.2)
  | .sub, p, q => (p.1 - q.2, p.2 - q.1)
  | .mul, p, q => prodR p q
def Xp.rng (rs : Rg) : Xp → Int × Int
  | .num i => (i, i)
  | .box j => rs.getD j (0, 0)
  | .op s a b => s.rap (a.rng rs) (b.rng rs)
/-- boxes below n, numbers small, at most k deep -/
def Xp.Fit (n : Nat) : Xp → Nat → Prop
  | .num i, _ => 0 ≤ i ∧ i ≤ 12
  | .box j, _ => j < n
  | .op _ _ _, 0 => False
  | .op _ a b, k + 1 => a.Fit n k ∧ b.Fit n k
theorem Xp.Fit.up {n : Nat} : ∀ {e : Xp} {k m : Nat}, e.Fit n k → k ≤ m → e.Fit n m
  | .num _, _, _, h, _ => h
  | .box _, _, _, h, _ => h
  | .op _ _ _, 0, _, h, _ => h.elim
  | .op _ a b, k + 1, m, h, hm => by
    cases m with
    | zero => omega
    | succ m => exact ⟨Xp.Fit.up h.1 (by omega), Xp.Fit.up h.2 (by omega)⟩

/-! ### values within ranges -/
def Wi (vs : List Int) (rs : Rg) : Prop := vs.length = rs.length ∧ ∀ (j : Nat) (v : Int) (p : Int × Int), vs[j]? = some v → rs[j]? = some p → p.1 ≤ v ∧ v ≤ p.2
def Sub (f rs : Rg) : Prop := f.length = rs.length ∧ ∀ (j : Nat) (p q : Int × Int), f[j]? = some p → rs[j]? = some q → q.1 ≤ p.1 ∧ p.2 ≤ q.2
def sing (vs : List Int) : Rg := vs.map fun v => (v, v)
theorem Sub.refl (rs : Rg) : Sub rs rs := ⟨rfl, fun j p q h1 h2 => by rw [h1] at h2; cases h2; omega⟩
theorem Wi.mono {vs : List Int} {f rs : Rg} (w : Wi vs f) (s : Sub f rs) : Wi vs rs := by
  refine ⟨w.1.trans s.1, fun j v q hv hq => ?_⟩
  have hj : j < f.length := by
    have := (List.getElem?_eq_some_iff.mp hv).1
    have := w.1
    omega
  have hf : f[j]? = some f[j] := List.getElem?_eq_getElem hj
  have a := w.2 j v _ hv hf
  have b := s.2 j _ q hf hq
  omega
theorem Sub.trans {f g h : Rg} (a : Sub f g) (b : Sub g h) : Sub f h := by
  refine ⟨a.1.trans b.1, fun j p q hp hq => ?_⟩
  have hj : j < g.length := by
    have := (List.getElem?_eq_some_iff.mp hp).1
    have := a.1
    omega
  have hg : g[j]? = some g[j] := List.getElem?_eq_getElem hj
  have x := a.2 j p _ hp hg
  have y := b.2 j _ q hg hq
  omega
theorem getD_of {α : Type} {l : List α} {j : Nat} {x d : α} (h : l[j]? = some x) : l.getD j d = x := by
  rw [List.getD_eq_getElem?_getD, h]
  rfl
theorem get_lt {α : Type} {l : List α} {j : Nat} (h : j < l.length) : ∃ x, l[j]? = some x := ⟨l[j], List.getElem?_eq_getElem h⟩
theorem lt_of_get {α : Type} {l : List α} {j : Nat} {x : α} (h : l[j]? = some x) : j < l.length := (List.getElem?_eq_some_iff.mp h).1
theorem set_get {α : Type} {l : List α} {i j : Nat} {x y : α} (h : (l.set i x)[j]? = some y) : (i = j ∧ y = x) ∨ (i ≠ j ∧ l[j]? = some y) := by
  by_cases e : i = j
  · subst e
    have hl := lt_of_get h
    rw [List.length_set] at hl
    rw [List.getElem?_set_self hl] at h
    exact .inl ⟨rfl, (Option.some.inj h).symm⟩
  · rw [List.getElem?_set_ne e] at h
    exact .inr ⟨e, h⟩
theorem Wi.at {vs : List Int} {rs : Rg} {j : Nat} {v : Int} (w : Wi vs rs) (h : vs[j]? = some v) : (rs.getD j (0, 0)).1 ≤ v ∧ v ≤ (rs.getD j (0, 0)).2 := by
  obtain ⟨p, hp⟩ := get_lt (l := rs) (j := j) (by rw [← w.1]; exact lt_of_get h)
  rw [getD_of hp]
  exact w.2 j v p h hp
theorem Wi.set {vs : List Int} {rs : Rg} {j : Nat} {v l h : Int} (w : Wi vs rs) (e : vs[j]? = some v) (h1 : l ≤ v) (h2 : v ≤ h) : Wi vs (rs.set j (l, h)) := by
  refine ⟨by rw [List.length_set]; exact w.1, fun i x p hx hp => ?_⟩
  rcases set_get hp with ⟨rfl, rfl⟩ | ⟨_, hp⟩
  · rw [e] at hx; cases hx; exact ⟨h1, h2⟩
  · exact w.2 i x p hx hp
theorem Wi.set2 {vs : List Int} {rs : Rg} {j : Nat} {v l h : Int} (w : Wi vs rs) (h1 : l ≤ v) (h2 : v ≤ h) : Wi (vs.set j v) (rs.set j (l, h)) := by
  refine ⟨by rw [List.length_set, List.length_set]; exact w.1, fun i x p hx hp => ?_⟩
  rcases set_get hx with ⟨rfl, rfl⟩ | ⟨ne, hx⟩
  · rcases set_get hp with ⟨_, rfl⟩ | ⟨ne, _⟩
    · exact ⟨h1, h2⟩
    · exact absurd rfl ne
  · rcases set_get hp with ⟨e, _⟩ | ⟨_, hp⟩
    · exact absurd e ne
    · exact w.2 i x p hx hp
theorem Sub.at {f rs : Rg} {j : Nat} (s : Sub f rs) : (rs.getD j (0, 0)).1 ≤ (f.getD j (0, 0)).1 ∧ (f.getD j (0, 0)).2 ≤ (rs.getD j (0, 0)).2 := by
  by_cases hj : j < f.length
  · obtain ⟨p, hp⟩ := get_lt hj
    obtain ⟨q, hq⟩ := get_lt (l := rs) (j := j) (by rw [← s.1]; exact hj)
    rw [getD_of hp, getD_of hq]
    exact s.2 j p q hp hq
  · have h1 : f[j]? = none := List.getElem?_eq_none_iff.mpr (by omega)
    have h2 : rs[j]? = none := List.getElem?_eq_none_iff.mpr (by have := s.1; omega)
    rw [List.getD_eq_getElem?_getD, List.getD_eq_getElem?_getD, h1, h2]
    exact ⟨Int.le_refl _, Int.le_refl _⟩
theorem Sub.set {f rs : Rg} {j : Nat} {l h : Int} (s : Sub f rs) (h1 : (rs.getD j (0, 0)).1 ≤ l) (h2 : h ≤ (rs.getD j (0, 0)).2) : Sub (f.set j (l, h)) rs := by
  refine ⟨by rw [List.length_set]; exact s.1, fun i p q hp hq => ?_⟩
  rcases set_get hp with ⟨rfl, rfl⟩ | ⟨_, hp⟩
  · rw [getD_of hq] at h1 h2; exact ⟨h1, h2⟩
  · exact s.2 i p q hp hq
theorem sing_len (vs : List Int) : (sing vs).length = vs.length := List.length_map _
theorem sing_get {vs : List Int} {j : Nat} {p : Int × Int} (h : (sing vs)[j]? = some p) : ∃ v, vs[j]? = some v ∧ p = (v, v) := by
  unfold sing at h
  rw [List.getElem?_map] at h
  cases e : vs[j]? with
  | none => rw [e] at h; cases h
  | some v => rw [e] at h; exact ⟨v, rfl, (Option.some.inj h).symm⟩
theorem Wi.sing (vs : List Int) : Wi vs (sing vs) := ⟨(sing_len vs).symm, fun j v p hv hp => by
  obtain ⟨w, hw, rfl⟩ := sing_get hp
  rw [hv] at hw; cases hw; exact ⟨Int.le_refl _, Int.le_refl _⟩⟩
theorem sing_of {vs : List Int} {f : Rg} (w : Wi vs f) (s : Sub f (sing vs)) : f = Er.sing vs := by
  apply List.ext_getElem?
  intro j
  by_cases hj : j < f.length
  · obtain ⟨p, hp⟩ := get_lt hj
    obtain ⟨q, hq⟩ := get_lt (l := Er.sing vs) (j := j) (by rw [← s.1]; exact hj)
    obtain ⟨v, hv, rfl⟩ := sing_get hq
    have a := w.2 j v p hv hp
    have b := s.2 j p _ hp hq
    simp only at b
    have e : p = (v, v) := Prod.ext (by show p.1 = v; omega) (by show p.2 = v; omega)
    rw [hp, hq, e]
  · rw [List.getElem?_eq_none_iff.mpr (by omega), List.getElem?_eq_none_iff.mpr (by have := s.1; omega)]

/-! ### an expression's worth lies in its range -/
theorem mul_line {l h x c : Int} (h1 : l ≤ x) (h2 : x ≤ h) : min (l * c) (h * c) ≤ x * c ∧ x * c ≤ max (l * c) (h * c) := by
  by_cases hc : 0 ≤ c
  · have a := Int.mul_le_mul_of_nonneg_right h1 hc
    have b := Int.mul_le_mul_of_nonneg_right h2 hc
    omega
  · have a := Int.mul_le_mul_of_nonpos_right h1 (by omega : c ≤ 0)
    have b := Int.mul_le_mul_of_nonpos_right h2 (by omega : c ≤ 0)
    omega
theorem prod_in {p q : Int × Int} {x y : Int} (h1 : p.1 ≤ x ∧ x ≤ p.2) (h2 : q.1 ≤ y ∧ y ≤ q.2) : (prodR p q).1 ≤ x * y ∧ x * y ≤ (prodR p q).2 := by
  have a := mul_line (c := y) h1.1 h1.2
  have b := mul_line (c := p.1) h2.1 h2.2
  have c := mul_line (c := p.2) h2.1 h2.2
  rw [Int.mul_comm q.1, Int.mul_comm q.2, Int.mul_comm y] at b c
  unfold prodR
  simp only
  generalize p.1 * q.1 = a1 at *
  generalize p.1 * q.2 = a2 at *
  generalize p.2 * q.1 = a3 at *
  generalize p.2 * q.2 = a4 at *
  generalize p.1 * y = a5 at *
  generalize p.2 * y = a6 at *
  generalize x * y = a7 at *
  omega
theorem rap_in {s : Sg} {p q : Int × Int} {x y : Int} (h1 : p.1 ≤ x ∧ x ≤ p.2) (h2 : q.1 ≤ y ∧ y ≤ q.2) : (s.rap p q).1 ≤ s.ap x y ∧ s.ap x y ≤ (s.rap p q).2 := by
  cases s with
  | add => simp only [Sg.rap, Sg.ap]; omega
  | sub => simp only [Sg.rap, Sg.ap]; omega
  | mul => exact prod_in h1 h2
theorem rng_in {vs : List Int} {rs : Rg} (w : Wi vs rs) : ∀ {e : Xp} {k : Nat}, e.Fit vs.length k → (e.rng rs).1 ≤ e.worth vs ∧ e.worth vs ≤ (e.rng rs).2
  | .num i, _, _ => ⟨Int.le_refl i, Int.le_refl i⟩
  | .box j, _, h => by
    obtain ⟨v, hv⟩ := get_lt (show j < vs.length from h)
    show (rs.getD j (0, 0)).1 ≤ vs.getD j 0 ∧ vs.getD j 0 ≤ (rs.getD j (0, 0)).2
    rw [getD_of hv]
    exact w.at hv
  | .op _ _ _, 0, h => h.elim
  | .op s a b, k + 1, h => rap_in (rng_in w h.1) (rng_in w h.2)
theorem rng_sing {vs : List Int} : ∀ {e : Xp} {k : Nat}, e.Fit vs.length k → e.rng (sing vs) = (e.worth vs, e.worth vs)
  | .num i, _, _ => rfl
  | .box j, _, h => by
    obtain ⟨v, hv⟩ := get_lt (show j < vs.length from h)
    have hs : (sing vs)[j]? = some (v, v) := by unfold sing; rw [List.getElem?_map, hv]; rfl
    show (sing vs).getD j (0, 0) = (vs.getD j 0, vs.getD j 0)
    rw [getD_of hv, getD_of hs]
  | .op _ _ _, 0, h => h.elim
  | .op s a b, k + 1, h => by
    have ea := rng_sing (e := a) h.1
    have eb := rng_sing (e := b) h.2
    show s.rap (a.rng (sing vs)) (b.rng (sing vs)) = (s.ap (a.worth vs) (b.worth vs), s.ap (a.worth vs) (b.worth vs))
    rw [ea, eb]
    cases s with
    | add => rfl
    | sub => rfl
    | mul =>
      show prodR _ _ = _
      unfold prodR
      simp only [Int.min_self, Int.max_self]
      rfl

/-! ### a condition's sides -/
def Xp.bx : Xp → Option Nat
  | .box j => some j
  | _ => none
def upR (rs : Rg) (o : Option Nat) (p : Int × Int) : Rg := match o with
  | none => rs
  | some j => rs.set j p
def lessL (rs : Rg) (l : Option Nat) (b : Int) : Rg := match l with
  | none => rs
  | some j => rs.set j ((rs.getD j (0, 0)).1, min (rs.getD j (0, 0)).2 b)
def moreR (rs : Rg) (r : Option Nat) (b : Int) : Rg := match r with
  | none => rs
  | some j => rs.set j (max (rs.getD j (0, 0)).1 b, (rs.getD j (0, 0)).2)
def cutE (p : Int × Int) (n : Int) : Int × Int := (if p.1 = n then p.1 + 1 else p.1, if p.2 = n then p.2 - 1 else p.2)
def cutR (rs : Rg) (o : Option Nat) (q : Int × Int) : Rg := match o with
  | none => rs
  | some j => if q.1 = q.2 then rs.set j (cutE (rs.getD j (0, 0)) q.1) else rs
def lessS (rs : Rg) (l r : Option Nat) (p q : Int × Int) : Option Rg := if q.2 ≤ p.1 then none else some (moreR (lessL rs l (q.2 - 1)) r (p.1 + 1))
def nlessS (rs : Rg) (l r : Option Nat) (p q : Int × Int) : Option Rg := if p.2 < q.1 then none else some (lessL (moreR rs l q.1) r p.2)
def sameS (rs : Rg) (l r : Option Nat) (p q : Int × Int) : Option Rg :=
  if min p.2 q.2 < max p.1 q.1 then none else some (upR (upR rs l (max p.1 q.1, min p.2 q.2)) r (max p.1 q.1, min p.2 q.2))
def nsameS (rs : Rg) (l r : Option Nat) (p q : Int × Int) : Option Rg := if p = q ∧ p.1 = p.2 then none else some (cutR (cutR rs l q) r p)
def sideRaw (lt : Bool) (rs : Rg) (a b : Xp) (t : Bool) : Option Rg := match lt, t with
  | true, true => lessS rs a.bx b.bx (a.rng rs) (b.rng rs)
  | true, false => nlessS rs a.bx b.bx (a.rng rs) (b.rng rs)
  | false, true => sameS rs a.bx b.bx (a.rng rs) (b.rng rs)
  | false, false => nsameS rs a.bx b.bx (a.rng rs) (b.rng rs)
def okR (rs : Rg) : Bool := rs.all fun p => decide (p.1 ≤ p.2)
def side (lt : Bool) (rs : Rg) (a b : Xp) (t : Bool) : Option Rg := match sideRaw lt rs a b t with
  | none => none
  | some f => if okR f = true then some f else none
def holds (lt : Bool) (x y : Int) : Bool := if lt = true then decide (x < y) else decide (x = y)

theorem Wi.okR {vs : List Int} {f : Rg} (w : Wi vs f) : okR f = true := by
  unfold Er.okR
  rw [List.all_eq_true]
  intro p hp
  obtain ⟨j, hj⟩ := List.mem_iff_getElem?.mp hp
  obtain ⟨v, hv⟩ := get_lt (l := vs) (j := j) (by rw [w.1]; exact lt_of_get hj)
  have := w.2 j v p hv hj
  exact decide_eq_true (by omega)
/-- a box's value: its worth -/
theorem bx_at {vs : List Int} {e : Xp} {k j : Nat} (h : e.Fit vs.length k) (hb : e.bx = some j) : vs[j]? = some (e.worth vs) := by
  cases e with
  | num i => cases hb
  | op s a b => cases hb
  | box i =>
    have e : i = j := Option.some.inj hb
    subst e
    obtain ⟨v, hv⟩ := get_lt (show i < vs.length from h)
    show vs[i]? = some (vs.getD i 0)
    rw [getD_of hv, hv]
theorem bx_rng {rs : Rg} {e : Xp} {j : Nat} (hb : e.bx = some j) : e.rng rs = rs.getD j (0, 0) := by
  cases e with
  | num i => cases hb
  | op s a b => cases hb
  | box i =>
    have e : i = j := Option.some.inj hb
    subst e
    rfl
section
variable {vs : List Int} {rs f : Rg} {a b : Xp} {ka kb : Nat} {c : Int} {p : Int × Int}
theorem Wi.less (w : Wi vs f) (ha : a.Fit vs.length ka) (h : a.worth vs ≤ c) : Wi vs (lessL f a.bx c) := by
  cases e : a.bx with
  | none => exact w
  | some j =>
    have hv := bx_at ha e
    have q := w.at hv
    exact w.set hv q.1 (by omega)
theorem Wi.more (w : Wi vs f) (ha : a.Fit vs.length ka) (h : c ≤ a.worth vs) : Wi vs (moreR f a.bx c) := by
  cases e : a.bx with
  | none => exact w
  | some j =>
    have hv := bx_at ha e
    have q := w.at hv
    exact w.set hv (by omega) q.2
theorem Wi.upR (w : Wi vs f) (ha : a.Fit vs.length ka) (h1 : p.1 ≤ a.worth vs) (h2 : a.worth vs ≤ p.2) : Wi vs (upR f a.bx p) := by
  cases e : a.bx with
  | none => exact w
  | some j => exact w.set (bx_at ha e) h1 h2
theorem Wi.cutR (w : Wi vs f) (ha : a.Fit vs.length ka) (h : p.1 = p.2 → a.worth vs ≠ p.1) : Wi vs (cutR f a.bx p) := by
  cases e : a.bx with
  | none => exact w
  | some j =>
    have hv := bx_at ha e
    have q := w.at hv
    show Wi vs (if p.1 = p.2 then f.set j (cutE (f.getD j (0, 0)) p.1) else f)
    by_cases hp : p.1 = p.2
    · rw [if_pos hp]
      have n := h hp
      refine w.set hv ?_ ?_
      · show (if (f.getD j (0, 0)).1 = p.1 then (f.getD j (0, 0)).1 + 1 else (f.getD j (0, 0)).1) ≤ _
        split <;> omega
      · show _ ≤ (if (f.getD j (0, 0)).2 = p.1 then (f.getD j (0, 0)).2 - 1 else (f.getD j (0, 0)).2)
        split <;> omega
    · rw [if_neg hp]
      exact w
theorem side_sound {lt t : Bool} (w : Wi vs rs) (ha : a.Fit vs.length ka) (hb : b.Fit vs.length kb) (h : holds lt (a.worth vs) (b.worth vs) = t) : ∃ f, side lt rs a b t = some f ∧ Wi vs f := by
  have ia := rng_in w ha
  have ib := rng_in w hb
  have key : ∃ f, sideRaw lt rs a b t = some f ∧ Wi vs f := by
    cases lt with
    | true =>
      have h : decide (a.worth vs < b.worth vs) = t := h
      cases t with
      | true =>
        have hlt := of_decide_eq_true h
        refine ⟨_, if_neg (by omega), ?_⟩
        exact (w.less ha (by omega)).more hb (by omega)
      | false =>
        have hlt := of_decide_eq_false h
        refine ⟨_, if_neg (by omega), ?_⟩
        exact (w.more ha (by omega)).less hb (by omega)
    | false =>
      have h : decide (a.worth vs = b.worth vs) = t := h
      cases t with
      | true =>
        have hlt := of_decide_eq_true h
        refine ⟨_, if_neg (by omega), ?_⟩
        refine (w.upR ha ?_ ?_).upR hb ?_ ?_
        · show max _ _ ≤ _; omega
        · show _ ≤ min _ _; omega
        · show max _ _ ≤ _; omega
        · show _ ≤ min _ _; omega
      | false =>
        have hlt := of_decide_eq_false h
        refine ⟨_, if_neg (fun z => ?_), ?_⟩
        · have e := z.1
          have e2 := z.2
          rw [← e] at ib
          omega
        · exact (w.cutR ha (fun z => by omega)).cutR hb (fun z => by omega)
  obtain ⟨f, e, wf⟩ := key
  refine ⟨f, ?_, wf⟩
  unfold side
  rw [e]
  show (if okR f = true then some f else none) = some f
  rw [if_pos wf.okR]
theorem Sub.less {l : Option Nat} (s : Sub f rs) : Sub (lessL f l c) rs := by
  cases l with
  | none => exact s
  | some j =>
    have q := s.at (j := j)
    exact s.set q.1 (by omega)
theorem Sub.more {l : Option Nat} (s : Sub f rs) : Sub (moreR f l c) rs := by
  cases l with
  | none => exact s
  | some j =>
    have q := s.at (j := j)
    exact s.set (by omega) q.2
theorem Sub.upR (s : Sub f rs) (h : ∀ j, a.bx = some j → (a.rng rs).1 ≤ p.1 ∧ p.2 ≤ (a.rng rs).2) : Sub (upR f a.bx p) rs := by
  cases e : a.bx with
  | none => exact s
  | some j =>
    have q := h j e
    rw [bx_rng e] at q
    exact s.set q.1 q.2
theorem Sub.cutR {l : Option Nat} (s : Sub f rs) : Sub (cutR f l p) rs := by
  cases l with
  | none => exact s
  | some j =>
    have q := s.at (j := j)
    show Sub (if p.1 = p.2 then f.set j (cutE (f.getD j (0, 0)) p.1) else f) rs
    by_cases hp : p.1 = p.2
    · rw [if_pos hp]
      refine s.set ?_ ?_
      · show _ ≤ (if (f.getD j (0, 0)).1 = p.1 then (f.getD j (0, 0)).1 + 1 else (f.getD j (0, 0)).1)
        split <;> omega
      · show (if (f.getD j (0, 0)).2 = p.1 then (f.getD j (0, 0)).2 - 1 else (f.getD j (0, 0)).2) ≤ _
        split <;> omega
    · rw [if_neg hp]
      exact s
theorem some_ite {c : Prop} [Decidable c] {x y : Rg} (h : (if c then none else some x) = some y) : x = y := by
  by_cases e : c
  · rw [if_pos e] at h; cases h
  · rw [if_neg e] at h; exact Option.some.inj h
theorem side_sub {lt t : Bool} (h : side lt rs a b t = some f) : Sub f rs ∧ okR f = true := by
  unfold side at h
  cases e : sideRaw lt rs a b t with
  | none => rw [e] at h; cases h
  | some g =>
    rw [e] at h
    have h : (if okR g = true then some g else none) = some f := h
    by_cases ok : okR g = true
    · rw [if_pos ok] at h
      have eg := Option.some.inj h
      subst eg
      refine ⟨?_, ok⟩
      cases lt <;> cases t
      · have e := some_ite e
        rw [← e]
        exact (Sub.refl rs).cutR.cutR
      · have e := some_ite e
        rw [← e]
        refine ((Sub.refl rs).upR fun j _ => ?_).upR fun j _ => ?_
        · simp only; omega
        · simp only; omega
      · have e := some_ite e
        rw [← e]
        exact (Sub.refl rs).more.less
      · have e := some_ite e
        rw [← e]
        exact (Sub.refl rs).less.more
    · rw [if_neg ok] at h; cases h
theorem side_sing {lt t : Bool} (ha : a.Fit vs.length ka) (hb : b.Fit vs.length kb) :
    side lt (sing vs) a b t = if holds lt (a.worth vs) (b.worth vs) = t then some (sing vs) else none := by
  by_cases h : holds lt (a.worth vs) (b.worth vs) = t
  · rw [if_pos h]
    obtain ⟨f, e, w⟩ := side_sound (Wi.sing vs) ha hb h
    rw [e, sing_of w (side_sub e).1]
  · rw [if_neg h]
    have ea := rng_sing ha
    have eb := rng_sing hb
    have key : sideRaw lt (sing vs) a b t = none := by
      cases lt <;> cases t
      · have h : ¬ decide (a.worth vs = b.worth vs) = false := h
        have h := of_decide_eq_true (Bool.not_eq_false _ |>.mp h)
        show nsameS _ _ _ _ _ = none
        rw [ea, eb]
        exact if_pos ⟨by rw [h], rfl⟩
      · have h : ¬ decide (a.worth vs = b.worth vs) = true := h
        have h : ¬ a.worth vs = b.worth vs := fun z => h (decide_eq_true z)
        show sameS _ _ _ _ _ = none
        rw [ea, eb]
        exact if_pos (by show min _ _ < max _ _; simp only; omega)
      · have h : ¬ decide (a.worth vs < b.worth vs) = false := h
        have h := of_decide_eq_true (Bool.not_eq_false _ |>.mp h)
        show nlessS _ _ _ _ _ = none
        rw [ea, eb]
        exact if_pos h
      · have h : ¬ decide (a.worth vs < b.worth vs) = true := h
        have h : ¬ a.worth vs < b.worth vs := fun z => h (decide_eq_true z)
        show lessS _ _ _ _ _ = none
        rw [ea, eb]
        exact if_pos (by show _ ≤ _; simp only; omega)
    unfold side
    rw [key]
end
end Er

namespace Er
/-! ### statements, steps, ways -/
inductive Cw where
  | mst | iff | whl
inductive Sm where
  | ask (j : Nat)
  | put (j : Nat) (e : Xp)
  | say (e : Xp)
  | stop
  | con (c : Cw) (lt : Bool) (a b : Xp)
def Cw.must : Cw → Bool
  | .mst => true
  | _ => false
def Sm.Ok (n : Nat) : Sm → Prop
  | .ask j => j < n
  | .put j e => j < n ∧ e.Fit n 2
  | .say e => e.Fit n 2
  | .stop => True
  | .con _ _ a b => a.Fit n 2 ∧ b.Fit n 2
def Sm.arity : Sm → Nat
  | .con .iff _ _ _ => 2
  | .con .whl _ _ _ => 2
  | _ => 1
def Sm.isAsk : Sm → Bool
  | .ask _ => true
  | _ => false
def putR (s : Int) (p : Int × Int) : Int × Int := if p.1 / s = p.2 / s then (p.1 % s, p.2 % s) else (0, s - 1)
def sideW (lt : Bool) (rs : Rg) (a b : Xp) (t : Bool) (o : Option Int) : List (Int × Rg) := match o, side lt rs a b t with
  | some r, some f => [(r, f)]
  | _, _ => []
def ways (sz : List Int) (s : Sm) (ws : List Int) (rs : Rg) : List (Int × Rg) := match s with
  | .ask j => [(ws.getD 0 0, rs.set j (0, sz.getD j 0 - 1))]
  | .put j e => [(ws.getD 0 0, rs.set j (putR (sz.getD j 0) (e.rng rs)))]
  | .say _ => [(ws.getD 0 0, rs)]
  | .stop => [(ws.getD 0 0, rs)]
  | .con _ lt a b => sideW lt rs a b true ws[0]? ++ sideW lt rs a b false ws[1]?
def stepM (sz : List Int) (s : Sm) (ws : List Int) (vs : List Int) (fig : Int) : Option (Int × List Int) := match s with
  | .ask j => some (ws.getD 0 0, vs.set j (fig % sz.getD j 0))
  | .put j e => some (ws.getD 0 0, vs.set j (e.worth vs % sz.getD j 0))
  | .say _ => some (ws.getD 0 0, vs)
  | .stop => some (ws.getD 0 0, vs)
  | .con c lt a b => if holds lt (a.worth vs) (b.worth vs) = true then some (ws.getD 0 0, vs) else if c.must = true then none else some (ws.getD 1 0, vs)
def Sz (sz : List Int) : Prop := ∀ (j : Nat) (s : Int), sz[j]? = some s → 2 ≤ s ∧ s ≤ 10
def Rok (sz : List Int) (rs : Rg) : Prop := rs.length = sz.length ∧ ∀ (j : Nat) (s : Int) (p : Int × Int), sz[j]? = some s → rs[j]? = some p → 0 ≤ p.1 ∧ p.1 ≤ p.2 ∧ p.2 < s
def Vok (sz : List Int) (vs : List Int) : Prop := vs.length = sz.length ∧ ∀ (j : Nat) (s v : Int), sz[j]? = some s → vs[j]? = some v → 0 ≤ v ∧ v < s
theorem Vok.of {sz vs : List Int} {rs : Rg} (r : Rok sz rs) (w : Wi vs rs) : Vok sz vs := by
  refine ⟨w.1.trans r.1, fun j s v hs hv => ?_⟩
  obtain ⟨p, hp⟩ := get_lt (l := rs) (j := j) (by rw [← w.1]; exact lt_of_get hv)
  have a := r.2 j s p hs hp
  have b := w.2 j v p hv hp
  omega
theorem Vok.sing {sz vs : List Int} (h : Vok sz vs) : Rok sz (Er.sing vs) := by
  refine ⟨(sing_len vs).trans h.1, fun j s p hs hp => ?_⟩
  obtain ⟨v, hv, rfl⟩ := sing_get hp
  have := h.2 j s v hs hv
  exact ⟨this.1, Int.le_refl _, this.2⟩
theorem Rok.sub {sz : List Int} {f rs : Rg} (r : Rok sz rs) (s : Sub f rs) (ok : okR f = true) : Rok sz f := by
  refine ⟨s.1.trans r.1, fun j z p hz hp => ?_⟩
  obtain ⟨q, hq⟩ := get_lt (l := rs) (j := j) (by rw [← s.1]; exact lt_of_get hp)
  have a := r.2 j z q hz hq
  have b := s.2 j p q hp hq
  have c := of_decide_eq_true (List.all_eq_true.mp ok p (List.mem_of_getElem? hp))
  omega
theorem Rok.set {sz : List Int} {rs : Rg} {j : Nat} {s l h : Int} (r : Rok sz rs) (hs : sz[j]? = some s) (h0 : 0 ≤ l) (h1 : l ≤ h) (h2 : h < s) : Rok sz (rs.set j (l, h)) := by
  refine ⟨by rw [List.length_set]; exact r.1, fun i z p hz hp => ?_⟩
  rcases set_get hp with ⟨rfl, rfl⟩ | ⟨_, hp⟩
  · rw [hs] at hz; cases hz; exact ⟨h0, h1, h2⟩
  · exact r.2 i z p hz hp
theorem putR_in {s x : Int} {p : Int × Int} (hs : 0 < s) (h1 : p.1 ≤ x) (h2 : x ≤ p.2) : (putR s p).1 ≤ x % s ∧ x % s ≤ (putR s p).2 := by
  have m0 := Int.emod_nonneg x (by omega : s ≠ 0)
  have m1 := Int.emod_lt_of_pos x hs
  unfold putR
  by_cases e : p.1 / s = p.2 / s
  · rw [if_pos e]
    have a := Int.ediv_le_ediv hs h1
    have b := Int.ediv_le_ediv hs h2
    have ex : x / s = p.1 / s := by omega
    have e1 := Int.mul_ediv_add_emod p.1 s
    have e2 := Int.mul_ediv_add_emod p.2 s
    have e3 := Int.mul_ediv_add_emod x s
    rw [← e] at e2
    rw [ex] at e3
    show p.1 % s ≤ x % s ∧ x % s ≤ p.2 % s
    omega
  · rw [if_neg e]
    show 0 ≤ x % s ∧ x % s ≤ s - 1
    omega
theorem putR_ok {s : Int} {p : Int × Int} (hs : 0 < s) (h : p.1 ≤ p.2) : 0 ≤ (putR s p).1 ∧ (putR s p).1 ≤ (putR s p).2 ∧ (putR s p).2 < s := by
  have a := putR_in hs (Int.le_refl p.1) h
  unfold putR at *
  by_cases e : p.1 / s = p.2 / s
  · rw [if_pos e] at a ⊢
    exact ⟨Int.emod_nonneg _ (by omega), by have := a.2; simp only at this ⊢; omega, Int.emod_lt_of_pos _ hs⟩
  · rw [if_neg e]
    show (0 : Int) ≤ 0 ∧ 0 ≤ s - 1 ∧ s - 1 < s
    omega
theorem sideW_mem {lt : Bool} {rs f : Rg} {a b : Xp} {t : Bool} {o : Option Int} {r : Int} : (r, f) ∈ sideW lt rs a b t o ↔ o = some r ∧ side lt rs a b t = some f := by
  unfold sideW
  cases o with
  | none => simp
  | some x =>
    cases side lt rs a b t with
    | none => simp
    | some g =>
      simp only [List.mem_singleton, Prod.mk.injEq, Option.some.injEq]
      constructor
      · rintro ⟨rfl, rfl⟩; exact ⟨rfl, rfl⟩
      · rintro ⟨rfl, rfl⟩; exact ⟨rfl, rfl⟩
theorem sideW_none {lt : Bool} {rs : Rg} {a b : Xp} {t : Bool} {o : Option Int} (h : side lt rs a b t = none) : sideW lt rs a b t o = [] := by
  unfold sideW
  rw [h]
  cases o <;> rfl
theorem sideW_some {lt : Bool} {rs f : Rg} {a b : Xp} {t : Bool} {r : Int} (h : side lt rs a b t = some f) : sideW lt rs a b t (some r) = [(r, f)] := by
  unfold sideW
  rw [h]
theorem sideW_no {lt : Bool} {rs : Rg} {a b : Xp} {t : Bool} : sideW lt rs a b t none = [] := rfl
section
variable {sz vs ws : List Int} {rs : Rg} {s : Sm}
theorem Sm.arity_con {c : Cw} {lt : Bool} {a b : Xp} (ar : ws.length = (Sm.con c lt a b).arity) : ∃ r, ws[0]? = some r ∧ ws.getD 0 0 = r ∧ (c.must = true → ws[1]? = none) ∧ (c.must = false → ∃ q, ws[1]? = some q ∧ ws.getD 1 0 = q) := by
  cases c with
  | mst =>
    obtain ⟨r, hr⟩ := get_lt (l := ws) (j := 0) (by rw [ar]; exact Nat.zero_lt_one)
    exact ⟨r, hr, getD_of hr, fun _ => List.getElem?_eq_none_iff.mpr (by rw [ar]; exact Nat.le_refl _), fun h => nomatch h⟩
  | iff =>
    obtain ⟨r, hr⟩ := get_lt (l := ws) (j := 0) (by rw [ar]; exact Nat.zero_lt_two)
    obtain ⟨q, hq⟩ := get_lt (l := ws) (j := 1) (by rw [ar]; exact Nat.one_lt_two)
    exact ⟨r, hr, getD_of hr, (fun h => nomatch h), fun _ => ⟨q, hq, getD_of hq⟩⟩
  | whl =>
    obtain ⟨r, hr⟩ := get_lt (l := ws) (j := 0) (by rw [ar]; exact Nat.zero_lt_two)
    obtain ⟨q, hq⟩ := get_lt (l := ws) (j := 1) (by rw [ar]; exact Nat.one_lt_two)
    exact ⟨r, hr, getD_of hr, (fun h => nomatch h), fun _ => ⟨q, hq, getD_of hq⟩⟩
theorem bfalse {b : Bool} (h : ¬ b = true) : b = false := by cases b <;> first | rfl | exact absurd rfl h
/-- what a step does lies on one of the ways -/
theorem ways_sound {fig r : Int} {vs' : List Int} (hz : Sz sz) (hl : rs.length = sz.length) (w : Wi vs rs) (ok : s.Ok sz.length) (ar : ws.length = s.arity) (h : stepM sz s ws vs fig = some (r, vs')) :
    ∃ g, (r, g) ∈ ways sz s ws rs ∧ Wi vs' g := by
  have el : vs.length = sz.length := w.1.trans hl
  cases s with
  | ask j =>
    have h : some (ws.getD 0 0, vs.set j (fig % sz.getD j 0)) = some (r, vs') := h
    cases h
    obtain ⟨z, hzj⟩ := get_lt (show j < sz.length from ok)
    have q := hz j z hzj
    refine ⟨_, List.mem_singleton.mpr rfl, ?_⟩
    rw [getD_of hzj]
    exact w.set2 (Int.emod_nonneg _ (by omega)) (by have := Int.emod_lt_of_pos fig (by omega : 0 < z); omega)
  | put j e =>
    have h : some (ws.getD 0 0, vs.set j (e.worth vs % sz.getD j 0)) = some (r, vs') := h
    cases h
    obtain ⟨z, hzj⟩ := get_lt (show j < sz.length from ok.1)
    have q := hz j z hzj
    refine ⟨_, List.mem_singleton.mpr rfl, ?_⟩
    rw [getD_of hzj]
    have i := rng_in w (by rw [el]; exact ok.2)
    have i2 := putR_in (s := z) (by omega) i.1 i.2
    exact w.set2 (l := (putR z (e.rng rs)).1) (h := (putR z (e.rng rs)).2) i2.1 i2.2
  | say e => cases h; exact ⟨rs, List.mem_singleton.mpr rfl, w⟩
  | stop => cases h; exact ⟨rs, List.mem_singleton.mpr rfl, w⟩
  | con c lt a b =>
    obtain ⟨q, h0, h0', _, h1⟩ := Sm.arity_con ar
    have h : (if holds lt (a.worth vs) (b.worth vs) = true then some (ws.getD 0 0, vs) else if c.must = true then none else some (ws.getD 1 0, vs)) = some (r, vs') := h
    have fa : a.Fit vs.length 2 := by rw [el]; exact ok.1
    have fb : b.Fit vs.length 2 := by rw [el]; exact ok.2
    by_cases e : holds lt (a.worth vs) (b.worth vs) = true
    · rw [if_pos e] at h
      cases h
      obtain ⟨f, hf, wf⟩ := side_sound w fa fb e
      exact ⟨f, List.mem_append_left _ (sideW_mem.mpr ⟨by rw [h0, h0'], hf⟩), wf⟩
    · rw [if_neg e] at h
      by_cases m : c.must = true
      · rw [if_pos m] at h; cases h
      · rw [if_neg m] at h
        cases h
        obtain ⟨p, h1, h1'⟩ := h1 (bfalse m)
        obtain ⟨f, hf, wf⟩ := side_sound w fa fb (bfalse e)
        exact ⟨f, List.mem_append_right _ (sideW_mem.mpr ⟨by rw [h1, h1'], hf⟩), wf⟩
/-- by single values: one way, the one that is taken; none where a must fails -/
theorem ways_sing {fig : Int} (hz : Sz sz) (hv : vs.length = sz.length) (ok : s.Ok sz.length) (ar : ws.length = s.arity) : match stepM sz s ws vs fig with
    | none => ways sz s ws (sing vs) = []
    | some (r, vs') => ∃ g, ways sz s ws (sing vs) = [(r, g)] ∧ Wi vs' g ∧ (s.isAsk = false → g = sing vs') := by
  cases s with
  | ask j =>
    obtain ⟨g, hg, wg⟩ := ways_sound (fig := fig) hz (by rw [sing_len]; exact hv) (Wi.sing vs) ok ar rfl
    have e := List.mem_singleton.mp hg
    have e2 : g = _ := congrArg Prod.snd e
    exact ⟨g, by rw [e2]; rfl, wg, fun h => nomatch h⟩
  | put j e =>
    obtain ⟨g, hg, wg⟩ := ways_sound (fig := fig) hz (by rw [sing_len]; exact hv) (Wi.sing vs) ok ar rfl
    have e1 := List.mem_singleton.mp hg
    have e2 : g = _ := congrArg Prod.snd e1
    refine ⟨g, by rw [e2]; rfl, wg, fun _ => ?_⟩
    rw [e2, rng_sing (by rw [hv]; exact ok.2)]
    obtain ⟨z, hzj⟩ := get_lt (show j < sz.length from ok.1)
    rw [getD_of hzj]
    have : putR z (e.worth vs, e.worth vs) = (e.worth vs % z, e.worth vs % z) := if_pos rfl
    rw [this]
    unfold sing
    rw [List.map_set]
  | say e => exact ⟨_, rfl, Wi.sing vs, fun _ => rfl⟩
  | stop => exact ⟨_, rfl, Wi.sing vs, fun _ => rfl⟩
  | con c lt a b =>
    obtain ⟨q, h0, h0', hn, h1⟩ := Sm.arity_con ar
    have fa : a.Fit vs.length 2 := by rw [hv]; exact ok.1
    have fb : b.Fit vs.length 2 := by rw [hv]; exact ok.2
    have st := side_sing (lt := lt) (t := true) fa fb
    have sf := side_sing (lt := lt) (t := false) fa fb
    show match (if holds lt (a.worth vs) (b.worth vs) = true then some (ws.getD 0 0, vs) else if c.must = true then none else some (ws.getD 1 0, vs)) with
      | none => _
      | some (r, vs') => _
    by_cases e : holds lt (a.worth vs) (b.worth vs) = true
    · rw [if_pos e]
      rw [if_pos e] at st
      rw [if_neg (by rw [e]; exact Bool.noConfusion)] at sf
      refine ⟨sing vs, ?_, Wi.sing vs, fun _ => rfl⟩
      show sideW lt (sing vs) a b true ws[0]? ++ sideW lt (sing vs) a b false ws[1]? = _
      rw [sideW_none sf, h0, sideW_some st, h0']
      rfl
    · rw [if_neg e]
      rw [if_neg e] at st
      rw [if_pos (bfalse e)] at sf
      by_cases m : c.must = true
      · rw [if_pos m]
        show sideW lt (sing vs) a b true ws[0]? ++ sideW lt (sing vs) a b false ws[1]? = _
        rw [sideW_none st, hn m, sideW_no]
        rfl
      · rw [if_neg m]
        obtain ⟨p, h1, h1'⟩ := h1 (bfalse m)
        refine ⟨sing vs, ?_, Wi.sing vs, fun _ => rfl⟩
        show sideW lt (sing vs) a b true ws[0]? ++ sideW lt (sing vs) a b false ws[1]? = _
        rw [sideW_none st, h1, sideW_some sf, h1']
        rfl
theorem rap_le {s : Sg} {p q : Int × Int} (h1 : p.1 ≤ p.2) (h2 : q.1 ≤ q.2) : (s.rap p q).1 ≤ (s.rap p q).2 := by
  have a := rap_in (s := s) (p := p) (q := q) (x := p.1) (y := q.1) ⟨Int.le_refl _, h1⟩ ⟨Int.le_refl _, h2⟩
  omega
theorem rng_le (r : Rok sz rs) : ∀ {e : Xp} {k : Nat}, e.Fit sz.length k → (e.rng rs).1 ≤ (e.rng rs).2
  | .num i, _, _ => Int.le_refl i
  | .box j, _, h => by
    obtain ⟨z, hz⟩ := get_lt (show j < sz.length from h)
    obtain ⟨p, hp⟩ := get_lt (l := rs) (j := j) (by rw [r.1]; exact h)
    show (rs.getD j (0, 0)).1 ≤ (rs.getD j (0, 0)).2
    rw [getD_of hp]
    exact (r.2 j z p hz hp).2.1
  | .op _ _ _, 0, h => h.elim
  | .op s a b, k + 1, h => rap_le (rng_le r h.1) (rng_le r h.2)
/-- the ways stay within the sizes, and lead to the ways' rows -/
theorem ways_ok (hz : Sz sz) (ro : Rok sz rs) (ok : s.Ok sz.length) (ar : ws.length = s.arity) {r : Int} {g : Rg} (h : (r, g) ∈ ways sz s ws rs) : Rok sz g ∧ r ∈ ws := by
  have first : s.arity = 1 → ws.getD 0 0 ∈ ws := fun e => by
    obtain ⟨q, hq⟩ := get_lt (l := ws) (j := 0) (by rw [ar, e]; exact Nat.zero_lt_one)
    rw [getD_of hq]
    exact List.mem_of_getElem? hq
  cases s with
  | ask j =>
    have h := List.mem_singleton.mp h
    cases h
    obtain ⟨z, hzj⟩ := get_lt (show j < sz.length from ok)
    have q := hz j z hzj
    rw [getD_of hzj]
    exact ⟨ro.set hzj (Int.le_refl _) (by omega) (by omega), first rfl⟩
  | put j e =>
    have h := List.mem_singleton.mp h
    cases h
    obtain ⟨z, hzj⟩ := get_lt (show j < sz.length from ok.1)
    have q := hz j z hzj
    rw [getD_of hzj]
    have p := putR_ok (s := z) (by omega) (rng_le ro ok.2)
    exact ⟨ro.set (l := (putR z (e.rng rs)).1) (h := (putR z (e.rng rs)).2) hzj p.1 p.2.1 p.2.2, first rfl⟩
  | say e => have h := List.mem_singleton.mp h; cases h; exact ⟨ro, first rfl⟩
  | stop => have h := List.mem_singleton.mp h; cases h; exact ⟨ro, first rfl⟩
  | con c lt a b =>
    rcases List.mem_append.mp h with h | h
    · obtain ⟨h1, h2⟩ := sideW_mem.mp h
      obtain ⟨s1, s2⟩ := side_sub h2
      exact ⟨ro.sub s1 s2, List.mem_of_getElem? h1⟩
    · obtain ⟨h1, h2⟩ := sideW_mem.mp h
      obtain ⟨s1, s2⟩ := side_sub h2
      exact ⟨ro.sub s1 s2, List.mem_of_getElem? h1⟩
theorem ways_len : (ways sz s ws rs).length ≤ 2 := by
  have one : ∀ (lt : Bool) (a b : Xp) (t : Bool) (o : Option Int), (sideW lt rs a b t o).length ≤ 1 := fun lt a b t o => by
    unfold sideW
    split <;> simp
  cases s with
  | con c lt a b =>
    show (sideW lt rs a b true ws[0]? ++ sideW lt rs a b false ws[1]?).length ≤ 2
    rw [List.length_append]
    have h1 := one lt a b true ws[0]?
    have h2 := one lt a b false ws[1]?
    omega
  | _ => exact Nat.le_succ 1
end

/-! ### the least ranges: what the gathering keeps -/
abbrev Fd := Int → Option Rg
def Fd.put (fd : Fd) (t : Int) (g : Rg) : Fd := fun r => if r = t then some g else fd r
theorem Fd.put_same (fd : Fd) (t : Int) (g : Rg) : fd.put t g t = some g := if_pos rfl
theorem Fd.put_ne (fd : Fd) {t r : Int} (g : Rg) (h : r ≠ t) : fd.put t g r = fd r := if_neg h
def join (f g : Rg) : Rg := List.zipWith (fun p q => (min p.1 q.1, max p.2 q.2)) f g
theorem join_get {f g : Rg} {j : Nat} {p : Int × Int} (h : (join f g)[j]? = some p) : ∃ a b, f[j]? = some a ∧ g[j]? = some b ∧ p = (min a.1 b.1, max a.2 b.2) := by
  unfold join at h
  rw [List.getElem?_zipWith] at h
  cases e : f[j]? with
  | none => rw [e] at h; cases h
  | some a =>
    cases e2 : g[j]? with
    | none => rw [e, e2] at h; cases h
    | some b => rw [e, e2] at h; exact ⟨a, b, rfl, rfl, (Option.some.inj h).symm⟩
section
variable {sz : List Int} {f g : Rg}
theorem join_len (rf : Rok sz f) (rg : Rok sz g) : (join f g).length = f.length := by
  unfold join
  rw [List.length_zipWith, rf.1, rg.1]
  exact Nat.min_self _
theorem join_ok (rf : Rok sz f) (rg : Rok sz g) : Rok sz (join f g) := by
  refine ⟨(join_len rf rg).trans rf.1, fun j s p hs hp => ?_⟩
  obtain ⟨a, b, ha, hb, rfl⟩ := join_get hp
  have x := rf.2 j s a hs ha
  have y := rg.2 j s b hs hb
  simp only
  omega
theorem join_left (rf : Rok sz f) (rg : Rok sz g) : Sub f (join f g) := by
  refine ⟨(join_len rf rg).symm, fun j p q hp hq => ?_⟩
  obtain ⟨a, b, ha, hb, rfl⟩ := join_get hq
  rw [hp] at ha; cases ha
  simp only
  omega
theorem join_right (rf : Rok sz f) (rg : Rok sz g) : Sub g (join f g) := by
  refine ⟨(rg.1.trans rf.1.symm).trans (join_len rf rg).symm, fun j p q hp hq => ?_⟩
  obtain ⟨a, b, ha, hb, rfl⟩ := join_get hq
  rw [hp] at hb; cases hb
  simp only
  omega
def slack : List Int → Rg → Nat
  | s :: sz, p :: rs => (p.1 + (s - 1 - p.2)).toNat + slack sz rs
  | _, _ => 0
def tot : List Int → Nat
  | [] => 0
  | s :: sz => s.toNat + tot sz
theorem Rok.tail {s : Int} {p : Int × Int} (r : Rok (s :: sz) (p :: f)) : Rok sz f ∧ 0 ≤ p.1 ∧ p.1 ≤ p.2 ∧ p.2 < s := by
  refine ⟨⟨by have := r.1; simpa using this, fun j z q hz hq => ?_⟩, r.2 0 s p rfl rfl⟩
  exact r.2 (j + 1) z q (by simpa using hz) (by simpa using hq)
theorem slack_tot : ∀ {sz : List Int} {f : Rg}, Rok sz f → slack sz f ≤ tot sz
  | [], _, _ => by simp [slack]
  | s :: sz, [], r => by have := r.1; simp at this
  | s :: sz, p :: f, r => by
    obtain ⟨r1, a, b, c⟩ := r.tail
    have ih := slack_tot r1
    show (p.1 + (s - 1 - p.2)).toNat + slack sz f ≤ s.toNat + tot sz
    omega
theorem slack_join : ∀ {sz : List Int} {f g : Rg}, Rok sz f → Rok sz g → slack sz (join f g) ≤ slack sz f ∧ (join f g ≠ f → slack sz (join f g) < slack sz f)
  | [], [], [], _, _ => ⟨Nat.le_refl _, fun h => absurd rfl h⟩
  | [], _ :: _, _, rf, _ => by have := rf.1; simp at this
  | [], [], _ :: _, _, rg => by have := rg.1; simp at this
  | s :: sz, [], _, rf, _ => by have := rf.1; simp at this
  | s :: sz, _ :: _, [], _, rg => by have := rg.1; simp at this
  | s :: sz, p :: f, q :: g, rf, rg => by
    obtain ⟨r1, a, b, c⟩ := rf.tail
    obtain ⟨r2, a', b', c'⟩ := rg.tail
    have ih := slack_join r1 r2
    show (min p.1 q.1 + (s - 1 - max p.2 q.2)).toNat + slack sz (join f g) ≤ (p.1 + (s - 1 - p.2)).toNat + slack sz f ∧
      ((min p.1 q.1, max p.2 q.2) :: join f g ≠ p :: f → (min p.1 q.1 + (s - 1 - max p.2 q.2)).toNat + slack sz (join f g) < (p.1 + (s - 1 - p.2)).toNat + slack sz f)
    refine ⟨by omega, fun ne => ?_⟩
    by_cases e : join f g = f
    · have : ¬ (min p.1 q.1 = p.1 ∧ max p.2 q.2 = p.2) := fun z => ne (by rw [e, z.1, z.2])
      have ih1 := ih.1
      omega
    · have := ih.2 e
      omega
end
def potAt (sz : List Int) (o : Option Rg) : Nat := match o with
  | none => 1 + tot sz
  | some f => slack sz f
def pot (U : List Int) (sz : List Int) (fd : Fd) : Nat := (U.map fun r => potAt sz (fd r)).sum
theorem sum_le {U : List Int} {F G : Int → Nat} (h : ∀ r ∈ U, F r ≤ G r) : (U.map F).sum ≤ (U.map G).sum := by
  induction U with
  | nil => exact Nat.le_refl _
  | cons a U ih =>
    rw [List.map_cons, List.map_cons, List.sum_cons, List.sum_cons]
    have := h a List.mem_cons_self
    have := ih fun r hr => h r (List.mem_cons_of_mem _ hr)
    omega
theorem sum_lt {U : List Int} {F G : Int → Nat} (h : ∀ r ∈ U, F r ≤ G r) {t : Int} (ht : t ∈ U) (hl : F t < G t) : (U.map F).sum < (U.map G).sum := by
  induction U with
  | nil => cases ht
  | cons a U ih =>
    rw [List.map_cons, List.map_cons, List.sum_cons, List.sum_cons]
    have h1 := h a List.mem_cons_self
    have h2 := sum_le (U := U) fun r hr => h r (List.mem_cons_of_mem _ hr)
    rcases List.mem_cons.mp ht with e | e
    · subst e
      omega
    · have := ih (fun r hr => h r (List.mem_cons_of_mem _ hr)) e
      omega
theorem pot_put {U sz : List Int} {fd : Fd} {t : Int} {g : Rg} (ht : t ∈ U) (h : slack sz g < potAt sz (fd t)) : pot U sz (fd.put t g) < pot U sz fd := by
  refine sum_lt (fun r _ => ?_) ht ?_
  · by_cases e : r = t
    · subst e
      rw [Fd.put_same]
      exact Nat.le_of_lt h
    · rw [Fd.put_ne _ _ e]
      exact Nat.le_refl _
  · rw [Fd.put_same]
    exact h
theorem pot_new {U sz : List Int} {fd : Fd} {t : Int} {g : Rg} (ht : t ∈ U) (hn : fd t = none) (r : Rok sz g) : pot U sz (fd.put t g) < pot U sz fd := by
  refine pot_put ht ?_
  rw [hn]
  have := slack_tot r
  show slack sz g < 1 + tot sz
  omega
theorem pot_wide {U sz : List Int} {fd : Fd} {t : Int} {f g : Rg} (ht : t ∈ U) (hs : fd t = some f) (rf : Rok sz f) (rg : Rok sz g) (ne : join f g ≠ f) : pot U sz (fd.put t (join f g)) < pot U sz fd := by
  refine pot_put ht ?_
  rw [hs]
  exact (slack_join rf rg).2 ne

abbrev Tab := Int → Option (Sm × List Int)
/-- a table whose statements fit, and whose ways lead to the end or into it -/
structure TabOk (n : Nat) (T : Tab) : Prop where
  zero : T 0 = none
  ok : ∀ r s ws, T r = some (s, ws) → s.Ok n ∧ ws.length = s.arity
  to : ∀ r s ws t, T r = some (s, ws) → t ∈ ws → t = 0 ∨ ∃ x, T t = some x
def Cov (fd : Fd) (w : Int × Rg) : Prop := ∃ f, fd w.1 = some f ∧ Sub w.2 f
def Closed (T : Tab) (sz : List Int) (fd : Fd) (r : Int) : Prop := ∀ s ws rs, T r = some (s, ws) → fd r = some rs → ∀ w ∈ ways sz s ws rs, Cov fd w
structure FdOk (T : Tab) (sz : List Int) (r0 : Int) (v0 : List Int) (fd : Fd) : Prop where
  first : ∃ f, fd r0 = some f ∧ Wi v0 f
  rows : ∀ r f, fd r = some f → Rok sz f ∧ (r = 0 ∨ ∃ x, T r = some x)
/-- the put of something wider keeps what is covered -/
theorem Cov.put {fd : Fd} {t : Int} {g : Rg} {w : Int × Rg} (h : Cov fd w) (wd : ∀ f, fd t = some f → Sub f g) : Cov (fd.put t g) w := by
  obtain ⟨f, hf, sf⟩ := h
  by_cases e : w.1 = t
  · have := wd f (by rw [← e]; exact hf)
    exact ⟨g, by rw [e, Fd.put_same], sf.trans this⟩
  · exact ⟨f, by rw [Fd.put_ne _ _ e]; exact hf, sf⟩
theorem Closed.put {T : Tab} {sz : List Int} {fd : Fd} {t r : Int} {g : Rg} (h : Closed T sz fd r) (ne : r ≠ t) (wd : ∀ f, fd t = some f → Sub f g) : Closed T sz (fd.put t g) r := by
  intro s ws rs hT hr w hw
  rw [Fd.put_ne _ _ ne] at hr
  exact (h s ws rs hT hr w hw).put wd
theorem FdOk.put {T : Tab} {sz : List Int} {r0 : Int} {v0 : List Int} {fd : Fd} {t : Int} {g : Rg} (h : FdOk T sz r0 v0 fd) (wd : ∀ f, fd t = some f → Sub f g) (rg : Rok sz g) (ht : t = 0 ∨ ∃ x, T t = some x) : FdOk T sz r0 v0 (fd.put t g) := by
  refine ⟨?_, fun r f hf => ?_⟩
  · obtain ⟨f, hf, wf⟩ := h.first
    by_cases e : r0 = t
    · exact ⟨g, by rw [e, Fd.put_same], wf.mono (wd f (by rw [← e]; exact hf))⟩
    · exact ⟨f, by rw [Fd.put_ne _ _ e]; exact hf, wf⟩
  · by_cases e : r = t
    · subst e
      rw [Fd.put_same] at hf
      cases hf
      exact ⟨rg, ht⟩
    · rw [Fd.put_ne _ _ e] at hf
      exact h.rows r f hf
/-- the gathering's word: a row is due, or is being gone through (the ways L ahead are covered), or is closed -/
def Mid (T : Tab) (sz : List Int) (fd : Fd) (due : List Int) (row : Int) (L : List (Int × Rg)) (rs : Rg) : Prop :=
  ∀ r, r ∈ due ∨ (r = row ∧ fd r = some rs ∧ ∀ w ∈ L, Cov fd w) ∨ Closed T sz fd r
theorem Mid.put {T : Tab} {sz : List Int} {fd : Fd} {due : List Int} {row t : Int} {L : List (Int × Rg)} {rs g : Rg} (h : Mid T sz fd due row L rs) (wd : ∀ f, fd t = some f → Sub f g) : Mid T sz (fd.put t g) (due ++ [t]) row L rs := by
  intro r
  by_cases e : r = t
  · exact .inl (List.mem_append_right _ (List.mem_singleton.mpr e))
  · rcases h r with h | ⟨h1, h2, h3⟩ | h
    · exact .inl (List.mem_append_left _ h)
    · exact .inr (.inl ⟨h1, by rw [Fd.put_ne _ _ e]; exact h2, fun w hw => (h3 w hw).put wd⟩)
    · exact .inr (.inr (h.put e wd))
theorem Mid.one {T : Tab} {sz : List Int} {fd : Fd} {due : List Int} {row : Int} {L : List (Int × Rg)} {rs : Rg} {w : Int × Rg} (h : Mid T sz fd due row L rs) (c : Cov fd w) : Mid T sz fd due row (L ++ [w]) rs := by
  intro r
  rcases h r with h | ⟨h1, h2, h3⟩ | h
  · exact .inl h
  · refine .inr (.inl ⟨h1, h2, fun x hx => ?_⟩)
    rcases List.mem_append.mp hx with hx | hx
    · exact h3 x hx
    · rw [List.mem_singleton.mp hx]; exact c
  · exact .inr (.inr h)
end Er

namespace Er
open PySem L2
/-! ### the text by places -/
def top (i : Nat) : Stmt := PySem.Challenge.pw_everyrow_k38_whole_no_run_leaves_ranges.main.body.getD i (.Pass ⟨0, 0, 0, 0⟩)
abbrev sFirstRow : Stmt := top 2
abbrev sRowsOf : Stmt := top 3
abbrev sWorth : Stmt := top 5
abbrev sWInit : Stmt := inClass (top 7) 0
abbrev sWNumber : Stmt := inClass (top 7) 2
abbrev sWHolds : Stmt := inClass (top 7) 3
abbrev sWWithBox : Stmt := inClass (top 7) 4
abbrev sWStep : Stmt := inClass (top 7) 5
abbrev sFirstStanding : Stmt := top 8
abbrev sStep : Stmt := top 9
abbrev sProductRange : Stmt := top 11
abbrev sWithRange : Stmt := top 12
abbrev sCutOff : Stmt := top 13
abbrev sLInit : Stmt := inClass (top 14) 0
abbrev sLRangeBy : Stmt := inClass (top 14) 1
abbrev sLBoxAt : Stmt := inClass (top 14) 2
abbrev sLPutRange : Stmt := inClass (top 14) 3
abbrev sLSide : Stmt := inClass (top 14) 4
abbrev sLSides : Stmt := inClass (top 14) 5
abbrev sLWaysFrom : Stmt := inClass (top 14) 6
abbrev sLessSide : Stmt := top 15
abbrev sNotLessSide : Stmt := top 16
abbrev sSameSide : Stmt := top 17
abbrev sNotSameSide : Stmt := top 18
abbrev sJoined : Stmt := top 19
abbrev sWaysFrom : Stmt := top 20
abbrev sLeastRanges : Stmt := top 21
abbrev sTake : Stmt := top 23
abbrev sState : Stmt := top 24
abbrev sBoxes : Stmt := top 25
abbrev sLeaf : Stmt := top 26
abbrev sE : Stmt := top 27
abbrev sPlain : Stmt := top 28
abbrev sBody : Stmt := top 29
abbrev sAsks : Stmt := top 30
abbrev sWithin : Stmt := top 31
abbrev sLed : Stmt := top 32
abbrev sStepRight : Stmt := top 33
abbrev sLaw : Stmt := top 34

/-! ### defs and methods that are called, by name -/
section
variable (P : Program) (w : World) (K : PySem.W.Frag) (mg : Str → Option Value) (base : Heap)
/-- a def of the top that keeps a promise -/
structure Cal (x : Str) (k : Nat) (ps : List Str) (sp : Sp) : Prop where
  ex : ∃ (f : Addr) (fd : FuncData), mg x = some (.ref f) ∧ FnOk P w K mg base CX0 k f fd ps sp ∧ Binds K fd ps [] ∧ PySem.W.keepIn K (.ref f) = true
/-- a method of the class at C that keeps a promise -/
structure MCal (C : Addr) (m : Str) (k : Nat) (ps : List Str) (sp : Sp) : Prop where
  ex : ∃ (f : Addr) (fd : FuncData), Meth K C m f ∧ FnOk P w K mg base CX0 k f fd ps sp ∧ Binds K fd ps []
/-- a class whose __init__ keeps a promise -/
structure CCal (x : Str) (C : Addr) (k : Nat) (ps : List Str) (sp : Sp) : Prop where
  gl : mg x = some (.ref C)
  ex : ∃ (f : Addr) (fd : FuncData), Mk K C f ∧ FnOk P w K mg base CX0 k f fd ps sp ∧ Binds K fd ps []
end
/-- a def of the top as it stands -/
structure Gf (K : PySem.W.Frag) (mg : Str → Option Value) (x : Str) (st : Stmt) (ps : List Str) : Prop where
  ex : ∃ (f : Addr) (fd : FuncData), mg x = some (.ref f) ∧ Fun K x x st f fd ∧ Binds K fd ps []
structure Mf (K : PySem.W.Frag) (C : Addr) (m qual : Str) (st : Stmt) (ps : List Str) : Prop where
  ex : ∃ (f : Addr) (fd : FuncData), Meth K C m f ∧ Fun K m qual st f fd ∧ Binds K fd ps []
structure If (K : PySem.W.Frag) (mg : Str → Option Value) (x : Str) (C : Addr) (qual : Str) (st : Stmt) (ps : List Str) : Prop where
  gl : mg x = some (.ref C)
  ex : ∃ (f : Addr) (fd : FuncData), Mk K C f ∧ Fun K "__init__" qual st f fd ∧ Binds K fd ps []
section
variable {P : Program} {w : World} {K : PySem.W.Frag} {mg : Str → Option Value} {base : Heap} {x m qual : Str} {st : Stmt} {ps : List Str} {k : Nat} {sp : Sp} {C : Addr}
theorem Gf.cal (g : Gf K mg x st ps) (h : ∀ f fd, Fun K x x st f fd → FnOk P w K mg base CX0 k f fd ps sp) : Cal P w K mg base x k ps sp := by
  obtain ⟨f, fd, a, b, c⟩ := g.ex
  exact ⟨f, fd, a, h f fd b, c, b.kp⟩
theorem Mf.cal (g : Mf K C m qual st ps) (h : ∀ f fd, Fun K m qual st f fd → FnOk P w K mg base CX0 k f fd ps sp) : MCal P w K mg base C m k ps sp := by
  obtain ⟨f, fd, a, b, c⟩ := g.ex
  exact ⟨f, fd, a, h f fd b, c⟩
theorem If.cal (g : If K mg x C qual st ps) (h : ∀ f fd, Fun K "__init__" qual st f fd → FnOk P w K mg base CX0 k f fd ps sp) : CCal P w K mg base x C k ps sp := by
  obtain ⟨f, fd, a, b, c⟩ := g.ex
  exact ⟨g.gl, f, fd, a, h f fd b, c⟩
theorem Cal.up {j : Nat} (c : Cal P w K mg base x j ps sp) (h : j ≤ k) : Cal P w K mg base x k ps sp := by
  obtain ⟨f, fd, a, b, r⟩ := c.ex
  exact ⟨f, fd, a, b.mono h, r⟩
theorem MCal.up {j : Nat} (c : MCal P w K mg base C m j ps sp) (h : j ≤ k) : MCal P w K mg base C m k ps sp := by
  obtain ⟨f, fd, a, b, r⟩ := c.ex
  exact ⟨f, fd, a, b.mono h, r⟩
theorem CCal.up {j : Nat} (c : CCal P w K mg base x C j ps sp) (h : j ≤ k) : CCal P w K mg base x C k ps sp := by
  obtain ⟨f, fd, a, b, r⟩ := c.ex
  exact ⟨c.gl, f, fd, a, b.mono h, r⟩
end
section
variable {X : Cx} {x m : Str} {k : Nat} {ps : List Str} {sp : Sp} {C : Addr} {p pos apos : Pos} {e o : Expr} {es : List Expr} {ta : TE} {t : TA}
theorem pe_cal (c : Cal X.prog X.w X.K X.mg X.base x k ps sp) (hr : Room k X.A) (ha : PA X (e :: es) t) (hg : Gl X x := by rfl) (hdb : (x == ("__debug__" : Str)) = false := by decide)
    (he : starEach (e :: es) X.env = (false, eval e X.env) :: starEach es X.env := by rfl) (hpl : (backTo pos (starEach es X.env)).any (·.1) = false := by rfl) :
    PE X (.Call (.Name x p) (e :: es) [] pos) (tCall sp [] E0 t) := by
  obtain ⟨f, fd, a, b, c, d⟩ := c.ex
  exact pe_call b hr hg a d c .nil pass0 ha hdb he hpl
theorem pe_mcal {pl : Sem Bool} (he : PE X o ta) (c : Cls X.K C) (mc : MCal X.prog X.w X.K X.mg X.base C m k ps sp) (hr : Room k X.A) (ha : PA X (e :: es) t)
    (hst : starEach (e :: es) X.env = (false, eval e X.env) :: starEach es X.env := by rfl) (hpl : (backTo pos (starEach es X.env)).any (·.1) = false := by rfl)
    (ht : eval (.Call (.Attribute o m apos) (e :: es) [] pos) X.env = (do
      let ov ← eval o X.env
      standAt apos.atName
      let (f, first) ← holding [ov] (getMethod ov m pl)
      callWith pos f first (backTo pos (starEach (e :: es) X.env)) (backToKw pos (keywordEach [] X.env))) := by rfl) :
    PE X (.Call (.Attribute o m apos) (e :: es) [] pos) (tMeth C m sp [] E0 ta t) := by
  obtain ⟨f, fd, a, b, d⟩ := mc.ex
  exact pe_meth he c a b hr d .nil pass0 ha hst hpl ht
theorem pe_ccal (c : CCal X.prog X.w X.K X.mg X.base x C k ps sp) (hr : Room (k + 1) X.A) (ha : PA X (e :: es) t) (hg : Gl X x := by rfl) (hdb : (x == ("__debug__" : Str)) = false := by decide)
    (he : starEach (e :: es) X.env = (false, eval e X.env) :: starEach es X.env := by rfl) (hpl : (backTo pos (starEach es X.env)).any (·.1) = false := by rfl) :
    PE X (.Call (.Name x p) (e :: es) [] pos) (tMake C sp [] E0 t) := by
  obtain ⟨f, fd, a, b, d⟩ := c.ex
  exact pe_make a b hr hg c.gl d .nil pass0 ha hdb he hpl
end

/-! ### heaps: what stays -/
theorem same_new {H : Hp} {p : Addr} (h : H p = none) (o : HO) : Same H (upd H p o) := fun b u q => by rw [upd_ne (ne_of_none q h)]; exact q
/-- tuples never change -/
def Tk (H H' : Hp) : Prop := ∀ a xs, H a = some (.tup xs) → H' a = some (.tup xs)
theorem Tk.refl (H : Hp) : Tk H H := fun _ _ h => h
theorem Tk.trans {H H1 H2 : Hp} (a : Tk H H1) (b : Tk H1 H2) : Tk H H2 := fun x o h => b x o (a x o h)
theorem Tk.same {H H' : Hp} (s : Same H H') : Tk H H' := fun a xs h => s a _ h
theorem Tk.new {H : Hp} {p : Addr} (h : H p = none) (o : HO) : Tk H (upd H p o) := .same (same_new h o)
theorem Tk.lst {H : Hp} {p : Addr} {xs : List V} (h : H p = some (.lst xs)) (o : HO) : Tk H (upd H p o) := fun a ys q => by
  rw [upd_ne (ne_of q h (by intro z; cases z))]
  exact q
theorem Tk.dict {H : Hp} {p : Addr} {kvs : List (Key × V)} (h : H p = some (.dK kvs)) (o : HO) : Tk H (upd H p o) := fun a ys q => by
  rw [upd_ne (ne_of q h (by intro z; cases z))]
  exact q
theorem Tk.ins {H : Hp} {p C dx : Addr} {fs : List (Str × V)} (h : H p = some (.ins C dx fs)) (o : HO) : Tk H (upd H p o) := fun a ys q => by
  rw [upd_ne (ne_of q h (by intro z; cases z))]
  exact q

/-! ### what stands in the heap: pairs, ranges, values, expressions -/
def PairAt (H : Hp) (v : V) (p : Int × Int) : Prop := ∃ a, v = .ref a ∧ H a = some (.tup [.int p.1, .int p.2])
def RgAt (H : Hp) (v : V) (rs : Rg) : Prop := ∃ a vs, v = .ref a ∧ H a = some (.tup vs) ∧ Paired (PairAt H) vs rs
def VsAt (H : Hp) (v : V) (xs : List Int) : Prop := ∃ a, v = .ref a ∧ H a = some (.tup (xs.map V.int))
def Sg.str : Sg → Str
  | .add => "+"
  | .sub => "-"
  | .mul => "*"
def XpAt (ns : List Str) (H : Hp) : Xp → V → Prop
  | .num i, v => ∃ a, v = .ref a ∧ H a = some (.tup [.str "number", .int i])
  | .box j, v => ∃ a x, v = .ref a ∧ ns[j]? = some x ∧ H a = some (.tup [.str "box", .str x])
  | .op s e f, v => ∃ a u z, v = .ref a ∧ H a = some (.tup [.str s.str, u, z]) ∧ XpAt ns H e u ∧ XpAt ns H f z
section
variable {H H' : Hp} (t : Tk H H') {v : V}
include t
theorem PairAt.mono {p : Int × Int} (h : PairAt H v p) : PairAt H' v p := by
  obtain ⟨a, e, q⟩ := h
  exact ⟨a, e, t _ _ q⟩
theorem RgAt.mono {rs : Rg} (h : RgAt H v rs) : RgAt H' v rs := by
  obtain ⟨a, vs, e, q, r⟩ := h
  exact ⟨a, vs, e, t _ _ q, Paired.mapP r fun _ _ z => z.mono t⟩
theorem VsAt.mono {xs : List Int} (h : VsAt H v xs) : VsAt H' v xs := by
  obtain ⟨a, e, q⟩ := h
  exact ⟨a, e, t _ _ q⟩
theorem XpAt.mono {ns : List Str} : ∀ {e : Xp} {v : V}, XpAt ns H e v → XpAt ns H' e v
  | .num i, v, h => by
    obtain ⟨a, e, q⟩ := h
    exact ⟨a, e, t _ _ q⟩
  | .box j, v, h => by
    obtain ⟨a, x, e, n, q⟩ := h
    exact ⟨a, x, e, n, t _ _ q⟩
  | .op s e f, v, h => by
    obtain ⟨a, u, z, e1, q, r1, r2⟩ := h
    exact ⟨a, u, z, e1, t _ _ q, XpAt.mono r1, XpAt.mono r2⟩
end
/-! ### tests whose answer is known -/
theorem if_yes {A B : Prop} {x : V} (h : A) : if decide (x = x) = true then A else B := by
  rw [if_pos (decide_eq_true rfl)]
  exact h
theorem if_no {A B : Prop} {x y : V} (ne : x ≠ y) (h : B) : if decide (x = y) = true then A else B := by
  rw [if_neg (by rw [decide_eq_false ne]; exact Bool.false_ne_true)]
  exact h
theorem n_box_num : (V.str "box") ≠ V.str "number" := by decide +kernel
theorem n_sg_num (s : Sg) : V.str s.str ≠ V.str "number" := by cases s <;> decide +kernel
theorem n_sg_box (s : Sg) : V.str s.str ≠ V.str "box" := by cases s <;> decide +kernel
theorem pget {α β : Type} {G : α → β → Prop} : ∀ {l : List α} {m : List β}, Paired G l m → ∀ {i : Nat} {b : β}, m[i]? = some b → ∃ a, l[i]? = some a ∧ G a b
  | _, _, .nil, i, b, h => by simp at h
  | _, _, .cons r t, 0, b, h => by
    have e := Option.some.inj h
    subst e
    exact ⟨_, rfl, r⟩
  | _, _, .cons r t, i + 1, b, h => by
    obtain ⟨a, h1, h2⟩ := pget t (i := i) (b := b) (by simpa using h)
    exact ⟨a, by simpa using h1, h2⟩
/-- what is given back: a value of which R holds, all that stood as it was -/
def Gives (H : Hp) (R : Hp → V → Prop) (Q : VK) : Prop := ∀ v H', Same H H' → R H' v → Q v H'
theorem Gives.go {H H1 H2 : Hp} {R : Hp → V → Prop} {Q : VK} {v : V} (g : Gives H R Q) (s : Same H H2) (r : R H2 v) : Q v H2 := g v H2 s r
end Er

namespace Er
open PySem L2
/-! worth -/
/-- a dict of the boxes' values, by name -/
def DictV (H : Hp) (a : Addr) (ns : List Str) (vs : List Int) : Prop := ∃ kvs, H a = some (.dK kvs) ∧ ∀ (j : Nat) (x : Str) (v : Int), ns[j]? = some x → vs[j]? = some v → valV kvs (Sum.inr x) = some (.int v)
def Bd : Nat → Int
  | 0 => 12
  | k + 1 => Bd k * Bd k + 2 * Bd k
def spWorth (ns : List Str) (k : Nat) : Sp := fun vs H Q _ => ∃ (v : V) (e : Xp) (d : Addr) (xs : List Int), vs = [v, .ref d] ∧ k ≤ 2 ∧ e.Fit ns.length k ∧ XpAt ns H e v ∧ DictV H d ns xs ∧ xs.length = ns.length ∧ (∀ x ∈ xs, 0 ≤ x ∧ x ≤ 9) ∧
  Q (.int (e.worth xs)) H
theorem abs_mul_le {a b c d : Int} (h1 : -c ≤ a) (h2 : a ≤ c) (h3 : -d ≤ b) (h4 : b ≤ d) : -(c * d) ≤ a * b ∧ a * b ≤ c * d := by
  have e1 : a.natAbs ≤ c.toNat := by omega
  have e2 : b.natAbs ≤ d.toNat := by omega
  have e3 := Nat.mul_le_mul e1 e2
  rw [← Int.natAbs_mul] at e3
  have e4 : ((c.toNat * d.toNat : Nat) : Int) = c * d := by
    rw [Int.natCast_mul, Int.toNat_of_nonneg (by omega), Int.toNat_of_nonneg (by omega)]
  omega
theorem ap_bd {s : Sg} {a b M : Int} (h1 : -M ≤ a) (h2 : a ≤ M) (h3 : -M ≤ b) (h4 : b ≤ M) : -(M * M + 2 * M) ≤ s.ap a b ∧ s.ap a b ≤ M * M + 2 * M := by
  have hM : 0 ≤ M := by omega
  have hMM := Int.mul_nonneg hM hM
  cases s with
  | add => show -(M * M + 2 * M) ≤ a + b ∧ a + b ≤ M * M + 2 * M; omega
  | sub => show -(M * M + 2 * M) ≤ a - b ∧ a - b ≤ M * M + 2 * M; omega
  | mul =>
    have := abs_mul_le h1 h2 h3 h4
    show -(M * M + 2 * M) ≤ a * b ∧ a * b ≤ M * M + 2 * M
    omega
theorem worth_bd {n : Nat} {xs : List Int} (hx : ∀ x ∈ xs, 0 ≤ x ∧ x ≤ 9) (hl : xs.length = n) : ∀ {e : Xp} {k : Nat}, e.Fit n k → -(Bd k) ≤ e.worth xs ∧ e.worth xs ≤ Bd k
  | .num i, k, h => by
    have b := bd_pos k
    have h : 0 ≤ i ∧ i ≤ 12 := h
    show -(Bd k) ≤ i ∧ i ≤ Bd k
    omega
  | .box j, k, h => by
    have b := bd_pos k
    have h : j < n := h
    obtain ⟨v, hv⟩ := get_lt (l := xs) (j := j) (by omega)
    have q := hx v (List.mem_of_getElem? hv)
    show -(Bd k) ≤ xs.getD j 0 ∧ xs.getD j 0 ≤ Bd k
    rw [getD_of hv]
    omega
  | .op _ _ _, 0, h => h.elim
  | .op s a b, k + 1, h => by
    have h1 := worth_bd hx hl (e := a) h.1
    have h2 := worth_bd hx hl (e := b) h.2
    exact ap_bd h1.1 h1.2 h2.1 h2.2
where
  bd_pos : ∀ k, 12 ≤ Bd k
    | 0 => Int.le_refl _
    | k + 1 => by
      have := bd_pos k
      have h2 := Int.mul_nonneg (by omega : 0 ≤ Bd k) (by omega : 0 ≤ Bd k)
      show 12 ≤ Bd k * Bd k + 2 * Bd k
      omega
section
variable {P : Program} {w : World} {K : PySem.W.Frag} {mg : Str → Option Value} {base : Heap} {f : Addr} {fd : FuncData} {ns : List Str}
theorem scWorth : FnScope ["e", "values", "one", "other"] ["e", "values"] (defScope sWorth) := ⟨rfl, rfl, rfl, by decide +kernel, rfl, by decide +kernel, by decide +kernel⟩
theorem ok_worth {k : Nat} (hc : ∀ j, j + 1 = k → Cal P w K mg base "worth" k ["e", "values"] (spWorth ns j)) (F : Fun K "worth" "worth" sWorth f fd) : FnOk P w K mg base CX0 (k + 1) f fd ["e", "values"] (spWorth ns k) := by
  refine F.ok scWorth (fun vs H Q E h => ?_) (fun cdv A outer s H vs Q E hr h => ?_)
  · obtain ⟨v, e, d, xs, rfl, _⟩ := h
    rfl
  obtain ⟨v, e, d, xs, rfl, hk, hf, he, hd, hl, hx, q⟩ := h
  cases k with
  | zero =>
    refine ⟨_, pss_cons (ps_if (pt_cmpR op_eq (pe_ix ix_tup (pv 0) pe_int (fun _ _ => rfl)) pe_str (nomark _)) (pss_one (ps_ret (pe_ix ix_tup (pv 0) pe_int (fun _ _ => rfl)))) pss_nil)
      (pss_cons (ps_if (pt_cmpR op_eq (pe_ix ix_tup (pv 0) pe_int (fun _ _ => rfl)) pe_str (nomark _)) (pss_one (ps_ret (pe_dget (hu_of hr) (pv 1) (pe_ix ix_tup (pv 0) pe_int (fun _ _ => rfl)) (fun _ _ => rfl)))) pss_nil) pss_never), ?_⟩
    cases e with
    | op s a b => exact hf.elim
    | num i =>
      obtain ⟨a, rfl, ha⟩ := he
      refine ⟨_, rfl, a, _, 0, _, rfl, rfl, SqT.of ha, rfl, rfl, _, rfl, if_yes ?_⟩
      exact ⟨_, rfl, a, _, 1, _, rfl, rfl, SqT.of ha, rfl, q⟩
    | box j =>
      obtain ⟨a, x, rfl, hn, ha⟩ := he
      obtain ⟨kvs, hd, hv⟩ := hd
      obtain ⟨y, hy⟩ := get_lt (l := xs) (j := j) (by rw [hl]; exact hf)
      refine ⟨_, rfl, a, _, 0, _, rfl, rfl, SqT.of ha, rfl, rfl, _, rfl, if_no n_box_num ?_⟩
      refine ⟨_, rfl, a, _, 0, _, rfl, rfl, SqT.of ha, rfl, rfl, _, rfl, if_yes ?_⟩
      refine ⟨_, rfl, _, rfl, a, _, 1, _, rfl, rfl, SqT.of ha, rfl, ?_⟩
      refine ⟨d, .int y, rfl, ?_, ?_⟩
      · have := DGet.k (k := Sum.inr x) hd
        rw [hv j x y hn hy] at this
        exact this
      · show Q (.int y) H
        have e : Xp.worth xs (.box j) = y := getD_of hy
        rw [← e]
        exact q
  | succ k =>
    have C := hc k rfl

    refine ⟨_, pss_cons (ps_if (pt_cmpR op_eq (pe_ix ix_tup (pv 0) pe_int (fun _ _ => rfl)) pe_str (nomark _)) (pss_one (ps_ret (pe_ix ix_tup (pv 0) pe_int (fun _ _ => rfl)))) pss_nil)
      (pss_cons (ps_if (pt_cmpR op_eq (pe_ix ix_tup (pv 0) pe_int (fun _ _ => rfl)) pe_str (nomark _)) (pss_one (ps_ret (pe_dget (hu_of hr) (pv 1) (pe_ix ix_tup (pv 0) pe_int (fun _ _ => rfl)) (fun _ _ => rfl)))) pss_nil)
      (pss_cons (ps_set (i := 2) scWorth.nd rfl (Or.inl rfl) (pe_cal C hr (pa_cons (pe_ix ix_tup (pv 0) pe_int (fun _ _ => rfl)) (pa_cons (pv 1) pa_nil))))
      (pss_cons (ps_set (i := 3) scWorth.nd rfl (Or.inl rfl) (pe_cal C hr (pa_cons (pe_ix ix_tup (pv 0) pe_int (fun _ _ => rfl)) (pa_cons (pv 1) pa_nil))))
      (pss_cons (ps_if (pt_cmpR op_eq (pe_ix ix_tup (pv 0) pe_int (fun _ _ => rfl)) pe_str (nomark _)) (pss_one (ps_ret (pe_op op_add (pv 2) (pv 3)))) pss_nil)
      (pss_cons (ps_if (pt_cmpR op_eq (pe_ix ix_tup (pv 0) pe_int (fun _ _ => rfl)) pe_str (nomark _)) (pss_one (ps_ret (pe_op op_sub (pv 2) (pv 3)))) pss_nil)
      (pss_one (ps_ret (pe_op op_mul (pv 2) (pv 3))))))))), ?_⟩
    cases e with
    | num i =>
      obtain ⟨a, rfl, ha⟩ := he
      refine ⟨_, rfl, a, _, 0, _, rfl, rfl, SqT.of ha, rfl, rfl, _, rfl, if_yes ?_⟩
      exact ⟨_, rfl, a, _, 1, _, rfl, rfl, SqT.of ha, rfl, q⟩
    | box j =>
      obtain ⟨a, x, rfl, hn, ha⟩ := he
      obtain ⟨kvs, hd, hv⟩ := hd
      obtain ⟨y, hy⟩ := get_lt (l := xs) (j := j) (by rw [hl]; exact hf)
      refine ⟨_, rfl, a, _, 0, _, rfl, rfl, SqT.of ha, rfl, rfl, _, rfl, if_no n_box_num ?_⟩
      refine ⟨_, rfl, a, _, 0, _, rfl, rfl, SqT.of ha, rfl, rfl, _, rfl, if_yes ?_⟩
      refine ⟨_, rfl, _, rfl, a, _, 1, _, rfl, rfl, SqT.of ha, rfl, ?_⟩
      refine ⟨d, .int y, rfl, ?_, ?_⟩
      · have := DGet.k (k := Sum.inr x) hd
        rw [hv j x y hn hy] at this
        exact this
      · show Q (.int y) H
        have e : Xp.worth xs (.box j) = y := getD_of hy
        rw [← e]
        exact q
    | op s e1 e2 =>
      obtain ⟨a, u, z, rfl, ha, r1, r2⟩ := he
      refine ⟨_, rfl, a, _, 0, _, rfl, rfl, SqT.of ha, rfl, rfl, _, rfl, if_no (n_sg_num s) ?_⟩
      refine ⟨_, rfl, a, _, 0, _, rfl, rfl, SqT.of ha, rfl, rfl, _, rfl, if_no (n_sg_box s) ?_⟩
      refine ⟨_, rfl, a, _, 1, _, rfl, rfl, SqT.of ha, rfl, _, rfl, ?_⟩
      refine ⟨u, e1, d, xs, rfl, Nat.le_of_succ_le hk, hf.1, r1, hd, hl, hx, ?_⟩
      refine ⟨_, rfl, a, _, 2, _, rfl, rfl, SqT.of ha, rfl, _, rfl, ?_⟩
      refine ⟨z, e2, d, xs, rfl, Nat.le_of_succ_le hk, hf.2, r2, hd, hl, hx, ?_⟩
      refine ⟨_, rfl, a, _, 0, _, rfl, rfl, SqT.of ha, rfl, rfl, _, rfl, ?_⟩
      cases s with
      | add => exact if_yes ⟨_, rfl, _, rfl, _, _, rfl, rfl, q⟩
      | sub =>
        refine if_no (by decide +kernel) ?_
        refine ⟨_, rfl, a, _, 0, _, rfl, rfl, SqT.of ha, rfl, rfl, _, rfl, ?_⟩
        exact if_yes ⟨_, rfl, _, rfl, _, _, rfl, rfl, q⟩
      | mul =>
        refine if_no (by decide +kernel) ?_
        refine ⟨_, rfl, a, _, 0, _, rfl, rfl, SqT.of ha, rfl, rfl, _, rfl, ?_⟩
        refine if_no (by decide +kernel) ?_
        have b := worth_bd hx hl (e := e1) hf.1
        have b2 : Bd k ≤ Bd 1 := by
          cases k with
          | zero => decide
          | succ k =>
            cases k with
            | zero => decide
            | succ k => omega
        have b3 : Bd 1 = 168 := rfl
        exact ⟨_, rfl, _, rfl, _, _, rfl, rfl, .inl ⟨by omega, by omega⟩, q⟩
theorem cal_worth (g : Gf K mg "worth" sWorth ["e", "values"]) : ∀ k, Cal P w K mg base "worth" (k + 1) ["e", "values"] (spWorth ns k)
  | 0 => g.cal fun f fd F => ok_worth (fun j e => nomatch e) F
  | k + 1 => g.cal fun f fd F => ok_worth (fun j e => by
    have e : j = k := Nat.succ.inj e
    subst e
    exact cal_worth g j) F
end
end Er

namespace Er
open PySem L2
/-! bodies of statements, their rows and ways; how they stand in the heap -/
inductive Bdy where
  | nil
  | cons (s : Sm) (row : Int) (b1 b2 rest : Bdy)
def Cw.kids : Cw → Nat
  | .mst => 0
  | .iff => 2
  | .whl => 1
def Sm.kids : Sm → Nat
  | .con c _ _ _ => c.kids
  | _ => 0
def Sm.loops : Sm → Bool
  | .con .whl _ _ _ => true
  | _ => false
def first : Bdy → Int → Int
  | .nil, z => z
  | .cons _ row _ _ _, _ => row
def wsOf (s : Sm) (row : Int) (b1 b2 : Bdy) (t : Int) : List Int := match s with
  | .stop => [0]
  | .con .iff _ _ _ => [first b1 t, first b2 t]
  | .con .whl _ _ _ => [first b1 row, t]
  | _ => [t]
def rowsM : Bdy → Int → List (Int × Sm × List Int)
  | .nil, _ => []
  | .cons s row b1 b2 rest, z => (row, s, wsOf s row b1 b2 (first rest z)) :: (rowsM b1 (if s.loops = true then row else first rest z) ++ (rowsM b2 (first rest z) ++ rowsM rest z))
def Bdy.size : Bdy → Nat
  | .nil => 0
  | .cons _ _ b1 b2 rest => 1 + (b1.size + (b2.size + rest.size))
def Bdy.rows : Bdy → List Int
  | .nil => []
  | .cons _ row b1 b2 rest => row :: (b1.rows ++ (b2.rows ++ rest.rows))
def Bdy.Ok (n : Nat) : Bdy → Prop
  | .nil => True
  | .cons s row b1 b2 rest => s.Ok n ∧ 0 < row ∧ b1.Ok n ∧ b2.Ok n ∧ rest.Ok n
theorem rows_map : ∀ (b : Bdy) (z : Int), (rowsM b z).map (·.1) = b.rows
  | .nil, _ => rfl
  | .cons s row b1 b2 rest, z => by
    show row :: List.map _ _ = row :: _
    rw [List.map_append, List.map_append, rows_map b1, rows_map b2, rows_map rest]
theorem rowsM_len (b : Bdy) (z : Int) : (rowsM b z).length = b.size := by
  have : ∀ (b : Bdy) (z : Int), (rowsM b z).length = b.size := by
    intro b
    induction b with
    | nil => intro z; rfl
    | cons s row b1 b2 rest h1 h2 h3 =>
      intro z
      show List.length (_ :: _) = 1 + _
      rw [List.length_cons, List.length_append, List.length_append, h1, h2, h3]
      omega
  exact this b z
theorem first_in (b : Bdy) (z : Int) : first b z = z ∨ first b z ∈ b.rows := by
  cases b with
  | nil => exact .inl rfl
  | cons s row b1 b2 rest => exact .inr List.mem_cons_self
theorem wsOf_len (s : Sm) (row : Int) (b1 b2 : Bdy) (t : Int) : (wsOf s row b1 b2 t).length = s.arity := by
  cases s with
  | con c lt a b => cases c <;> rfl
  | _ => rfl
theorem wsOf_in {s : Sm} {row : Int} {b1 b2 : Bdy} {t u : Int} (h : u ∈ wsOf s row b1 b2 t) : u = 0 ∨ u = t ∨ u = row ∨ u ∈ b1.rows ∨ u ∈ b2.rows := by
  have one : u ∈ [t] → u = 0 ∨ u = t ∨ u = row ∨ u ∈ b1.rows ∨ u ∈ b2.rows := fun h => .inr (.inl (List.mem_singleton.mp h))
  cases s with
  | stop => exact .inl (List.mem_singleton.mp h)
  | ask j => exact one h
  | put j e => exact one h
  | say e => exact one h
  | con c lt a b =>
    cases c with
    | mst => exact one h
    | iff =>
      rcases List.mem_cons.mp h with e | h
      · rw [e]
        rcases first_in b1 t with q | q
        · exact .inr (.inl q)
        · exact .inr (.inr (.inr (.inl q)))
      · rw [List.mem_singleton.mp h]
        rcases first_in b2 t with q | q
        · exact .inr (.inl q)
        · exact .inr (.inr (.inr (.inr q)))
    | whl =>
      rcases List.mem_cons.mp h with e | h
      · rw [e]
        rcases first_in b1 row with q | q
        · exact .inr (.inr (.inl q))
        · exact .inr (.inr (.inr (.inl q)))
      · exact .inr (.inl (List.mem_singleton.mp h))
/-- the ways lead to the end, behind, or to a row of the body -/
theorem rowsM_to : ∀ (b : Bdy) (z : Int) (e : Int × Sm × List Int), e ∈ rowsM b z → ∀ u ∈ e.2.2, u = 0 ∨ u = z ∨ u ∈ b.rows
  | .nil, _, _, h, _, _ => nomatch h
  | .cons s row b1 b2 rest, z, e, h, u, hu => by
    have ft : first rest z = z ∨ first rest z ∈ (Bdy.cons s row b1 b2 rest).rows := by
      rcases first_in rest z with q | q
      · exact .inl q
      · exact .inr (List.mem_cons_of_mem _ (List.mem_append_right _ (List.mem_append_right _ q)))
    have m1 : ∀ {x}, x ∈ b1.rows → x ∈ (Bdy.cons s row b1 b2 rest).rows := fun q => List.mem_cons_of_mem _ (List.mem_append_left _ q)
    have m2 : ∀ {x}, x ∈ b2.rows → x ∈ (Bdy.cons s row b1 b2 rest).rows := fun q => List.mem_cons_of_mem _ (List.mem_append_right _ (List.mem_append_left _ q))
    have m0 : row ∈ (Bdy.cons s row b1 b2 rest).rows := List.mem_cons_self
    have fin : ∀ {x : Int}, x = first rest z → x = 0 ∨ x = z ∨ x ∈ (Bdy.cons s row b1 b2 rest).rows := fun q => by
      subst q
      exact .inr ft
    rcases List.mem_cons.mp h with h | h
    · subst h
      rcases wsOf_in hu with q | q | q | q | q
      · exact .inl q
      · exact fin q
      · rw [q]; exact .inr (.inr m0)
      · exact .inr (.inr (m1 q))
      · exact .inr (.inr (m2 q))
    · rcases List.mem_append.mp h with h | h
      · rcases rowsM_to b1 _ e h u hu with q | q | q
        · exact .inl q
        · by_cases l : s.loops = true
          · rw [if_pos l] at q
            rw [q]; exact .inr (.inr m0)
          · rw [if_neg l] at q
            exact fin q
        · exact .inr (.inr (m1 q))
      · rcases List.mem_append.mp h with h | h
        · rcases rowsM_to b2 _ e h u hu with q | q | q
          · exact .inl q
          · exact fin q
          · exact .inr (.inr (m2 q))
        · rcases rowsM_to rest _ e h u hu with q | q | q
          · exact .inl q
          · exact .inr (.inl q)
          · exact .inr (.inr (List.mem_cons_of_mem _ (List.mem_append_right _ (List.mem_append_right _ q))))
theorem rowsM_ok {n : Nat} : ∀ (b : Bdy) (z : Int), b.Ok n → ∀ e ∈ rowsM b z, e.2.1.Ok n ∧ 0 < e.1 ∧ e.2.2.length = e.2.1.arity
  | .nil, _, _, _, h => nomatch h
  | .cons s row b1 b2 rest, z, ok, e, h => by
    obtain ⟨o1, o2, o3, o4, o5⟩ := ok
    rcases List.mem_cons.mp h with h | h
    · subst h
      exact ⟨o1, o2, wsOf_len s row b1 b2 _⟩
    · rcases List.mem_append.mp h with h | h
      · exact rowsM_ok b1 _ o3 e h
      · rcases List.mem_append.mp h with h | h
        · exact rowsM_ok b2 _ o4 e h
        · exact rowsM_ok rest _ o5 e h
/-- the table that the rows fill one by one -/
def tabOf : List (Int × Sm × List Int) → Tab
  | [] => fun _ => none
  | e :: L => fun r => match tabOf L r with
    | some x => some x
    | none => if r = e.1 then some e.2 else none
theorem tabOf_mem : ∀ {L : List (Int × Sm × List Int)} {r : Int} {x : Sm × List Int}, tabOf L r = some x → (r, x) ∈ L
  | [], _, _, h => nomatch h
  | e :: L, r, x, h => by
    unfold tabOf at h
    cases q : tabOf L r with
    | some y =>
      rw [q] at h
      have h : some y = some x := h
      cases h
      exact List.mem_cons_of_mem _ (tabOf_mem q)
    | none =>
      rw [q] at h
      have h : (if r = e.1 then some e.2 else none) = some x := h
      by_cases c : r = e.1
      · rw [if_pos c] at h
        cases h
        rw [c]
        exact List.mem_cons_self
      · rw [if_neg c] at h; cases h
theorem tabOf_has : ∀ {L : List (Int × Sm × List Int)} {r : Int}, r ∈ L.map (·.1) → ∃ x, tabOf L r = some x
  | [], _, h => nomatch h
  | e :: L, r, h => by
    unfold tabOf
    cases q : tabOf L r with
    | some y => exact ⟨y, rfl⟩
    | none =>
      rcases List.mem_cons.mp h with c | c
      · exact ⟨e.2, if_pos c⟩
      · obtain ⟨x, hx⟩ := tabOf_has c
        rw [q] at hx; cases hx
theorem tabOf_snoc : ∀ (L : List (Int × Sm × List Int)) (e : Int × Sm × List Int) (r : Int), tabOf (L ++ [e]) r = if r = e.1 then some e.2 else tabOf L r
  | [], e, r => rfl
  | a :: L, e, r => by
    show (match tabOf (L ++ [e]) r with
      | some x => some x
      | none => if r = a.1 then some a.2 else none) = _
    rw [tabOf_snoc L e r]
    by_cases c : r = e.1
    · rw [if_pos c, if_pos c]
    · rw [if_neg c, if_neg c]
      rfl
theorem tab_ok {n : Nat} {b : Bdy} (ok : b.Ok n) : TabOk n (tabOf (rowsM b 0)) := by
  refine ⟨?_, fun r s ws h => ?_, fun r s ws t h ht => ?_⟩
  · cases h : tabOf (rowsM b 0) 0 with
    | none => rfl
    | some x =>
      have := (rowsM_ok b 0 ok _ (tabOf_mem h)).2.1
      exact absurd this (Int.lt_irrefl 0)
  · have := rowsM_ok b 0 ok _ (tabOf_mem h)
    exact ⟨this.1, this.2.2⟩
  · rcases rowsM_to b 0 _ (tabOf_mem h) t ht with q | q | q
    · exact .inl q
    · exact .inl q
    · exact .inr (tabOf_has (by rw [rows_map]; exact q))

/-! ### in the heap -/
def ltS (lt : Bool) : Str := if lt = true then "<" else "="
def Cw.str : Cw → Str
  | .mst => "must"
  | .iff => "if"
  | .whl => "while"
def Sm.word : Sm → Str
  | .ask _ => "ask"
  | .put _ _ => "put"
  | .say _ => "say"
  | .stop => "stop"
  | .con c _ _ _ => c.str
def SmTl (ns : List Str) (H : Hp) : Sm → List V → Prop
  | .ask j, xs => ∃ x, ns[j]? = some x ∧ xs = [.str x]
  | .put j e, xs => ∃ x v, ns[j]? = some x ∧ XpAt ns H e v ∧ xs = [.str x, v]
  | .say e, xs => ∃ v, XpAt ns H e v ∧ xs = [v]
  | .stop, xs => xs = []
  | .con _ lt a b, xs => ∃ u v, XpAt ns H a u ∧ XpAt ns H b v ∧ xs = [.str (ltS lt), u, v]
def StAt (ns : List Str) (H : Hp) (s : Sm) (row : Int) (kids : List V) (v : V) : Prop := ∃ p tl, v = .ref p ∧ SmTl ns H s tl ∧ H p = some (.tup (.str s.word :: .int row :: (tl ++ kids)))
def BodyV (ns : List Str) (H : Hp) : Bdy → List V → Prop
  | .nil, xs => xs = []
  | .cons s row b1 b2 rest, xs => ∃ v ys a1 a2, xs = v :: ys ∧ StAt ns H s row (([.ref a1, .ref a2] : List V).take s.kids) v ∧ BodyV ns H rest ys ∧
      (if 0 < s.kids then ∃ zs, H a1 = some (.lst zs) ∧ BodyV ns H b1 zs else b1 = .nil) ∧ (if 1 < s.kids then ∃ zs, H a2 = some (.lst zs) ∧ BodyV ns H b2 zs else b2 = .nil)
def BodyAt (ns : List Str) (H : Hp) (b : Bdy) (a : Addr) : Prop := ∃ ys, H a = some (.lst ys) ∧ BodyV ns H b ys
theorem SmTl.mono {ns : List Str} {H H' : Hp} (t : Tk H H') : ∀ {s : Sm} {xs : List V}, SmTl ns H s xs → SmTl ns H' s xs
  | .ask j, _, h => h
  | .put j e, _, ⟨x, v, a, b, c⟩ => ⟨x, v, a, b.mono t, c⟩
  | .say e, _, ⟨v, b, c⟩ => ⟨v, b.mono t, c⟩
  | .stop, _, h => h
  | .con _ lt a b, _, ⟨u, v, p, q, r⟩ => ⟨u, v, p.mono t, q.mono t, r⟩
theorem StAt.mono {ns : List Str} {H H' : Hp} (t : Tk H H') {s : Sm} {row : Int} {kids : List V} {v : V} (h : StAt ns H s row kids v) : StAt ns H' s row kids v := by
  obtain ⟨p, tl, a, b, c⟩ := h
  exact ⟨p, tl, a, b.mono t, t _ _ c⟩
theorem BodyV.mono {ns : List Str} {H H' : Hp} (t : Same H H') : ∀ {b : Bdy} {xs : List V}, BodyV ns H b xs → BodyV ns H' b xs
  | .nil, _, h => h
  | .cons s row b1 b2 rest, xs, h => by
    obtain ⟨v, ys, a1, a2, e, st, hr, h1, h2⟩ := h
    refine ⟨v, ys, a1, a2, e, st.mono (.same t), BodyV.mono t hr, ?_, ?_⟩
    · by_cases c : 0 < s.kids
      · rw [if_pos c] at h1 ⊢
        obtain ⟨zs, q, r⟩ := h1
        exact ⟨zs, t _ _ q, BodyV.mono t r⟩
      · rw [if_neg c] at h1 ⊢
        exact h1
    · by_cases c : 1 < s.kids
      · rw [if_pos c] at h2 ⊢
        obtain ⟨zs, q, r⟩ := h2
        exact ⟨zs, t _ _ q, BodyV.mono t r⟩
      · rw [if_neg c] at h2 ⊢
        exact h2
theorem BodyAt.mono {ns : List Str} {H H' : Hp} (t : Same H H') {b : Bdy} {a : Addr} (h : BodyAt ns H b a) : BodyAt ns H' b a := by
  obtain ⟨ys, q, r⟩ := h
  exact ⟨ys, t _ _ q, r.mono t⟩
/-- a statement and its ways, a tuple of both -/
def RowAt (ns : List Str) (H : Hp) (v : V) (e : Int × Sm × List Int) : Prop := ∃ p t w kids, v = .ref p ∧ H p = some (.tup [t, w]) ∧ StAt ns H e.2.1 e.1 kids t ∧ VsAt H w e.2.2
theorem RowAt.mono {ns : List Str} {H H' : Hp} (t : Tk H H') {v : V} {e : Int × Sm × List Int} (h : RowAt ns H v e) : RowAt ns H' v e := by
  obtain ⟨p, x, w, kids, a, b, c, d⟩ := h
  exact ⟨p, x, w, kids, a, t _ _ b, c.mono t, d.mono t⟩
/-- a list of things, each of which stands for its own -/
def LstAt {α : Type} (R : Hp → V → α → Prop) (H : Hp) (v : V) (L : List α) : Prop := ∃ l ys, v = .ref l ∧ H l = some (.lst ys) ∧ Paired (R H) ys L
def BoxAt (H : Hp) (v : V) (b : Str × Int × Int) : Prop := ∃ p, v = .ref p ∧ H p = some (.tup [.str b.1, .int b.2.1, .int b.2.2])
theorem BoxAt.mono {H H' : Hp} (t : Tk H H') {v : V} {b : Str × Int × Int} (h : BoxAt H v b) : BoxAt H' v b := by
  obtain ⟨p, a, q⟩ := h
  exact ⟨p, a, t _ _ q⟩
theorem LstAt.mono {α : Type} {R : Hp → V → α → Prop} (m : ∀ (H H' : Hp) (v : V) (x : α), Tk H H' → R H v x → R H' v x) {H H' : Hp} (t : Same H H') {v : V} {L : List α} (h : LstAt R H v L) : LstAt R H' v L := by
  obtain ⟨l, ys, a, b, c⟩ := h
  exact ⟨l, ys, a, t _ _ b, Paired.mapP c fun _ _ z => m _ _ _ _ (.same t) z⟩
abbrev Bxs := List (Str × Int × Int)
/-- a program as it stands -/
structure PgAt (ns : List Str) (bs : Bxs) (b : Bdy) (H : Hp) (v : V) : Prop where
  at_ : ∃ p x a, v = .ref p ∧ H p = some (.tup [x, .ref a]) ∧ LstAt BoxAt H x bs ∧ BodyAt ns H b a
theorem PgAt.mono {ns : List Str} {bs : Bxs} {b : Bdy} {H H' : Hp} (t : Same H H') {v : V} (h : PgAt ns bs b H v) : PgAt ns bs b H' v := by
  obtain ⟨p, x, a, e, q, r, s⟩ := h.at_
  exact ⟨p, x, a, e, t _ _ q, LstAt.mono (R := BoxAt) (fun _ _ _ _ t h => BoxAt.mono t h) t r, s.mono t⟩
end Er

namespace Er
open PySem L2
/-! rules for lists against the empty list, zip of tuples; then first_row and rows_of -/
section
variable {X : Cx}
def rEqNil (K : PySem.W.Frag) : R2 := fun x y H Q => ∃ p q xs, x = .ref p ∧ y = .ref q ∧ SqL K H p xs ∧ SqL K H q [] ∧ Q (.bl xs.isEmpty) H
def rNeNil (K : PySem.W.Frag) : R2 := fun x y H Q => ∃ p q xs, x = .ref p ∧ y = .ref q ∧ SqL K H p xs ∧ SqL K H q [] ∧ Q (.bl (!xs.isEmpty)) H
theorem op_eqNil (hu : X.A.units + 1 < cLine) : OpR X (compareOp .Eq) (rEqNil X.K) := by
  intro pins s σ H x y v u Q I rx ry h
  obtain ⟨p, q, xs, rfl, rfl, hp, hq, k⟩ := h
  cases rx
  cases ry
  obtain ⟨its, r1, p1, _⟩ := I.list hp
  obtain ⟨jts, r2, p2, _⟩ := I.list hq
  cases r2
  have hu1 : X.A.units < cLine := by omega
  cases r1 with
  | nil => exact SeqAt.eq_listAt (e := fun _ => true) p1.isList p2.isList rfl hu1 (fun j h1 _ => absurd h1 (Nat.not_lt_zero j)) ⟨.bl true, H, I, rfl, k⟩
  | cons r rr => exact SeqAt.eq_list_lengthsAt p1.isList p2.isList (by simp) hu1 ⟨.bl false, H, I, rfl, k⟩
theorem op_neNil (hu : X.A.units + 1 < cLine) : OpR X (compareOp .NotEq) (rNeNil X.K) := by
  intro pins s σ H x y v u Q I rx ry h
  obtain ⟨p, q, xs, rfl, rfl, hp, hq, k⟩ := h
  cases rx
  cases ry
  obtain ⟨its, r1, p1, _⟩ := I.list hp
  obtain ⟨jts, r2, p2, _⟩ := I.list hq
  cases r2
  have hu1 : X.A.units < cLine := by omega
  cases r1 with
  | nil => exact SeqAt.RcNeAt.lists (e := fun _ => true) p1.isList p2.isList rfl hu1 (fun j h1 _ => absurd h1 (Nat.not_lt_zero j)) X.prog X.w X.xe _ ⟨.bl false, H, I, rfl, k⟩
  | cons r rr => exact SeqAt.RcNeAt.lists_lengths p1.isList p2.isList (by simp) hu1 X.prog X.w X.xe _ ⟨.bl true, H, I, rfl, k⟩
end
theorem walk_zipT {K : PySem.W.Frag} {a b : Addr} {xs ys : List V} {n : Nat} (hn : n = min xs.length ys.length) : Walk (RZ.ItzT K a b) n (fun H => SqT K H a xs ∧ SqT K H b ys) (YPair (fun i => xs[i]?) (fun i => ys[i]?)) where
  goes := fun i H hi h => by
    obtain ⟨x, hx⟩ := get_lt (l := xs) (j := i) (by omega)
    obtain ⟨y, hy⟩ := get_lt (l := ys) (j := i) (by omega)
    exact ⟨xs, ys, x, y, h.1, h.2, hx, hy⟩
  stops := fun H h => ⟨xs, ys, h.1, h.2, by omega⟩
  yields := fun i H x H' hi h y => by
    obtain ⟨T, u, v, e1, e2, e3, f1, f2⟩ := y
    exact ⟨T, u, v, e1, e2, e3, f1 xs h.1, f2 ys h.2⟩

/-! ### small facts -/
theorem Same.mut {H H' : Hp} {l : Addr} {o : HO} (s : Same H H') (h : H l = none) : Same H (upd H' l o) := fun a u e => by
  rw [upd_ne (ne_of_none e h)]
  exact s a u e
theorem len_small {n m : Nat} (h : n ≤ m) (hm : m ≤ 100000) : n ≤ sizeLine := Nat.le_trans (Nat.le_trans h hm) (by decide)
theorem len_less {n m : Nat} (h : n ≤ m) (hm : m ≤ 100000) : n < sizeLine := Nat.lt_of_le_of_lt (Nat.le_trans h hm) (by decide)
theorem paired_app {α β : Type} {G : α → β → Prop} : ∀ {a c : List α} {b d : List β}, Paired G a b → Paired G c d → Paired G (a ++ c) (b ++ d)
  | _, _, _, _, .nil, h => h
  | _, _, _, _, .cons r t, h => .cons r (paired_app t h)
theorem paired_one {α β : Type} {G : α → β → Prop} {a : α} {b : β} (h : G a b) : Paired G [a] [b] := .cons h .nil
/-- the statements from the i-th on -/
def dropB : Bdy → Nat → Bdy
  | b, 0 => b
  | .nil, _ + 1 => .nil
  | .cons _ _ _ _ rest, i + 1 => dropB rest i
theorem dropB_zero (b : Bdy) : dropB b 0 = b := by cases b <;> rfl
theorem dropB_nil : ∀ i, dropB .nil i = .nil
  | 0 => rfl
  | _ + 1 => rfl
theorem bodyV_drop {ns : List Str} {H : Hp} : ∀ {b : Bdy} {ys : List V} (i : Nat), BodyV ns H b ys → BodyV ns H (dropB b i) (ys.drop i)
  | b, _, 0, h => by
    rw [dropB_zero]
    exact h
  | .nil, ys, i + 1, h => by
    have h : ys = [] := h
    subst h
    rfl
  | .cons s row b1 b2 rest, ys, i + 1, h => by
    obtain ⟨v, zs, a1, a2, rfl, _, hr, _⟩ := h
    exact bodyV_drop i hr
theorem bodyV_at {ns : List Str} {H : Hp} : ∀ {b : Bdy} {ys : List V} {i : Nat} {v : V}, BodyV ns H b ys → ys[i]? = some v → ∃ s row b1 b2 a1 a2, dropB b i = .cons s row b1 b2 (dropB b (i + 1)) ∧
    StAt ns H s row (([.ref a1, .ref a2] : List V).take s.kids) v ∧ (if 0 < s.kids then ∃ zs, H a1 = some (.lst zs) ∧ BodyV ns H b1 zs else b1 = .nil) ∧ (if 1 < s.kids then ∃ zs, H a2 = some (.lst zs) ∧ BodyV ns H b2 zs else b2 = .nil)
  | .nil, ys, i, v, h, e => by
    have h : ys = [] := h
    subst h
    simp at e
  | .cons s row b1 b2 rest, ys, 0, v, h, e => by
    obtain ⟨u, zs, a1, a2, rfl, st, hr, h1, h2⟩ := h
    have e : u = v := Option.some.inj e
    subst e
    exact ⟨s, row, b1, b2, a1, a2, by show Bdy.cons s row b1 b2 rest = Bdy.cons s row b1 b2 (dropB rest 0); cases rest <;> rfl, st, h1, h2⟩
  | .cons s row b1 b2 rest, ys, i + 1, v, h, e => by
    obtain ⟨u, zs, a1, a2, rfl, st, hr, h1, h2⟩ := h
    exact bodyV_at (i := i) hr (by simpa using e)
theorem bodyV_end {ns : List Str} {H : Hp} {b : Bdy} {ys : List V} (h : BodyV ns H b ys) : dropB b ys.length = .nil := by
  have q := bodyV_drop ys.length h
  rw [List.drop_length] at q
  cases e : dropB b ys.length with
  | nil => rfl
  | cons s row b1 b2 rest =>
    rw [e] at q
    obtain ⟨v, zs, _, _, c, _⟩ := q
    cases c
def Bdy.dep : Bdy → Nat
  | .nil => 0
  | .cons _ _ b1 b2 rest => max rest.dep (1 + max b1.dep b2.dep)
theorem dep_size : ∀ b : Bdy, b.dep ≤ b.size
  | .nil => Nat.le_refl _
  | .cons s row b1 b2 rest => by
    have h1 := dep_size b1
    have h2 := dep_size b2
    have h3 := dep_size rest
    show max rest.dep (1 + max b1.dep b2.dep) ≤ 1 + (b1.size + (b2.size + rest.size))
    omega
theorem drop_le : ∀ (b : Bdy) (i : Nat), (dropB b i).dep ≤ b.dep ∧ (dropB b i).size ≤ b.size
  | b, 0 => by
    have e : dropB b 0 = b := by cases b <;> rfl
    rw [e]
    exact ⟨Nat.le_refl _, Nat.le_refl _⟩
  | .nil, i + 1 => ⟨Nat.le_refl _, Nat.le_refl _⟩
  | .cons s row b1 b2 rest, i + 1 => by
    have := drop_le rest i
    show (dropB rest i).dep ≤ max rest.dep (1 + max b1.dep b2.dep) ∧ (dropB rest i).size ≤ 1 + (b1.size + (b2.size + rest.size))
    omega
theorem bodyV_len {ns : List Str} {H : Hp} : ∀ {b : Bdy} {ys : List V}, BodyV ns H b ys → ys.length ≤ b.size
  | .nil, ys, h => by
    have h : ys = [] := h
    subst h
    exact Nat.le_refl _
  | .cons s row b1 b2 rest, ys, h => by
    obtain ⟨u, zs, a1, a2, rfl, st, hr, h1, h2⟩ := h
    have := bodyV_len hr
    show zs.length + 1 ≤ 1 + (b1.size + (b2.size + rest.size))
    omega
theorem bodyV_first {ns : List Str} {H : Hp} {b : Bdy} {v : V} {ys : List V} (h : BodyV ns H b (v :: ys)) : ∃ p x rest, v = .ref p ∧ H p = some (.tup (x :: .int (first b 0) :: rest)) ∧ ∀ z, first b z = first b 0 := by
  cases b with
  | nil => cases h
  | cons s row b1 b2 rest =>
    obtain ⟨u, zs, a1, a2, e, ⟨p, tl, rfl, _, hp⟩, _⟩ := h
    cases e
    exact ⟨p, _, _, rfl, hp, fun _ => rfl⟩
section
variable {P : Program} {w : World} {K : PySem.W.Frag} {mg : Str → Option Value} {base : Heap} {f : Addr} {fd : FuncData} {ns : List Str}
def spFirstRow (ns : List Str) (K : PySem.W.Frag) : Sp := fun vs H Q _ => ∃ (a : Addr) (z : Int) (b : Bdy) (ys : List V), vs = [.ref a, .int z] ∧ SqL K H a ys ∧ BodyV ns H b ys ∧ Gives H (fun _ v => v = .int (first b z)) Q
theorem scFirstRow : FnScope ["body", "behind"] ["body", "behind"] (defScope sFirstRow) := ⟨rfl, rfl, rfl, by decide +kernel, rfl, by decide +kernel, by decide +kernel⟩
theorem ok_firstRow (F : Fun K "first_row" "first_row" sFirstRow f fd) : FnOk P w K mg base CX0 1 f fd ["body", "behind"] (spFirstRow ns K) := by
  refine F.ok scFirstRow (fun vs H Q E h => ?_) (fun cdv A outer s H vs Q E hr h => ?_)
  · obtain ⟨a, z, b, ys, rfl, _⟩ := h
    rfl
  obtain ⟨a, z, b, ys, rfl, hs, hb, q⟩ := h
  refine ⟨_, pss_cons (ps_if (pt_cmpR (op_eqNil (hu_of hr)) (pv 0) (pe_lst pa_nil) (nomark _)) (pss_one (ps_ret (pv 1))) pss_nil)
    (pss_one (ps_ret (pe_ix ix_tup (pe_ix ix_list (pv 0) pe_int (fun _ _ => rfl)) pe_int (fun _ _ => rfl)))), ?_⟩
  refine ⟨_, rfl, Nat.zero_le _, fun p hp => ?_⟩
  have g := same_new hp (.lst [])
  refine ⟨a, p, ys, rfl, rfl, g.seq hs, SqL.of upd_same, _, rfl, ?_⟩
  cases ys with
  | nil =>
    refine iteT ⟨_, rfl, ?_⟩
    have e := bodyV_end hb
    have e : b = .nil := by
      cases b with
      | nil => rfl
      | cons s row b1 b2 rest => cases e
    subst e
    exact q _ _ g rfl
  | cons v ys =>
    refine iteF ?_
    obtain ⟨t, x, rest, rfl, ht, e⟩ := bodyV_first hb
    refine ⟨_, rfl, a, _, 0, _, rfl, rfl, g.seq hs, atI_nat (j := 0) rfl, t, _, 1, _, rfl, rfl, SqT.of (g _ _ ht), atI_nat (j := 1) rfl, ?_⟩
    exact q _ _ g (by rw [e z])
theorem cal_firstRow (g : Gf K mg "first_row" sFirstRow ["body", "behind"]) : Cal P w K mg base "first_row" 1 ["body", "behind"] (spFirstRow ns K) := g.cal fun f fd F => ok_firstRow F
end
end Er

namespace Er
open PySem L2
/-! tuples cut and joined, whatever object comes; rows_of -/
section
variable {X : Cx}
theorem SqT.same {K : PySem.W.Frag} {H H' : Hp} {a : Addr} {xs : List V} (e : Same H H') (h : SqT K H a xs) : SqT K H' a xs := by
  rcases h with (h | ⟨o, h⟩) | h
  · exact .inl (.inl (e _ _ h))
  · exact .inl (.inr ⟨o, e _ _ h⟩)
  · exact .inr h
def rSlS : V → Option Int → Option Int → Hp → VK → Prop := fun x lo hi H Q => ∃ a xs, x = .ref a ∧ H a = some (.tup xs) ∧ ∀ p H', Same H H' → H' p = some (.tup (cutV xs lo hi)) → Q (.ref p) H'
theorem cut_whole {xs : List V} {lo hi : Option Int} (h : HT.sIx xs.length 0 lo = 0 ∧ HT.sIx xs.length xs.length hi = xs.length) : cutV xs lo hi = xs := by
  unfold cutV
  rw [h.1, h.2]
  simp
theorem sl_tupS : SlR X rSlS := by
  intro pins s σ H x v vl vu lo hi sl Q I rx hs pl pu h
  obtain ⟨a, xs, rfl, hx, q⟩ := h
  exact sl_tupA pins s σ H _ v vl vu lo hi sl Q I rx hs pl pu ⟨a, xs, rfl, SqT.of hx, fun w => q a H (Same.refl H) (by rw [cut_whole w]; exact hx), fun _ p hp => q p _ (same_new hp _) upd_same⟩
def rCatS : R2 := fun x y H Q => ∃ a b xs ys, x = .ref a ∧ y = .ref b ∧ H a = some (.tup xs) ∧ H b = some (.tup ys) ∧ xs.length + ys.length ≤ sizeLine ∧ ∀ p H', Same H H' → H' p = some (.tup (xs ++ ys)) → Q (.ref p) H'
theorem op_catS : OpR X (binaryOp .Add) rCatS := by
  intro pins s σ H x y v u Q I rx ry h
  obtain ⟨a, b, xs, ys, rfl, rfl, ha, hb, hz, q⟩ := h
  refine op_catA pins s σ H _ _ v u Q I rx ry ⟨a, b, xs, ys, rfl, rfl, SqT.of ha, SqT.of hb, hz, fun e => ?_, fun _ e => ?_, fun _ _ p hp => q p _ (same_new hp _) upd_same⟩
  · subst e
    exact q b H (Same.refl H) hb
  · subst e
    exact q a H (Same.refl H) (by rw [List.append_nil]; exact ha)
end
theorem cut_from (xs : List V) (k : Nat) (h : k ≤ xs.length) : cutV xs (some (k : Int)) none = xs.drop k := by
  unfold cutV
  rw [HT.sIx_nat, HT.sIx_none, Nat.min_eq_left h]
  exact List.take_of_length_le (by rw [List.length_drop]; exact Nat.le_refl _)
theorem cut_to (xs : List V) (k : Nat) (h : k ≤ xs.length) : cutV xs none (some (k : Int)) = xs.take k := by
  unfold cutV
  rw [HT.sIx_nat, HT.sIx_none, Nat.min_eq_left h]
  rfl
theorem cut_two (x y : V) (r : List V) : cutV (x :: y :: r) none (some 2) = [x, y] := by
  have := cut_to (x :: y :: r) 2 (by simp)
  exact this
theorem kind4 (s : Sm) : (∃ lt a b, s = .con .iff lt a b) ∨ (∃ lt a b, s = .con .whl lt a b) ∨ s = .stop ∨
    (V.str s.word ≠ .str "if" ∧ V.str s.word ≠ .str "while" ∧ V.str s.word ≠ .str "stop" ∧ s.kids = 0 ∧ ∀ row b1 b2 t, wsOf s row b1 b2 t = [t]) := by
  cases s with
  | ask j => exact .inr (.inr (.inr ⟨by show V.str "ask" ≠ _; decide +kernel, by show V.str "ask" ≠ _; decide +kernel, by show V.str "ask" ≠ _; decide +kernel, rfl, fun _ _ _ _ => rfl⟩))
  | put j e => exact .inr (.inr (.inr ⟨by show V.str "put" ≠ _; decide +kernel, by show V.str "put" ≠ _; decide +kernel, by show V.str "put" ≠ _; decide +kernel, rfl, fun _ _ _ _ => rfl⟩))
  | say e => exact .inr (.inr (.inr ⟨by show V.str "say" ≠ _; decide +kernel, by show V.str "say" ≠ _; decide +kernel, by show V.str "say" ≠ _; decide +kernel, rfl, fun _ _ _ _ => rfl⟩))
  | stop => exact .inr (.inr (.inl rfl))
  | con c lt a b =>
    cases c with
    | mst => exact .inr (.inr (.inr ⟨by show V.str "must" ≠ _; decide +kernel, by show V.str "must" ≠ _; decide +kernel, by show V.str "must" ≠ _; decide +kernel, rfl, fun _ _ _ _ => rfl⟩))
    | iff => exact .inl ⟨lt, a, b, rfl⟩
    | whl => exact .inr (.inl ⟨lt, a, b, rfl⟩)
section
variable {P : Program} {w : World} {K : PySem.W.Frag} {mg : Str → Option Value} {base : Heap} {f : Addr} {fd : FuncData} {ns : List Str}
def spRowsOf (ns : List Str) (k : Nat) : Sp := fun vs H Q _ => ∃ (a : Addr) (z : Int) (b : Bdy), vs = [.ref a, .int z] ∧ b.dep < k ∧ b.size ≤ 1000 ∧ BodyAt ns H b a ∧ Gives H (fun H' v => LstAt (RowAt ns) H' v (rowsM b z)) Q
theorem scRowsOf : FnScope ["body", "behind", "found", "at", "statement", "word", "row", "then"] ["body", "behind"] (defScope sRowsOf) := ⟨rfl, rfl, rfl, by decide +kernel, rfl, by decide +kernel, by decide +kernel⟩
theorem rows_cut {b : Bdy} {i : Nat} {s : Sm} {row : Int} {b1 b2 : Bdy} (z : Int) (e : dropB b i = .cons s row b1 b2 (dropB b (i + 1))) : rowsM (dropB b i) z =
    (row, s, wsOf s row b1 b2 (first (dropB b (i + 1)) z)) :: (rowsM b1 (if s.loops = true then row else first (dropB b (i + 1)) z) ++ (rowsM b2 (first (dropB b (i + 1)) z) ++ rowsM (dropB b (i + 1)) z)) := by
  rw [e]
  rfl
theorem app4 {α : Type} (d : List α) (a : α) (b c : List α) : d ++ [a] ++ b ++ c = d ++ (a :: (b ++ c)) := by simp
theorem app3 {α : Type} (d : List α) (a : α) (b : List α) : d ++ [a] ++ b = d ++ (a :: (b ++ [])) := by simp
theorem ok_rowsOf {k j : Nat} (C : Cal P w K mg base "rows_of" j ["body", "behind"] (spRowsOf ns k)) (C1 : Cal P w K mg base "first_row" 1 ["body", "behind"] (spFirstRow ns K)) (ze : mg "enumerate" = none) (hk : 1 ≤ j)
    (F : Fun K "rows_of" "rows_of" sRowsOf f fd) : FnOk P w K mg base CX0 (j + 1) f fd ["body", "behind"] (spRowsOf ns (k + 1)) := by
  refine F.ok scRowsOf (fun vs H Q E h => ?_) (fun cdv A outer s H vs Q E hr h => ?_)
  · obtain ⟨a, z, b, rfl, _⟩ := h
    rfl
  obtain ⟨a, z, b, rfl, hdp, hsz, ⟨ys, hys, hb⟩, q⟩ := h
  have hr1 : Room 1 _ := hr.mono hk
  have nd := scRowsOf.nd
  refine ⟨_, pss_cons (ps_set (i := 2) nd rfl (.inl rfl) (pe_lst pa_nil))
    (pss_cons (ps_for PassesOwn.never rfl (pi_enum (by rfl) ze (pa_cons (pv 0) pa_nil)) (pg_tup rfl (pgs_cons (pg_name (i := 3) nd rfl (.inl rfl)) (pgs_cons (pg_name (i := 4) nd rfl (.inl rfl)) pgs_nil)))
      (pss_cons (ps_asg (pe_slice sl_tupS (pv 4) po_none (po_some pe_int)) (pg_tup rfl (pgs_cons (pg_name (i := 5) nd rfl (.inl rfl)) (pgs_cons (pg_name (i := 6) nd rfl (.inl rfl)) pgs_nil))))
      (pss_cons (ps_set (i := 7) nd rfl (.inl rfl) (pe_cal C1 hr1 (pa_cons (pe_slice sl_list (pv 0) (po_some (pe_op op_add (pv 3) pe_int)) po_none) (pa_cons (pv 1) pa_nil))))
      (pss_one (ps_if (pt_cmpR op_eq (pv 5) pe_str (nomark _))
        (pss_cons (ps_expr (pe_bm PySem.F.plainAttrs_list PySem.F.slot_list_append PySem.F.type_list_append mt_append (pv 2) (pa_cons (pe_tup (pa_cons (pv 4) (pa_cons (pe_tup (pa_cons
            (pe_cal C1 hr1 (pa_cons (pe_ix ix_tup (pv 4) pe_int (fun _ _ => rfl)) (pa_cons (pv 7) pa_nil))) (pa_cons (pe_cal C1 hr1 (pa_cons (pe_ix ix_tup (pv 4) pe_int (fun _ _ => rfl)) (pa_cons (pv 7) pa_nil))) pa_nil))) pa_nil))) pa_nil)))
        (pss_cons (ps_expr (pe_bm PySem.F.plainAttrs_list PySem.F.slot_list_extend PySem.F.type_list_extend mt_extend (pv 2) (pa_cons (pe_cal C hr (pa_cons (pe_ix ix_tup (pv 4) pe_int (fun _ _ => rfl)) (pa_cons (pv 7) pa_nil))) pa_nil)))
        (pss_one (ps_expr (pe_bm PySem.F.plainAttrs_list PySem.F.slot_list_extend PySem.F.type_list_extend mt_extend (pv 2) (pa_cons (pe_cal C hr (pa_cons (pe_ix ix_tup (pv 4) pe_int (fun _ _ => rfl)) (pa_cons (pv 7) pa_nil))) pa_nil))))))
        (pss_one (ps_if (pt_cmpR op_eq (pv 5) pe_str (nomark _))
          (pss_cons (ps_expr (pe_bm PySem.F.plainAttrs_list PySem.F.slot_list_append PySem.F.type_list_append mt_append (pv 2) (pa_cons (pe_tup (pa_cons (pv 4) (pa_cons (pe_tup (pa_cons
            (pe_cal C1 hr1 (pa_cons (pe_ix ix_tup (pv 4) pe_int (fun _ _ => rfl)) (pa_cons (pv 6) pa_nil))) (pa_cons (pv 7) pa_nil))) pa_nil))) pa_nil)))
          (pss_one (ps_expr (pe_bm PySem.F.plainAttrs_list PySem.F.slot_list_extend PySem.F.type_list_extend mt_extend (pv 2) (pa_cons (pe_cal C hr (pa_cons (pe_ix ix_tup (pv 4) pe_int (fun _ _ => rfl)) (pa_cons (pv 6) pa_nil))) pa_nil)))))
          (pss_one (ps_if (pt_cmpR op_eq (pv 5) pe_str (nomark _))
            (pss_one (ps_expr (pe_bm PySem.F.plainAttrs_list PySem.F.slot_list_append PySem.F.type_list_append mt_append (pv 2) (pa_cons (pe_tup (pa_cons (pv 4) (pa_cons (pe_tup (pa_cons pe_int pa_nil)) pa_nil))) pa_nil))))
            (pss_one (ps_expr (pe_bm PySem.F.plainAttrs_list PySem.F.slot_list_append PySem.F.type_list_append mt_append (pv 2) (pa_cons (pe_tup (pa_cons (pv 4) (pa_cons (pe_tup (pa_cons (pv 7) pa_nil)) pa_nil))) pa_nil)))))))))))))
    (pss_one (ps_ret (pv 2)))), ?_⟩
  refine ⟨Nat.zero_le _, fun l hl => ?_⟩
  have g0 := same_new hl (.lst [])
  have hlen : ys.length ≤ 1000 := Nat.le_trans (bodyV_len hb) hsz
  refine ⟨_, rfl, a, ys, rfl, g0.seq (SqL.of hys), for_it (walk_enum (xs := ys)) (fun i σ H' => ∃ (o3 o4 o5 o6 o7 : Option V) (acc : List V) (done : List (Int × Sm × List Int)),
    σ = [some (.ref a), some (.int z), some (.ref l), o3, o4, o5, o6, o7] ∧ Same H H' ∧ H' l = some (.lst acc) ∧ rowsM b z = done ++ rowsM (dropB b i) z ∧ Paired (RowAt ns H') acc done)
    ⟨none, none, none, none, none, [], [], rfl, g0, upd_same, by rw [dropB_zero]; rfl, .nil⟩ (fun i σ H' _ ⟨_, _, _, _, _, _, _, _, g, _⟩ => g.seq (SqL.of hys)) ?_ ?_⟩
  · rintro i v σ H1 H2 hi ⟨o3, o4, o5, o6, o7, acc, done, rfl, g1, hl1, e1, pr1⟩ ⟨T, x, y, rfl, hT, rfl, hx, hy⟩
    cases hx
    have hy : ys[i]? = some y := hy
    obtain ⟨sm, row, b1, b2, a1, a2, eb, ⟨p, tl, rfl, htl, hp⟩, k1, k2⟩ := bodyV_at hb hy
    have hdrop : (dropB b i).dep ≤ b.dep ∧ (dropB b i).size ≤ b.size := drop_le b i
    rw [eb] at hdrop
    have hd : max (dropB b (i + 1)).dep (1 + max b1.dep b2.dep) ≤ b.dep := hdrop.1
    have hz : 1 + (b1.size + (b2.size + (dropB b (i + 1)).size)) ≤ b.size := hdrop.2
    rw [rows_cut z eb] at e1
    have lacc : acc.length ≤ 1000 := by
      have e := congrArg List.length e1
      rw [rowsM_len, List.length_append, ← pr1.length] at e
      omega
    refine ⟨T, _, rfl, SqT.of upd_same, rfl, _, _, rfl, _, _, rfl, rfl, ?_⟩
    have g2 : Same H (upd H1 T (.tup [.int (i : Nat), .ref p])) := g1.trans (same_new hT _)
    refine ⟨_, rfl, 2, rfl, p, _, rfl, g2 _ _ hp, fun t H3 g3 ht => ?_⟩
    rw [cut_two] at ht
    refine ⟨t, _, rfl, SqT.of ht, rfl, _, _, rfl, _, _, rfl, rfl, ?_⟩
    have g4 := g2.trans g3
    refine ⟨_, rfl, _, rfl, _, _, rfl, rfl, _, rfl, a, ys, rfl, g4.seq (SqL.of hys), fun u hu => ?_⟩
    have ec : cutV ys (some ((i : Int) + 1)) none = ys.drop (i + 1) := cut_from ys (i + 1) (by omega)
    refine ⟨_, rfl, u, z, dropB b (i + 1), ys.drop (i + 1), rfl, SqL.of (by rw [← ec]; exact upd_same), BodyV.mono (g4.trans (same_new hu _)) (bodyV_drop (i + 1) hb), fun vv H5 g5 hv => ?_⟩
    subst hv
    have s5 : Same H1 H5 := (((same_new hT _).trans g3).trans (same_new hu _)).trans g5
    clear g5 hu g4 ht g3 g2 t H3
    generalize et : first (dropB b (i + 1)) z = t0 at e1
    have lfin : done.length + 1 + (rowsM b1 (if sm.loops = true then row else t0)).length + (rowsM b2 t0).length ≤ 1000 := by
      have e := congrArg List.length e1
      rw [rowsM_len, List.length_append, List.length_cons, List.length_append, List.length_append] at e
      omega
    have ldone := pr1.length
    have nw : ∀ {H6 : Hp} {x w : Addr} {ws : List Int}, Same H H6 → H6 x = some (.tup [.ref p, .ref w]) → H6 w = some (.tup (ws.map V.int)) → RowAt ns H6 (.ref x) (row, sm, ws) := fun g hx hw =>
      ⟨_, _, _, _, rfl, hx, ⟨p, tl, rfl, htl.mono (.same g), g _ _ hp⟩, ⟨_, rfl, hw⟩⟩
    have fin : ∀ {H6 : Hp} {acc' : List V} {o3 o4 o5 o6 o7 : Option V}, Same H H6 → H6 l = some (.lst acc') → Paired (RowAt ns H6) acc' (done ++ ((row, sm, wsOf sm row b1 b2 t0) :: (rowsM b1 (if sm.loops = true then row else t0) ++ rowsM b2 t0))) →
        ∃ (o3' o4' o5' o6' o7' : Option V) (acc : List V) (done : List (Int × Sm × List Int)), [some (V.ref a), some (V.int z), some (V.ref l), o3, o4, o5, o6, o7] = [some (.ref a), some (.int z), some (.ref l), o3', o4', o5', o6', o7'] ∧
          Same H H6 ∧ H6 l = some (.lst acc) ∧ rowsM b z = done ++ rowsM (dropB b (i + 1)) z ∧ Paired (RowAt ns H6) acc done := fun g hl' pr => by
      refine ⟨_, _, _, _, _, _, _, rfl, g, hl', ?_, pr⟩
      rw [e1, List.append_assoc, List.cons_append, List.append_assoc]
    have one : ∀ (w x : Addr), H5 w = none → (upd H5 w (.tup ((wsOf sm row b1 b2 t0).map V.int))) x = none → b1 = .nil → b2 = .nil → ∀ {o3 o4 o5 o6 o7 : Option V}, rAppend (.ref l) [.ref x] (upd (upd H5 w (.tup ((wsOf sm row b1 b2 t0).map V.int))) x (.tup [.ref p, .ref w])) fun _ H6 =>
        ∃ (o3' o4' o5' o6' o7' : Option V) (acc : List V) (done : List (Int × Sm × List Int)), [some (V.ref a), some (V.int z), some (V.ref l), o3, o4, o5, o6, o7] = [some (.ref a), some (.int z), some (.ref l), o3', o4', o5', o6', o7'] ∧
          Same H H6 ∧ H6 l = some (.lst acc) ∧ rowsM b z = done ++ rowsM (dropB b (i + 1)) z ∧ Paired (RowAt ns H6) acc done := fun w x hw hx k1 k2 {o3 o4 o5 o6 o7} => by
      subst k1
      subst k2
      have nwx : w ≠ x := ne_of_none upd_same hx
      have s8 := (s5.trans (same_new hw (.tup ((wsOf sm row .nil .nil t0).map V.int)))).trans (same_new hx (.tup [.ref p, .ref w]))
      refine ⟨l, acc, _, rfl, rfl, s8 _ _ hl1, len_less lacc (by decide), ?_⟩
      have g9 : Same H (upd (upd (upd H5 w (.tup ((wsOf sm row .nil .nil t0).map V.int))) x (.tup [.ref p, .ref w])) l (.lst (acc ++ [.ref x]))) := Same.mut (g1.trans s8) hl
      have nwl : w ≠ l := ne_of (H := upd (upd H5 w (.tup ((wsOf sm row .nil .nil t0).map V.int))) x (.tup [.ref p, .ref w])) (by rw [upd_ne nwx]; exact upd_same) (s8 _ _ hl1) (by intro c; cases c)
      have nxl : x ≠ l := ne_of (H := upd (upd H5 w (.tup ((wsOf sm row .nil .nil t0).map V.int))) x (.tup [.ref p, .ref w])) upd_same (s8 _ _ hl1) (by intro c; cases c)
      have t9 : Tk H1 (upd (upd (upd H5 w (.tup ((wsOf sm row .nil .nil t0).map V.int))) x (.tup [.ref p, .ref w])) l (.lst (acc ++ [.ref x]))) := Tk.trans (.same s8) (.lst (s8 _ _ hl1) _)
      have pr9 := paired_app (Paired.mapP pr1 fun _ _ h => RowAt.mono t9 h) (paired_one (nw (x := x) (w := w) (ws := wsOf sm row .nil .nil t0) g9 (by rw [upd_ne nxl]; exact upd_same) (by rw [upd_ne nwl, upd_ne nwx]; exact upd_same)))
      exact fin g9 upd_same pr9
    rcases kind4 sm with ⟨lt, ea, eb', rfl⟩ | ⟨lt, ea, eb', rfl⟩ | rfl | ⟨n1, n2, n3, n4, n5⟩
    · obtain ⟨va, vb, _, _, rfl⟩ := id htl
      have lfin : done.length + 1 + (rowsM b1 t0).length + (rowsM b2 t0).length ≤ 1000 := lfin
      rw [if_pos (show 0 < Sm.kids (.con .iff lt ea eb') from Nat.zero_lt_two)] at k1
      rw [if_pos (show 1 < Sm.kids (.con .iff lt ea eb') from Nat.one_lt_two)] at k2
      obtain ⟨zs1, ha1, hb1⟩ := k1
      obtain ⟨zs2, ha2, hb2⟩ := k2
      have g5 := g1.trans s5
      refine ⟨_, rfl, rfl, _, rfl, if_yes ?_⟩
      refine ⟨_, rfl, .inl ⟨rfl, _, SqL.of (s5 _ _ hl1)⟩, _, rfl, _, rfl, p, _, 5, _, rfl, rfl, SqT.of (g5 _ _ hp), atI_nat (j := 5) rfl, _, rfl, ?_⟩
      refine ⟨a1, t0, b1, zs1, rfl, SqL.of (g5 _ _ ha1), hb1.mono g5, fun v6 H6 g6 hv => ?_⟩
      subst hv
      have g6 := g5.trans g6
      have s6 := s5.trans ‹Same H5 H6›
      refine ⟨_, rfl, p, _, 6, _, rfl, rfl, SqT.of (g6 _ _ hp), atI_nat (j := 6) rfl, _, rfl, ?_⟩
      refine ⟨a2, t0, b2, zs2, rfl, SqL.of (g6 _ _ ha2), hb2.mono g6, fun v7 H7 g7 hv => ?_⟩
      subst hv
      have s7 := s6.trans g7
      refine ⟨(by show 2 ≤ sizeLine; decide), fun w hw => ⟨(by show 2 ≤ sizeLine; decide), fun x hx => ?_⟩⟩
      have nwx : w ≠ x := ne_of_none upd_same hx
      have s8 := (s7.trans (same_new hw (.tup [.int (first b1 t0), .int (first b2 t0)]))).trans (same_new hx (.tup [.ref p, .ref w]))
      refine ⟨l, acc, _, rfl, rfl, s8 _ _ hl1, len_less lacc (by decide), ?_⟩
      have g9 : Same H (upd (upd (upd H7 w (.tup [.int (first b1 t0), .int (first b2 t0)])) x (.tup [.ref p, .ref w])) l (.lst (acc ++ [.ref x]))) := Same.mut (g1.trans s8) hl
      have nwl : w ≠ l := ne_of (H := upd (upd H7 w (.tup [.int (first b1 t0), .int (first b2 t0)])) x (.tup [.ref p, .ref w])) (by rw [upd_ne nwx]; exact upd_same) (s8 _ _ hl1) (by intro c; cases c)
      have nxl : x ≠ l := ne_of (H := upd (upd H7 w (.tup [.int (first b1 t0), .int (first b2 t0)])) x (.tup [.ref p, .ref w])) upd_same (s8 _ _ hl1) (by intro c; cases c)
      have t9 : Tk H1 (upd (upd (upd H7 w (.tup [.int (first b1 t0), .int (first b2 t0)])) x (.tup [.ref p, .ref w])) l (.lst (acc ++ [.ref x]))) := Tk.trans (.same s8) (.lst (s8 _ _ hl1) _)
      have pr9 := paired_app (Paired.mapP pr1 fun _ _ h => RowAt.mono t9 h) (paired_one (nw (x := x) (w := w) (ws := [first b1 t0, first b2 t0]) g9 (by rw [upd_ne nxl]; exact upd_same) (by rw [upd_ne nwl, upd_ne nwx]; exact upd_same)))
      generalize hH9 : upd (upd (upd H7 w (.tup [.int (first b1 t0), .int (first b2 t0)])) x (.tup [.ref p, .ref w])) l (.lst (acc ++ [.ref x])) = H9 at g9 t9 pr9
      have hl9 : H9 l = some (.lst (acc ++ [.ref x])) := by rw [← hH9]; exact upd_same
      -- the first body's rows
      refine ⟨_, rfl, .inl ⟨rfl, _, SqL.of hl9⟩, _, rfl, p, _, 5, _, rfl, rfl, SqT.of (g9 _ _ hp), atI_nat (j := 5) rfl, _, rfl, ?_⟩
      refine ⟨a1, t0, b1, rfl, by omega, by omega, ⟨zs1, g9 _ _ ha1, hb1.mono g9⟩, fun vv H10 g10 ⟨l2, ys2, e2, hl2, pr2⟩ => ?_⟩
      subst e2
      have hl10 := g10 _ _ hl9
      have lys2 := pr2.length
      refine ⟨l, l2, _, _, rfl, rfl, hl10, hl2, len_small (m := 1000) (by rw [List.length_append, List.length_singleton]; omega) (by decide), ?_⟩
      have g11 : Same H (upd H10 l (.lst (acc ++ [.ref x] ++ ys2))) := Same.mut (g9.trans g10) hl
      have t11 : Tk H10 (upd H10 l (.lst (acc ++ [.ref x] ++ ys2))) := .lst hl10 _
      have pr11 := paired_app (Paired.mapP pr9 fun _ _ h => RowAt.mono (Tk.trans (.same g10) t11) h) (Paired.mapP pr2 fun _ _ h => RowAt.mono t11 h)
      -- the second body's rows
      refine ⟨_, rfl, .inl ⟨rfl, _, SqL.of upd_same⟩, _, rfl, p, _, 6, _, rfl, rfl, SqT.of (g11 _ _ hp), atI_nat (j := 6) rfl, _, rfl, ?_⟩
      refine ⟨a2, t0, b2, rfl, by omega, by omega, ⟨zs2, g11 _ _ ha2, hb2.mono g11⟩, fun vv H12 g12 ⟨l3, ys3, e3, hl3, pr3⟩ => ?_⟩
      subst e3
      have hl12 := g12 _ _ (upd_same (H := H10) (a := l))
      have lys3 := pr3.length
      refine ⟨l, l3, _, _, rfl, rfl, hl12, hl3, len_small (m := 1000) (by rw [List.length_append, List.length_append, List.length_singleton]; omega) (by decide), ?_⟩
      have t13 : Tk H12 (upd H12 l (.lst (acc ++ [.ref x] ++ ys2 ++ ys3))) := .lst hl12 _
      refine fin (Same.mut (g11.trans g12) hl) upd_same ?_
      have pr13 := paired_app (Paired.mapP pr11 fun _ _ h => RowAt.mono (Tk.trans (.same g12) t13) h) (Paired.mapP pr3 fun _ _ h => RowAt.mono t13 h)
      rw [app4 done] at pr13
      exact pr13
    · obtain ⟨va, vb, _, _, rfl⟩ := id htl
      rw [if_pos (show 0 < Sm.kids (.con .whl lt ea eb') from Nat.zero_lt_one)] at k1
      rw [if_neg (show ¬ 1 < Sm.kids (.con .whl lt ea eb') from Nat.lt_irrefl 1)] at k2
      obtain ⟨zs1, ha1, hb1⟩ := k1
      subst k2
      have lfin : done.length + 1 + (rowsM b1 row).length + 0 ≤ 1000 := lfin
      have g5 := g1.trans s5
      refine ⟨_, rfl, rfl, _, rfl, if_no (show V.str "while" ≠ V.str "if" by decide +kernel) ?_⟩
      refine ⟨_, rfl, rfl, _, rfl, if_yes ?_⟩
      refine ⟨_, rfl, .inl ⟨rfl, _, SqL.of (s5 _ _ hl1)⟩, _, rfl, _, rfl, p, _, 5, _, rfl, rfl, SqT.of (g5 _ _ hp), atI_nat (j := 5) rfl, _, rfl, ?_⟩
      refine ⟨a1, row, b1, zs1, rfl, SqL.of (g5 _ _ ha1), hb1.mono g5, fun v6 H6 g6 hv => ?_⟩
      subst hv
      have s7 := s5.trans g6
      refine ⟨_, rfl, ?_⟩
      refine ⟨(by show 2 ≤ sizeLine; decide), fun w hw => ⟨(by show 2 ≤ sizeLine; decide), fun x hx => ?_⟩⟩
      have nwx : w ≠ x := ne_of_none upd_same hx
      have s8 := (s7.trans (same_new hw (.tup [.int (first b1 row), .int t0]))).trans (same_new hx (.tup [.ref p, .ref w]))
      refine ⟨l, acc, _, rfl, rfl, s8 _ _ hl1, len_less lacc (by decide), ?_⟩
      have g9 : Same H (upd (upd (upd H6 w (.tup [.int (first b1 row), .int t0])) x (.tup [.ref p, .ref w])) l (.lst (acc ++ [.ref x]))) := Same.mut (g1.trans s8) hl
      have nwl : w ≠ l := ne_of (H := upd (upd H6 w (.tup [.int (first b1 row), .int t0])) x (.tup [.ref p, .ref w])) (by rw [upd_ne nwx]; exact upd_same) (s8 _ _ hl1) (by intro c; cases c)
      have nxl : x ≠ l := ne_of (H := upd (upd H6 w (.tup [.int (first b1 row), .int t0])) x (.tup [.ref p, .ref w])) upd_same (s8 _ _ hl1) (by intro c; cases c)
      have t9 : Tk H1 (upd (upd (upd H6 w (.tup [.int (first b1 row), .int t0])) x (.tup [.ref p, .ref w])) l (.lst (acc ++ [.ref x]))) := Tk.trans (.same s8) (.lst (s8 _ _ hl1) _)
      have pr9 := paired_app (Paired.mapP pr1 fun _ _ h => RowAt.mono t9 h) (paired_one (nw (x := x) (w := w) (ws := [first b1 row, t0]) g9 (by rw [upd_ne nxl]; exact upd_same) (by rw [upd_ne nwl, upd_ne nwx]; exact upd_same)))
      generalize hH9 : upd (upd (upd H6 w (.tup [.int (first b1 row), .int t0])) x (.tup [.ref p, .ref w])) l (.lst (acc ++ [.ref x])) = H9 at g9 t9 pr9
      have hl9 : H9 l = some (.lst (acc ++ [.ref x])) := by rw [← hH9]; exact upd_same
      refine ⟨_, rfl, .inl ⟨rfl, _, SqL.of hl9⟩, _, rfl, p, _, 5, _, rfl, rfl, SqT.of (g9 _ _ hp), atI_nat (j := 5) rfl, _, rfl, ?_⟩
      refine ⟨a1, row, b1, rfl, by omega, by omega, ⟨zs1, g9 _ _ ha1, hb1.mono g9⟩, fun vv H10 g10 ⟨l2, ys2, e2, hl2, pr2⟩ => ?_⟩
      subst e2
      have hl10 := g10 _ _ hl9
      have lys2 := pr2.length
      refine ⟨l, l2, _, _, rfl, rfl, hl10, hl2, len_small (m := 1000) (by rw [List.length_append, List.length_singleton]; omega) (by decide), ?_⟩
      have t11 : Tk H10 (upd H10 l (.lst (acc ++ [.ref x] ++ ys2))) := .lst hl10 _
      have pr11 := paired_app (Paired.mapP pr9 fun _ _ h => RowAt.mono (Tk.trans (.same g10) t11) h) (Paired.mapP pr2 fun _ _ h => RowAt.mono t11 h)
      refine fin (Same.mut (g9.trans g10) hl) upd_same ?_
      rw [app3 done] at pr11
      exact pr11
    · have htl0 : tl = [] := htl
      subst htl0
      rw [if_neg (show ¬ 0 < Sm.kids .stop from Nat.lt_irrefl 0)] at k1
      rw [if_neg (show ¬ 1 < Sm.kids .stop from Nat.not_lt_zero 1)] at k2
      subst k1
      subst k2
      refine ⟨_, rfl, rfl, _, rfl, if_no (by decide +kernel) ?_⟩
      refine ⟨_, rfl, rfl, _, rfl, if_no (by decide +kernel) ?_⟩
      refine ⟨_, rfl, rfl, _, rfl, if_yes ?_⟩
      refine ⟨_, rfl, .inl ⟨rfl, _, SqL.of (s5 _ _ hl1)⟩, _, rfl, ?_⟩
      refine ⟨(by show 1 ≤ sizeLine; decide), fun w hw => ⟨(by show 2 ≤ sizeLine; decide), fun x hx => ?_⟩⟩
      exact one w x hw hx rfl rfl
    · have k1' : b1 = .nil := by rw [n4] at k1; exact k1
      have k2' : b2 = .nil := by rw [n4] at k2; exact k2
      subst k1'
      subst k2'
      refine ⟨_, rfl, rfl, _, rfl, if_no n1 ?_⟩
      refine ⟨_, rfl, rfl, _, rfl, if_no n2 ?_⟩
      refine ⟨_, rfl, rfl, _, rfl, if_no n3 ?_⟩
      refine ⟨_, rfl, .inl ⟨rfl, _, SqL.of (s5 _ _ hl1)⟩, _, rfl, _, rfl, ?_⟩
      refine ⟨(by show 1 ≤ sizeLine; decide), fun w hw => ⟨(by show 2 ≤ sizeLine; decide), fun x hx => ?_⟩⟩
      have q := one w x (by exact hw)
      rw [n5] at q
      exact q hx rfl rfl
  · rintro σ H1 ⟨o3, o4, o5, o6, o7, acc, done, rfl, g1, hl1, e1, pr1⟩
    rw [bodyV_end hb] at e1
    have e1 : rowsM b z = done := by rw [e1]; exact List.append_nil _
    rw [← e1] at pr1
    exact ⟨_, rfl, q _ _ g1 ⟨l, acc, rfl, hl1, pr1⟩⟩
theorem cal_rowsOf (g : Gf K mg "rows_of" sRowsOf ["body", "behind"]) (g1 : Gf K mg "first_row" sFirstRow ["body", "behind"]) (ze : mg "enumerate" = none) : ∀ k, Cal P w K mg base "rows_of" (k + 1) ["body", "behind"] (spRowsOf ns k)
  | 0 => g.cal fun f fd F => ⟨fun vs H Q E h => by
      obtain ⟨a, z, b, _, h, _⟩ := h
      exact absurd h (Nat.not_lt_zero _), fun A outer s H args us vs Q E _ _ _ _ h => by
      obtain ⟨a, z, b, _, h, _⟩ := h
      exact absurd h (Nat.not_lt_zero _)⟩
  | k + 1 => g.cal fun f fd F => ok_rowsOf (cal_rowsOf g g1 ze k) (cal_firstRow g1) ze (Nat.succ_le_succ (Nat.zero_le _)) F
end
end Er

namespace Er
open PySem L2
/-! Walker: what is made -/
/-- all but the object at l stands as it stood -/
def But (l : Addr) (G H : Hp) : Prop := ∀ b o, b ≠ l → G b = some o → H b = some o
theorem But.refl (l : Addr) (H : Hp) : But l H H := fun _ _ _ h => h
theorem But.trans {l : Addr} {G H H' : Hp} (a : But l G H) (b : But l H H') : But l G H' := fun x o n h => b x o n (a x o n h)
theorem But.same {l : Addr} {G H : Hp} (s : Same G H) : But l G H := fun b o _ h => s b o h
theorem But.upd {l : Addr} {G H : Hp} (s : But l G H) (o : HO) : But l G (upd H l o) := fun b u n h => by rw [upd_ne n]; exact s b u n h
theorem But.tk {l : Addr} {G H : Hp} (s : But l G H) (n : ∀ xs, G l ≠ some (.tup xs)) : Tk G H := fun a xs h => s a _ (fun e => n xs (e ▸ h)) h
theorem But.out {l : Addr} {F G H : Hp} (s : But l G H) (f : Same F G) (n : F l = none) : Same F H := fun b o h => s b o (ne_of_none h n) (f b o h)
theorem map_of {α β : Type} {ys : List β} {bs : List α} {f : α → β} (hl : ys.length = bs.length) (h : ∀ (i : Nat) y, ys[i]? = some y → ∃ b, bs[i]? = some b ∧ y = f b) : ys = bs.map f := by
  apply List.ext_getElem?
  intro i
  rw [List.getElem?_map]
  by_cases c : i < ys.length
  · obtain ⟨y, hy⟩ := get_lt c
    obtain ⟨b, hb, e⟩ := h i y hy
    rw [hy, hb, e]
    rfl
  · rw [List.getElem?_eq_none_iff.mpr (by omega), List.getElem?_eq_none_iff.mpr (by omega)]
    rfl
theorem paired_of {α β : Type} {G : α → β → Prop} : ∀ {l : List α} {m : List β}, l.length = m.length → (∀ (i : Nat) a b, l[i]? = some a → m[i]? = some b → G a b) → Paired G l m
  | [], [], _, _ => .nil
  | [], _ :: _, h, _ => by simp at h
  | _ :: _, [], h, _ => by simp at h
  | a :: l, b :: m, h, k => .cons (k 0 a b rfl rfl) (paired_of (by simpa using h) fun i x y h1 h2 => k (i + 1) x y (by simpa using h1) (by simpa using h2))
/-- a comprehension without tests, each element new or old, all that stood kept -/
theorem lc_all {J : It} {n : Nat} {G : Hp → Prop} {Y : Nat → Hp → V → Hp → Prop} (w : Walk J n G Y) {g : TG} {te : TE} {vs : List Nat} {σ : St} {H1 : Hp} {D : Addr} {Qd : Hp → Prop} (R : Hp → Nat → V → Prop) (mono : ∀ H H' i y, Tk H H' → R H i y → R H' i y)
    (hD : H1 D = none) (hG : ∀ H, Same H1 H → G H) (hn : n ≤ 100000)
    (hs : ∀ i x H H', i < n → Same H1 H → Y i H x H' → ∀ Q' : V → Hp → Prop, (∀ y H4, Same H H4 → R H4 i y → Q' y H4) → g x (wipe σ vs) H' fun σ2 H2 => wipe σ2 vs = wipe σ vs ∧ te σ2 H2 Q')
    (hd : ∀ H ys, Same H1 H → H D = some (.lst ys) → ys.length = n → (∀ i y, ys[i]? = some y → R H i y) → Qd H) :
    ∃ W : Nat → Nat → Hp → Prop, (∃ m, W 0 m (upd H1 D (.lst []))) ∧ ∀ i m H, W i m H →
      (J.stop i H ∧ Qd H) ∨ (J.go i H ∧ ∃ Nx : Hp → Prop, (∀ H', Nx H' → ∃ m', m' < m ∧ W (i + 1) m' H') ∧ ∀ x H', J.yld i H x H' → g x (wipe σ vs) H' fun σ2 H2 => wipe σ2 vs = wipe σ vs ∧ tYes σ2 H2 fun b H3 =>
        if b = true then te σ2 H3 fun y H4 => ∃ acc, H4 D = some (.lst acc) ∧ acc.length < sizeLine ∧ Nx (upd H4 D (.lst (acc ++ [y]))) else Nx H3) := by
  refine lc_it w (fun i H => Same H1 H ∧ ∃ ys, H D = some (.lst ys) ∧ ys.length = i ∧ ∀ j y, ys[j]? = some y → R H j y) ⟨same_new hD _, [], upd_same, rfl, fun j y h => by simp at h⟩ (fun i H _ p => hG H p.1) (fun i x H H' hi p y => ?_) (fun H p => ?_)
  · obtain ⟨s, ys, hy, hl, hR⟩ := p
    refine hs i x H H' hi s y (fun y H4 => ∃ acc, H4 D = some (.lst acc) ∧ acc.length < sizeLine ∧ (Same H1 (upd H4 D (.lst (acc ++ [y]))) ∧ ∃ ys, (upd H4 D (.lst (acc ++ [y]))) D = some (.lst ys) ∧ ys.length = i + 1 ∧ ∀ j y', ys[j]? = some y' → R (upd H4 D (.lst (acc ++ [y]))) j y')) fun y H4 s4 r4 => ?_
    have t4 : Tk H4 (upd H4 D (.lst (ys ++ [y]))) := .lst (s4 _ _ hy) _
    refine ⟨ys, s4 _ _ hy, len_less (m := n) (by omega) hn, Same.mut (s.trans s4) hD, ys ++ [y], upd_same, by rw [List.length_append, hl]; rfl, fun j y' hj => ?_⟩
    by_cases c : j < ys.length
    · rw [List.getElem?_append_left c] at hj
      exact mono _ _ _ _ (Tk.trans (.same s4) t4) (hR j y' hj)
    · rw [List.getElem?_append_right (by omega)] at hj
      have e : j - ys.length = 0 := by
        have := lt_of_get hj
        simp at this
        omega
      rw [e] at hj
      cases hj
      have e : j = i := by omega
      subst e
      exact mono _ _ _ _ t4 r4
  · obtain ⟨s, ys, hy, hl, hR⟩ := p
    exact hd H ys s hy hl hR

structure Txt (K : PySem.W.Frag) (mg : Str → Option Value) (CW CL : Addr) : Prop where
  clW : Cls K CW
  clL : Cls K CL
  wB : NoAttr K CW "boxes"
  wS : NoAttr K CW "sizes"
  wG : NoAttr K CW "begin"
  wT : NoAttr K CW "statements"
  lB : NoAttr K CL "boxes"
  lS : NoAttr K CL "sizes"
  lT : NoAttr K CL "statements"
  lF : NoAttr K CL "first"
  zTuple : mg "tuple" = none
  zEnum : mg "enumerate" = none
  zZip : mg "zip" = none
  zDict : mg "dict" = none
  zMin : mg "min" = none
  zMax : mg "max" = none
  zAll : mg "all" = none
  zSorted : mg "sorted" = none
  zLen : mg "len" = none
  zInt : mg "int" = none
  zRange : mg "range" = none
/-- the attributes of a Walker, of a Looker -/
def wF (pb ps pt pd : Addr) : List (Str × V) := putF "statements" (.ref pd) (putF "begin" (.ref pt) (putF "sizes" (.ref ps) (putF "boxes" (.ref pb) [])))
theorem s_bs : ¬ (("boxes" : Str) = "sizes") := by decide +kernel
theorem s_bg : ¬ (("boxes" : Str) = "begin") := by decide +kernel
theorem s_bt : ¬ (("boxes" : Str) = "statements") := by decide +kernel
theorem s_sg : ¬ (("sizes" : Str) = "begin") := by decide +kernel
theorem s_st : ¬ (("sizes" : Str) = "statements") := by decide +kernel
theorem s_gt : ¬ (("begin" : Str) = "statements") := by decide +kernel
section
variable (pb ps pt pd : Addr)
theorem wF_B : (wF pb ps pt pd).lookup ("boxes" : Str) = some (.ref pb) := by
  unfold wF
  rw [lookup_putF, if_neg s_bt, lookup_putF, if_neg s_bg, lookup_putF, if_neg s_bs, lookup_putF, if_pos rfl]
theorem wF_S : (wF pb ps pt pd).lookup ("sizes" : Str) = some (.ref ps) := by
  unfold wF
  rw [lookup_putF, if_neg s_st, lookup_putF, if_neg s_sg, lookup_putF, if_pos rfl]
theorem wF_G : (wF pb ps pt pd).lookup ("begin" : Str) = some (.ref pt) := by
  unfold wF
  rw [lookup_putF, if_neg s_gt, lookup_putF, if_pos rfl]
theorem wF_T : (wF pb ps pt pd).lookup ("statements" : Str) = some (.ref pd) := by
  unfold wF
  rw [lookup_putF, if_pos rfl]
theorem wF_no {m : Str} (h1 : ¬ m = "statements") (h2 : ¬ m = "begin") (h3 : ¬ m = "sizes") (h4 : ¬ m = "boxes") : (wF pb ps pt pd).lookup m = none := by
  unfold wF
  rw [lookup_putF, if_neg h1, lookup_putF, if_neg h2, lookup_putF, if_neg h3, lookup_putF, if_neg h4]
  rfl
end
theorem putF_less {f : Str} {v : V} {fs : List (Str × V)} {n : Nat} (h : fs.length ≤ n) : (putF f v fs).length ≤ n + 1 := by
  have := length_putF f v fs
  omega
def DS (ns : List Str) (H : Hp) : Option V → Int → Option (Sm × List Int) → Prop
  | none, _, none => True
  | some v, r, some x => RowAt ns H v (r, x.1, x.2)
  | _, _, _ => False
def DictS (ns : List Str) (H : Hp) (d : Addr) (T : Tab) : Prop := ∃ kvs, H d = some (.dK kvs) ∧ ∀ r : Int, DS ns H (valV kvs (Sum.inl r)) r (T r)
theorem DS.mono {ns : List Str} {H H' : Hp} (t : Tk H H') : ∀ {o : Option V} {r : Int} {x : Option (Sm × List Int)}, DS ns H o r x → DS ns H' o r x
  | none, _, none, h => h
  | some _, _, some _, h => RowAt.mono t h
  | none, _, some _, h => h.elim
  | some _, _, none, h => h.elim
theorem DictS.mono {ns : List Str} {H H' : Hp} (t : Same H H') {d : Addr} {T : Tab} (h : DictS ns H d T) : DictS ns H' d T := by
  obtain ⟨kvs, a, b⟩ := h
  exact ⟨kvs, t _ _ a, fun r => (b r).mono (.same t)⟩
theorem DictS.put {ns : List Str} {H : Hp} {d : Addr} {L : List (Int × Sm × List Int)} {e : Int × Sm × List Int} {kvs : List (Key × V)} {v : V} (h : ∀ r : Int, DS ns H (valV kvs (Sum.inl r)) r (tabOf L r)) (hv : RowAt ns H v e) :
    ∀ r : Int, DS ns H (valV (putK kvs (Sum.inl e.1) v) (Sum.inl r)) r (tabOf (L ++ [e]) r) := fun r => by
  rw [valV_put, tabOf_snoc]
  by_cases c : r = e.1
  · subst c
    rw [if_pos rfl, if_pos rfl]
    exact hv
  · rw [if_neg c, if_neg (fun z => c (Sum.inl.inj z))]
    exact h r
structure WkAt (CW : Addr) (ns : List Str) (sz : List Int) (r0 : Int) (v0 : List Int) (T : Tab) (H : Hp) (x : Addr) : Prop where
  at_ : ∃ (dx pb ps pt pd : Addr) (vv : V), H x = some (.ins CW dx (wF pb ps pt pd)) ∧ H pb = some (.lst (ns.map V.str)) ∧ H ps = some (.lst (sz.map V.int)) ∧ H pt = some (.tup [.int r0, vv]) ∧ VsAt H vv v0 ∧ DictS ns H pd T
theorem WkAt.mono {CW : Addr} {ns : List Str} {sz : List Int} {r0 : Int} {v0 : List Int} {T : Tab} {H H' : Hp} {x : Addr} (t : Same H H') (h : WkAt CW ns sz r0 v0 T H x) : WkAt CW ns sz r0 v0 T H' x := by
  obtain ⟨dx, pb, ps, pt, pd, vv, a, b, c, d, e, f⟩ := h.at_
  exact ⟨dx, pb, ps, pt, pd, vv, t _ _ a, t _ _ b, t _ _ c, t _ _ d, e.mono (.same t), f.mono t⟩
/-- the program's names, sizes, firsts -/
abbrev bnm (bs : Bxs) : List Str := bs.map (·.1)
abbrev bsz (bs : Bxs) : List Int := bs.map (·.2.1)
abbrev bfs (bs : Bxs) : List Int := bs.map (·.2.2)
abbrev btb (b : Bdy) : Tab := tabOf (rowsM b 0)
end Er

namespace Er
open PySem L2
section
variable {P : Program} {w : World} {K : PySem.W.Frag} {mg : Str → Option Value} {base : Heap} {f : Addr} {fd : FuncData} {ns : List Str} {CW CL : Addr}
def spWInit (CW : Addr) : Sp := fun vs H Q _ => ∃ (H0 : Hp) (x dx : Addr) (v : V) (bs : Bxs) (b : Bdy), vs = [.ref x, v] ∧ Same H0 H ∧ H0 x = none ∧ H x = some (.ins CW dx []) ∧ PgAt (bnm bs) bs b H0 v ∧ b.size ≤ 30 ∧ bs.length ≤ 1000 ∧
  ∀ H', Same H0 H' → WkAt CW (bnm bs) (bsz bs) (first b 0) (bfs bs) (btb b) H' x → Q .non H'
theorem scWInit : FnScope ["self", "program", "statement", "ways", "box"] ["self", "program"] (defScope sWInit) := ⟨rfl, rfl, rfl, by decide +kernel, rfl, by decide +kernel, by decide +kernel⟩
theorem ok_winit (T : Txt K mg CW CL) (C1 : ∀ ns, Cal P w K mg base "first_row" 1 ["body", "behind"] (spFirstRow ns K)) (C2 : ∀ ns, Cal P w K mg base "rows_of" 40 ["body", "behind"] (spRowsOf ns 39)) (F : Fun K "__init__" "Walker.__init__" sWInit f fd) :
    FnOk P w K mg base CX0 41 f fd ["self", "program"] (spWInit CW) := by
  refine F.ok scWInit (fun vs H Q E h => ?_) (fun cdv A outer s H vs Q E hr h => ?_)
  · obtain ⟨H0, x, dx, v, bs, b, rfl, _⟩ := h
    rfl
  obtain ⟨H0, x, dx, v, bs, b, rfl, s0, x0, hx, ⟨p, bv, a, rfl, hp, ⟨bl, bvs, rfl, hbl, hbs⟩, hb⟩, hsz, hln, q⟩ := h
  have nd := scWInit.nd
  have hr1 : Room 1 _ := hr.mono (by decide)
  have lbs := hbs.length
  obtain ⟨ys, hys, hbv⟩ := id hb
  refine ⟨_, pss_cons (ps_fld (pv 0) (pe_lc (own := [("box", 4)]) (g := gName 4) (tt := tYes) (te := tOp (rIxT K) (tVar 4) (tC (.int 0))) rfl nd (pi_list (pe_ix ix_tup (pv 1) pe_int (fun _ _ => rfl))) (blkOk_by (N := ["self", "program", "statement", "ways", "box"]) (sc := defScope sWInit) (by decide +kernel))
      (fun _ _ _ _ _ => pg_name (i := 4) nd rfl (.inl rfl)) (fun _ _ _ _ _ => pts_nil) (fun _ _ _ _ _ => pe_ix ix_tup (pv 4) pe_int (fun _ _ => rfl))) rfl)
    (pss_cons (ps_fld (pv 0) (pe_lc (own := [("box", 4)]) (g := gName 4) (tt := tYes) (te := tOp (rIxT K) (tVar 4) (tC (.int 1))) rfl nd (pi_list (pe_ix ix_tup (pv 1) pe_int (fun _ _ => rfl))) (blkOk_by (N := ["self", "program", "statement", "ways", "box"]) (sc := defScope sWInit) (by decide +kernel))
      (fun _ _ _ _ _ => pg_name (i := 4) nd rfl (.inl rfl)) (fun _ _ _ _ _ => pts_nil) (fun _ _ _ _ _ => pe_ix ix_tup (pv 4) pe_int (fun _ _ => rfl))) rfl)
    (pss_cons (ps_fld (pv 0) (pe_tup (pa_cons (pe_cal (C1 (bnm bs)) hr1 (pa_cons (pe_ix ix_tup (pv 1) pe_int (fun _ _ => rfl)) (pa_cons pe_int pa_nil))) (pa_cons (pe_callTy call_tuple_of (by rfl) T.zTuple (by decide +kernel) (pa_cons
      (pe_lc (own := [("box", 4)]) (g := gName 4) (tt := tYes) (te := tOp (rIxT K) (tVar 4) (tC (.int 2))) rfl nd (pi_list (pe_ix ix_tup (pv 1) pe_int (fun _ _ => rfl))) (blkOk_by (N := ["self", "program", "statement", "ways", "box"]) (sc := defScope sWInit) (by decide +kernel))
      (fun _ _ _ _ _ => pg_name (i := 4) nd rfl (.inl rfl)) (fun _ _ _ _ _ => pts_nil) (fun _ _ _ _ _ => pe_ix ix_tup (pv 4) pe_int (fun _ _ => rfl))) pa_nil)) pa_nil))) rfl)
    (pss_cons (ps_fld (pv 0) pe_dnewK rfl)
    (pss_one (ps_for PassesOwn.never rfl (pi_list (pe_cal (C2 (bnm bs)) (hr.mono (by decide)) (pa_cons (pe_ix ix_tup (pv 1) pe_int (fun _ _ => rfl)) (pa_cons pe_int pa_nil)))) (pg_tup rfl (pgs_cons (pg_name (i := 2) nd rfl (.inl rfl)) (pgs_cons (pg_name (i := 3) nd rfl (.inl rfl)) pgs_nil)))
      (pss_one (ps_dput (hu_of hr) (pe_fld (pv 0) rfl) (pe_ix ix_tup (pv 2) pe_int (fun _ _ => rfl)) (pe_tup (pa_cons (pv 2) (pa_cons (pv 3) pa_nil))) rfl))))))), ?_⟩
  -- self.boxes
  have hp1 := s0 _ _ hp
  have hbl1 := s0 _ _ hbl
  refine ⟨_, rfl, p, _, 0, _, rfl, rfl, SqT.of hp1, rfl, bl, rfl, ⟨bvs, SqL.of hbl1⟩, fun D1 hD1 => lc_all (walk_list (xs := bvs)) (fun _ i y => ∃ c, bs[i]? = some c ∧ y = .str c.1) (fun _ _ _ _ _ h => h) hD1 (fun H s => s.seq (SqL.of hbl1)) (by omega) (fun i y H3 H4 hi s3 hy Q' k => ?_) (fun H2 zs1 s2 hz1 hl1 hR1 => ?_)⟩
  · obtain ⟨rfl, hy⟩ := hy
    obtain ⟨c, hc⟩ := get_lt (l := bs) (j := i) (by omega)
    obtain ⟨y', hy', ⟨pb, rfl, hpb⟩⟩ := pget hbs hc
    rw [hy] at hy'
    cases hy'
    refine ⟨rfl, _, rfl, pb, _, 0, _, rfl, rfl, SqT.of (s3 _ _ (s0 _ _ hpb)), rfl, ?_⟩
    exact k _ _ (Same.refl _) ⟨c, hc, rfl⟩
  rw [map_of (f := fun c => V.str c.1) (hl1.trans lbs) hR1] at hz1
  have hx2 := s2 _ _ hx
  refine ⟨_, rfl, x, CW, dx, _, rfl, hx2, T.clW, T.wB, by decide, ?_⟩
  generalize hH3 : upd H2 x (.ins CW dx (putF "boxes" (.ref D1) [])) = H3
  have x3 : H3 x = some (.ins CW dx (putF "boxes" (.ref D1) [])) := by rw [← hH3]; exact upd_same
  have s3 : Same H0 H3 := by rw [← hH3]; exact Same.mut (s0.trans s2) x0
  have d1 : H3 D1 = some (.lst (bs.map fun c => V.str c.1)) := by rw [← hH3, upd_ne (ne_of hz1 hx2 (by intro c; cases c))]; exact hz1
  clear hH3 hz1 hx2 s2 hR1 hl1 hD1 hp1 hbl1 H2
  -- self.sizes
  refine ⟨_, rfl, p, _, 0, _, rfl, rfl, SqT.of (s3 _ _ hp), rfl, bl, rfl, ⟨bvs, SqL.of (s3 _ _ hbl)⟩, fun D2 hD2 => lc_all (walk_list (xs := bvs)) (fun _ i y => ∃ c, bs[i]? = some c ∧ y = .int c.2.1) (fun _ _ _ _ _ h => h) hD2 (fun H s => s.seq (SqL.of (s3 _ _ hbl))) (by omega) (fun i y H5 H4 hi s5 hy Q' k => ?_) (fun H4 zs1 s4 hz1 hl1 hR1 => ?_)⟩
  · obtain ⟨rfl, hy⟩ := hy
    obtain ⟨c, hc⟩ := get_lt (l := bs) (j := i) (by omega)
    obtain ⟨y', hy', ⟨pb, rfl, hpb⟩⟩ := pget hbs hc
    rw [hy] at hy'
    cases hy'
    refine ⟨rfl, _, rfl, pb, _, 1, _, rfl, rfl, SqT.of (s5 _ _ (s3 _ _ hpb)), rfl, ?_⟩
    exact k _ _ (Same.refl _) ⟨c, hc, rfl⟩
  rw [map_of (f := fun c => V.int c.2.1) (hl1.trans lbs) hR1] at hz1
  have hx4 := s4 _ _ x3
  refine ⟨_, rfl, x, CW, dx, _, rfl, hx4, T.clW, T.wS, Nat.lt_of_le_of_lt (putF_less (Nat.le_refl 0)) (by decide), ?_⟩
  generalize hH5 : upd H4 x (.ins CW dx (putF "sizes" (.ref D2) (putF "boxes" (.ref D1) []))) = H5
  have x5 : H5 x = some (.ins CW dx (putF "sizes" (.ref D2) (putF "boxes" (.ref D1) []))) := by rw [← hH5]; exact upd_same
  have s5 : Same H0 H5 := by rw [← hH5]; exact Same.mut (s3.trans s4) x0
  have d15 : H5 D1 = some (.lst (bs.map fun c => V.str c.1)) := by rw [← hH5, upd_ne (ne_of (s4 _ _ d1) hx4 (by intro c; cases c))]; exact s4 _ _ d1
  have d25 : H5 D2 = some (.lst (bs.map fun c => V.int c.2.1)) := by rw [← hH5, upd_ne (ne_of hz1 hx4 (by intro c; cases c))]; exact hz1
  clear hH5 hz1 hx4 s4 hR1 hl1 hD2 d1 x3 s3 H3 H4
  -- self.begin
  refine ⟨_, rfl, p, _, 1, _, rfl, rfl, SqT.of (s5 _ _ hp), rfl, ?_⟩
  refine ⟨a, 0, b, ys, rfl, SqL.of (s5 _ _ hys), hbv.mono s5, fun v6 H6 s6 hv => ?_⟩
  subst hv
  have s06 := s5.trans s6
  refine ⟨_, rfl, p, _, 0, _, rfl, rfl, SqT.of (s06 _ _ hp), rfl, bl, rfl, ⟨bvs, SqL.of (s06 _ _ hbl)⟩, fun D3 hD3 => lc_all (walk_list (xs := bvs)) (fun _ i y => ∃ c, bs[i]? = some c ∧ y = .int c.2.2) (fun _ _ _ _ _ h => h) hD3 (fun H s => s.seq (SqL.of (s06 _ _ hbl))) (by omega) (fun i y H9 H4 hi s9 hy Q' k => ?_) (fun H7 zs1 s7 hz1 hl1 hR1 => ?_)⟩
  · obtain ⟨rfl, hy⟩ := hy
    obtain ⟨c, hc⟩ := get_lt (l := bs) (j := i) (by omega)
    obtain ⟨y', hy', ⟨pb, rfl, hpb⟩⟩ := pget hbs hc
    rw [hy] at hy'
    cases hy'
    refine ⟨rfl, _, rfl, pb, _, 2, _, rfl, rfl, SqT.of (s9 _ _ (s06 _ _ hpb)), rfl, ?_⟩
    exact k _ _ (Same.refl _) ⟨c, hc, rfl⟩
  rw [map_of (f := fun c => V.int c.2.2) (hl1.trans lbs) hR1] at hz1
  refine ⟨D3, _, rfl, .inl ⟨SqL.of hz1, fun D4 hD4 => ⟨by show 2 ≤ sizeLine; decide, fun D5 hD5 => ?_⟩⟩⟩
  have s58 := ((s6.trans s7).trans (same_new hD4 (.tup (bs.map fun c => V.int c.2.2)))).trans (same_new hD5 (.tup [.int (first b 0), .ref D4]))
  have n45 : D4 ≠ D5 := ne_of_none upd_same hD5
  have hx8 := s58 _ _ x5
  refine ⟨_, rfl, x, CW, dx, _, rfl, hx8, T.clW, T.wG, Nat.lt_of_le_of_lt (putF_less (putF_less (Nat.le_refl 0))) (by decide), ?_⟩
  have d48 : upd (upd H7 D4 (.tup (bs.map fun c => V.int c.2.2))) D5 (.tup [.int (first b 0), .ref D4]) D4 = some (.tup (bs.map fun c => V.int c.2.2)) := by rw [upd_ne n45]; exact upd_same
  have d58 : upd (upd H7 D4 (.tup (bs.map fun c => V.int c.2.2))) D5 (.tup [.int (first b 0), .ref D4]) D5 = some (.tup [.int (first b 0), .ref D4]) := upd_same
  generalize upd (upd H7 D4 (.tup (bs.map fun c => V.int c.2.2))) D5 (.tup [.int (first b 0), .ref D4]) = H8 at s58 hx8 d48 d58
  generalize hH9 : upd H8 x (.ins CW dx (putF "begin" (.ref D5) (putF "sizes" (.ref D2) (putF "boxes" (.ref D1) [])))) = H9
  have x9 : H9 x = some (.ins CW dx (putF "begin" (.ref D5) (putF "sizes" (.ref D2) (putF "boxes" (.ref D1) [])))) := by rw [← hH9]; exact upd_same
  have s9 : Same H0 H9 := by rw [← hH9]; exact Same.mut (s5.trans s58) x0
  have d19 : H9 D1 = some (.lst (bs.map fun c => V.str c.1)) := by rw [← hH9, upd_ne (ne_of (s58 _ _ d15) hx8 (by intro c; cases c))]; exact s58 _ _ d15
  have d29 : H9 D2 = some (.lst (bs.map fun c => V.int c.2.1)) := by rw [← hH9, upd_ne (ne_of (s58 _ _ d25) hx8 (by intro c; cases c))]; exact s58 _ _ d25
  have d49 : H9 D4 = some (.tup (bs.map fun c => V.int c.2.2)) := by rw [← hH9, upd_ne (ne_of d48 hx8 (by intro c; cases c))]; exact d48
  have d59 : H9 D5 = some (.tup [.int (first b 0), .ref D4]) := by rw [← hH9, upd_ne (ne_of d58 hx8 (by intro c; cases c))]; exact d58
  clear hH9 hx8 d48 d58 s58 hD4 hD5 n45 hz1 hR1 hl1 s7 hD3 s06 s6 d15 d25 x5 s5 H5 H6 H7 H8 D3
  -- self.statements
  refine fun D6 hD6 => ⟨_, rfl, x, CW, dx, _, rfl, by rw [upd_ne (ne_of_none x9 hD6)]; exact x9, T.clW, T.wT, Nat.lt_of_le_of_lt (putF_less (putF_less (putF_less (Nat.le_refl 0)))) (by decide), ?_⟩
  have nx6 : D6 ≠ x := (ne_of_none x9 hD6).symm
  have s10 := same_new hD6 (.dK [])
  have x10 := s10 _ _ x9
  generalize hH11 : upd (upd H9 D6 (.dK [])) x (.ins CW dx (putF "statements" (.ref D6) (putF "begin" (.ref D5) (putF "sizes" (.ref D2) (putF "boxes" (.ref D1) []))))) = H11
  have x11 : H11 x = some (.ins CW dx (wF D1 D2 D5 D6)) := by rw [← hH11]; exact upd_same
  have s11 : Same H0 H11 := by rw [← hH11]; exact Same.mut (s9.trans s10) x0
  have d1 : H11 D1 = some (.lst (bs.map fun c => V.str c.1)) := by rw [← hH11, upd_ne (ne_of (s10 _ _ d19) x10 (by intro c; cases c))]; exact s10 _ _ d19
  have d2 : H11 D2 = some (.lst (bs.map fun c => V.int c.2.1)) := by rw [← hH11, upd_ne (ne_of (s10 _ _ d29) x10 (by intro c; cases c))]; exact s10 _ _ d29
  have d4 : H11 D4 = some (.tup (bs.map fun c => V.int c.2.2)) := by rw [← hH11, upd_ne (ne_of (s10 _ _ d49) x10 (by intro c; cases c))]; exact s10 _ _ d49
  have d5 : H11 D5 = some (.tup [.int (first b 0), .ref D4]) := by rw [← hH11, upd_ne (ne_of (s10 _ _ d59) x10 (by intro c; cases c))]; exact s10 _ _ d59
  have d6 : H11 D6 = some (.dK []) := by rw [← hH11, upd_ne nx6]; exact upd_same
  have n60 : H0 D6 = none := s9.free hD6
  clear hH11 x10 s10 nx6 hD6 x9 s9 d19 d29 d49 d59 H9
  -- the loop over the rows
  refine ⟨_, rfl, p, _, 1, _, rfl, rfl, SqT.of (s11 _ _ hp), rfl, a, 0, b, rfl, Nat.lt_of_le_of_lt (dep_size b) (by omega), by omega, hb.mono s11, fun vv H12 s12 ⟨l, rv, e, hl, prs⟩ => ?_⟩
  subst e
  have lrv := prs.length
  rw [rowsM_len] at lrv
  have x12 := s12 _ _ x11
  have d62 := s12 _ _ d6
  refine ⟨l, rfl, ⟨rv, SqL.of hl⟩, for_list (xs := rv) (fun i σ H' => ∃ (o2 o3 o4 : Option V) (kvs : List (Key × V)), σ = [some (.ref x), some (.ref p), o2, o3, o4] ∧ But D6 H12 H' ∧ H' D6 = some (.dK kvs) ∧ kvs.length ≤ i ∧
      ∀ r : Int, DS (bnm bs) H' (valV kvs (Sum.inl r)) r (tabOf ((rowsM b 0).take i) r))
    ⟨none, none, none, [], rfl, .refl _ _, d62, Nat.le_refl _, fun r => trivial⟩ (fun i σ H' _ ⟨_, _, _, _, _, bt, _⟩ => SqL.of (bt _ _ (ne_of hl d62 (by intro c; cases c)) hl)) ?_ ?_⟩
  · rintro i y σ H13 hi ⟨o2, o3, o4, kvs, rfl, bt, hd, hlen, hds⟩
    obtain ⟨e, he⟩ := get_lt (l := rowsM b 0) (j := i) (by rw [rowsM_len, ← lrv]; exact lt_of_get hi)
    obtain ⟨y', hy', ra⟩ := pget prs he
    rw [hi] at hy'
    cases hy'
    have tk : Tk H12 H13 := bt.tk (fun xs z => by rw [d62] at z; cases z)
    obtain ⟨pe, te, we, kids, rfl, hpe, ⟨ps, tl, rfl, htl, hps⟩, hw⟩ := RowAt.mono tk ra
    refine ⟨pe, _, rfl, SqT.of hpe, rfl, _, _, rfl, _, _, rfl, rfl, ?_⟩
    refine ⟨_, rfl, _, rfl, by show 2 ≤ sizeLine; decide, fun u hu => ?_⟩
    have g := same_new hu (.tup [.ref ps, we])
    refine ⟨_, rfl, x, CW, dx, _, _, rfl, g _ _ (bt _ _ (ne_of x12 d62 (by intro c; cases c)) x12), T.clW, T.wT, wF_T _ _ _ _, ?_⟩
    refine ⟨_, rfl, ps, _, 1, _, rfl, rfl, SqT.of (g _ _ hps), atI_nat (j := 1) rfl, ?_⟩
    refine ⟨D6, _, rfl, DPut.k (k := Sum.inl e.1) (g _ _ hd) (len_less (m := 100) (by have := lt_of_get hi; omega) (by decide)), ?_⟩
    have ntu : u ≠ D6 := (ne_of_none hd hu).symm
    have tk2 : Tk H13 (upd (upd H13 u (.tup [.ref ps, we])) D6 (.dK (putK kvs (Sum.inl e.1) (.ref u)))) := Tk.trans (.same g) (.dict (g _ _ hd) _)
    refine ⟨_, _, _, _, rfl, (bt.trans (.same g)).upd _, upd_same, ?_, fun r => ?_⟩
    · have : (putK kvs (Sum.inl e.1) (V.ref u)).length ≤ kvs.length + 1 := length_putK _ _ _
      omega
    · have et : (rowsM b 0).take (i + 1) = (rowsM b 0).take i ++ [e] := by rw [List.take_add_one, he]; rfl
      rw [et]
      refine DictS.put (d := D6) (fun r => (hds r).mono tk2) ?_ r
      exact ⟨u, .ref ps, we, kids, rfl, by rw [upd_ne ntu]; exact upd_same, StAt.mono tk2 ⟨ps, tl, rfl, htl, hps⟩, hw.mono tk2⟩
  · rintro σ H13 ⟨o2, o3, o4, kvs, rfl, bt, hd, hlen, hds⟩
    have nd6 : ∀ {c : Addr} {o : HO}, H12 c = some o → (∀ kvs, o ≠ .dK kvs) → c ≠ D6 := fun h n => ne_of h d62 (n _)
    refine q H13 (bt.out (s11.trans s12) n60) ⟨dx, D1, D2, D5, D6, _, ?_, ?_, ?_, ?_, ⟨D4, rfl, ?_⟩, kvs, hd, ?_⟩
    · exact bt _ _ (nd6 x12 fun _ z => by cases z) x12
    · have := bt _ _ (nd6 (s12 _ _ d1) fun _ z => by cases z) (s12 _ _ d1)
      rw [List.map_map]
      exact this
    · have := bt _ _ (nd6 (s12 _ _ d2) fun _ z => by cases z) (s12 _ _ d2)
      rw [List.map_map]
      exact this
    · exact bt _ _ (nd6 (s12 _ _ d5) fun _ z => by cases z) (s12 _ _ d5)
    · have := bt _ _ (nd6 (s12 _ _ d4) fun _ z => by cases z) (s12 _ _ d4)
      rw [List.map_map]
      exact this
    · have e : (rowsM b 0).take rv.length = rowsM b 0 := List.take_of_length_le (by rw [rowsM_len]; omega)
      rw [e] at hds
      exact hds
end
end Er

/-! dict(zip(xs, t)) of a list and a tuple: zip over two sources of any kind, as an argument of dict -/
namespace Zg
open PySem
open PySem.Sem (wp)
open PySem.W (KdxIt kdx_alive)
/-- what a zip draws from: the iterator it over l, its items told by its places -/
structure Src (prog : Program) (w : World) (it l : Addr) (pick : Nat → Option Value) (Z : Nat → Heap → Prop) : Prop where
  own : ∀ i h, Z i h → (∃ o, h.get? it = some o) ∧ ∃ o, h.get? l = some o
  hold : ∀ i h h', Z i h → (∀ o, h.get? it = some o → h'.get? it = some o) → (∀ o, h.get? l = some o → h'.get? l = some o) → Z i h'
  more : ∀ (A : Around) (E : Value → Shared → Prop) (i : Nat) (x : Value) (s : Shared) (Q : Value → Shared → Prop), Z i s.heap → pick i = some x →
    (∀ h', Z (i + 1) h' → Heap.SameBut it s.heap h' → Q x { s with heap := h' }) → wpAny (model prog w) A (Builtin.SmallTypes.nextOf (.ref it)) Q E s
  over : ∀ (A : Around) (E : Value → Shared → Prop) (i : Nat) (s : Shared) (Q : Value → Shared → Prop), A.handled = none → Z i s.heap → pick i = none →
    (∀ h' e, Heap.ExtBut it s.heap h' → (∃ o, h'.get? e = some o ∧ o.cls = .type "StopIteration") → E (.ref e) { s with heap := h' }) → wpAny (model prog w) A (Builtin.SmallTypes.nextOf (.ref it)) Q E s
theorem srcList {prog : Program} {w : World} {it l : Addr} {xs : Array Value} (ne : l ≠ it) : Src prog w it l (fun i => xs[i]?) (fun i h => h.IsListIter it l i ∧ h.IsList l xs) where
  own := fun i h z => by
    obtain ⟨⟨o, a, _⟩, ⟨q, b, _⟩⟩ := z
    exact ⟨⟨o, a⟩, ⟨q, b⟩⟩
  hold := fun i h h' z k1 k2 => ⟨z.1.at fun o e => k1 o e, z.2.at fun o e => k2 o e⟩
  more := fun A E i x s Q z hx k => wpAny_nextOf_list_item z.1 z.2 hx fun h' a b => k h' ⟨a, z.2.extBut b.extBut ne⟩ b
  over := fun A E i s Q hh z hx k => wpAny_nextOf_list_end hh z.1 z.2 hx fun h' e a b => k h' e a b
theorem srcTup {prog : Program} {w : World} {it l : Addr} {xs : Array Value} (ne : l ≠ it) : Src prog w it l (fun i => xs[i]?) (fun i h => h.IsTupleIter it l i ∧ h.IsTuple l xs) where
  own := fun i h z => by
    obtain ⟨⟨o, a, _⟩, ⟨q, b, _⟩⟩ := z
    exact ⟨⟨o, a⟩, ⟨q, b⟩⟩
  hold := fun i h h' z k1 k2 => ⟨z.1.at fun o e => k1 o e, z.2.at fun o e => k2 o e⟩
  more := fun A E i x s Q z hx k => RZ.nextOf_tuple_item z.1 z.2 hx fun h' a b => k h' ⟨a, z.2.extBut b.extBut ne⟩ b
  over := fun A E i s Q hh z hx k => RZ.nextOf_tuple_end hh z.1 z.2 hx fun h' e a b => k h' e a b
section
variable {prog : Program} {w : World} {A : Around} {E : Value → Shared → Prop} {s : Shared} {z TI TO T i1 i2 l1 l2 : Addr} {p1 p2 : Nat → Option Value} {Z1 Z2 : Nat → Heap → Prop} {k : Nat} {x y a b : Value} {f : Bool} {oT : Obj}
/-- the pair tuple of the zip is still out: a new one is made -/
theorem item_held {Q : Value → Shared → Prop} (S1 : Src prog w i1 l1 p1 Z1) (S2 : Src prog w i2 l2 p2 Z2) (D : ZipApart z TI TO i1 i2 l1 l2) (hz : IsZipHeld s.heap z TI TO T f) (hT : s.heap.get? T = some oT) (hTI : IsPair s.heap TI (.ref i1) (.ref i2))
    (h1 : Z1 k s.heap) (h2 : Z2 k s.heap) (hx : p1 k = some x) (hy : p2 k = some y)
    (hQ : ∀ h', IsZipHeld h' z TI TO T true → Z1 (k + 1) h' → Z2 (k + 1) h' → IsPair h' s.heap.objs.size x y → h'.objs.size = s.heap.objs.size + 1 →
      (∀ c o, c ≠ z → c ≠ i1 → c ≠ i2 → s.heap.get? c = some o → h'.get? c = some o) → Q (.ref s.heap.objs.size) { s with heap := h' }) :
    wpAny (model prog w) A (Builtin.«zip.__next__» ⟨[.ref z], []⟩) (fun fin s' => ∃ v, fin = .done (.ret v) ∧ Q v s') E s := by
  show wpAny _ _ (field (.ref z) 2 >>= _) _ _ _
  refine wpAny_bind (wpAny_field hz rfl (x := .bool false) rfl ?_)
  show wpAny _ _ (field (.ref z) 3 >>= _) _ _ _
  refine wpAny_bind (wpAny_field hz rfl (x := .ref TI) rfl (wpAny_bind (wpAny_seqItems hTI rfl ?_)))
  show wpAny _ _ (Builtin.SmallTypes.ownedTupleIsFree (.ref z) >>= _) _ _ _
  refine wpAny_bind (wpAny_tupleHeld_zip hz hT fun g1 z1 b1 => ?_)
  simp only [Bool.false_eq_true, if_false]
  refine wpAny_bind ?_
  rw [← Array.forIn_toList]
  simp only [List.forIn_cons, List.forIn_nil]
  refine wpAny_bind (wpAny_bind (wpAny_holding ?_))
  show wpAny _ _ (Builtin.SmallTypes.nextOf (.ref i1) >>= _) _ _ _
  refine wpAny_bind (S1.more _ _ k x { s with heap := g1 } _ (S1.hold _ _ _ h1 (fun o e => b1.extBut _ _ D.i1z e) fun o e => b1.extBut _ _ D.l1z e) hx fun g2 m1 b2 => wpAny_pure (wpAny_pure ?_))
  refine wpAny_bind (wpAny_bind (wpAny_holding ?_))
  show wpAny _ _ (Builtin.SmallTypes.nextOf (.ref i2) >>= _) _ _ _
  refine wpAny_bind (S2.more _ _ k y { s with heap := g2 } _ (S2.hold _ _ _ h2 (fun o e => b2.extBut _ _ D.i12.symm (b1.extBut _ _ D.i2z e)) fun o e => b2.extBut _ _ D.l2i1 (b1.extBut _ _ D.l2z e)) hy fun g3 m2 b3 => wpAny_pure (wpAny_pure (wpAny_pure ?_)))
  show wpAny _ _ (newTuple [x, y] >>= _) _ _ _
  refine wpAny_bind (wpAny_newTuple (wpAny_pure ⟨_, rfl, ?_⟩))
  have sz : g3.objs.size = s.heap.objs.size := by rw [b3.1, b2.1, b1.1]
  have z3 : IsZipHeld g3 z TI TO T true := b3.extBut _ _ D.i2z.symm (b2.extBut _ _ D.i1z.symm z1)
  have old : ∀ c o, c ≠ z → c ≠ i1 → c ≠ i2 → s.heap.get? c = some o → g3.get? c = some o := fun c o c1 c2 c3 e => b3.extBut _ _ c3 (b2.extBut _ _ c2 (b1.extBut _ _ c1 e))
  have m13 : Z1 (k + 1) g3 := S1.hold _ _ _ m1 (fun o e => b3.extBut _ _ D.i12 e) fun o e => b3.extBut _ _ D.l1i2 e
  show Q (.ref g3.objs.size) _
  have new : IsPair (g3.push { cls := .type "tuple", data := .seq #[x, y] }) g3.objs.size x y := Heap.get?_push_size _ rfl
  have sz4 : (g3.push { cls := .type "tuple", data := .seq #[x, y] }).objs.size = g3.objs.size + 1 := Heap.size_push ..
  rw [sz] at new sz4 ⊢
  exact hQ _ (Heap.get?_push_of_some _ z3) (S1.hold _ _ _ m13 (fun o e => Heap.get?_push_of_some _ e) fun o e => Heap.get?_push_of_some _ e) (S2.hold _ _ _ m2 (fun o e => Heap.get?_push_of_some _ e) fun o e => Heap.get?_push_of_some _ e) new sz4
    fun c o c1 c2 c3 e => Heap.get?_push_of_some _ (old c o c1 c2 c3 e)
theorem over_held {Q : Fin → Shared → Prop} (S1 : Src prog w i1 l1 p1 Z1) (S2 : Src prog w i2 l2 p2 Z2) (hh : A.handled = none) (D : ZipApart z TI TO i1 i2 l1 l2) (hz : IsZipHeld s.heap z TI TO T f) (hT : s.heap.get? T = some oT) (hTI : IsPair s.heap TI (.ref i1) (.ref i2))
    (h1 : Z1 k s.heap) (h2 : Z2 k s.heap) (hend : p1 k = none ∨ p2 k = none)
    (hE : ∀ h' e, (∀ c o, c ≠ z → c ≠ i1 → c ≠ i2 → s.heap.get? c = some o → h'.get? c = some o) → (∃ o, h'.get? e = some o ∧ o.cls = .type "StopIteration") → E (.ref e) { s with heap := h' }) :
    wpAny (model prog w) A (Builtin.«zip.__next__» ⟨[.ref z], []⟩) Q E s := by
  show wpAny _ _ (field (.ref z) 2 >>= _) _ _ _
  refine wpAny_bind (wpAny_field hz rfl (x := .bool false) rfl ?_)
  show wpAny _ _ (field (.ref z) 3 >>= _) _ _ _
  refine wpAny_bind (wpAny_field hz rfl (x := .ref TI) rfl (wpAny_bind (wpAny_seqItems hTI rfl ?_)))
  show wpAny _ _ (Builtin.SmallTypes.ownedTupleIsFree (.ref z) >>= _) _ _ _
  refine wpAny_bind (wpAny_tupleHeld_zip hz hT fun g1 z1 b1 => ?_)
  simp only [Bool.false_eq_true, if_false]
  refine wpAny_bind ?_
  rw [← Array.forIn_toList]
  simp only [List.forIn_cons, List.forIn_nil]
  refine wpAny_bind (wpAny_bind (wpAny_holding ?_))
  show wpAny _ _ (Builtin.SmallTypes.nextOf (.ref i1) >>= _) _ _ _
  have h1' : Z1 k g1 := S1.hold _ _ _ h1 (fun o e => b1.extBut _ _ D.i1z e) fun o e => b1.extBut _ _ D.l1z e
  cases hx : p1 k with
  | none => exact wpAny_bind (S1.over _ _ k { s with heap := g1 } _ hh h1' hx fun g2 e b2 he => hE g2 e (fun c o c1 c2 _ q => b2 _ _ c2 (b1.extBut _ _ c1 q)) he)
  | some x =>
    have hy : p2 k = none := hend.resolve_left (by rw [hx]; exact fun c => nomatch c)
    refine wpAny_bind (S1.more _ _ k x { s with heap := g1 } _ h1' hx fun g2 m1 b2 => wpAny_pure (wpAny_pure ?_))
    refine wpAny_bind (wpAny_bind (wpAny_holding ?_))
    show wpAny _ _ (Builtin.SmallTypes.nextOf (.ref i2) >>= _) _ _ _
    exact wpAny_bind (S2.over _ _ k { s with heap := g2 } _ hh (S2.hold _ _ _ h2 (fun o e => b2.extBut _ _ D.i12.symm (b1.extBut _ _ D.i2z e)) fun o e => b2.extBut _ _ D.l2i1 (b1.extBut _ _ D.l2z e)) hy
      fun g3 e b3 he => hE g3 e (fun c o c1 c2 c3 q => b3 _ _ c3 (b2.extBut _ _ c2 (b1.extBut _ _ c1 q))) he)
/-- the pair tuple is free: it is filled, a new one handed out -/
theorem item_free {Q : Value → Shared → Prop} (S1 : Src prog w i1 l1 p1 Z1) (S2 : Src prog w i2 l2 p2 Z2) (D : ZipApart z TI TO i1 i2 l1 l2) (hz : IsZip s.heap z TI TO .none) (hTI : IsPair s.heap TI (.ref i1) (.ref i2)) (hTO : IsPair s.heap TO a b)
    (h1 : Z1 k s.heap) (h2 : Z2 k s.heap) (hx : p1 k = some x) (hy : p2 k = some y)
    (hQ : ∀ h', IsZip h' z TI TO (rawInt s.heap.objs.size) → Z1 (k + 1) h' → Z2 (k + 1) h' → IsPair h' s.heap.objs.size x y → h'.objs.size = s.heap.objs.size + 1 →
      (∀ c o, c ≠ z → c ≠ TO → c ≠ i1 → c ≠ i2 → s.heap.get? c = some o → h'.get? c = some o) → Q (.ref s.heap.objs.size) { s with heap := h' }) :
    wpAny (model prog w) A (Builtin.«zip.__next__» ⟨[.ref z], []⟩) (fun fin s' => ∃ v, fin = .done (.ret v) ∧ Q v s') E s := by
  show wpAny _ _ (field (.ref z) 2 >>= _) _ _ _
  refine wpAny_bind (wpAny_field hz rfl (x := .bool false) rfl ?_)
  show wpAny _ _ (field (.ref z) 3 >>= _) _ _ _
  refine wpAny_bind (wpAny_field hz rfl (x := .ref TI) rfl (wpAny_bind (wpAny_seqItems hTI rfl ?_)))
  show wpAny _ _ (Builtin.SmallTypes.ownedTupleIsFree (.ref z) >>= _) _ _ _
  refine wpAny_bind ?_
  unfold Builtin.SmallTypes.ownedTupleIsFree
  refine wpAny_bind (wpAny_field hz rfl (x := .none) rfl (wpAny_pure ?_))
  simp only [if_true]
  refine wpAny_bind (wpAny_rule (wpAny_bind (wpAny_field hz rfl (x := .ref TO) rfl (wpAny_bind (wpAny_setField_rec hz (by simp) fun g1 z1 b1 => ?_)))))
  replace z1 : IsZip g1 z TI TO .ellipsis := z1
  refine wpAny_bind ?_
  simp only [List.zipIdx_cons, List.zipIdx_nil, List.forIn_cons, List.forIn_nil]
  refine wpAny_bind (wpAny_bind (wpAny_onRaise ?_))
  show wpAny _ _ (Builtin.SmallTypes.nextOf (.ref i1) >>= _) _ _ _
  refine wpAny_bind (S1.more _ _ k x { s with heap := g1 } _ (S1.hold _ _ _ h1 (fun o e => b1.extBut _ _ D.i1z e) fun o e => b1.extBut _ _ D.l1z e) hx fun g2 m1 b2 => wpAny_pure ?_)
  have o2 : IsPair g2 TO a b := b2.extBut _ _ D.TOi1 (b1.extBut _ _ D.TOz hTO)
  refine wpAny_bind (wpAny_seqItems o2 rfl (wpAny_bind (wpAny_updateSeq_pair o2 fun g3 o3 b3 => ?_)))
  replace o3 : IsPair g3 TO x b := o3
  refine wpAny_bind (wpAny_letGo (wpAny_pure ?_))
  refine wpAny_bind (wpAny_bind (wpAny_onRaise ?_))
  show wpAny _ _ (Builtin.SmallTypes.nextOf (.ref i2) >>= _) _ _ _
  refine wpAny_bind (S2.more _ _ k y { s with heap := g3 } _ (S2.hold _ _ _ h2 (fun o e => b3.extBut _ _ D.TOi2.symm (b2.extBut _ _ D.i12.symm (b1.extBut _ _ D.i2z e))) fun o e => b3.extBut _ _ D.l2TO (b2.extBut _ _ D.l2i1 (b1.extBut _ _ D.l2z e))) hy fun g4 m2 b4 => wpAny_pure ?_)
  have o4 : IsPair g4 TO x b := b4.extBut _ _ D.TOi2 o3
  refine wpAny_bind (wpAny_seqItems o4 rfl (wpAny_bind (wpAny_updateSeq_pair o4 fun g5 o5 b5 => ?_)))
  replace o5 : IsPair g5 TO x y := o5
  refine wpAny_bind (wpAny_letGo (wpAny_pure (wpAny_pure ?_)))
  refine wpAny_bind (wpAny_seqItems o5 rfl (wpAny_bind (wpAny_newTuple ?_)))
  have sz : g5.objs.size = s.heap.objs.size := by rw [b5.1, b4.1, b3.1, b2.1, b1.1]
  have z5 : IsZip g5 z TI TO .ellipsis := b5.extBut _ _ D.TOz.symm (b4.extBut _ _ D.i2z.symm (b3.extBut _ _ D.TOz.symm (b2.extBut _ _ D.i1z.symm z1)))
  have old : ∀ c o, c ≠ z → c ≠ TO → c ≠ i1 → c ≠ i2 → s.heap.get? c = some o → g5.get? c = some o := fun c o c1 c2 c3 c4 e => b5.extBut _ _ c2 (b4.extBut _ _ c4 (b3.extBut _ _ c2 (b2.extBut _ _ c3 (b1.extBut _ _ c1 e))))
  have m15 : Z1 (k + 1) g5 := S1.hold _ _ _ m1 (fun o e => b5.extBut _ _ D.TOi1.symm (b4.extBut _ _ D.i12 (b3.extBut _ _ D.TOi1.symm e))) fun o e => b5.extBut _ _ D.l1TO (b4.extBut _ _ D.l1i2 (b3.extBut _ _ D.l1TO e))
  have m25 : Z2 (k + 1) g5 := S2.hold _ _ _ m2 (fun o e => b5.extBut _ _ D.TOi2.symm e) fun o e => b5.extBut _ _ D.l2TO e
  have lz : z < g5.objs.size := Heap.lt_size z5
  show wpAny _ _ (Builtin.SmallTypes.ownedTupleHandOut (.ref z) (.ref g5.objs.size) >>= _) _ _ _
  refine wpAny_bind ?_
  unfold Builtin.SmallTypes.ownedTupleHandOut
  have z6 : IsZip (g5.push { cls := .type "tuple", data := .seq #[x, y] }) z TI TO .ellipsis := Heap.get?_push_of_some _ z5
  refine wpAny_bind (wpAny_setField_rec z6 (by simp) fun g7 z7 b7 => ?_)
  replace z7 : IsZip g7 z TI TO (rawInt g5.objs.size) := z7
  refine wpAny_setField_rec z7 (by simp) fun g8 z8 b8 => ?_
  replace z8 : IsZip g8 z TI TO (rawInt g5.objs.size) := z8
  have up : ∀ c o, c ≠ z → g5.get? c = some o → g8.get? c = some o := fun c o c1 e => b8.extBut _ _ c1 (b7.extBut _ _ c1 (Heap.get?_push_of_some _ e))
  have new : IsPair g8 g5.objs.size x y := b8.extBut _ _ (Nat.ne_of_gt lz) (b7.extBut _ _ (Nat.ne_of_gt lz) (Heap.get?_push_size _ rfl))
  have sz8 : g8.objs.size = g5.objs.size + 1 := by rw [b8.1, b7.1, Heap.size_push]
  rw [sz] at z8 new sz8
  refine wpAny_pure ⟨_, rfl, ?_⟩
  show Q (.ref g5.objs.size) _
  rw [sz]
  exact hQ g8 z8 (S1.hold _ _ _ m15 (fun o e => up _ o D.i1z e) fun o e => up _ o D.l1z e) (S2.hold _ _ _ m25 (fun o e => up _ o D.i2z e) fun o e => up _ o D.l2z e) new sz8 fun c o c1 c2 c3 c4 e => up c o c1 (old c o c1 c2 c3 c4 e)
theorem over_free {Q : Fin → Shared → Prop} (S1 : Src prog w i1 l1 p1 Z1) (S2 : Src prog w i2 l2 p2 Z2) (hh : A.handled = none) (D : ZipApart z TI TO i1 i2 l1 l2) (hz : IsZip s.heap z TI TO .none) (hTI : IsPair s.heap TI (.ref i1) (.ref i2)) (hTO : IsPair s.heap TO a b)
    (h1 : Z1 k s.heap) (h2 : Z2 k s.heap) (hend : p1 k = none ∨ p2 k = none)
    (hE : ∀ h' e, (∀ c o, c ≠ z → c ≠ TO → c ≠ i1 → c ≠ i2 → s.heap.get? c = some o → h'.get? c = some o) → (∃ o, h'.get? e = some o ∧ o.cls = .type "StopIteration") → E (.ref e) { s with heap := h' }) :
    wpAny (model prog w) A (Builtin.«zip.__next__» ⟨[.ref z], []⟩) Q E s := by
  show wpAny _ _ (field (.ref z) 2 >>= _) _ _ _
  refine wpAny_bind (wpAny_field hz rfl (x := .bool false) rfl ?_)
  show wpAny _ _ (field (.ref z) 3 >>= _) _ _ _
  refine wpAny_bind (wpAny_field hz rfl (x := .ref TI) rfl (wpAny_bind (wpAny_seqItems hTI rfl ?_)))
  show wpAny _ _ (Builtin.SmallTypes.ownedTupleIsFree (.ref z) >>= _) _ _ _
  refine wpAny_bind ?_
  unfold Builtin.SmallTypes.ownedTupleIsFree
  refine wpAny_bind (wpAny_field hz rfl (x := .none) rfl (wpAny_pure ?_))
  simp only [if_true]
  refine wpAny_bind (wpAny_rule (wpAny_bind (wpAny_field hz rfl (x := .ref TO) rfl (wpAny_bind (wpAny_setField_rec hz (by simp) fun g1 z1 b1 => ?_)))))
  replace z1 : IsZip g1 z TI TO .ellipsis := z1
  refine wpAny_bind ?_
  simp only [List.zipIdx_cons, List.zipIdx_nil, List.forIn_cons, List.forIn_nil]
  refine wpAny_bind (wpAny_bind (wpAny_onRaise ?_))
  show wpAny _ _ (Builtin.SmallTypes.nextOf (.ref i1) >>= _) _ _ _
  have h1' : Z1 k g1 := S1.hold _ _ _ h1 (fun o e => b1.extBut _ _ D.i1z e) fun o e => b1.extBut _ _ D.l1z e
  cases hx : p1 k with
  | none =>
    refine wpAny_bind (S1.over _ _ k { s with heap := g1 } _ hh h1' hx fun g2 e b2 he => ?_)
    obtain ⟨oe, e1, e2⟩ := he
    have z2 : IsZip g2 z TI TO .ellipsis := b2 _ _ D.i1z.symm z1
    have ez : e ≠ z := fun q => by subst q; rw [z2] at e1; cases e1; simp at e2
    exact wpAny_setField_rec z2 (by simp) fun g3 _ b3 => hE g3 e (fun c o c1 _ c3 _ q => b3.extBut _ _ c1 (b2 _ _ c3 (b1.extBut _ _ c1 q))) ⟨oe, b3.extBut _ _ ez e1, e2⟩
  | some x =>
    have hy : p2 k = none := hend.resolve_left (by rw [hx]; exact fun c => nomatch c)
    refine wpAny_bind (S1.more _ _ k x { s with heap := g1 } _ h1' hx fun g2 m1 b2 => wpAny_pure ?_)
    have o2 : IsPair g2 TO a b := b2.extBut _ _ D.TOi1 (b1.extBut _ _ D.TOz hTO)
    refine wpAny_bind (wpAny_seqItems o2 rfl (wpAny_bind (wpAny_updateSeq_pair o2 fun g3 o3 b3 => ?_)))
    refine wpAny_bind (wpAny_letGo (wpAny_pure ?_))
    refine wpAny_bind (wpAny_bind (wpAny_onRaise ?_))
    show wpAny _ _ (Builtin.SmallTypes.nextOf (.ref i2) >>= _) _ _ _
    refine wpAny_bind (S2.over _ _ k { s with heap := g3 } _ hh (S2.hold _ _ _ h2 (fun o e => b3.extBut _ _ D.TOi2.symm (b2.extBut _ _ D.i12.symm (b1.extBut _ _ D.i2z e))) fun o e => b3.extBut _ _ D.l2TO (b2.extBut _ _ D.l2i1 (b1.extBut _ _ D.l2z e))) hy fun g4 e b4 he => ?_)
    obtain ⟨oe, e1, e2⟩ := he
    have z4 : IsZip g4 z TI TO .ellipsis := b4 _ _ D.i2z.symm (b3.extBut _ _ D.TOz.symm (b2.extBut _ _ D.i1z.symm z1))
    have ez : e ≠ z := fun q => by subst q; rw [z4] at e1; cases e1; simp at e2
    exact wpAny_setField_rec z4 (by simp) fun g5 _ b5 => hE g5 e (fun c o c1 c2 c3 c4 q => b5.extBut _ _ c1 (b4 _ _ c4 (b3.extBut _ _ c2 (b2.extBut _ _ c3 (b1.extBut _ _ c1 q))))) ⟨oe, b5.extBut _ _ ez e1, e2⟩
theorem draw_held {Q : Option Value → Shared → Prop} (S1 : Src prog w i1 l1 p1 Z1) (S2 : Src prog w i2 l2 p2 Z2) (D : ZipApart z TI TO i1 i2 l1 l2) (hz : IsZipHeld s.heap z TI TO T f) (hT : s.heap.get? T = some oT) (hTI : IsPair s.heap TI (.ref i1) (.ref i2))
    (h1 : Z1 k s.heap) (h2 : Z2 k s.heap) (hx : p1 k = some x) (hy : p2 k = some y)
    (hQ : ∀ h', IsZipHeld h' z TI TO T true → Z1 (k + 1) h' → Z2 (k + 1) h' → IsPair h' s.heap.objs.size x y → h'.objs.size = s.heap.objs.size + 1 →
      (∀ c o, c ≠ z → c ≠ i1 → c ≠ i2 → s.heap.get? c = some o → h'.get? c = some o) → Q (some (.ref s.heap.objs.size)) { s with heap := h' }) : wpAny (model prog w) A (pyNext (.ref z)) Q E s := by
  have ty : s.TypeIs (.ref z) "zip" := ⟨_, hz, rfl⟩
  unfold pyNext
  refine wpAny_bind (wpAny_attempt (wpAny_callSpecial?_slot (name := Str.ofString "__next__") ty F.slot_zip_next (wpAny_call_entry F.slot_zip_next ty F.entry_zip_next ?_ (F.args_zip_next_1 _))))
  exact item_held S1 S2 D hz hT hTI h1 h2 hx hy fun h' a1 a2 a3 a4 a5 a6 => wpAny_pure (hQ h' a1 a2 a3 a4 a5 a6)
theorem draw_free {Q : Option Value → Shared → Prop} (S1 : Src prog w i1 l1 p1 Z1) (S2 : Src prog w i2 l2 p2 Z2) (D : ZipApart z TI TO i1 i2 l1 l2) (hz : IsZip s.heap z TI TO .none) (hTI : IsPair s.heap TI (.ref i1) (.ref i2)) (hTO : IsPair s.heap TO a b)
    (h1 : Z1 k s.heap) (h2 : Z2 k s.heap) (hx : p1 k = some x) (hy : p2 k = some y)
    (hQ : ∀ h', IsZip h' z TI TO (rawInt s.heap.objs.size) → Z1 (k + 1) h' → Z2 (k + 1) h' → IsPair h' s.heap.objs.size x y → h'.objs.size = s.heap.objs.size + 1 →
      (∀ c o, c ≠ z → c ≠ TO → c ≠ i1 → c ≠ i2 → s.heap.get? c = some o → h'.get? c = some o) → Q (some (.ref s.heap.objs.size)) { s with heap := h' }) : wpAny (model prog w) A (pyNext (.ref z)) Q E s := by
  have ty : s.TypeIs (.ref z) "zip" := ⟨_, hz, rfl⟩
  unfold pyNext
  refine wpAny_bind (wpAny_attempt (wpAny_callSpecial?_slot (name := Str.ofString "__next__") ty F.slot_zip_next (wpAny_call_entry F.slot_zip_next ty F.entry_zip_next ?_ (F.args_zip_next_1 _))))
  exact item_free S1 S2 D hz hTI hTO h1 h2 hx hy fun h' a1 a2 a3 a4 a5 a6 => wpAny_pure (hQ h' a1 a2 a3 a4 a5 a6)
theorem end_held {Q : Option Value → Shared → Prop} (S1 : Src prog w i1 l1 p1 Z1) (S2 : Src prog w i2 l2 p2 Z2) (hh : A.handled = none) (D : ZipApart z TI TO i1 i2 l1 l2) (hz : IsZipHeld s.heap z TI TO T f) (hT : s.heap.get? T = some oT) (hTI : IsPair s.heap TI (.ref i1) (.ref i2))
    (h1 : Z1 k s.heap) (h2 : Z2 k s.heap) (hend : p1 k = none ∨ p2 k = none)
    (hQ : ∀ h', (∀ c o, c ≠ z → c ≠ i1 → c ≠ i2 → s.heap.get? c = some o → h'.get? c = some o) → Q none { s with heap := h' }) : wpAny (model prog w) A (pyNext (.ref z)) Q E s := by
  have ty : s.TypeIs (.ref z) "zip" := ⟨_, hz, rfl⟩
  unfold pyNext
  refine wpAny_bind (wpAny_attempt (wpAny_callSpecial?_slot (name := Str.ofString "__next__") ty F.slot_zip_next (wpAny_call_entry F.slot_zip_next ty F.entry_zip_next (over_held S1 S2 hh D hz hT hTI h1 h2 hend fun h' e old he => ?_) (F.args_zip_next_1 _))))
  obtain ⟨o, ho, hc⟩ := he
  exact wpAny_bind (wpAny_isInstance (T := "StopIteration") (b := true) ⟨o, ho, hc⟩ isSubtype_stop (wpAny_pure (hQ _ old)))
theorem end_free {Q : Option Value → Shared → Prop} (S1 : Src prog w i1 l1 p1 Z1) (S2 : Src prog w i2 l2 p2 Z2) (hh : A.handled = none) (D : ZipApart z TI TO i1 i2 l1 l2) (hz : IsZip s.heap z TI TO .none) (hTI : IsPair s.heap TI (.ref i1) (.ref i2)) (hTO : IsPair s.heap TO a b)
    (h1 : Z1 k s.heap) (h2 : Z2 k s.heap) (hend : p1 k = none ∨ p2 k = none)
    (hQ : ∀ h', (∀ c o, c ≠ z → c ≠ TO → c ≠ i1 → c ≠ i2 → s.heap.get? c = some o → h'.get? c = some o) → Q none { s with heap := h' }) : wpAny (model prog w) A (pyNext (.ref z)) Q E s := by
  have ty : s.TypeIs (.ref z) "zip" := ⟨_, hz, rfl⟩
  unfold pyNext
  refine wpAny_bind (wpAny_attempt (wpAny_callSpecial?_slot (name := Str.ofString "__next__") ty F.slot_zip_next (wpAny_call_entry F.slot_zip_next ty F.entry_zip_next (over_free S1 S2 hh D hz hTI hTO h1 h2 hend fun h' e old he => ?_) (F.args_zip_next_1 _))))
  obtain ⟨o, ho, hc⟩ := he
  exact wpAny_bind (wpAny_isInstance (T := "StopIteration") (b := true) ⟨o, ho, hc⟩ isSubtype_stop (wpAny_pure (hQ _ old)))
end
/-- a zip that stands, as what dict() takes -/
theorem argOf {prog : Program} {w : World} {z TI TO i1 i2 l1 l2 : Addr} {p1 p2 : Nat → Option Value} {Z1 Z2 : Nat → Heap → Prop} {n : Nat} (S1 : Src prog w i1 l1 p1 Z1) (S2 : Src prog w i2 l2 p2 Z2) (D : ZipApart z TI TO i1 i2 l1 l2)
    (have_ : ∀ i, i < n → (∃ x, p1 i = some x) ∧ ∃ y, p2 i = some y) (stop_ : p1 n = none ∨ p2 n = none) :
    PairArg prog w "zip" z [z, TI, TO, i1, i2, l1, l2] [z, TO, i1, i2] n (fun i k v => p1 i = some k ∧ p2 i = some v)
      (fun h => IsZip h z TI TO .none ∧ IsPair h TI (.ref i1) (.ref i2) ∧ (∃ a b, IsPair h TO a b) ∧ Z1 0 h ∧ Z2 0 h) where
  type := fun s ok => ⟨_, ok.1, rfl⟩
  notDict := by decide
  keep := fun h h' ok hk => by
    obtain ⟨k1, k2, ⟨a, b, k3⟩, k4, k5⟩ := ok
    exact ⟨hk _ _ k1, hk _ _ k2, ⟨a, b, hk _ _ k3⟩, S1.hold _ _ _ k4 (fun o e => hk _ o e) fun o e => hk _ o e, S2.hold _ _ _ k5 (fun o e => hk _ o e) fun o e => hk _ o e⟩
  there := fun h ok c hc => by
    obtain ⟨k1, k2, ⟨a, b, k3⟩, k4, k5⟩ := ok
    obtain ⟨⟨u1, e1⟩, u2, e2⟩ := S1.own _ _ k4
    obtain ⟨⟨u3, e3⟩, u4, e4⟩ := S2.own _ _ k5
    simp only [List.mem_cons, List.not_mem_nil, or_false] at hc
    rcases hc with q | q | q | q | q | q | q
    all_goals subst q
    all_goals first | exact ⟨_, k1⟩ | exact ⟨_, k2⟩ | exact ⟨_, k3⟩ | exact ⟨_, e1⟩ | exact ⟨_, e3⟩ | exact ⟨_, e2⟩ | exact ⟨_, e4⟩
  sub := fun c hc => by
    simp only [List.mem_cons, List.not_mem_nil, or_false] at hc ⊢
    rcases hc with q | q | q | q <;> simp [q]
  noKeys := fun A s Q E hA ok h => getAttrOr_miss_zip ok.1 rfl rfl rfl zip_no_keys (by decide +kernel) hA h
  iter := fun A s d Q E hA ok hd hdf h => by
    obtain ⟨k1, k2, ⟨a, b, k3⟩, k4, k5⟩ := ok
    simp only [List.mem_cons, List.not_mem_nil, or_false, not_or] at hdf
    obtain ⟨dz, dTI, dTO, di1, di2, dl1, dl2⟩ := hdf
    refine wpAny_pyIter_zip k1 (h z [z, TO, i1, i2] (fun i h => IsPair h TI (.ref i1) (.ref i2) ∧ Z1 i h ∧ Z2 i h ∧
      ((IsZip h z TI TO .none ∧ ∃ a b, IsPair h TO a b) ∨ ∃ T f oT, IsZipHeld h z TI TO T f ∧ h.get? T = some oT ∧ T ≠ z ∧ T ≠ i1 ∧ T ≠ i2 ∧ T ≠ d)) s.heap s.toks ?_ ⟨k2, k4, k5, .inl ⟨k1, a, b, k3⟩⟩ (fun _ _ e => e) fun c hc => .inl hc)
    refine ⟨?_, ?_, ?_, ?_⟩
    · intro hm
      simp only [List.mem_cons, List.not_mem_nil, or_false] at hm
      rcases hm with e | e | e | e
      · exact dz e
      · exact dTO e
      · exact di1 e
      · exact di2 e
    · intro i g g' st hk
      obtain ⟨j1, j2, j3, j4⟩ := st
      refine ⟨hk _ _ (Ne.symm dTI) j1, S1.hold _ _ _ j2 (fun o e => hk _ o (Ne.symm di1) e) (fun o e => hk _ o (Ne.symm dl1) e), S2.hold _ _ _ j3 (fun o e => hk _ o (Ne.symm di2) e) (fun o e => hk _ o (Ne.symm dl2) e), ?_⟩
      rcases j4 with ⟨j4, a, b, j5⟩ | ⟨T, f, oT, j4, j5, r1, r2, r3, r4⟩
      · exact .inl ⟨hk _ _ (Ne.symm dz) j4, a, b, hk _ _ (Ne.symm dTO) j5⟩
      · exact .inr ⟨T, f, oT, hk _ _ (Ne.symm dz) j4, hk _ _ r4 j5, r1, r2, r3, r4⟩
    · intro i t Q' E' hi st hds hQ
      obtain ⟨j1, j2, j3, j4⟩ := st
      obtain ⟨⟨x, ex⟩, y, ey⟩ := have_ i hi
      have off : ∀ {c o}, t.heap.get? c = some o → t.heap.objs.size ≠ c := fun e => Nat.ne_of_gt (Heap.lt_size e)
      obtain ⟨⟨u1, e1⟩, u2, e2⟩ := S1.own _ _ j2
      obtain ⟨⟨u3, e3⟩, u4, e4⟩ := S2.own _ _ j3
      rcases j4 with ⟨j4, a, b, j5⟩ | ⟨T, f, oT, j4, j5, r1, r2, r3, r4⟩
      · refine draw_free S1 S2 D j4 j1 j5 j2 j3 ex ey fun h' a1 a2 a3 a4 a5 old => ?_
        refine hQ t.heap.objs.size _ _ h' t.toks ⟨ex, ey⟩ (.inl ⟨_, a4, rfl, _, rfl⟩) ⟨old _ _ D.TIz D.TITO D.TIi1 D.TIi2 j1, a2, a3, .inr ⟨t.heap.objs.size, false, _, a1, a4, off j4, off e1, off e3, Nat.ne_of_gt hds⟩⟩ fun c o hc e => ?_
        simp only [List.mem_cons, List.not_mem_nil, or_false, not_or] at hc
        exact old c o hc.1 hc.2.1 hc.2.2.1 hc.2.2.2 e
      · refine draw_held S1 S2 D j4 j5 j1 j2 j3 ex ey fun h' a1 a2 a3 a4 a5 old => ?_
        refine hQ t.heap.objs.size _ _ h' t.toks ⟨ex, ey⟩ (.inl ⟨_, a4, rfl, _, rfl⟩) ⟨old _ _ D.TIz D.TIi1 D.TIi2 j1, a2, a3, .inr ⟨T, true, oT, a1, old _ _ r1 r2 r3 j5, r1, r2, r3, r4⟩⟩ fun c o hc e => ?_
        simp only [List.mem_cons, List.not_mem_nil, or_false, not_or] at hc
        exact old c o hc.1 hc.2.2.1 hc.2.2.2 e
    · intro t Q' E' st hQ
      obtain ⟨j1, j2, j3, j4⟩ := st
      rcases j4 with ⟨j4, a, b, j5⟩ | ⟨T, f, oT, j4, j5, r1, r2, r3, r4⟩
      · refine end_free S1 S2 hA D j4 j1 j5 j2 j3 stop_ fun h' old => hQ h' t.toks fun c o hc e => ?_
        simp only [List.mem_cons, List.not_mem_nil, or_false, not_or] at hc
        exact old c o hc.1 hc.2.1 hc.2.2.1 hc.2.2.2 e
      · refine end_held S1 S2 hA D j4 j5 j1 j2 j3 stop_ fun h' old => hQ h' t.toks fun c o hc e => ?_
        simp only [List.mem_cons, List.not_mem_nil, or_false, not_or] at hc
        exact old c o hc.1 hc.2.2.1 hc.2.2.2 e
/-! the zip of a list and a tuple is made: five new objects -/
abbrev g1 (h : Heap) (l1 : Addr) : Heap := h.push { cls := .type "list_iterator", data := .fields #[.ref l1, .int 0 0] }
abbrev g2 (h : Heap) (l1 l2 : Addr) : Heap := (g1 h l1).push { cls := .type "tuple_iterator", data := .fields #[.ref l2, .int 0 0] }
abbrev g3 (h : Heap) (l1 l2 : Addr) : Heap := (g2 h l1 l2).push { cls := .type "tuple", data := .seq #[.ref h.objs.size, .ref (g1 h l1).objs.size] }
abbrev g4 (h : Heap) (l1 l2 : Addr) : Heap := (g3 h l1 l2).push { cls := .type "tuple", data := .seq #[.none, .none] }
abbrev g5 (h : Heap) (l1 l2 : Addr) : Heap := (g4 h l1 l2).push { cls := .type "zip", data := .fields #[.none, .bool false, .bool false, .ref (g2 h l1 l2).objs.size, .ref (g3 h l1 l2).objs.size] }
theorem new_meets (l1 l2 : Addr) (xs ys : Array Value) :
    Meets (Builtin.«zip.__new__» ⟨[.type "zip", .ref l1, .ref l2], []⟩) (fun _ R s => s.heap.IsList l1 xs ∧ s.heap.IsTuple l2 ys ∧ R (.ok (.ret (.ref (g4 s.heap l1 l2).objs.size))) { s with heap := g5 s.heap l1 l2 }) :=
  .of_wp fun prog w A R s h => by
    obtain ⟨hp, g, d, tk, os⟩ := s
    obtain ⟨a1, a2, h⟩ := h
    have hsub := sub_zip
    have b1 : Heap.IsList (Shared.heap ⟨hp, g, d, tk, os⟩) l1 xs := a1
    have b2 : Heap.IsTuple (Shared.heap ⟨hp.push { cls := .type "list_iterator", data := .fields #[.ref l1, .int 0 0] }, g, d, tk, os⟩) l2 ys := Heap.IsTuple.push a2 _
    wp_walk using wpAny_pyIter_list b1, wpAny_pyIter_tuple b2
    exact ⟨_, rfl, h⟩
theorem call_new {prog : Program} {w : World} {A : Around} {E : Value → Shared → Prop} {s : Shared} {l1 l2 : Addr} {xs ys : Array Value} {Q : Value → Shared → Prop} (a1 : s.heap.IsList l1 xs) (a2 : s.heap.IsTuple l2 ys)
    (h : ∀ h', IsZip h' (s.heap.objs.size + 4) (s.heap.objs.size + 2) (s.heap.objs.size + 3) .none → IsPair h' (s.heap.objs.size + 2) (.ref s.heap.objs.size) (.ref (s.heap.objs.size + 1)) →
      IsPair h' (s.heap.objs.size + 3) .none .none → h'.IsListIter s.heap.objs.size l1 0 → h'.IsTupleIter (s.heap.objs.size + 1) l2 0 → h'.objs.size = s.heap.objs.size + 5 →
      (∀ c o, s.heap.get? c = some o → h'.get? c = some o) → Q (.ref (s.heap.objs.size + 4)) { s with heap := h' }) : wpAny (model prog w) A (call (.type "zip") [.ref l1, .ref l2]) Q E s := by
  refine callType_new F.called_zip (by decide) (F.typeCall_zip_2 _ _) (F.newCall_zip_2 _ _) (fun obj => F.args_object_init_3 obj _ _) F.entry_zip_new (new_meets l1 l2 xs ys) ⟨a1, a2, ?_⟩
  have n1 : (g1 s.heap l1).objs.size = s.heap.objs.size + 1 := Heap.size_push ..
  have n2 : (g2 s.heap l1 l2).objs.size = s.heap.objs.size + 2 := by rw [Heap.size_push, n1]
  have n3 : (g3 s.heap l1 l2).objs.size = s.heap.objs.size + 3 := by rw [Heap.size_push, n2]
  have n4 : (g4 s.heap l1 l2).objs.size = s.heap.objs.size + 4 := by rw [Heap.size_push, n3]
  have n5 : (g5 s.heap l1 l2).objs.size = s.heap.objs.size + 5 := by rw [Heap.size_push, n4]
  have up : ∀ {h : Heap} {o p : Obj} {c : Addr}, h.get? c = some o → (h.push p).get? c = some o := fun e => Heap.get?_push_of_some _ e
  have m5 : (g5 s.heap l1 l2).get? (g4 s.heap l1 l2).objs.size = some _ := Heap.get?_push_size _ rfl
  have m4 : (g5 s.heap l1 l2).get? (g3 s.heap l1 l2).objs.size = some _ := up (Heap.get?_push_size _ rfl)
  have m3 : (g5 s.heap l1 l2).get? (g2 s.heap l1 l2).objs.size = some _ := up (up (Heap.get?_push_size _ rfl))
  have m2 : (g5 s.heap l1 l2).get? (g1 s.heap l1).objs.size = some _ := up (up (up (Heap.get?_push_size _ rfl)))
  have m1 : (g5 s.heap l1 l2).get? s.heap.objs.size = some _ := up (up (up (up (Heap.get?_push_size _ rfl))))
  show _ ∧ _
  rw [n2, n3, n4] at m5
  rw [n1, n2] at m3
  rw [n3] at m4
  rw [n1] at m2
  rw [n4]
  exact ⟨⟨_, m5, rfl⟩, h _ m5 m3 m4 ⟨_, m1, rfl, rfl⟩ ⟨_, m2, rfl, rfl⟩ n5 fun c o x => up (up (up (up (up x))))⟩
end Zg
namespace Er
open PySem PySem.Spec PyProof.Rows L2
/-- the pairs of names and values -/
def zipK (ks : List Str) (vs : List V) : List (Key × V) := List.zipWith (fun k v => (Sum.inr k, v)) ks vs
def tDz (K : PySem.W.Frag) (ta : TA) : TE := fun σ H Q => ta σ H fun vs H1 => ∃ (a b : Addr) (ks : List Str) (xs : List V), vs = [.ref a, .ref b] ∧ SqL K H1 a (ks.map V.str) ∧ SqT K H1 b xs ∧ ks.length = xs.length ∧ ∀ p, H1 p = none → Q (.ref p) (upd H1 p (.dK (mergeK [] (zipK ks xs))))
theorem strs_of : ∀ {ks : List Str} {us : List Value}, Vals (ks.map V.str) us → ∀ (i : Nat) (u : Value), us[i]? = some u → ∃ k t, ks[i]? = some k ∧ u = Value.str k t
  | [], us, r, i, u, h => by
    rw [List.map_nil] at r
    cases r
    simp at h
  | k :: ks, us, r, i, u, h => by
    rw [List.map_cons] at r
    cases r with
    | cons q r =>
      obtain ⟨t, rfl⟩ := q
      cases i with
      | zero =>
        cases h
        exact ⟨k, t, rfl, rfl⟩
      | succ i =>
        obtain ⟨k', t', e1, e2⟩ := strs_of r i u (by simpa using h)
        exact ⟨k', t', by simpa using e1, e2⟩
theorem zip_kv : ∀ {ks : List Str} {xs : List V} {us : List Value}, Vals xs us → KV (zipK ks xs) (List.zipWith (fun k u => (Sum.inr k, u)) ks us)
  | [], _, _, _ => .nil
  | _ :: _, _, _, .nil => .nil
  | k :: ks, _, _, .cons r t => .cons ⟨rfl, r⟩ (zip_kv t)
theorem boot_dict' : bootBuiltins "dict" = some (.type "dict") := by decide +kernel
theorem pe_dictZip {X : Cx} {a b : Expr} {ta : TA} {p p2 pos pos2 : Pos} (hc : X.calm = true) (hm : X.mg "dict" = none) (hm2 : X.mg "zip" = none) (ha : PA X [a, b] ta) (hg : Gl X "dict" := by rfl) (hg2 : Gl X "zip" := by rfl)
    (hs : starEach [a, b] X.env = (false, eval a X.env) :: starEach [b] X.env := by rfl) (hpl : (backTo pos2 (starEach [b] X.env)).any (·.1) = false := by rfl)
    (na : starEach [Expr.Call (.Name "zip" p2) [a, b] [] pos2] X.env = (false, eval (Expr.Call (.Name "zip" p2) [a, b] [] pos2) X.env) :: starEach [] X.env := by rfl) :
    PE X (.Call (.Name "dict" p) [.Call (.Name "zip" p2) [a, b] [] pos2] [] pos) (tDz X.K ta) := by
  refine ⟨fun pins s σ H Q I h => ?_⟩
  refine Call_ (ld_blt I hg hm boot_dict' ?_)
  refine PyProof.Rows.callWith_type1 (PyProof.Rows.args_cons ?_ na) na rfl
  refine Call_ (ld_blt I hg2 hm2 PyProof.Rows.boot_zip (PyProof.Rows.callWith_type1 (thn (ha.run pos2 pins s σ H _ I h) fun us s1 ⟨vs, H1, I1, r1, q1⟩ => ?_) hs hpl))
  obtain ⟨la, lb, ks, xs, rfl, hqa, hqb, hlen, q⟩ := q1
  cases r1 with
  | cons r rr =>
    cases rr with
    | cons r' rr =>
      cases rr
      cases r
      cases r'
      obtain ⟨its, rv, pl, hz⟩ := I1.list hqa
      obtain ⟨jts, rw2, pt, _⟩ := I1.tuple hqb
      have e1 := rv.length
      rw [List.length_map] at e1
      have e2 := rw2.length
      refine Zg.call_new pl.isList (show s1.heap.IsTuple lb jts.toArray from pt) fun h' m5 m3 m4 m1 m2 hsz old => PyProof.Rows.args_nil ?_
      have I2 : Inv X pins σ H1 { s1 with heap := h' } := I1.kept (t' := s1.toks) old
      have D := PySem.W.ktu_apart s1.heap.objs.size la lb pl.lt (let ⟨_, ho, _⟩ := pt; Heap.lt_size ho)
      have P := Zg.argOf (prog := X.prog) (w := X.w) (n := ks.length) (Zg.srcList (xs := its.toArray) D.l1i1) (Zg.srcTup (xs := jts.toArray) D.l2i2) D
        (fun i hi => ⟨by obtain ⟨u, hu⟩ := get_lt (l := its) (j := i) (by omega); exact ⟨u, by simpa using hu⟩, by obtain ⟨u, hu⟩ := get_lt (l := jts) (j := i) (by omega); exact ⟨u, by simpa using hu⟩⟩)
        (.inl (by simp only [List.getElem?_toArray]; exact List.getElem?_eq_none_iff.mpr (by omega)))
      refine PySem.call_dict_pairs (knd := mixKind X.prog X.w) (kvs := List.zipWith (fun k u => (Sum.inr k, u)) ks jts) P (I1.ok.hd hc) ⟨m5, m3, ⟨_, _, m4⟩, ⟨m1, pl.isList.at fun o e => old _ o e⟩, ⟨m2, (show s1.heap.IsTuple lb jts.toArray from pt).at fun o e => old _ o e⟩⟩ ⟨?_, fun i key v hr => ?_⟩ (by rw [e1, ← e1, ← List.length_map V.str]; exact hz) fun h2 tk hd old2 => ?_
      · rw [List.length_zipWith]
        omega
      · obtain ⟨hk, hv⟩ := hr
        simp only [List.getElem?_toArray] at hk hv
        obtain ⟨k, t, ek, rfl⟩ := strs_of rv i key hk
        exact ⟨.inr k, by rw [List.getElem?_zipWith, ek, hv], mixKind_str _ _ k t⟩
      · have fresh : ∀ c, s1.heap.objs.size ≤ c → FpOk X pins H1 c := fun c hcm => I1.fpOk hcm (I1.hok.fresh hcm)
        have big : (h'.objs.size == sysModules) = false := beq_eq_false_iff_ne.mpr (Nat.ne_of_gt I2.big)
        have rel := KV.merge (zip_kv (ks := ks) rw2) .nil
        have hl2 : (mergeK [] (zipK ks xs)).length ≤ sizeLine := by
          refine Nat.le_trans (length_mergeK _ _) ?_
          rw [List.length_nil, Nat.zero_add]
          unfold zipK
          rw [List.length_zipWith, ← hlen, Nat.min_self, ← List.length_map V.str]
          exact hz
        have I3 := I2.turnedNew (t' := tk) (ch := [s1.heap.objs.size + 4, s1.heap.objs.size + 3, s1.heap.objs.size, s1.heap.objs.size + 1]) (T := h'.objs.size) (ob := .dK (mergeK [] (zipK ks xs))) (h' := h2) old2 (fun c hcm => ?_) (Nat.le_refl _) ⟨hl2, big, _, rel, hd⟩
        · exact ⟨.ref h'.objs.size, _, I3, rfl, q _ (I2.hok.fresh (Nat.le_refl _))⟩
        · simp only [List.mem_cons, List.not_mem_nil, or_false] at hcm
          have g : s1.heap.objs.size ≤ c := by
            rcases hcm with e | e | e | e
            · rw [e]; exact Nat.le_add_right _ _
            · rw [e]; exact Nat.le_add_right _ _
            · rw [e]; exact Nat.le_refl _
            · rw [e]; exact Nat.le_add_right _ _
          obtain ⟨f0, f1, f2, f3, f4, f5⟩ := fresh c g
          exact ⟨f0, f1, f2, f3, f4, f5⟩
/-- the names looked up -/
theorem mergeK_snoc (kvs more : List (Key × V)) (p : Key × V) : mergeK kvs (more ++ [p]) = putK (mergeK kvs more) p.1 p.2 := by
  unfold mergeK
  rw [List.foldl_append]
  rfl
theorem mergeK_val : ∀ (more : List (Key × V)) (kvs : List (Key × V)) (k : Key) (v : V), (more.map (·.1)).Nodup → (k, v) ∈ more → valV (mergeK kvs more) k = some v
  | [], _, _, _, _, h => nomatch h
  | p :: more, kvs, k, v, nd, h => by
    obtain ⟨n1, n2⟩ := List.nodup_cons.mp (show (p.1 :: more.map (·.1)).Nodup from nd)
    show valV (mergeK (putK kvs p.1 p.2) more) k = some v
    rcases List.mem_cons.mp h with e | h
    · subst e
      rw [mergeK_out more _ k n1, valV_put, if_pos rfl]
    · exact mergeK_val more _ k v n2 h
where
  mergeK_out : ∀ (more : List (Key × V)) (kvs : List (Key × V)) (k : Key), k ∉ more.map (·.1) → valV (mergeK kvs more) k = valV kvs k
    | [], _, _, _ => rfl
    | p :: more, kvs, k, h => by
      show valV (mergeK (putK kvs p.1 p.2) more) k = _
      rw [mergeK_out more _ k fun z => h (List.mem_cons_of_mem _ z), valV_put, if_neg fun z => h (by rw [z]; exact List.mem_cons_self)]
theorem zipK_keys : ∀ {ks : List Str} {xs : List V}, ks.length = xs.length → (zipK ks xs).map (·.1) = ks.map Sum.inr
  | [], [], _ => rfl
  | [], _ :: _, h => by simp at h
  | _ :: _, [], h => by simp at h
  | k :: ks, x :: xs, h => by
    show Sum.inr k :: (zipK ks xs).map (·.1) = Sum.inr k :: ks.map Sum.inr
    rw [zipK_keys (by simpa using h)]
theorem nodup_inr : ∀ {ks : List Str}, ks.Nodup → (ks.map (Sum.inr : Str → Key)).Nodup
  | [], _ => List.nodup_nil
  | k :: ks, h => by
    obtain ⟨h1, h2⟩ := List.nodup_cons.mp h
    show (Sum.inr k :: ks.map (Sum.inr : Str → Key)).Nodup
    refine List.nodup_cons.mpr ⟨fun m => ?_, nodup_inr h2⟩
    obtain ⟨k', hk, e⟩ := List.mem_map.mp m
    exact h1 (Sum.inr.inj e ▸ hk)
theorem dictV_of {ns : List Str} {xs : List Int} {H : Hp} {d : Addr} (nd : ns.Nodup) (hl : ns.length = xs.length) (h : H d = some (.dK (mergeK [] (zipK ns (xs.map V.int))))) : DictV H d ns xs := by
  refine ⟨_, h, fun j x v hx hv => mergeK_val _ _ _ _ ?_ ?_⟩
  · rw [zipK_keys (by rw [List.length_map]; exact hl)]
    exact nodup_inr nd
  · refine List.mem_of_getElem? (i := j) ?_
    unfold zipK
    rw [List.getElem?_zipWith, List.getElem?_map, hx, hv]
    rfl
end Er

namespace Er
open PySem L2
/-! Walker's methods; first_standing and step -/
structure Pgm (ns : List Str) (sz : List Int) (T : Tab) : Prop where
  nd : ns.Nodup
  len : ns.length = sz.length
  sz : Sz sz
  tab : TabOk ns.length T
  few : ns.length ≤ 4
def StdAt (H : Hp) (v : V) (r : Int) (xs : List Int) : Prop := ∃ p u, v = .ref p ∧ H p = some (.tup [.int r, u]) ∧ VsAt H u xs
theorem StdAt.mono {H H' : Hp} (t : Tk H H') {v : V} {r : Int} {xs : List Int} (h : StdAt H v r xs) : StdAt H' v r xs := by
  obtain ⟨p, u, a, b, c⟩ := h
  exact ⟨p, u, a, t _ _ b, c.mono t⟩
def OutAt (H : Hp) (v : V) : Option (Int × List Int) → Prop
  | none => v = .non
  | some st => StdAt H v st.1 st.2
theorem vok_small {ns : List Str} {sz xs : List Int} {T : Tab} (p : Pgm ns sz T) (h : Vok sz xs) : xs.length = ns.length ∧ ∀ x ∈ xs, 0 ≤ x ∧ x ≤ 9 := by
  refine ⟨h.1.trans p.len.symm, fun x hx => ?_⟩
  obtain ⟨j, hj⟩ := List.mem_iff_getElem?.mp hx
  obtain ⟨s, hs⟩ := get_lt (l := sz) (j := j) (by rw [← h.1]; exact lt_of_get hj)
  have a := h.2 j s x hs hj
  have b := p.sz j s hs
  omega
theorem scal_strs (a b : Str) : scal (.str a) (.str b) = true := rfl
section
variable {P : Program} {w : World} {K : PySem.W.Frag} {mg : Str → Option Value} {base : Heap} {f : Addr} {fd : FuncData} {ns : List Str} {CW CL : Addr} {sz : List Int} {r0 : Int} {v0 : List Int} {T : Tab}
def spNumber (CW : Addr) (ns : List Str) (sz : List Int) (r0 : Int) (v0 : List Int) (T : Tab) : Sp := fun vs H Q _ => ∃ (x : Addr) (ve vt : V) (e : Xp) (r : Int) (xs : List Int), vs = [.ref x, ve, vt] ∧ WkAt CW ns sz r0 v0 T H x ∧ XpAt ns H e ve ∧ e.Fit ns.length 2 ∧
  StdAt H vt r xs ∧ Vok sz xs ∧ Gives H (fun _ v => v = .int (e.worth xs)) Q
theorem scNumber : FnScope ["self", "e", "standing"] ["self", "e", "standing"] (defScope sWNumber) := ⟨rfl, rfl, rfl, by decide +kernel, rfl, by decide +kernel, by decide +kernel⟩
theorem ok_number (X : Txt K mg CW CL) (pg : Pgm ns sz T) (C : Cal P w K mg base "worth" 3 ["e", "values"] (spWorth ns 2)) (F : Fun K "number" "Walker.number" sWNumber f fd) : FnOk P w K mg base CX0 4 f fd ["self", "e", "standing"] (spNumber CW ns sz r0 v0 T) := by
  refine F.ok scNumber (fun vs H Q E h => ?_) (fun cdv A outer s H vs Q E hr h => ?_)
  · obtain ⟨x, ve, vt, e, r, xs, rfl, _⟩ := h
    rfl
  obtain ⟨x, ve, vt, e, r, xs, rfl, ⟨dx, pb, ps, pt, pd, vv, hx, hb, hs, ht, hv, hd⟩, he, hf, ⟨p, u, rfl, hp, ⟨ua, rfl, hu⟩⟩, hok, q⟩ := h
  have sm := vok_small pg hok
  refine ⟨_, pss_one (ps_ret (pe_cal C hr (pa_cons (pv 1) (pa_cons (pe_dictZip rfl X.zDict X.zZip (pa_cons (pe_fld (pv 0) rfl) (pa_cons (pe_ix ix_tup (pv 2) pe_int (fun _ _ => rfl)) pa_nil))) pa_nil)))), ?_⟩
  refine ⟨_, rfl, _, rfl, x, CW, dx, _, _, rfl, hx, X.clW, X.wB, wF_B _ _ _ _, _, rfl, p, _, 1, _, rfl, rfl, SqT.of hp, rfl, pb, ua, ns, _, rfl, SqL.of hb, SqT.of hu, by rw [List.length_map]; exact sm.1.symm, fun d hd => ?_⟩
  have g := same_new hd (.dK (mergeK [] (zipK ns (xs.map V.int))))
  exact ⟨ve, e, d, xs, rfl, Nat.le_refl 2, hf, he.mono (.same g), dictV_of pg.nd sm.1.symm upd_same, sm.1, sm.2, q _ _ g rfl⟩
def spHolds (CW : Addr) (ns : List Str) (sz : List Int) (r0 : Int) (v0 : List Int) (T : Tab) : Sp := fun vs H Q _ => ∃ (x : Addr) (vt : V) (r : Int) (xs : List Int) (c : Cw) (lt : Bool) (a b : Xp) (ws : List Int), vs = [.ref x, vt] ∧ WkAt CW ns sz r0 v0 T H x ∧
  StdAt H vt r xs ∧ Vok sz xs ∧ T r = some (.con c lt a b, ws) ∧ Gives H (fun _ v => v = .bl (holds lt (a.worth xs) (b.worth xs))) Q
theorem scHolds : FnScope ["self", "standing", "statement", "one", "other"] ["self", "standing"] (defScope sWHolds) := ⟨rfl, rfl, rfl, by decide +kernel, rfl, by decide +kernel, by decide +kernel⟩
/-- what stands in the table at a row -/
theorem dictS_at {H : Hp} {d : Addr} {r : Int} {x : Sm × List Int} (h : DictS ns H d T) (ht : T r = some x) : ∃ kvs v, H d = some (.dK kvs) ∧ valV kvs (Sum.inl r) = some v ∧ RowAt ns H v (r, x.1, x.2) := by
  obtain ⟨kvs, hd, hs⟩ := h
  have q := hs r
  rw [ht] at q
  cases e : valV kvs (Sum.inl r) with
  | none => rw [e] at q; exact q.elim
  | some v => rw [e] at q; exact ⟨kvs, v, hd, e, q⟩
theorem dget_int {H : Hp} {d : Addr} {kvs : List (Key × V)} {r : Int} {v : V} (h : H d = some (.dK kvs)) (e : valV kvs (Sum.inl r) = some v) : DGet H d (.int r) (some v) := by
  have q := DGet.k (k := Sum.inl r) h
  rw [e] at q
  exact q
theorem ok_holds (X : Txt K mg CW CL) (pg : Pgm ns sz T) (C : MCal P w K mg base CW "number" 4 ["self", "e", "standing"] (spNumber CW ns sz r0 v0 T)) (F : Fun K "holds" "Walker.holds" sWHolds f fd) : FnOk P w K mg base CX0 5 f fd ["self", "standing"] (spHolds CW ns sz r0 v0 T) := by
  refine F.ok scHolds (fun vs H Q E h => ?_) (fun cdv A outer s H vs Q E hr h => ?_)
  · obtain ⟨x, vt, r, xs, c, lt, a, b, ws, rfl, _⟩ := h
    rfl
  obtain ⟨x, vt, r, xs, c, lt, a, b, ws, rfl, wk, hst, hok, hT, q⟩ := h
  obtain ⟨dx, pb, ps, pt, pd, vv, hx, hb, hs, ht, hv, hd⟩ := wk.at_
  obtain ⟨p, u, rfl, hp, hu⟩ := id hst
  obtain ⟨kvs, v, hkd, hkv, ⟨pe, te, we, kids, rfl, hpe, ⟨ps2, tl, rfl, ⟨va, vb, ha, hbb, rfl⟩, hps⟩, hw⟩⟩ := dictS_at hd hT
  have okk := (pg.tab.ok r _ _ hT).1
  have nm : ∀ m : Str, m = "number" → (wF pb ps pt pd).lookup m = none := fun m e => by subst e; exact wF_no _ _ _ _ (by decide +kernel) (by decide +kernel) (by decide +kernel) (by decide +kernel)
  refine ⟨_, pss_cons (ps_set (i := 2) scHolds.nd rfl (.inl rfl) (pe_ix ix_tup (pe_dget (hu_of hr) (pe_fld (pv 0) rfl) (pe_ix ix_tup (pv 1) pe_int (fun _ _ => rfl)) (fun _ _ => rfl)) pe_int (fun _ _ => rfl)))
    (pss_cons (ps_set (i := 3) scHolds.nd rfl (.inl rfl) (pe_mcal (pv 0) X.clW C hr (pa_cons (pe_ix ix_tup (pv 2) pe_int (fun _ _ => rfl)) (pa_cons (pv 1) pa_nil))))
    (pss_cons (ps_set (i := 4) scHolds.nd rfl (.inl rfl) (pe_mcal (pv 0) X.clW C hr (pa_cons (pe_ix ix_tup (pv 2) pe_int (fun _ _ => rfl)) (pa_cons (pv 1) pa_nil))))
    (pss_cons (ps_if (pt_cmpR op_eq (pe_ix ix_tup (pv 2) pe_int (fun _ _ => rfl)) pe_str (nomark _)) (pss_one (ps_ret (pe_cmpR op_lt (pv 3) (pv 4) (nomark _)))) pss_nil)
    (pss_one (ps_ret (pe_cmpR op_eq (pv 3) (pv 4) (nomark _))))))), ?_⟩
  refine ⟨_, rfl, x, CW, dx, _, _, rfl, hx, X.clW, X.wT, wF_T _ _ _ _, _, rfl, p, _, 0, _, rfl, rfl, SqT.of hp, rfl, pd, _, rfl, dget_int hkd hkv, pe, _, 0, _, rfl, rfl, SqT.of hpe, rfl, ?_⟩
  refine ⟨_, rfl, x, dx, _, rfl, hx, nm _ rfl, _, rfl, ps2, _, 3, _, rfl, rfl, SqT.of hps, atI_nat (j := 3) rfl, _, rfl, ?_⟩
  refine ⟨x, va, .ref p, a, r, xs, rfl, wk, ha, okk.1, hst, hok, fun v1 H1 s1 e1 => ?_⟩
  subst e1
  refine ⟨_, rfl, x, dx, _, rfl, s1 _ _ hx, nm _ rfl, _, rfl, ps2, _, 4, _, rfl, rfl, SqT.of (s1 _ _ hps), atI_nat (j := 4) rfl, _, rfl, ?_⟩
  refine ⟨x, vb, .ref p, b, r, xs, rfl, wk.mono s1, hbb.mono (.same s1), okk.2, hst.mono (.same s1), hok, fun v2 H2 s2 e2 => ?_⟩
  subst e2
  refine ⟨_, rfl, ps2, _, 2, _, rfl, rfl, SqT.of (s2 _ _ (s1 _ _ hps)), atI_nat (j := 2) rfl, rfl, _, rfl, ?_⟩
  cases lt with
  | true =>
    refine if_yes ?_
    exact ⟨_, rfl, _, rfl, _, _, rfl, rfl, q _ _ (s1.trans s2) rfl⟩
  | false =>
    refine if_no (show V.str "=" ≠ V.str "<" by decide +kernel) ?_
    refine ⟨_, rfl, _, rfl, rfl, q _ _ (s1.trans s2) ?_⟩
    show V.bl (decide (V.int (a.worth xs) = V.int (b.worth xs))) = V.bl (decide (a.worth xs = b.worth xs))
    congr 1
    by_cases e : a.worth xs = b.worth xs
    · rw [decide_eq_true e, decide_eq_true (by rw [e])]
    · rw [decide_eq_false e, decide_eq_false (fun z => e (V.int.inj z))]
def spWithBox (CW : Addr) (ns : List Str) (sz : List Int) (r0 : Int) (v0 : List Int) (T : Tab) : Sp := fun vs H Q _ => ∃ (x : Addr) (vt : V) (nm : Str) (n : Int) (r : Int) (xs : List Int) (j : Nat), vs = [.ref x, vt, .str nm, .int n] ∧ WkAt CW ns sz r0 v0 T H x ∧
  StdAt H vt r xs ∧ Vok sz xs ∧ ns[j]? = some nm ∧ Gives H (fun H' v => VsAt H' v (xs.set j (n % sz.getD j 0))) Q
theorem scWithBox : FnScope ["self", "standing", "name", "number", "at"] ["self", "standing", "name", "number"] (defScope sWWithBox) := ⟨rfl, rfl, rfl, by decide +kernel, rfl, by decide +kernel, by decide +kernel⟩
theorem set_cut {α : Type} (xs : List α) (j : Nat) (v : α) (h : j < xs.length) : xs.take j ++ [v] ++ xs.drop (j + 1) = xs.set j v := by
  rw [List.set_eq_take_append_cons_drop, if_pos h, List.append_assoc]
  rfl
/-- the first place of a name -/
theorem index_name {ns : List Str} {j : Nat} {nm : Str} (nd : ns.Nodup) (h : ns[j]? = some nm) : (ns.map V.str)[j]? = some (.str nm) ∧ eqV (.str nm) (.str nm) = true ∧ ∀ (m : Nat) (z : V), m < j → (ns.map V.str)[m]? = some z → eqV z (.str nm) = false := by
  refine ⟨by rw [List.getElem?_map, h]; rfl, ?_, fun m z hm hz => ?_⟩
  · show decide (nm = nm) = true
    exact decide_eq_true rfl
  · rw [List.getElem?_map] at hz
    cases e : ns[m]? with
    | none => rw [e] at hz; cases hz
    | some y =>
      rw [e] at hz
      have hz : some (V.str y) = some z := hz
      cases hz
      show decide (y = nm) = false
      refine decide_eq_false fun q => ?_
      subst q
      exact absurd (nd_ix nd e h) (Nat.ne_of_lt hm)
theorem all_flat_str (ns : List Str) : (ns.map V.str).all flatV = true := by
  rw [List.all_eq_true]
  intro v hv
  obtain ⟨s, _, rfl⟩ := List.mem_map.mp hv
  rfl
theorem ok_withBox (X : Txt K mg CW CL) (pg : Pgm ns sz T) (F : Fun K "with_box" "Walker.with_box" sWWithBox f fd) : FnOk P w K mg base CX0 1 f fd ["self", "standing", "name", "number"] (spWithBox CW ns sz r0 v0 T) := by
  refine F.ok scWithBox (fun vs H Q E h => ?_) (fun cdv A outer s H vs Q E hr h => ?_)
  · obtain ⟨x, vt, nm, n, r, xs, j, rfl, _⟩ := h
    rfl
  obtain ⟨x, vt, nm, n, r, xs, j, rfl, wk, hst, hok, hj, q⟩ := h
  obtain ⟨dx, pb, ps, pt, pd, vv, hx, hb, hs, ht, hv, hd⟩ := wk.at_
  obtain ⟨p, u, rfl, hp, ⟨ua, rfl, hu⟩⟩ := id hst
  obtain ⟨i1, i2, i3⟩ := index_name pg.nd hj
  have jl : j < sz.length := by rw [← pg.len]; exact lt_of_get hj
  obtain ⟨z, hz⟩ := get_lt jl
  have zz := pg.sz j z hz
  have jx : j < xs.length := by rw [hok.1]; exact jl
  refine ⟨_, pss_cons (ps_set (i := 4) scWithBox.nd rfl (.inl rfl) (pe_bm PySem.F.plainAttrs_list PySem.F.slot_list_index PySem.F.type_list_index mt_index (pe_fld (pv 0) rfl) (pa_cons (pv 2) pa_nil)))
    (pss_one (ps_ret (pe_op op_catS (pe_op op_catS (pe_slice sl_tupS (pe_ix ix_tup (pv 1) pe_int (fun _ _ => rfl)) po_none (po_some (pv 4))) (pe_tup (pa_cons (pe_op op_modN (pv 3) (pe_ix ix_list (pe_fld (pv 0) rfl) (pv 4) (fun _ _ => rfl))) pa_nil)))
      (pe_slice sl_tupS (pe_ix ix_tup (pv 1) pe_int (fun _ _ => rfl)) (po_some (pe_op op_add (pv 4) pe_int)) po_none)))), ?_⟩
  refine ⟨_, rfl, x, CW, dx, _, _, rfl, hx, X.clW, X.wB, wF_B _ _ _ _, .inl ⟨rfl, _, SqL.of hb⟩, _, rfl, pb, _, _, j, _, rfl, rfl, SqL.of hb, rfl, all_flat_str ns, i1, i2, i3, ?_⟩
  refine ⟨_, rfl, p, _, 1, _, rfl, rfl, SqT.of hp, rfl, _, rfl, _, rfl, ua, _, rfl, hu, fun c1 H1 s1 h1 => ?_⟩
  rw [cut_to _ j (by rw [List.length_map]; omega)] at h1
  refine ⟨_, rfl, _, rfl, x, CW, dx, _, _, rfl, s1 _ _ hx, X.clW, X.wS, wF_S _ _ _ _, _, rfl, ps, _, _, .int z, rfl, rfl, SqL.of (s1 _ _ hs), atI_nat (by rw [List.getElem?_map, hz]; rfl), _, _, rfl, rfl, by omega, by show 1 ≤ sizeLine; decide, fun c2 hc2 => ?_⟩
  have s2 := s1.trans (same_new hc2 (.tup [.int (n.fmod z)]))
  have few := pg.few
  have lns := pg.len
  have lxs := hok.1
  refine ⟨c1, c2, _, _, rfl, rfl, same_new hc2 _ _ _ h1, upd_same, len_small (m := 100) (by rw [List.length_take, List.length_map]; show _ + 1 ≤ 100; omega) (by decide), fun c3 H3 s3 h3 => ?_⟩
  have s13 := s2.trans s3
  refine ⟨_, rfl, p, _, 1, _, rfl, rfl, SqT.of (s13 _ _ hp), rfl, _, rfl, _, _, rfl, rfl, _, rfl, ua, _, rfl, s13 _ _ hu, fun c4 H4 s4 h4 => ?_⟩
  have ec : cutV (xs.map V.int) (some ((j : Int) + 1)) none = (xs.map V.int).drop (j + 1) := cut_from _ (j + 1) (by rw [List.length_map]; omega)
  rw [ec] at h4
  refine ⟨c3, c4, _, _, rfl, rfl, s4 _ _ h3, h4, len_small (m := 100) (by rw [List.length_append, List.length_take, List.length_drop, List.length_map]; show _ + 1 + _ ≤ 100; omega) (by decide), fun c5 H5 s5 h5 => ?_⟩
  have e1 : List.take j (List.map V.int xs) ++ [V.int (n.fmod z)] ++ List.drop (j + 1) (List.map V.int xs) = (xs.set j (n % sz.getD j 0)).map V.int := by
    rw [set_cut _ j _ (by rw [List.length_map]; exact jx), Int.fmod_eq_emod_of_nonneg n (by omega), List.map_set, getD_of hz]
  refine q _ _ ((s13.trans s4).trans s5) ⟨c5, rfl, ?_⟩
  rw [← e1]
  exact h5
end
end Er

namespace Er
open PySem L2
theorem way_at {ws : List Int} {j : Nat} (h : j < ws.length) : atI (ws.map V.int) ((j : Nat) : Int) = some (.int (ws.getD j 0)) := by
  obtain ⟨x, hx⟩ := get_lt h
  rw [getD_of hx]
  exact atI_nat (by rw [List.getElem?_map, hx]; rfl)
theorem arity_pos (s : Sm) : 0 < s.arity := by
  cases s with
  | con c lt a b =>
    cases c with
    | mst => exact Nat.zero_lt_one
    | iff => exact Nat.zero_lt_two
    | whl => exact Nat.zero_lt_two
  | _ => exact Nat.zero_lt_one
theorem arity_two {c : Cw} {lt : Bool} {a b : Xp} (m : ¬ c.must = true) : 1 < (Sm.con c lt a b).arity := by
  cases c with
  | mst => exact absurd rfl m
  | iff => exact Nat.one_lt_two
  | whl => exact Nat.one_lt_two
section
variable {P : Program} {w : World} {K : PySem.W.Frag} {mg : Str → Option Value} {base : Heap} {f : Addr} {fd : FuncData} {ns : List Str} {CW CL : Addr} {sz : List Int} {r0 : Int} {v0 : List Int} {T : Tab}
def StepAt (H : Hp) (v : V) (o : Option (Int × List Int)) : Prop := ∃ p u z, v = .ref p ∧ H p = some (.tup [u, z]) ∧ OutAt H u o
def spWStep (CW : Addr) (ns : List Str) (sz : List Int) (r0 : Int) (v0 : List Int) (T : Tab) : Sp := fun vs H Q _ => ∃ (x : Addr) (vt vf : V) (r : Int) (xs : List Int) (s : Sm) (ws : List Int) (fig : Int), vs = [.ref x, vt, vf] ∧ WkAt CW ns sz r0 v0 T H x ∧
  StdAt H vt r xs ∧ Vok sz xs ∧ T r = some (s, ws) ∧ (s.isAsk = true → vf = .int fig) ∧ Gives H (fun H' v => StepAt H' v (stepM sz s ws xs fig)) Q
theorem scWStep : FnScope ["self", "standing", "figure", "statement", "ways", "word"] ["self", "standing", "figure"] (defScope sWStep) := ⟨rfl, rfl, rfl, by decide +kernel, rfl, by decide +kernel, by decide +kernel⟩
theorem ok_wstep (X : Txt K mg CW CL) (pg : Pgm ns sz T) (CN : MCal P w K mg base CW "number" 4 ["self", "e", "standing"] (spNumber CW ns sz r0 v0 T)) (CB : MCal P w K mg base CW "with_box" 1 ["self", "standing", "name", "number"] (spWithBox CW ns sz r0 v0 T))
    (CH : MCal P w K mg base CW "holds" 5 ["self", "standing"] (spHolds CW ns sz r0 v0 T)) (F : Fun K "step" "Walker.step" sWStep f fd) : FnOk P w K mg base CX0 6 f fd ["self", "standing", "figure"] (spWStep CW ns sz r0 v0 T) := by
  refine F.ok scWStep (fun vs H Q E h => ?_) (fun cdv A outer s H vs Q E hr h => ?_)
  · obtain ⟨x, vt, vf, r, xs, s, ws, fig, rfl, _⟩ := h
    rfl
  obtain ⟨x, vt, vf, r, xs, sm, ws, fig, rfl, wk, hst, hok, hT, hfig, q⟩ := h
  obtain ⟨dx, pb, ps, pt, pd, vv, hx, hb, hs, ht, hv, hd⟩ := wk.at_
  obtain ⟨p, u, rfl, hp, hu⟩ := id hst
  obtain ⟨kvs, v, hkd, hkv, ⟨pe, te, we, kids, rfl, hpe, ⟨ps2, tl, rfl, htl, hps⟩, ⟨wa, rfl, hw⟩⟩⟩ := dictS_at hd hT
  have okk := pg.tab.ok r _ _ hT
  have ar := okk.2
  have hr1 : Room 1 _ := hr.mono (by decide)
  have hr4 : Room 4 _ := hr.mono (by decide)
  have nd := scWStep.nd
  have nN : (wF pb ps pt pd).lookup ("number" : Str) = none := wF_no _ _ _ _ (by decide +kernel) (by decide +kernel) (by decide +kernel) (by decide +kernel)
  have nB : (wF pb ps pt pd).lookup ("with_box" : Str) = none := wF_no _ _ _ _ (by decide +kernel) (by decide +kernel) (by decide +kernel) (by decide +kernel)
  have nH : (wF pb ps pt pd).lookup ("holds" : Str) = none := wF_no _ _ _ _ (by decide +kernel) (by decide +kernel) (by decide +kernel) (by decide +kernel)
  have w0 : atI (ws.map V.int) 0 = some (.int (ws.getD 0 0)) := way_at (j := 0) (by rw [ar]; exact arity_pos sm)
  have fin : ∀ {H1 : Hp} {a b : Addr} {y z : V} {n : Int} {ys : List Int}, Same H H1 → H1 a = none → (upd H1 a (.tup [.int n, y])) b = none → VsAt H1 y ys → stepM sz sm ws xs fig = some (n, ys) → Q (.ref b) (upd (upd H1 a (.tup [.int n, y])) b (.tup [.ref a, z])) := fun {H1 a b y z n ys} g ha hb hy e => by
    have g2 := same_new ha (.tup [.int n, y])
    have g3 := same_new hb (.tup [.ref a, z])
    refine q _ _ ((g.trans g2).trans g3) ⟨b, .ref a, z, rfl, upd_same, ?_⟩
    rw [e]
    exact ⟨a, y, rfl, g3 _ _ upd_same, hy.mono (.same (g2.trans g3))⟩
  refine ⟨_, pss_cons (ps_asg (pe_dget (hu_of hr) (pe_fld (pv 0) rfl) (pe_ix ix_tup (pv 1) pe_int (fun _ _ => rfl)) (fun _ _ => rfl)) (pg_tup rfl (pgs_cons (pg_name (i := 3) nd rfl (.inl rfl)) (pgs_cons (pg_name (i := 4) nd rfl (.inl rfl)) pgs_nil))))
    (pss_cons (ps_set (i := 5) nd rfl (.inl rfl) (pe_ix ix_tup (pv 3) pe_int (fun _ _ => rfl)))
    (pss_cons (ps_if (pt_cmpR op_eq (pv 5) pe_str (nomark _)) (pss_one (ps_ret (pe_tup (pa_cons (pe_tup (pa_cons (pe_ix ix_tup (pv 4) pe_int (fun _ _ => rfl)) (pa_cons (pe_mcal (pv 0) X.clW CB hr1 (pa_cons (pv 1) (pa_cons (pe_ix ix_tup (pv 3) pe_int (fun _ _ => rfl)) (pa_cons (pv 2) pa_nil)))) pa_nil))) (pa_cons pe_non pa_nil))))) pss_nil)
    (pss_cons (ps_if (pt_cmpR op_eq (pv 5) pe_str (nomark _)) (pss_one (ps_ret (pe_tup (pa_cons (pe_tup (pa_cons (pe_ix ix_tup (pv 4) pe_int (fun _ _ => rfl)) (pa_cons (pe_mcal (pv 0) X.clW CB hr1 (pa_cons (pv 1) (pa_cons (pe_ix ix_tup (pv 3) pe_int (fun _ _ => rfl)) (pa_cons
        (pe_mcal (pv 0) X.clW CN hr4 (pa_cons (pe_ix ix_tup (pv 3) pe_int (fun _ _ => rfl)) (pa_cons (pv 1) pa_nil))) pa_nil)))) pa_nil))) (pa_cons pe_non pa_nil))))) pss_nil)
    (pss_cons (ps_if (pt_cmpR op_eq (pv 5) pe_str (nomark _)) (pss_one (ps_ret (pe_tup (pa_cons (pe_tup (pa_cons (pe_ix ix_tup (pv 4) pe_int (fun _ _ => rfl)) (pa_cons (pe_ix ix_tup (pv 1) pe_int (fun _ _ => rfl)) pa_nil)))
        (pa_cons (pe_mcal (pv 0) X.clW CN hr4 (pa_cons (pe_ix ix_tup (pv 3) pe_int (fun _ _ => rfl)) (pa_cons (pv 1) pa_nil))) pa_nil))))) pss_nil)
    (pss_cons (ps_if (pt_cmpR op_eq (pv 5) pe_str (nomark _)) (pss_one (ps_ret (pe_tup (pa_cons (pe_tup (pa_cons (pe_ix ix_tup (pv 4) pe_int (fun _ _ => rfl)) (pa_cons (pe_ix ix_tup (pv 1) pe_int (fun _ _ => rfl)) pa_nil))) (pa_cons pe_non pa_nil))))) pss_nil)
    (pss_cons (ps_if (pt_val (pe_mcal (pv 0) X.clW CH hr (pa_cons (pv 1) pa_nil))) (pss_one (ps_ret (pe_tup (pa_cons (pe_tup (pa_cons (pe_ix ix_tup (pv 4) pe_int (fun _ _ => rfl)) (pa_cons (pe_ix ix_tup (pv 1) pe_int (fun _ _ => rfl)) pa_nil))) (pa_cons pe_non pa_nil))))) pss_nil)
    (pss_cons (ps_if (pt_cmpR op_eq (pv 5) pe_str (nomark _)) (pss_one (ps_ret (pe_tup (pa_cons pe_non (pa_cons pe_non pa_nil))))) pss_nil)
    (pss_one (ps_ret (pe_tup (pa_cons (pe_tup (pa_cons (pe_ix ix_tup (pv 4) pe_int (fun _ _ => rfl)) (pa_cons (pe_ix ix_tup (pv 1) pe_int (fun _ _ => rfl)) pa_nil))) (pa_cons pe_non pa_nil)))))))))))), ?_⟩
  refine ⟨_, rfl, x, CW, dx, _, _, rfl, hx, X.clW, X.wT, wF_T _ _ _ _, _, rfl, p, _, 0, _, rfl, rfl, SqT.of hp, rfl, pd, _, rfl, dget_int hkd hkv, ?_⟩
  refine ⟨pe, _, rfl, SqT.of hpe, rfl, _, _, rfl, _, _, rfl, rfl, ?_⟩
  refine ⟨_, rfl, ps2, _, 0, _, rfl, rfl, SqT.of hps, atI_nat (j := 0) rfl, ?_⟩
  have two : 2 ≤ sizeLine := by decide
  cases sm with
  | ask j =>
    obtain ⟨nm, hnm, rfl⟩ := htl
    have hfig := hfig rfl
    subst hfig
    refine ⟨_, rfl, rfl, _, rfl, if_yes ?_⟩
    refine ⟨_, rfl, wa, _, 0, _, rfl, rfl, SqT.of hw, w0, ?_⟩
    refine ⟨_, rfl, x, dx, _, rfl, hx, nB, _, rfl, _, rfl, ps2, _, 2, _, rfl, rfl, SqT.of hps, atI_nat (j := 2) rfl, _, rfl, ?_⟩
    refine ⟨x, .ref p, nm, fig, r, xs, j, rfl, wk, hst, hok, hnm, fun y H1 s1 hy => ⟨two, fun a ha => ⟨two, fun b hb => ?_⟩⟩⟩
    exact fin s1 ha hb hy rfl
  | put j e =>
    obtain ⟨nm, ve, hnm, he, rfl⟩ := htl
    refine ⟨_, rfl, rfl, _, rfl, if_no (show V.str "put" ≠ V.str "ask" by decide +kernel) ?_⟩
    refine ⟨_, rfl, rfl, _, rfl, if_yes ?_⟩
    refine ⟨_, rfl, wa, _, 0, _, rfl, rfl, SqT.of hw, w0, ?_⟩
    refine ⟨_, rfl, x, dx, _, rfl, hx, nB, _, rfl, _, rfl, ps2, _, 2, _, rfl, rfl, SqT.of hps, atI_nat (j := 2) rfl, ?_⟩
    refine ⟨_, rfl, x, dx, _, rfl, hx, nN, _, rfl, ps2, _, 3, _, rfl, rfl, SqT.of hps, atI_nat (j := 3) rfl, _, rfl, ?_⟩
    refine ⟨x, ve, .ref p, e, r, xs, rfl, wk, he, okk.1.2, hst, hok, fun y1 H0 s0 e0 => ?_⟩
    subst e0
    refine ⟨x, .ref p, nm, e.worth xs, r, xs, j, rfl, wk.mono s0, hst.mono (.same s0), hok, hnm, fun y H1 s1 hy => ⟨two, fun a ha => ⟨two, fun b hb => ?_⟩⟩⟩
    exact fin (s0.trans s1) ha hb hy rfl
  | say e =>
    obtain ⟨ve, he, rfl⟩ := htl
    refine ⟨_, rfl, rfl, _, rfl, if_no (show V.str "say" ≠ V.str "ask" by decide +kernel) ?_⟩
    refine ⟨_, rfl, rfl, _, rfl, if_no (show V.str "say" ≠ V.str "put" by decide +kernel) ?_⟩
    refine ⟨_, rfl, rfl, _, rfl, if_yes ?_⟩
    refine ⟨_, rfl, wa, _, 0, _, rfl, rfl, SqT.of hw, w0, ?_⟩
    refine ⟨_, rfl, p, _, 1, _, rfl, rfl, SqT.of hp, rfl, two, fun a ha => ?_⟩
    have s0 := same_new ha (.tup [.int (ws.getD 0 0), u])
    refine ⟨_, rfl, x, dx, _, rfl, s0 _ _ hx, nN, _, rfl, ps2, _, 2, _, rfl, rfl, SqT.of (s0 _ _ hps), atI_nat (j := 2) rfl, _, rfl, ?_⟩
    refine ⟨x, ve, .ref p, e, r, xs, rfl, wk.mono s0, he.mono (.same s0), okk.1, hst.mono (.same s0), hok, fun y1 H1 s1 e1 => ⟨two, fun b hb => ?_⟩⟩
    subst e1
    have s2 := same_new hb (.tup [.ref a, .int (e.worth xs)])
    refine q _ _ ((s0.trans s1).trans s2) ⟨b, .ref a, _, rfl, upd_same, ?_⟩
    exact ⟨a, u, rfl, s2 _ _ (s1 _ _ upd_same), hu.mono (.same ((s0.trans s1).trans s2))⟩
  | stop =>
    refine ⟨_, rfl, rfl, _, rfl, if_no (show V.str "stop" ≠ V.str "ask" by decide +kernel) ?_⟩
    refine ⟨_, rfl, rfl, _, rfl, if_no (show V.str "stop" ≠ V.str "put" by decide +kernel) ?_⟩
    refine ⟨_, rfl, rfl, _, rfl, if_no (show V.str "stop" ≠ V.str "say" by decide +kernel) ?_⟩
    refine ⟨_, rfl, rfl, _, rfl, if_yes ?_⟩
    refine ⟨_, rfl, wa, _, 0, _, rfl, rfl, SqT.of hw, w0, ?_⟩
    refine ⟨_, rfl, p, _, 1, _, rfl, rfl, SqT.of hp, rfl, two, fun a ha => ⟨two, fun b hb => ?_⟩⟩
    exact fin (Same.refl H) ha hb hu rfl
  | con c lt ea eb =>
    have na : V.str c.str ≠ V.str "ask" ∧ V.str c.str ≠ V.str "put" ∧ V.str c.str ≠ V.str "say" ∧ V.str c.str ≠ V.str "stop" := by cases c <;> decide +kernel
    refine ⟨_, rfl, rfl, _, rfl, if_no na.1 ?_⟩
    refine ⟨_, rfl, rfl, _, rfl, if_no na.2.1 ?_⟩
    refine ⟨_, rfl, rfl, _, rfl, if_no na.2.2.1 ?_⟩
    refine ⟨_, rfl, rfl, _, rfl, if_no na.2.2.2 ?_⟩
    refine ⟨_, rfl, x, dx, _, rfl, hx, nH, _, rfl, ?_⟩
    refine ⟨x, .ref p, r, xs, c, lt, ea, eb, ws, rfl, wk, hst, hok, hT, fun y1 H1 s1 e1 => ⟨_, e1, ite2 (fun hc => ?_) (fun hc => ?_)⟩⟩
    · refine ⟨_, rfl, wa, _, 0, _, rfl, rfl, SqT.of (s1 _ _ hw), w0, ?_⟩
      refine ⟨_, rfl, p, _, 1, _, rfl, rfl, SqT.of (s1 _ _ hp), rfl, two, fun a ha => ⟨two, fun b hb => ?_⟩⟩
      exact fin s1 ha hb (hu.mono (.same s1)) (if_pos hc)
    · refine ⟨_, rfl, rfl, _, rfl, ?_⟩
      by_cases m : c.must = true
      · have ec : c = .mst := by cases c <;> first | rfl | cases m
        subst ec
        refine if_yes ⟨two, fun b hb => ?_⟩
        refine q _ _ (s1.trans (same_new hb _)) ⟨b, .non, .non, rfl, upd_same, ?_⟩
        have e : stepM sz (.con .mst lt ea eb) ws xs fig = none := (if_neg hc).trans (if_pos rfl)
        rw [e]
        exact rfl
      · have nm : V.str c.str ≠ V.str "must" := by cases c <;> first | decide +kernel | exact absurd rfl m
        refine if_no nm ?_
        have w1 : atI (ws.map V.int) 1 = some (.int (ws.getD 1 0)) := way_at (j := 1) (by rw [ar]; exact arity_two m)
        refine ⟨_, rfl, wa, _, 1, _, rfl, rfl, SqT.of (s1 _ _ hw), w1, ?_⟩
        refine ⟨_, rfl, p, _, 1, _, rfl, rfl, SqT.of (s1 _ _ hp), rfl, two, fun a ha => ⟨two, fun b hb => ?_⟩⟩
        exact fin s1 ha hb (hu.mono (.same s1)) ((if_neg hc).trans (if_neg m))
/-! ### the two defs over a new Walker -/
structure PgOk (bs : Bxs) (b : Bdy) : Prop where
  nd : (bnm bs).Nodup
  sz : Sz (bsz bs)
  fs : Vok (bsz bs) (bfs bs)
  ok : b.Ok bs.length
  rows : b.rows.Nodup
  size : b.size ≤ 30
  few : bs.length ≤ 4
theorem PgOk.pgm {bs : Bxs} {b : Bdy} (h : PgOk bs b) : Pgm (bnm bs) (bsz bs) (btb b) := by
  have e : (bnm bs).length = bs.length := List.length_map _
  have e2 : (bsz bs).length = bs.length := List.length_map _
  exact ⟨h.nd, e.trans e2.symm, h.sz, by rw [e]; exact tab_ok h.ok, by rw [e]; exact h.few⟩
def spFirstStanding : Sp := fun vs H Q _ => ∃ (v : V) (bs : Bxs) (b : Bdy), vs = [v] ∧ PgAt (bnm bs) bs b H v ∧ PgOk bs b ∧ Gives H (fun H' v => StdAt H' v (first b 0) (bfs bs)) Q
theorem scFirstStanding : FnScope ["program"] ["program"] (defScope sFirstStanding) := ⟨rfl, rfl, rfl, by decide +kernel, rfl, by decide +kernel, by decide +kernel⟩
/-- a new instance: what stood is kept -/
theorem same_made {H : Hp} {x dx C : Addr} (hx : H x = none) (hd : H dx = none) : Same H (upd (upd H dx (.own x)) x (.ins C dx [])) := fun b o e => by
  rw [upd_ne (ne_of_none e hx), upd_ne (ne_of_none e hd)]
  exact e
theorem ok_firstStanding (X : Txt K mg CW CL) (C : CCal P w K mg base "Walker" CW 41 ["self", "program"] (spWInit CW)) (F : Fun K "first_standing" "first_standing" sFirstStanding f fd) : FnOk P w K mg base CX0 43 f fd ["program"] spFirstStanding := by
  refine F.ok scFirstStanding (fun vs H Q E h => ?_) (fun cdv A outer s H vs Q E hr h => ?_)
  · obtain ⟨v, bs, b, rfl, _⟩ := h
    rfl
  obtain ⟨v, bs, b, rfl, hp, ok, q⟩ := h
  refine ⟨_, pss_one (ps_ret (pe_fld (pe_ccal C hr (pa_cons (pv 0) pa_nil)) rfl)), ?_⟩
  refine ⟨_, rfl, fun x dx hx hd ne => ?_⟩
  refine ⟨H, x, dx, v, bs, b, rfl, same_made hx hd, hx, upd_same, hp, ok.size, Nat.le_trans ok.few (by decide), fun H1 s1 wk => ⟨rfl, ?_⟩⟩
  obtain ⟨dx, pb, ps, pt, pd, vv, hx, hb, hs, ht, hv, hd⟩ := wk.at_
  exact ⟨x, CW, dx, _, _, rfl, hx, X.clW, X.wG, wF_G _ _ _ _, q _ _ s1 ⟨pt, vv, rfl, ht, hv⟩⟩
def spStep : Sp := fun vs H Q _ => ∃ (v vt vf : V) (bs : Bxs) (b : Bdy) (r : Int) (xs : List Int) (s : Sm) (ws : List Int) (fig : Int), vs = [v, vt, vf] ∧ PgAt (bnm bs) bs b H v ∧ PgOk bs b ∧ StdAt H vt r xs ∧ Vok (bsz bs) xs ∧
  btb b r = some (s, ws) ∧ (s.isAsk = true → vf = .int fig) ∧ Gives H (fun H' v => StepAt H' v (stepM (bsz bs) s ws xs fig)) Q
theorem scStep : FnScope ["program", "standing", "figure"] ["program", "standing", "figure"] (defScope sStep) := ⟨rfl, rfl, rfl, by decide +kernel, rfl, by decide +kernel, by decide +kernel⟩
theorem ok_step (X : Txt K mg CW CL) (C : CCal P w K mg base "Walker" CW 41 ["self", "program"] (spWInit CW)) (CS : ∀ ns sz r0 v0 T, Pgm ns sz T → MCal P w K mg base CW "step" 6 ["self", "standing", "figure"] (spWStep CW ns sz r0 v0 T)) (F : Fun K "step" "step" sStep f fd) :
    FnOk P w K mg base CX0 43 f fd ["program", "standing", "figure"] spStep := by
  refine F.ok scStep (fun vs H Q E h => ?_) (fun cdv A outer s H vs Q E hr h => ?_)
  · obtain ⟨v, vt, vf, bs, b, r, xs, s, ws, fig, rfl, _⟩ := h
    rfl
  obtain ⟨v, vt, vf, bs, b, r, xs, sm, ws, fig, rfl, hp, ok, hst, hok, hT, hfig, q⟩ := h
  refine ⟨_, pss_one (ps_ret (pe_mcal (pe_ccal C hr (pa_cons (pv 0) pa_nil)) X.clW (CS (bnm bs) (bsz bs) (first b 0) (bfs bs) (btb b) ok.pgm) (hr.mono (by decide)) (pa_cons (pv 1) (pa_cons (pv 2) pa_nil)))), ?_⟩
  refine ⟨_, rfl, fun x dx hx hd ne => ?_⟩
  refine ⟨H, x, dx, v, bs, b, rfl, same_made hx hd, hx, upd_same, hp, ok.size, Nat.le_trans ok.few (by decide), fun H1 s1 wk => ⟨rfl, ?_⟩⟩
  obtain ⟨dx, pb, ps, pt, pd, vv, hx, _⟩ := wk.at_
  refine ⟨x, dx, _, rfl, hx, wF_no _ _ _ _ (by decide +kernel) (by decide +kernel) (by decide +kernel) (by decide +kernel), _, rfl, _, rfl, ?_⟩
  exact ⟨x, vt, vf, r, xs, sm, ws, fig, rfl, wk, hst.mono (.same s1), hok, hT, hfig, fun y H2 s2 r2 => q _ _ (s1.trans s2) r2⟩
end
end Er

namespace Er
open PySem L2
/-! the small defs over ranges -/
def optV : Option Nat → V
  | none => .non
  | some j => .int (j : Nat)
theorem optV_non (o : Option Nat) : decide (optV o = .non) = o.isNone := by
  cases o with
  | none => rfl
  | some j => rfl
/-- a box's range among the ranges -/
theorem rg_at {H : Hp} {vs : List V} {rs : Rg} {j : Nat} {p : Int × Int} (h : Paired (PairAt H) vs rs) (e : rs[j]? = some p) : ∃ c, atI vs (j : Int) = some (.ref c) ∧ vs[j]? = some (.ref c) ∧ H c = some (.tup [.int p.1, .int p.2]) := by
  obtain ⟨v, hv, ⟨c, rfl, hc⟩⟩ := pget h e
  exact ⟨c, atI_nat hv, hv, hc⟩
theorem paired_set {α β : Type} {G : α → β → Prop} {a : α} {b : β} (h : G a b) : ∀ {l : List α} {m : List β} (j : Nat), Paired G l m → Paired G (l.set j a) (m.set j b)
  | _, _, _, .nil => .nil
  | _, _, 0, .cons _ t => .cons h t
  | _, _, j + 1, .cons r t => .cons r (paired_set h j t)
theorem min_if (a b : Int) : (if b < a then b else a) = min a b := by
  split <;> omega
theorem max_if (a b : Int) : (if b > a then b else a) = max a b := by
  split <;> omega
theorem bl_false {c A B : Prop} [Decidable c] (hc : ¬ c) (h : B) : if decide c = true then A else B := by
  rw [if_neg (by rw [decide_eq_false hc]; exact Bool.false_ne_true)]
  exact h
theorem bl_true {c A B : Prop} [Decidable c] (hc : c) (h : A) : if decide c = true then A else B := by
  rw [if_pos (decide_eq_true hc)]
  exact h
section
variable {P : Program} {w : World} {K : PySem.W.Frag} {mg : Str → Option Value} {base : Heap} {f : Addr} {fd : FuncData} {CW CL : Addr}
def spProd : Sp := fun vs H Q _ => ∃ (u v : V) (p q : Int × Int), vs = [u, v] ∧ PairAt H u p ∧ PairAt H v q ∧ (-1000000 ≤ p.1 ∧ p.1 ≤ 1000000 ∧ -1000000 ≤ p.2 ∧ p.2 ≤ 1000000) ∧ Gives H (fun H' v => PairAt H' v (prodR p q)) Q
theorem scProd : FnScope ["one", "other", "some"] ["one", "other"] (defScope sProductRange) := ⟨rfl, rfl, rfl, by decide +kernel, rfl, by decide +kernel, by decide +kernel⟩
theorem ok_prod (X : Txt K mg CW CL) (F : Fun K "product_range" "product_range" sProductRange f fd) : FnOk P w K mg base CX0 1 f fd ["one", "other"] spProd := by
  refine F.ok scProd (fun vs H Q E h => ?_) (fun cdv A outer s H vs Q E hr h => ?_)
  · obtain ⟨u, v, p, q, rfl, _⟩ := h
    rfl
  obtain ⟨u, v, p, q, rfl, ⟨a, rfl, ha⟩, ⟨b, rfl, hb⟩, bd, k⟩ := h
  refine ⟨_, pss_cons (ps_set (i := 2) scProd.nd rfl (.inl rfl) (pe_lst (pa_cons (pe_op op_mul (pe_ix ix_tup (pv 0) pe_int (fun _ _ => rfl)) (pe_ix ix_tup (pv 1) pe_int (fun _ _ => rfl)))
      (pa_cons (pe_op op_mul (pe_ix ix_tup (pv 0) pe_int (fun _ _ => rfl)) (pe_ix ix_tup (pv 1) pe_int (fun _ _ => rfl)))
      (pa_cons (pe_op op_mul (pe_ix ix_tup (pv 0) pe_int (fun _ _ => rfl)) (pe_ix ix_tup (pv 1) pe_int (fun _ _ => rfl)))
      (pa_cons (pe_op op_mul (pe_ix ix_tup (pv 0) pe_int (fun _ _ => rfl)) (pe_ix ix_tup (pv 1) pe_int (fun _ _ => rfl))) pa_nil))))))
    (pss_one (ps_ret (pe_tup (pa_cons (pe_callB (cr_min rfl) (by rfl) X.zMin (by decide +kernel) (pa_cons (pv 2) pa_nil)) (pa_cons (pe_callB (cr_max rfl) (by rfl) X.zMax (by decide +kernel) (pa_cons (pv 2) pa_nil)) pa_nil))))), ?_⟩
  have b1 : -(2 ^ 64) < p.1 ∧ p.1 < 2 ^ 64 := by omega
  have b2 : -(2 ^ 64) < p.2 ∧ p.2 < 2 ^ 64 := by omega
  refine ⟨_, rfl, a, _, 0, _, rfl, rfl, SqT.of ha, rfl, _, rfl, b, _, 0, _, rfl, rfl, SqT.of hb, rfl, _, _, rfl, rfl, .inl b1, ?_⟩
  refine ⟨_, rfl, a, _, 0, _, rfl, rfl, SqT.of ha, rfl, _, rfl, b, _, 1, _, rfl, rfl, SqT.of hb, rfl, _, _, rfl, rfl, .inl b1, ?_⟩
  refine ⟨_, rfl, a, _, 1, _, rfl, rfl, SqT.of ha, rfl, _, rfl, b, _, 0, _, rfl, rfl, SqT.of hb, rfl, _, _, rfl, rfl, .inl b2, ?_⟩
  refine ⟨_, rfl, a, _, 1, _, rfl, rfl, SqT.of ha, rfl, _, rfl, b, _, 1, _, rfl, rfl, SqT.of hb, rfl, _, _, rfl, rfl, .inl b2, ?_⟩
  refine ⟨by show 4 ≤ sizeLine; decide, fun l hl => ?_⟩
  refine ⟨_, rfl, l, [p.1 * q.1, p.1 * q.2, p.2 * q.1, p.2 * q.2], rfl, SqL.of upd_same, by show 0 < 4; decide, fun m hm hle => ?_⟩
  refine ⟨_, rfl, l, [p.1 * q.1, p.1 * q.2, p.2 * q.1, p.2 * q.2], rfl, SqL.of upd_same, by show 0 < 4; decide, fun n hn hge => ?_⟩
  refine ⟨by show 2 ≤ sizeLine; decide, fun t ht => ?_⟩
  refine k _ _ ((same_new hl _).trans (same_new ht _)) ⟨t, rfl, ?_⟩
  have e1 : m = (prodR p q).1 := by
    have h1 := hle _ (List.mem_cons_self)
    have h2 := hle _ (List.mem_cons_of_mem _ List.mem_cons_self)
    have h3 := hle _ (List.mem_cons_of_mem _ (List.mem_cons_of_mem _ List.mem_cons_self))
    have h4 := hle _ (List.mem_cons_of_mem _ (List.mem_cons_of_mem _ (List.mem_cons_of_mem _ List.mem_cons_self)))
    simp only [List.mem_cons, List.not_mem_nil, or_false] at hm
    unfold prodR
    simp only
    omega
  have e2 : n = (prodR p q).2 := by
    have h1 := hge _ (List.mem_cons_self)
    have h2 := hge _ (List.mem_cons_of_mem _ List.mem_cons_self)
    have h3 := hge _ (List.mem_cons_of_mem _ (List.mem_cons_of_mem _ List.mem_cons_self))
    have h4 := hge _ (List.mem_cons_of_mem _ (List.mem_cons_of_mem _ (List.mem_cons_of_mem _ List.mem_cons_self)))
    simp only [List.mem_cons, List.not_mem_nil, or_false] at hn
    unfold prodR
    simp only
    omega
  rw [upd_same, e1, e2]
def spWith : Sp := fun vs H Q _ => ∃ (u : V) (o : Option Nat) (rs : Rg) (p : Int × Int), vs = [u, optV o, .int p.1, .int p.2] ∧ RgAt H u rs ∧ (∀ j, o = some j → j < rs.length) ∧ rs.length ≤ 100 ∧ Gives H (fun H' v => RgAt H' v (upR rs o p)) Q
theorem scWith : FnScope ["ranges", "place", "low", "high"] ["ranges", "place", "low", "high"] (defScope sWithRange) := ⟨rfl, rfl, rfl, by decide +kernel, rfl, by decide +kernel, by decide +kernel⟩
theorem ok_with (F : Fun K "with_range" "with_range" sWithRange f fd) : FnOk P w K mg base CX0 1 f fd ["ranges", "place", "low", "high"] spWith := by
  refine F.ok scWith (fun vs H Q E h => ?_) (fun cdv A outer s H vs Q E hr h => ?_)
  · obtain ⟨u, o, rs, p, rfl, _⟩ := h
    rfl
  obtain ⟨u, o, rs, p, rfl, hu, hj, hl, k⟩ := h
  refine ⟨_, pss_cons (ps_if (pt_cmp (pc_isN (pv 1))) (pss_one (ps_ret (pv 0))) pss_nil)
    (pss_one (ps_ret (pe_op op_catS (pe_op op_catS (pe_slice sl_tupS (pv 0) po_none (po_some (pv 1))) (pe_tup (pa_cons (pe_tup (pa_cons (pv 2) (pa_cons (pv 3) pa_nil))) pa_nil)))
      (pe_slice sl_tupS (pv 0) (po_some (pe_op op_add (pv 1) pe_int)) po_none)))), ?_⟩
  refine ⟨_, rfl, _, rfl, ?_⟩
  cases o with
  | none => exact if_yes ⟨_, rfl, k _ _ (Same.refl H) hu⟩
  | some j =>
    refine if_no (by intro c; cases c) ?_
    have jl := hj j rfl
    obtain ⟨a, vs, rfl, ha, pr⟩ := hu
    have lv := pr.length
    refine ⟨_, rfl, _, rfl, _, rfl, a, _, rfl, ha, fun c1 H1 s1 h1 => ?_⟩
    rw [cut_to vs j (by omega)] at h1
    refine ⟨_, rfl, _, rfl, by show 2 ≤ sizeLine; decide, fun c2 hc2 => ⟨by show 1 ≤ sizeLine; decide, fun c3 hc3 => ?_⟩⟩
    have n23 : c2 ≠ c3 := ne_of_none upd_same hc3
    have s3 := (same_new hc2 (.tup [.int p.1, .int p.2])).trans (same_new hc3 (.tup [.ref c2]))
    refine ⟨c1, c3, _, _, rfl, rfl, s3 _ _ h1, upd_same, len_small (m := 200) (by rw [List.length_take]; show _ + 1 ≤ 200; omega) (by decide), fun c4 H4 s4 h4 => ?_⟩
    have s14 := (s1.trans s3).trans s4
    refine ⟨_, rfl, _, rfl, _, _, rfl, rfl, _, rfl, a, _, rfl, s14 _ _ ha, fun c5 H5 s5 h5 => ?_⟩
    have ec : cutV vs (some ((j : Int) + 1)) none = vs.drop (j + 1) := cut_from _ (j + 1) (by omega)
    rw [ec] at h5
    refine ⟨c4, c5, _, _, rfl, rfl, s5 _ _ h4, h5, len_small (m := 300) (by rw [List.length_append, List.length_take, List.length_drop]; show _ + 1 + _ ≤ 300; omega) (by decide), fun c6 H6 s6 h6 => ?_⟩
    rw [set_cut _ j _ (by omega)] at h6
    have s16 := (s14.trans s5).trans s6
    refine k _ _ s16 ⟨c6, _, rfl, h6, ?_⟩
    refine paired_set ⟨c2, rfl, ?_⟩ j (Paired.mapP pr fun _ _ z => z.mono (.same s16))
    exact s6 _ _ (s5 _ _ (s4 _ _ (by rw [upd_ne n23]; exact upd_same)))
def spCut : Sp := fun vs H Q _ => ∃ (u : V) (p : Int × Int) (n : Int), vs = [u, .int n] ∧ PairAt H u p ∧ Gives H (fun H' v => PairAt H' v (cutE p n)) Q
theorem scCut : FnScope ["pair", "number", "low", "high"] ["pair", "number"] (defScope sCutOff) := ⟨rfl, rfl, rfl, by decide +kernel, rfl, by decide +kernel, by decide +kernel⟩
theorem int_eq_dec (a b : Int) : decide (V.int a = V.int b) = decide (a = b) := by
  by_cases e : a = b
  · rw [decide_eq_true e, decide_eq_true (by rw [e])]
  · rw [decide_eq_false e, decide_eq_false (fun z => e (V.int.inj z))]
theorem if_int {A B : Prop} {a b : Int} (h1 : a = b → A) (h2 : a ≠ b → B) : if decide (V.int a = V.int b) = true then A else B := by
  rw [int_eq_dec]
  by_cases e : a = b
  · rw [if_pos (decide_eq_true e)]
    exact h1 e
  · rw [if_neg (by rw [decide_eq_false e]; exact Bool.false_ne_true)]
    exact h2 e
theorem ok_cut (F : Fun K "cut_off" "cut_off" sCutOff f fd) : FnOk P w K mg base CX0 1 f fd ["pair", "number"] spCut := by
  refine F.ok scCut (fun vs H Q E h => ?_) (fun cdv A outer s H vs Q E hr h => ?_)
  · obtain ⟨u, p, n, rfl, _⟩ := h
    rfl
  obtain ⟨u, p, n, rfl, ⟨a, rfl, ha⟩, k⟩ := h
  have nd := scCut.nd
  refine ⟨_, pss_cons (ps_asg (pv 0) (pg_tup rfl (pgs_cons (pg_name (i := 2) nd rfl (.inl rfl)) (pgs_cons (pg_name (i := 3) nd rfl (.inl rfl)) pgs_nil))))
    (pss_cons (ps_if (pt_cmpR op_eq (pv 2) (pv 1) (nomark _)) (pss_one (ps_aug (i := 2) nd rfl (.inl rfl) pe_int ip_add)) pss_nil)
    (pss_cons (ps_if (pt_cmpR op_eq (pe_ix ix_tup (pv 0) pe_int (fun _ _ => rfl)) (pv 1) (nomark _)) (pss_one (ps_aug (i := 3) nd rfl (.inl rfl) pe_int ip_sub)) pss_nil)
    (pss_one (ps_ret (pe_tup (pa_cons (pv 2) (pa_cons (pv 3) pa_nil))))))), ?_⟩
  refine ⟨_, rfl, a, _, rfl, SqT.of ha, rfl, _, _, rfl, _, _, rfl, rfl, ?_⟩
  refine ⟨_, rfl, _, rfl, rfl, _, rfl, if_int (fun e1 => ?_) (fun e1 => ?_)⟩
  · refine ⟨_, rfl, _, _, rfl, rfl, ?_⟩
    refine ⟨_, rfl, a, _, 1, _, rfl, rfl, SqT.of ha, rfl, _, rfl, rfl, _, rfl, if_int (fun e2 => ?_) (fun e2 => ?_)⟩
    · refine ⟨_, rfl, _, _, rfl, rfl, _, rfl, _, rfl, by show 2 ≤ sizeLine; decide, fun t ht => k _ _ (same_new ht _) ⟨t, rfl, ?_⟩⟩
      rw [upd_same]
      show _ = some (HO.tup [.int (if p.1 = n then p.1 + 1 else p.1), .int (if p.2 = n then p.2 - 1 else p.2)])
      rw [if_pos e1, if_pos e2]
    · refine ⟨_, rfl, _, rfl, by show 2 ≤ sizeLine; decide, fun t ht => k _ _ (same_new ht _) ⟨t, rfl, ?_⟩⟩
      rw [upd_same]
      show _ = some (HO.tup [.int (if p.1 = n then p.1 + 1 else p.1), .int (if p.2 = n then p.2 - 1 else p.2)])
      rw [if_pos e1, if_neg e2]
  · refine ⟨_, rfl, a, _, 1, _, rfl, rfl, SqT.of ha, rfl, _, rfl, rfl, _, rfl, if_int (fun e2 => ?_) (fun e2 => ?_)⟩
    · refine ⟨_, rfl, _, _, rfl, rfl, _, rfl, _, rfl, by show 2 ≤ sizeLine; decide, fun t ht => k _ _ (same_new ht _) ⟨t, rfl, ?_⟩⟩
      rw [upd_same]
      show _ = some (HO.tup [.int (if p.1 = n then p.1 + 1 else p.1), .int (if p.2 = n then p.2 - 1 else p.2)])
      rw [if_neg e1, if_pos e2]
    · refine ⟨_, rfl, _, rfl, by show 2 ≤ sizeLine; decide, fun t ht => k _ _ (same_new ht _) ⟨t, rfl, ?_⟩⟩
      rw [upd_same]
      show _ = some (HO.tup [.int (if p.1 = n then p.1 + 1 else p.1), .int (if p.2 = n then p.2 - 1 else p.2)])
      rw [if_neg e1, if_neg e2]
end
end Er

namespace Er
open PySem L2
/-! the four sides -/
def OptRg (H : Hp) (v : V) : Option Rg → Prop
  | none => v = .non
  | some f => RgAt H v f
def spSide2 (S : Rg → Option Nat → Option Nat → Int × Int → Int × Int → Option Rg) : Sp := fun vs H Q _ => ∃ (u : V) (c : Addr) (v1 v2 : V) (rs : Rg) (l r : Option Nat) (p q : Int × Int), vs = [u, .ref c, v1, v2] ∧ RgAt H u rs ∧ H c = some (.tup [optV l, optV r]) ∧ PairAt H v1 p ∧ PairAt H v2 q ∧
  (∀ j, l = some j → j < rs.length) ∧ (∀ j, r = some j → j < rs.length) ∧ rs.length ≤ 100 ∧ Gives H (fun H' v => OptRg H' v (S rs l r p q)) Q
theorem notN_some {A B : Prop} (j : Nat) (h : A) : if (!decide (V.int (j : Nat) = V.non)) = true then A else B := by
  rw [decide_eq_false (by intro c; cases c)]
  exact iteT h
theorem notN_none {A B : Prop} (h : B) : if (!decide (V.non = V.non)) = true then A else B := by
  rw [decide_eq_true rfl]
  exact iteF h
theorem upR_len (rs : Rg) (o : Option Nat) (p : Int × Int) : (upR rs o p).length = rs.length := by
  cases o with
  | none => rfl
  | some j => exact List.length_set
theorem less_up (rs : Rg) (l : Option Nat) (b : Int) : lessL rs l b = upR rs l ((match l with | none => 0 | some j => (rs.getD j (0, 0)).1), (match l with | none => 0 | some j => min (rs.getD j (0, 0)).2 b)) := by cases l <;> rfl
theorem more_up (rs : Rg) (l : Option Nat) (b : Int) : moreR rs l b = upR rs l ((match l with | none => 0 | some j => max (rs.getD j (0, 0)).1 b), (match l with | none => 0 | some j => (rs.getD j (0, 0)).2)) := by cases l <;> rfl
section
variable {P : Program} {w : World} {K : PySem.W.Frag} {mg : Str → Option Value} {base : Heap} {f : Addr} {fd : FuncData} {CW CL : Addr}
theorem scLess : FnScope ["ranges", "places", "one", "other", "left", "right"] ["ranges", "places", "one", "other"] (defScope sLessSide) := ⟨rfl, rfl, rfl, by decide +kernel, rfl, by decide +kernel, by decide +kernel⟩
theorem ok_less (X : Txt K mg CW CL) (C : Cal P w K mg base "with_range" 1 ["ranges", "place", "low", "high"] spWith) (F : Fun K "less_side" "less_side" sLessSide f fd) : FnOk P w K mg base CX0 2 f fd ["ranges", "places", "one", "other"] (spSide2 lessS) := by
  refine F.ok scLess (fun vs H Q E h => ?_) (fun cdv A outer s H vs Q E hr h => ?_)
  · obtain ⟨u, c, v1, v2, rs, l, r, p, q, rfl, _⟩ := h
    rfl
  obtain ⟨u, c, v1, v2, rs, l, r, p, q, rfl, hu, hc, ⟨a1, rfl, h1⟩, ⟨a2, rfl, h2⟩, hl, hr', hlen, k⟩ := h
  have nd := scLess.nd
  refine ⟨_, pss_cons (ps_if (pt_cmpR op_ge (pe_ix ix_tup (pv 2) pe_int (fun _ _ => rfl)) (pe_ix ix_tup (pv 3) pe_int (fun _ _ => rfl)) (nomark _)) (pss_one (ps_ret pe_non)) pss_nil)
    (pss_cons (ps_asg (pv 1) (pg_tup rfl (pgs_cons (pg_name (i := 4) nd rfl (.inl rfl)) (pgs_cons (pg_name (i := 5) nd rfl (.inl rfl)) pgs_nil))))
    (Evl.pss_cut (ps_if (pt_cmp (pc_notN (pv 4))) (pss_one (ps_set (i := 0) nd rfl (.inl rfl) (pe_cal C hr (pa_cons (pv 0) (pa_cons (pv 4) (pa_cons (pe_ix ix_tup (pe_ix ix_tup (pv 0) (pv 4) (fun _ _ => rfl)) pe_int (fun _ _ => rfl))
        (pa_cons (pe_callB (call_min2 rfl) (by rfl) X.zMin (by decide +kernel) (pa_cons (pe_ix ix_tup (pe_ix ix_tup (pv 0) (pv 4) (fun _ _ => rfl)) pe_int (fun _ _ => rfl)) (pa_cons (pe_op op_sub (pe_ix ix_tup (pv 3) pe_int (fun _ _ => rfl)) pe_int) pa_nil))) pa_nil))))))) pss_nil)
    (Evl.pss_cut (ps_if (pt_cmp (pc_notN (pv 5))) (pss_one (ps_set (i := 0) nd rfl (.inl rfl) (pe_cal C hr (pa_cons (pv 0) (pa_cons (pv 5) (pa_cons
        (pe_callB (call_max2 rfl) (by rfl) X.zMax (by decide +kernel) (pa_cons (pe_ix ix_tup (pe_ix ix_tup (pv 0) (pv 5) (fun _ _ => rfl)) pe_int (fun _ _ => rfl)) (pa_cons (pe_op op_add (pe_ix ix_tup (pv 2) pe_int (fun _ _ => rfl)) pe_int) pa_nil)))
        (pa_cons (pe_ix ix_tup (pe_ix ix_tup (pv 0) (pv 5) (fun _ _ => rfl)) pe_int (fun _ _ => rfl)) pa_nil))))))) pss_nil)
    (pss_one (ps_ret (pv 0)))))), ?_⟩
  refine ⟨_, rfl, a1, _, 0, _, rfl, rfl, SqT.of h1, rfl, _, rfl, a2, _, 1, _, rfl, rfl, SqT.of h2, rfl, _, _, rfl, rfl, _, rfl, ?_⟩
  by_cases e : q.2 ≤ p.1
  · refine bl_true e (k _ _ (Same.refl H) ?_)
    show OptRg H .non (if q.2 ≤ p.1 then none else _)
    rw [if_pos e]
    exact rfl
  refine bl_false e ?_
  refine ⟨_, rfl, c, _, rfl, SqT.of hc, rfl, _, _, rfl, _, _, rfl, rfl, ?_⟩
  refine ⟨fun σ' H' => ∃ u', σ' = [some u', some (.ref c), some (.ref a1), some (.ref a2), some (optV l), some (optV r)] ∧ Same H H' ∧ RgAt H' u' (lessL rs l (q.2 - 1)), ?_, ?_⟩
  · cases l with
    | none => exact ⟨_, rfl, _, rfl, notN_none ⟨u, rfl, Same.refl H, hu⟩⟩
    | some j =>
      obtain ⟨a, vs, rfl, ha, pr⟩ := id hu
      obtain ⟨x, hx⟩ := get_lt (hl j rfl)
      obtain ⟨b, b1, _, b2⟩ := rg_at pr hx
      refine ⟨_, rfl, _, rfl, notN_some j ?_⟩
      refine ⟨_, rfl, _, rfl, _, rfl, _, rfl, a, _, _, _, rfl, rfl, SqT.of ha, b1, b, _, 0, _, rfl, rfl, SqT.of b2, rfl, ?_⟩
      refine ⟨_, rfl, _, rfl, a, _, _, _, rfl, rfl, SqT.of ha, b1, b, _, 1, _, rfl, rfl, SqT.of b2, rfl, _, rfl, a2, _, 1, _, rfl, rfl, SqT.of h2, rfl, _, _, rfl, rfl, _, _, rfl, ?_⟩
      rw [min_if]
      refine ⟨.ref a, some j, rs, (x.1, min x.2 (q.2 - 1)), rfl, hu, hl, hlen, fun y H1 s1 r1 => ⟨y, rfl, s1, ?_⟩⟩
      rw [less_up]
      simp only [getD_of hx]
      exact r1
  rintro σ' H1 ⟨u1, rfl, s1, hu1⟩
  have len1 : (lessL rs l (q.2 - 1)).length = rs.length := by rw [less_up]; exact upR_len _ _ _
  refine ⟨fun σ' H' => ∃ u', σ' = [some u', some (.ref c), some (.ref a1), some (.ref a2), some (optV l), some (optV r)] ∧ Same H H' ∧ RgAt H' u' (moreR (lessL rs l (q.2 - 1)) r (p.1 + 1)), ?_, ?_⟩
  · cases r with
    | none => exact ⟨_, rfl, _, rfl, notN_none ⟨u1, rfl, s1, hu1⟩⟩
    | some j =>
      obtain ⟨a, vs, rfl, ha, pr⟩ := id hu1
      obtain ⟨x, hx⟩ := get_lt (l := lessL rs l (q.2 - 1)) (j := j) (by rw [len1]; exact hr' j rfl)
      obtain ⟨b, b1, _, b2⟩ := rg_at pr hx
      refine ⟨_, rfl, _, rfl, notN_some j ?_⟩
      refine ⟨_, rfl, _, rfl, _, rfl, _, rfl, a, _, _, _, rfl, rfl, SqT.of ha, b1, b, _, 0, _, rfl, rfl, SqT.of b2, rfl, _, rfl, a1, _, 0, _, rfl, rfl, SqT.of (s1 _ _ h1), rfl, _, _, rfl, rfl, _, _, rfl, ?_⟩
      refine ⟨_, rfl, _, rfl, a, _, _, _, rfl, rfl, SqT.of ha, b1, b, _, 1, _, rfl, rfl, SqT.of b2, rfl, ?_⟩
      rw [max_if]
      refine ⟨.ref a, some j, _, (max x.1 (p.1 + 1), x.2), rfl, hu1, fun i e => by cases e; exact lt_of_get hx, by omega, fun y H2 s2 r2 => ⟨y, rfl, s1.trans s2, ?_⟩⟩
      rw [more_up]
      simp only [getD_of hx]
      exact r2
  rintro σ' H2 ⟨u2, rfl, s2, hu2⟩
  refine ⟨_, rfl, k _ _ s2 ?_⟩
  show OptRg H2 u2 (if q.2 ≤ p.1 then none else _)
  rw [if_neg e]
  exact hu2
end
end Er

namespace Er
open PySem L2
section
variable {P : Program} {w : World} {K : PySem.W.Frag} {mg : Str → Option Value} {base : Heap} {f : Addr} {fd : FuncData} {CW CL : Addr}
theorem scNless : FnScope ["ranges", "places", "one", "other", "left", "right"] ["ranges", "places", "one", "other"] (defScope sNotLessSide) := ⟨rfl, rfl, rfl, by decide +kernel, rfl, by decide +kernel, by decide +kernel⟩
theorem ok_nless (X : Txt K mg CW CL) (C : Cal P w K mg base "with_range" 1 ["ranges", "place", "low", "high"] spWith) (F : Fun K "not_less_side" "not_less_side" sNotLessSide f fd) : FnOk P w K mg base CX0 2 f fd ["ranges", "places", "one", "other"] (spSide2 nlessS) := by
  refine F.ok scNless (fun vs H Q E h => ?_) (fun cdv A outer s H vs Q E hr h => ?_)
  · obtain ⟨u, c, v1, v2, rs, l, r, p, q, rfl, _⟩ := h
    rfl
  obtain ⟨u, c, v1, v2, rs, l, r, p, q, rfl, hu, hc, ⟨a1, rfl, h1⟩, ⟨a2, rfl, h2⟩, hl, hr', hlen, k⟩ := h
  have nd := scNless.nd
  refine ⟨_, pss_cons (ps_if (pt_cmpR op_lt (pe_ix ix_tup (pv 2) pe_int (fun _ _ => rfl)) (pe_ix ix_tup (pv 3) pe_int (fun _ _ => rfl)) (nomark _)) (pss_one (ps_ret pe_non)) pss_nil)
    (pss_cons (ps_asg (pv 1) (pg_tup rfl (pgs_cons (pg_name (i := 4) nd rfl (.inl rfl)) (pgs_cons (pg_name (i := 5) nd rfl (.inl rfl)) pgs_nil))))
    (Evl.pss_cut (ps_if (pt_cmp (pc_notN (pv 4))) (pss_one (ps_set (i := 0) nd rfl (.inl rfl) (pe_cal C hr (pa_cons (pv 0) (pa_cons (pv 4) (pa_cons
        (pe_callB (call_max2 rfl) (by rfl) X.zMax (by decide +kernel) (pa_cons (pe_ix ix_tup (pe_ix ix_tup (pv 0) (pv 4) (fun _ _ => rfl)) pe_int (fun _ _ => rfl)) (pa_cons (pe_ix ix_tup (pv 3) pe_int (fun _ _ => rfl)) pa_nil)))
        (pa_cons (pe_ix ix_tup (pe_ix ix_tup (pv 0) (pv 4) (fun _ _ => rfl)) pe_int (fun _ _ => rfl)) pa_nil))))))) pss_nil)
    (Evl.pss_cut (ps_if (pt_cmp (pc_notN (pv 5))) (pss_one (ps_set (i := 0) nd rfl (.inl rfl) (pe_cal C hr (pa_cons (pv 0) (pa_cons (pv 5) (pa_cons (pe_ix ix_tup (pe_ix ix_tup (pv 0) (pv 5) (fun _ _ => rfl)) pe_int (fun _ _ => rfl))
        (pa_cons (pe_callB (call_min2 rfl) (by rfl) X.zMin (by decide +kernel) (pa_cons (pe_ix ix_tup (pe_ix ix_tup (pv 0) (pv 5) (fun _ _ => rfl)) pe_int (fun _ _ => rfl)) (pa_cons (pe_ix ix_tup (pv 2) pe_int (fun _ _ => rfl)) pa_nil))) pa_nil))))))) pss_nil)
    (pss_one (ps_ret (pv 0)))))), ?_⟩
  refine ⟨_, rfl, a1, _, 1, _, rfl, rfl, SqT.of h1, rfl, _, rfl, a2, _, 0, _, rfl, rfl, SqT.of h2, rfl, _, _, rfl, rfl, _, rfl, ?_⟩
  by_cases e : p.2 < q.1
  · refine bl_true e (k _ _ (Same.refl H) ?_)
    show OptRg H .non (if p.2 < q.1 then none else _)
    rw [if_pos e]
    exact rfl
  refine bl_false e ?_
  refine ⟨_, rfl, c, _, rfl, SqT.of hc, rfl, _, _, rfl, _, _, rfl, rfl, ?_⟩
  refine ⟨fun σ' H' => ∃ u', σ' = [some u', some (.ref c), some (.ref a1), some (.ref a2), some (optV l), some (optV r)] ∧ Same H H' ∧ RgAt H' u' (moreR rs l q.1), ?_, ?_⟩
  · cases l with
    | none => exact ⟨_, rfl, _, rfl, notN_none ⟨u, rfl, Same.refl H, hu⟩⟩
    | some j =>
      obtain ⟨a, vs, rfl, ha, pr⟩ := id hu
      obtain ⟨x, hx⟩ := get_lt (hl j rfl)
      obtain ⟨b, b1, _, b2⟩ := rg_at pr hx
      refine ⟨_, rfl, _, rfl, notN_some j ?_⟩
      refine ⟨_, rfl, _, rfl, _, rfl, _, rfl, a, _, _, _, rfl, rfl, SqT.of ha, b1, b, _, 0, _, rfl, rfl, SqT.of b2, rfl, _, rfl, a2, _, 0, _, rfl, rfl, SqT.of h2, rfl, _, _, rfl, ?_⟩
      refine ⟨_, rfl, _, rfl, a, _, _, _, rfl, rfl, SqT.of ha, b1, b, _, 1, _, rfl, rfl, SqT.of b2, rfl, ?_⟩
      rw [max_if]
      refine ⟨.ref a, some j, rs, (max x.1 q.1, x.2), rfl, hu, hl, hlen, fun y H1 s1 r1 => ⟨y, rfl, s1, ?_⟩⟩
      rw [more_up]
      simp only [getD_of hx]
      exact r1
  rintro σ' H1 ⟨u1, rfl, s1, hu1⟩
  have len1 : (moreR rs l q.1).length = rs.length := by rw [more_up]; exact upR_len _ _ _
  refine ⟨fun σ' H' => ∃ u', σ' = [some u', some (.ref c), some (.ref a1), some (.ref a2), some (optV l), some (optV r)] ∧ Same H H' ∧ RgAt H' u' (lessL (moreR rs l q.1) r p.2), ?_, ?_⟩
  · cases r with
    | none => exact ⟨_, rfl, _, rfl, notN_none ⟨u1, rfl, s1, hu1⟩⟩
    | some j =>
      obtain ⟨a, vs, rfl, ha, pr⟩ := id hu1
      obtain ⟨x, hx⟩ := get_lt (l := moreR rs l q.1) (j := j) (by rw [len1]; exact hr' j rfl)
      obtain ⟨b, b1, _, b2⟩ := rg_at pr hx
      refine ⟨_, rfl, _, rfl, notN_some j ?_⟩
      refine ⟨_, rfl, _, rfl, _, rfl, _, rfl, a, _, _, _, rfl, rfl, SqT.of ha, b1, b, _, 0, _, rfl, rfl, SqT.of b2, rfl, ?_⟩
      refine ⟨_, rfl, _, rfl, a, _, _, _, rfl, rfl, SqT.of ha, b1, b, _, 1, _, rfl, rfl, SqT.of b2, rfl, _, rfl, a1, _, 1, _, rfl, rfl, SqT.of (s1 _ _ h1), rfl, _, _, rfl, ?_⟩
      rw [min_if]
      refine ⟨.ref a, some j, _, (x.1, min x.2 p.2), rfl, hu1, fun i e => by cases e; exact lt_of_get hx, by omega, fun y H2 s2 r2 => ⟨y, rfl, s1.trans s2, ?_⟩⟩
      rw [less_up]
      simp only [getD_of hx]
      exact r2
  rintro σ' H2 ⟨u2, rfl, s2, hu2⟩
  refine ⟨_, rfl, k _ _ s2 ?_⟩
  show OptRg H2 u2 (if p.2 < q.1 then none else _)
  rw [if_neg e]
  exact hu2
theorem scSame : FnScope ["ranges", "places", "one", "other", "low", "high"] ["ranges", "places", "one", "other"] (defScope sSameSide) := ⟨rfl, rfl, rfl, by decide +kernel, rfl, by decide +kernel, by decide +kernel⟩
theorem ok_same (X : Txt K mg CW CL) (C : Cal P w K mg base "with_range" 1 ["ranges", "place", "low", "high"] spWith) (F : Fun K "same_side" "same_side" sSameSide f fd) : FnOk P w K mg base CX0 2 f fd ["ranges", "places", "one", "other"] (spSide2 sameS) := by
  refine F.ok scSame (fun vs H Q E h => ?_) (fun cdv A outer s H vs Q E hr h => ?_)
  · obtain ⟨u, c, v1, v2, rs, l, r, p, q, rfl, _⟩ := h
    rfl
  obtain ⟨u, c, v1, v2, rs, l, r, p, q, rfl, hu, hc, ⟨a1, rfl, h1⟩, ⟨a2, rfl, h2⟩, hl, hr', hlen, k⟩ := h
  have nd := scSame.nd
  refine ⟨_, pss_cons (ps_set (i := 4) nd rfl (.inl rfl) (pe_callB (call_max2 rfl) (by rfl) X.zMax (by decide +kernel) (pa_cons (pe_ix ix_tup (pv 2) pe_int (fun _ _ => rfl)) (pa_cons (pe_ix ix_tup (pv 3) pe_int (fun _ _ => rfl)) pa_nil))))
    (pss_cons (ps_set (i := 5) nd rfl (.inl rfl) (pe_callB (call_min2 rfl) (by rfl) X.zMin (by decide +kernel) (pa_cons (pe_ix ix_tup (pv 2) pe_int (fun _ _ => rfl)) (pa_cons (pe_ix ix_tup (pv 3) pe_int (fun _ _ => rfl)) pa_nil))))
    (pss_cons (ps_if (pt_cmpR op_gt (pv 4) (pv 5) (nomark _)) (pss_one (ps_ret pe_non)) pss_nil)
    (pss_one (ps_ret (pe_cal C hr (pa_cons (pe_cal C hr (pa_cons (pv 0) (pa_cons (pe_ix ix_tup (pv 1) pe_int (fun _ _ => rfl)) (pa_cons (pv 4) (pa_cons (pv 5) pa_nil))))) (pa_cons (pe_ix ix_tup (pv 1) pe_int (fun _ _ => rfl)) (pa_cons (pv 4) (pa_cons (pv 5) pa_nil))))))))), ?_⟩
  refine ⟨_, rfl, a1, _, 0, _, rfl, rfl, SqT.of h1, rfl, _, rfl, a2, _, 0, _, rfl, rfl, SqT.of h2, rfl, _, _, rfl, ?_⟩
  refine ⟨_, rfl, a1, _, 1, _, rfl, rfl, SqT.of h1, rfl, _, rfl, a2, _, 1, _, rfl, rfl, SqT.of h2, rfl, _, _, rfl, ?_⟩
  rw [max_if, min_if]
  refine ⟨_, rfl, _, rfl, _, _, rfl, rfl, _, rfl, ?_⟩
  by_cases e : min p.2 q.2 < max p.1 q.1
  · refine bl_true e (k _ _ (Same.refl H) ?_)
    show OptRg H .non (if min p.2 q.2 < max p.1 q.1 then none else _)
    rw [if_pos e]
    exact rfl
  refine bl_false e ?_
  refine ⟨_, rfl, _, rfl, c, _, 0, _, rfl, rfl, SqT.of hc, rfl, _, rfl, _, rfl, ?_⟩
  refine ⟨u, l, rs, (max p.1 q.1, min p.2 q.2), rfl, hu, hl, hlen, fun y H1 s1 r1 => ?_⟩
  refine ⟨_, rfl, c, _, 1, _, rfl, rfl, SqT.of (s1 _ _ hc), rfl, _, rfl, _, rfl, ?_⟩
  refine ⟨y, r, _, (max p.1 q.1, min p.2 q.2), rfl, r1, fun j e => by rw [upR_len]; exact hr' j e, by rw [upR_len]; exact hlen, fun z H2 s2 r2 => k _ _ (s1.trans s2) ?_⟩
  show OptRg H2 z (if min p.2 q.2 < max p.1 q.1 then none else _)
  rw [if_neg e]
  exact r2
theorem eqv_pair (p q : Int × Int) : PyData.eqv (.tuple [.int p.1, .int p.2]) (.tuple [.int q.1, .int q.2]) = decide (p = q) := by
  show ((p.1 == q.1) && ((p.2 == q.2) && true)) = _
  rw [Bool.and_true]
  by_cases e : p = q
  · subst e
    simp
  · rw [decide_eq_false e]
    by_cases e1 : p.1 = q.1
    · have e2 : ¬ p.2 = q.2 := fun z => e (Prod.ext e1 z)
      simp [e1, e2]
    · simp [e1]
theorem scNsame : FnScope ["ranges", "places", "one", "other", "left", "right", "low", "high"] ["ranges", "places", "one", "other"] (defScope sNotSameSide) := ⟨rfl, rfl, rfl, by decide +kernel, rfl, by decide +kernel, by decide +kernel⟩
theorem cutR_up (rs : Rg) (o : Option Nat) (q : Int × Int) (j : Nat) (x : Int × Int) (ho : o = some j) (e : q.1 = q.2) (hx : rs[j]? = some x) : cutR rs o q = upR rs o (cutE x q.1) := by
  subst ho
  show (if q.1 = q.2 then rs.set j (cutE (rs.getD j (0, 0)) q.1) else rs) = _
  rw [if_pos e, getD_of hx]
  rfl
theorem cutR_no (rs : Rg) (o : Option Nat) (q : Int × Int) (e : ¬ q.1 = q.2) : cutR rs o q = rs := by
  cases o with
  | none => rfl
  | some j => exact if_neg e
theorem cutR_len (rs : Rg) (o : Option Nat) (q : Int × Int) : (cutR rs o q).length = rs.length := by
  cases o with
  | none => rfl
  | some j =>
    show (if q.1 = q.2 then rs.set j (cutE (rs.getD j (0, 0)) q.1) else rs).length = _
    by_cases e : q.1 = q.2
    · rw [if_pos e, List.length_set]
    · rw [if_neg e]
theorem ok_nsame (X : Txt K mg CW CL) (C : Cal P w K mg base "with_range" 1 ["ranges", "place", "low", "high"] spWith) (C2 : Cal P w K mg base "cut_off" 1 ["pair", "number"] spCut) (F : Fun K "not_same_side" "not_same_side" sNotSameSide f fd) :
    FnOk P w K mg base CX0 2 f fd ["ranges", "places", "one", "other"] (spSide2 nsameS) := by
  refine F.ok scNsame (fun vs H Q E h => ?_) (fun cdv A outer s H vs Q E hr h => ?_)
  · obtain ⟨u, c, v1, v2, rs, l, r, p, q, rfl, _⟩ := h
    rfl
  obtain ⟨u, c, v1, v2, rs, l, r, p, q, rfl, hu, hc, ⟨a1, rfl, h1⟩, ⟨a2, rfl, h2⟩, hl, hr', hlen, k⟩ := h
  have nd := scNsame.nd
  refine ⟨_, Evl.pss_cut (ps_if (PW.pt (pw_and (pt_cmpR (op_eqD hr.units) (pv 2) (pv 3) (nomark _)) (pw_and1 (pt_cmpR op_eq (pe_ix ix_tup (pv 2) pe_int (fun _ _ => rfl)) (pe_ix ix_tup (pv 2) pe_int (fun _ _ => rfl)) (nomark _))))) (pss_one (ps_ret pe_non)) pss_nil)
    (pss_cons (ps_asg (pv 1) (pg_tup rfl (pgs_cons (pg_name (i := 4) nd rfl (.inl rfl)) (pgs_cons (pg_name (i := 5) nd rfl (.inl rfl)) pgs_nil))))
    (Evl.pss_cut (ps_if (PW.pt (pw_and (pt_cmp (pc_notN (pv 4))) (pw_and1 (pt_cmpR op_eq (pe_ix ix_tup (pv 3) pe_int (fun _ _ => rfl)) (pe_ix ix_tup (pv 3) pe_int (fun _ _ => rfl)) (nomark _)))))
      (pss_cons (ps_asg (pe_cal C2 hr (pa_cons (pe_ix ix_tup (pv 0) (pv 4) (fun _ _ => rfl)) (pa_cons (pe_ix ix_tup (pv 3) pe_int (fun _ _ => rfl)) pa_nil))) (pg_tup rfl (pgs_cons (pg_name (i := 6) nd rfl (.inl rfl)) (pgs_cons (pg_name (i := 7) nd rfl (.inl rfl)) pgs_nil))))
      (pss_one (ps_set (i := 0) nd rfl (.inl rfl) (pe_cal C hr (pa_cons (pv 0) (pa_cons (pv 4) (pa_cons (pv 6) (pa_cons (pv 7) pa_nil)))))))) pss_nil)
    (Evl.pss_cut (ps_if (PW.pt (pw_and (pt_cmp (pc_notN (pv 5))) (pw_and1 (pt_cmpR op_eq (pe_ix ix_tup (pv 2) pe_int (fun _ _ => rfl)) (pe_ix ix_tup (pv 2) pe_int (fun _ _ => rfl)) (nomark _)))))
      (pss_cons (ps_asg (pe_cal C2 hr (pa_cons (pe_ix ix_tup (pv 0) (pv 5) (fun _ _ => rfl)) (pa_cons (pe_ix ix_tup (pv 2) pe_int (fun _ _ => rfl)) pa_nil))) (pg_tup rfl (pgs_cons (pg_name (i := 6) nd rfl (.inl rfl)) (pgs_cons (pg_name (i := 7) nd rfl (.inl rfl)) pgs_nil))))
      (pss_one (ps_set (i := 0) nd rfl (.inl rfl) (pe_cal C hr (pa_cons (pv 0) (pa_cons (pv 5) (pa_cons (pv 6) (pa_cons (pv 7) pa_nil)))))))) pss_nil)
    (pss_one (ps_ret (pv 0)))))), ?_⟩
  have d1 : Dp K H (.ref a1) (.tuple [.int p.1, .int p.2]) := .tup (SqT.of h1) (.cons (.int _) (.cons (.int _) .nil))
  have d2 : Dp K H (.ref a2) (.tuple [.int q.1, .int q.2]) := .tup (SqT.of h2) (.cons (.int _) (.cons (.int _) .nil))
  have ifno : ¬ (p = q ∧ p.1 = p.2) → nsameS rs l r p q = some (cutR (cutR rs l q) r p) := fun e => if_neg e
  refine ⟨fun σ' H' => σ' = [some u, some (.ref c), some (.ref a1), some (.ref a2), none, none, none, none] ∧ H = H' ∧ ¬ (p = q ∧ p.1 = p.2), ?_, ?_⟩
  · refine ⟨_, rfl, _, rfl, _, _, d1, d2, rfl, rfl, _, rfl, ?_⟩
    rw [eqv_pair]
    refine ite2 (fun e => ?_) (fun e => ?_)
    · refine ⟨_, rfl, a1, _, 0, _, rfl, rfl, SqT.of h1, rfl, _, rfl, a1, _, 1, _, rfl, rfl, SqT.of h1, rfl, rfl, _, rfl, if_int (fun e2 => ?_) (fun e2 => ?_)⟩
      · refine k _ _ (Same.refl H) ?_
        show OptRg H .non (nsameS rs l r p q)
        have e3 : nsameS rs l r p q = none := if_pos ⟨of_decide_eq_true e, e2⟩
        rw [e3]
        exact rfl
      · exact ⟨rfl, rfl, fun z => e2 z.2⟩
    · exact ⟨rfl, rfl, fun z => e (decide_eq_true z.1)⟩
  rintro σ' H' ⟨rfl, rfl, ne⟩
  refine ⟨_, rfl, c, _, rfl, SqT.of hc, rfl, _, _, rfl, _, _, rfl, rfl, ?_⟩
  refine ⟨fun σ' H' => ∃ u' o6 o7, σ' = [some u', some (.ref c), some (.ref a1), some (.ref a2), some (optV l), some (optV r), o6, o7] ∧ Same H H' ∧ RgAt H' u' (cutR rs l q), ?_, ?_⟩
  · cases l with
    | none => exact ⟨_, rfl, _, rfl, notN_none (iteF ⟨u, none, none, rfl, Same.refl H, hu⟩)⟩
    | some j =>
      refine ⟨_, rfl, _, rfl, notN_some j ?_⟩
      refine ⟨_, rfl, a2, _, 0, _, rfl, rfl, SqT.of h2, rfl, _, rfl, a2, _, 1, _, rfl, rfl, SqT.of h2, rfl, rfl, _, rfl, if_int (fun e2 => ?_) (fun e2 => ?_)⟩
      · obtain ⟨a, vs, rfl, ha, pr⟩ := id hu
        obtain ⟨x, hx⟩ := get_lt (hl j rfl)
        obtain ⟨b, b1, _, b2⟩ := rg_at pr hx
        refine ⟨_, rfl, _, rfl, a, _, _, _, rfl, rfl, SqT.of ha, b1, _, rfl, a2, _, 0, _, rfl, rfl, SqT.of h2, rfl, ?_⟩
        refine ⟨.ref b, x, q.1, rfl, ⟨b, rfl, b2⟩, fun y H1 s1 ⟨t, et, ht⟩ => ?_⟩
        subst et
        refine ⟨t, _, rfl, SqT.of ht, rfl, _, _, rfl, _, _, rfl, rfl, ?_⟩
        refine ⟨_, rfl, _, rfl, _, rfl, _, rfl, ?_⟩
        refine ⟨.ref a, some j, rs, cutE x q.1, rfl, hu.mono (.same s1), hl, hlen, fun y H2 s2 r2 => ⟨y, _, _, rfl, s1.trans s2, ?_⟩⟩
        rw [cutR_up rs (some j) q j x rfl e2 hx]
        exact r2
      · exact ⟨u, none, none, rfl, Same.refl H, by rw [cutR_no _ _ _ e2]; exact hu⟩
  rintro σ' H1 ⟨u1, o6, o7, rfl, s1, hu1⟩
  have len1 : (cutR rs l q).length = rs.length := cutR_len _ _ _
  refine ⟨fun σ' H' => ∃ u' o6 o7, σ' = [some u', some (.ref c), some (.ref a1), some (.ref a2), some (optV l), some (optV r), o6, o7] ∧ Same H H' ∧ RgAt H' u' (cutR (cutR rs l q) r p), ?_, ?_⟩
  · cases r with
    | none => exact ⟨_, rfl, _, rfl, notN_none (iteF ⟨u1, o6, o7, rfl, s1, hu1⟩)⟩
    | some j =>
      refine ⟨_, rfl, _, rfl, notN_some j ?_⟩
      refine ⟨_, rfl, a1, _, 0, _, rfl, rfl, SqT.of (s1 _ _ h1), rfl, _, rfl, a1, _, 1, _, rfl, rfl, SqT.of (s1 _ _ h1), rfl, rfl, _, rfl, if_int (fun e2 => ?_) (fun e2 => ?_)⟩
      · obtain ⟨a, vs, rfl, ha, pr⟩ := id hu1
        obtain ⟨x, hx⟩ := get_lt (l := cutR rs l q) (j := j) (by rw [len1]; exact hr' j rfl)
        obtain ⟨b, b1, _, b2⟩ := rg_at pr hx
        refine ⟨_, rfl, _, rfl, a, _, _, _, rfl, rfl, SqT.of ha, b1, _, rfl, a1, _, 0, _, rfl, rfl, SqT.of (s1 _ _ h1), rfl, ?_⟩
        refine ⟨.ref b, x, p.1, rfl, ⟨b, rfl, b2⟩, fun y H2 s2 ⟨t, et, ht⟩ => ?_⟩
        subst et
        refine ⟨t, _, rfl, SqT.of ht, rfl, _, _, rfl, _, _, rfl, rfl, ?_⟩
        refine ⟨_, rfl, _, rfl, _, rfl, _, rfl, ?_⟩
        refine ⟨.ref a, some j, _, cutE x p.1, rfl, hu1.mono (.same s2), fun i e => by cases e; exact lt_of_get hx, by omega, fun y H3 s3 r3 => ⟨y, _, _, rfl, (s1.trans s2).trans s3, ?_⟩⟩
        rw [cutR_up _ (some j) p j x rfl e2 hx]
        exact r3
      · exact ⟨u1, o6, o7, rfl, s1, by rw [cutR_no _ _ _ e2]; exact hu1⟩
  rintro σ' H2 ⟨u2, o6, o7, rfl, s2, hu2⟩
  refine ⟨_, rfl, k _ _ s2 ?_⟩
  rw [ifno ne]
  exact hu2
end
end Er

namespace Er
open PySem L2
/-! Looker: what is made; range_by, box_at, put_range -/
def lF (pb ps pd pf : Addr) : List (Str × V) := putF "first" (.ref pf) (putF "statements" (.ref pd) (putF "sizes" (.ref ps) (putF "boxes" (.ref pb) [])))
theorem s_bf : ¬ (("boxes" : Str) = "first") := by decide +kernel
theorem s_sf : ¬ (("sizes" : Str) = "first") := by decide +kernel
theorem s_tf : ¬ (("statements" : Str) = "first") := by decide +kernel
section
variable (pb ps pd pf : Addr)
theorem lF_B : (lF pb ps pd pf).lookup ("boxes" : Str) = some (.ref pb) := by
  unfold lF
  rw [lookup_putF, if_neg s_bf, lookup_putF, if_neg s_bt, lookup_putF, if_neg s_bs, lookup_putF, if_pos rfl]
theorem lF_S : (lF pb ps pd pf).lookup ("sizes" : Str) = some (.ref ps) := by
  unfold lF
  rw [lookup_putF, if_neg s_sf, lookup_putF, if_neg s_st, lookup_putF, if_pos rfl]
theorem lF_T : (lF pb ps pd pf).lookup ("statements" : Str) = some (.ref pd) := by
  unfold lF
  rw [lookup_putF, if_neg s_tf, lookup_putF, if_pos rfl]
theorem lF_F : (lF pb ps pd pf).lookup ("first" : Str) = some (.ref pf) := by
  unfold lF
  rw [lookup_putF, if_pos rfl]
theorem lF_no {m : Str} (h1 : ¬ m = "first") (h2 : ¬ m = "statements") (h3 : ¬ m = "sizes") (h4 : ¬ m = "boxes") : (lF pb ps pd pf).lookup m = none := by
  unfold lF
  rw [lookup_putF, if_neg h1, lookup_putF, if_neg h2, lookup_putF, if_neg h3, lookup_putF, if_neg h4]
  rfl
end
structure LkAt (CL : Addr) (ns : List Str) (sz : List Int) (r0 : Int) (v0 : List Int) (T : Tab) (H : Hp) (y : Addr) : Prop where
  at_ : ∃ (dx pb ps pd pf : Addr) (vv : V), H y = some (.ins CL dx (lF pb ps pd pf)) ∧ H pb = some (.lst (ns.map V.str)) ∧ H ps = some (.lst (sz.map V.int)) ∧ DictS ns H pd T ∧ H pf = some (.tup [.int r0, vv]) ∧ RgAt H vv (sing v0)
theorem LkAt.mono {CL : Addr} {ns : List Str} {sz : List Int} {r0 : Int} {v0 : List Int} {T : Tab} {H H' : Hp} {y : Addr} (t : Same H H') (h : LkAt CL ns sz r0 v0 T H y) : LkAt CL ns sz r0 v0 T H' y := by
  obtain ⟨dx, pb, ps, pd, pf, vv, a, b, c, d, e, f⟩ := h.at_
  exact ⟨dx, pb, ps, pd, pf, vv, t _ _ a, t _ _ b, t _ _ c, d.mono t, t _ _ e, f.mono (.same t)⟩
theorem rng_bd {sz : List Int} {rs : Rg} (hz : Sz sz) (ro : Rok sz rs) : ∀ {e : Xp} {k : Nat}, e.Fit sz.length k → -(Bd k) ≤ (e.rng rs).1 ∧ (e.rng rs).1 ≤ Bd k ∧ -(Bd k) ≤ (e.rng rs).2 ∧ (e.rng rs).2 ≤ Bd k
  | .num i, k, h => by
    have b := worth_bd.bd_pos (n := 0) (xs := []) k
    have h : 0 ≤ i ∧ i ≤ 12 := h
    show -(Bd k) ≤ i ∧ i ≤ Bd k ∧ -(Bd k) ≤ i ∧ i ≤ Bd k
    omega
  | .box j, k, h => by
    have b := worth_bd.bd_pos (n := 0) (xs := []) k
    obtain ⟨s, hs⟩ := get_lt (show j < sz.length from h)
    obtain ⟨p, hp⟩ := get_lt (l := rs) (j := j) (by rw [ro.1]; exact h)
    have q := ro.2 j s p hs hp
    have q2 := hz j s hs
    show -(Bd k) ≤ (rs.getD j (0, 0)).1 ∧ (rs.getD j (0, 0)).1 ≤ Bd k ∧ -(Bd k) ≤ (rs.getD j (0, 0)).2 ∧ (rs.getD j (0, 0)).2 ≤ Bd k
    rw [getD_of hp]
    omega
  | .op _ _ _, 0, h => h.elim
  | .op s a b, k + 1, h => by
    obtain ⟨a1, a2, a3, a4⟩ := rng_bd hz ro (e := a) h.1
    obtain ⟨b1, b2, b3, b4⟩ := rng_bd hz ro (e := b) h.2
    have hM : 0 ≤ Bd k := by omega
    have hMM := Int.mul_nonneg hM hM
    show -(Bd k * Bd k + 2 * Bd k) ≤ (s.rap (a.rng rs) (b.rng rs)).1 ∧ (s.rap (a.rng rs) (b.rng rs)).1 ≤ Bd k * Bd k + 2 * Bd k ∧ -(Bd k * Bd k + 2 * Bd k) ≤ (s.rap (a.rng rs) (b.rng rs)).2 ∧ (s.rap (a.rng rs) (b.rng rs)).2 ≤ Bd k * Bd k + 2 * Bd k
    cases s with
    | add => simp only [Sg.rap]; omega
    | sub => simp only [Sg.rap]; omega
    | mul =>
      have c1 := abs_mul_le a1 a2 b1 b2
      have c2 := abs_mul_le a1 a2 b3 b4
      have c3 := abs_mul_le a3 a4 b1 b2
      have c4 := abs_mul_le a3 a4 b3 b4
      simp only [Sg.rap, prodR]
      omega
section
variable {P : Program} {w : World} {K : PySem.W.Frag} {mg : Str → Option Value} {base : Heap} {f : Addr} {fd : FuncData} {CW CL : Addr} {ns : List Str} {sz : List Int} {r0 : Int} {v0 : List Int} {T : Tab}
def spLInit (CL : Addr) : Sp := fun vs H Q _ => ∃ (H0 : Hp) (x dx : Addr) (v : V) (bs : Bxs) (b : Bdy), vs = [.ref x, v] ∧ Same H0 H ∧ H0 x = none ∧ H x = some (.ins CL dx []) ∧ PgAt (bnm bs) bs b H0 v ∧ PgOk bs b ∧
  ∀ H', Same H0 H' → LkAt CL (bnm bs) (bsz bs) (first b 0) (bfs bs) (btb b) H' x → Q .non H'
theorem scLInit : FnScope ["self", "program", "walker", "number"] ["self", "program"] (defScope sLInit) := ⟨rfl, rfl, rfl, by decide +kernel, rfl, by decide +kernel, by decide +kernel⟩
theorem ok_linit (X : Txt K mg CW CL) (C : CCal P w K mg base "Walker" CW 41 ["self", "program"] (spWInit CW)) (F : Fun K "__init__" "Looker.__init__" sLInit f fd) : FnOk P w K mg base CX0 43 f fd ["self", "program"] (spLInit CL) := by
  refine F.ok scLInit (fun vs H Q E h => ?_) (fun cdv A outer s H vs Q E hr h => ?_)
  · obtain ⟨H0, x, dx, v, bs, b, rfl, _⟩ := h
    rfl
  obtain ⟨H0, x, dx, v, bs, b, rfl, s0, x0, hx, hp, ok, q⟩ := h
  have nd := scLInit.nd
  refine ⟨_, pss_cons (ps_set (i := 2) nd rfl (.inl rfl) (pe_ccal C hr (pa_cons (pv 1) pa_nil)))
    (pss_cons (ps_fld (pv 0) (pe_fld (pv 2) rfl) rfl)
    (pss_cons (ps_fld (pv 0) (pe_fld (pv 2) rfl) rfl)
    (pss_cons (ps_fld (pv 0) (pe_fld (pv 2) rfl) rfl)
    (pss_one (ps_fld (pv 0) (pe_tup (pa_cons (pe_ix ix_tup (pe_fld (pv 2) rfl) pe_int (fun _ _ => rfl)) (pa_cons (pe_callTy call_tuple_of (by rfl) X.zTuple (by decide +kernel) (pa_cons
      (pe_lc (own := [("number", 3)]) (g := gName 3) (tt := tYes) (te := tTup (tCons (tVar 3) (tCons (tVar 3) tNil))) rfl nd (pi_tup (pe_ix ix_tup (pe_fld (pv 2) rfl) pe_int (fun _ _ => rfl))) (blkOk_by (N := ["self", "program", "walker", "number"]) (sc := defScope sLInit) (by decide +kernel))
      (fun _ _ _ _ _ => pg_name (i := 3) nd rfl (.inl rfl)) (fun _ _ _ _ _ => pts_nil) (fun _ _ _ _ _ => pe_tup (pa_cons (pv 3) (pa_cons (pv 3) pa_nil)))) pa_nil)) pa_nil))) rfl))))), ?_⟩
  refine ⟨_, rfl, fun y dy hy hdy ne => ?_⟩
  refine ⟨H, y, dy, v, bs, b, rfl, same_made hy hdy, hy, upd_same, hp.mono s0, ok.size, Nat.le_trans ok.few (by decide), fun H1 s1 wk => ⟨rfl, ?_⟩⟩
  obtain ⟨dw, pb, ps, pt, pd, vv, hw, hb, hs, ht, hv, hd⟩ := wk.at_
  have nxy : x ≠ y := ne_of_none hx hy
  have hx1 := s1 _ _ hx
  have s01 := s0.trans s1
  -- the walker stays, the instance is filled
  refine ⟨_, rfl, y, CW, dw, _, _, rfl, hw, X.clW, X.wB, wF_B _ _ _ _, _, rfl, x, CL, dx, _, rfl, hx1, X.clL, X.lB, by decide, ?_⟩
  have u2 : ∀ {b : Addr} {o : HO} {H' : Hp} {z : HO}, b ≠ x → H' b = some o → upd H' x z b = some o := fun n h => by rw [upd_ne n]; exact h
  refine ⟨_, rfl, y, CW, dw, _, _, rfl, u2 nxy.symm hw, X.clW, X.wS, wF_S _ _ _ _, _, rfl, x, CL, dx, _, rfl, upd_same, X.clL, X.lS, Nat.lt_of_le_of_lt (putF_less (Nat.le_refl 0)) (by decide), ?_⟩
  refine ⟨_, rfl, y, CW, dw, _, _, rfl, u2 nxy.symm (u2 nxy.symm hw), X.clW, X.wT, wF_T _ _ _ _, _, rfl, x, CL, dx, _, rfl, upd_same, X.clL, X.lT, Nat.lt_of_le_of_lt (putF_less (putF_less (Nat.le_refl 0))) (by decide), ?_⟩
  rw [upd_upd, upd_upd]
  generalize hH3 : upd H1 x (.ins CL dx (putF "statements" (.ref pd) (putF "sizes" (.ref ps) (putF "boxes" (.ref pb) [])))) = H3
  have x3 : H3 x = some (.ins CL dx (putF "statements" (.ref pd) (putF "sizes" (.ref ps) (putF "boxes" (.ref pb) [])))) := by rw [← hH3]; exact upd_same
  have s3 : Same H0 H3 := by rw [← hH3]; exact Same.mut s01 x0
  have b3 : But x H1 H3 := by rw [← hH3]; exact (But.refl x H1).upd _
  have tk : Tk H1 H3 := b3.tk (fun xs e => by rw [hx1] at e; cases e)
  have w3 := b3 _ _ nxy.symm hw
  have pb3 := b3 _ _ (ne_of hb hx1 (by intro c; cases c)) hb
  have ps3 := b3 _ _ (ne_of hs hx1 (by intro c; cases c)) hs
  have pt3 := tk _ _ ht
  have vv3 := hv.mono tk
  have pd3 : DictS (bnm bs) H3 pd (btb b) := by
    obtain ⟨kvs, h1, h2⟩ := hd
    exact ⟨kvs, b3 _ _ (ne_of h1 hx1 (by intro c; cases c)) h1, fun r => (h2 r).mono tk⟩
  obtain ⟨va, rfl, hva⟩ := vv3
  refine ⟨_, rfl, y, CW, dw, _, _, rfl, w3, X.clW, X.wG, wF_G _ _ _ _, pt, _, 0, _, rfl, rfl, SqT.of pt3, rfl, ?_⟩
  refine ⟨_, rfl, y, CW, dw, _, _, rfl, w3, X.clW, X.wG, wF_G _ _ _ _, pt, _, 1, _, rfl, rfl, SqT.of pt3, rfl, va, rfl, ⟨_, SqT.of hva⟩, fun D hD =>
    lc_all (walk_tup (xs := (bfs bs).map V.int)) (fun H i y => ∃ c, (bfs bs)[i]? = some c ∧ PairAt H y (c, c)) (fun H H' i y t ⟨c, e, p⟩ => ⟨c, e, p.mono t⟩) hD (fun H s => SqT.same s (SqT.of hva)) (by have := ok.few; rw [List.length_map, List.length_map]; omega) (fun i y H4 H5 hi s4 hy Q' k => ?_) (fun H4 zs s4 hz hl hR => ?_)⟩
  · obtain ⟨rfl, hy⟩ := hy
    rw [List.getElem?_map] at hy
    cases e : (bfs bs)[i]? with
    | none => rw [e] at hy; cases hy
    | some c =>
      rw [e] at hy
      have hy : some (V.int c) = some y := hy
      cases hy
      exact ⟨rfl, _, rfl, _, rfl, by show 2 ≤ sizeLine; decide, fun t ht => k _ _ (same_new ht _) ⟨c, e, t, rfl, upd_same⟩⟩
  rw [List.length_map] at hl
  have hrg : Paired (PairAt H4) zs (sing (bfs bs)) := paired_of (by rw [sing_len]; exact hl) fun i a c h1 h2 => by
    obtain ⟨d, e, pa⟩ := hR i a h1
    obtain ⟨d', e', rfl⟩ := sing_get h2
    rw [e] at e'
    cases e'
    exact pa
  refine ⟨D, _, rfl, .inl ⟨SqL.of hz, fun D4 hD4 => ⟨by show 2 ≤ sizeLine; decide, fun D5 hD5 => ?_⟩⟩⟩
  have n45 : D4 ≠ D5 := ne_of_none upd_same hD5
  have s46 := (s4.trans (same_new hD4 (.tup zs))).trans (same_new hD5 (.tup [.int (first b 0), .ref D4]))
  have hx6 := s46 _ _ x3
  refine ⟨_, rfl, x, CL, dx, _, rfl, hx6, X.clL, X.lF, Nat.lt_of_le_of_lt (putF_less (putF_less (putF_less (Nat.le_refl 0)))) (by decide), ?_⟩
  have d4 : upd (upd H4 D4 (.tup zs)) D5 (.tup [.int (first b 0), .ref D4]) D4 = some (.tup zs) := by rw [upd_ne n45]; exact upd_same
  have d5 : upd (upd H4 D4 (.tup zs)) D5 (.tup [.int (first b 0), .ref D4]) D5 = some (.tup [.int (first b 0), .ref D4]) := upd_same
  have s44 : Same H4 (upd (upd H4 D4 (.tup zs)) D5 (.tup [.int (first b 0), .ref D4])) := (same_new hD4 (.tup zs)).trans (same_new hD5 (.tup [.int (first b 0), .ref D4]))
  generalize upd (upd H4 D4 (.tup zs)) D5 (.tup [.int (first b 0), .ref D4]) = H6 at s46 hx6 d4 d5 s44
  have b7 : But x H6 (upd H6 x (.ins CL dx (lF pb ps pd D5))) := (But.refl x H6).upd _
  have tk7 : Tk H6 (upd H6 x (.ins CL dx (lF pb ps pd D5))) := .ins hx6 _
  refine q _ (Same.mut (s3.trans s46) x0) ⟨dx, pb, ps, pd, D5, .ref D4, upd_same, ?_, ?_, ?_, ?_, ⟨D4, zs, rfl, ?_, ?_⟩⟩
  · exact b7 _ _ (ne_of (s46 _ _ pb3) hx6 (by intro c; cases c)) (s46 _ _ pb3)
  · exact b7 _ _ (ne_of (s46 _ _ ps3) hx6 (by intro c; cases c)) (s46 _ _ ps3)
  · obtain ⟨kvs, h1, h2⟩ := pd3
    exact ⟨kvs, b7 _ _ (ne_of (s46 _ _ h1) hx6 (by intro c; cases c)) (s46 _ _ h1), fun r => (h2 r).mono (Tk.trans (.same s46) tk7)⟩
  · exact tk7 _ _ d5
  · exact tk7 _ _ d4
  · exact Paired.mapP hrg fun _ _ h => h.mono (Tk.trans (.same s44) tk7)
def spRangeBy (CL : Addr) (ns : List Str) (sz : List Int) (r0 : Int) (v0 : List Int) (T : Tab) (k : Nat) : Sp := fun vs H Q _ => ∃ (y : Addr) (ve vr : V) (e : Xp) (rs : Rg), vs = [.ref y, ve, vr] ∧ k ≤ 2 ∧ LkAt CL ns sz r0 v0 T H y ∧ XpAt ns H e ve ∧ e.Fit ns.length k ∧
  RgAt H vr rs ∧ Rok sz rs ∧ Gives H (fun H' v => PairAt H' v (e.rng rs)) Q
theorem scRangeBy : FnScope ["self", "e", "ranges", "one", "other"] ["self", "e", "ranges"] (defScope sLRangeBy) := ⟨rfl, rfl, rfl, by decide +kernel, rfl, by decide +kernel, by decide +kernel⟩
theorem ok_rangeBy {k j : Nat} (X : Txt K mg CW CL) (pg : Pgm ns sz T) (hk1 : 1 ≤ j) (C : ∀ i, i + 1 = k → MCal P w K mg base CL "range_by" j ["self", "e", "ranges"] (spRangeBy CL ns sz r0 v0 T i)) (CP : Cal P w K mg base "product_range" 1 ["one", "other"] spProd)
    (F : Fun K "range_by" "Looker.range_by" sLRangeBy f fd) : FnOk P w K mg base CX0 (j + 1) f fd ["self", "e", "ranges"] (spRangeBy CL ns sz r0 v0 T k) := by
  refine F.ok scRangeBy (fun vs H Q E h => ?_) (fun cdv A outer s H vs Q E hr h => ?_)
  · obtain ⟨y, ve, vr, e, rs, rfl, _⟩ := h
    rfl
  obtain ⟨y, ve, vr, e, rs, rfl, hk, lk, he, hf, hrg, hro, q⟩ := h
  obtain ⟨dx, pb, ps, pd, pf, vv, hy, hb, hs, hd, hpf, hvv⟩ := lk.at_
  have hr1 : Room 1 _ := hr.mono hk1
  have nd := scRangeBy.nd
  have nN : (lF pb ps pd pf).lookup ("range_by" : Str) = none := lF_no _ _ _ _ (by decide +kernel) (by decide +kernel) (by decide +kernel) (by decide +kernel)
  obtain ⟨ra, rvs, rfl, hra, rpr⟩ := id hrg
  cases k with
  | zero =>
    refine ⟨_, pss_cons (ps_if (pt_cmpR op_eq (pe_ix ix_tup (pv 1) pe_int (fun _ _ => rfl)) pe_str (nomark _)) (pss_one (ps_ret (pe_tup (pa_cons (pe_ix ix_tup (pv 1) pe_int (fun _ _ => rfl)) (pa_cons (pe_ix ix_tup (pv 1) pe_int (fun _ _ => rfl)) pa_nil))))) pss_nil)
      (pss_cons (ps_if (pt_cmpR op_eq (pe_ix ix_tup (pv 1) pe_int (fun _ _ => rfl)) pe_str (nomark _)) (pss_one (ps_ret (pe_ix ix_tup (pv 2) (pe_bm PySem.F.plainAttrs_list PySem.F.slot_list_index PySem.F.type_list_index mt_index (pe_fld (pv 0) rfl) (pa_cons (pe_ix ix_tup (pv 1) pe_int (fun _ _ => rfl)) pa_nil)) (fun _ _ => rfl)))) pss_nil) pss_never), ?_⟩
    cases e with
    | op s a b => exact hf.elim
    | num i =>
      obtain ⟨a, rfl, ha⟩ := he
      refine ⟨_, rfl, a, _, 0, _, rfl, rfl, SqT.of ha, rfl, rfl, _, rfl, if_yes ?_⟩
      exact ⟨_, rfl, a, _, 1, _, rfl, rfl, SqT.of ha, rfl, _, rfl, a, _, 1, _, rfl, rfl, SqT.of ha, rfl, by show 2 ≤ sizeLine; decide, fun t ht => q _ _ (same_new ht _) ⟨t, rfl, upd_same⟩⟩
    | box j =>
      obtain ⟨a, x, rfl, hn, ha⟩ := he
      obtain ⟨i1, i2, i3⟩ := index_name pg.nd hn
      obtain ⟨p, hp⟩ := get_lt (l := rs) (j := j) (by rw [hro.1, ← pg.len]; exact hf)
      obtain ⟨c, c1, _, c2⟩ := rg_at rpr hp
      refine ⟨_, rfl, a, _, 0, _, rfl, rfl, SqT.of ha, rfl, rfl, _, rfl, if_no n_box_num ?_⟩
      refine ⟨_, rfl, a, _, 0, _, rfl, rfl, SqT.of ha, rfl, rfl, _, rfl, if_yes ?_⟩
      refine ⟨_, rfl, _, rfl, y, CL, dx, _, _, rfl, hy, X.clL, X.lB, lF_B _ _ _ _, .inl ⟨rfl, _, SqL.of hb⟩, _, rfl, a, _, 1, _, rfl, rfl, SqT.of ha, rfl, pb, _, _, j, _, rfl, rfl, SqL.of hb, rfl, all_flat_str ns, i1, i2, i3, ?_⟩
      refine ⟨ra, _, _, _, rfl, rfl, SqT.of hra, c1, q _ _ (Same.refl H) ⟨c, rfl, ?_⟩⟩
      show H c = some (.tup [.int (rs.getD j (0, 0)).1, .int (rs.getD j (0, 0)).2])
      rw [getD_of hp]
      exact c2
  | succ k =>
    have CK := C k rfl
    refine ⟨_, pss_cons (ps_if (pt_cmpR op_eq (pe_ix ix_tup (pv 1) pe_int (fun _ _ => rfl)) pe_str (nomark _)) (pss_one (ps_ret (pe_tup (pa_cons (pe_ix ix_tup (pv 1) pe_int (fun _ _ => rfl)) (pa_cons (pe_ix ix_tup (pv 1) pe_int (fun _ _ => rfl)) pa_nil))))) pss_nil)
      (pss_cons (ps_if (pt_cmpR op_eq (pe_ix ix_tup (pv 1) pe_int (fun _ _ => rfl)) pe_str (nomark _)) (pss_one (ps_ret (pe_ix ix_tup (pv 2) (pe_bm PySem.F.plainAttrs_list PySem.F.slot_list_index PySem.F.type_list_index mt_index (pe_fld (pv 0) rfl) (pa_cons (pe_ix ix_tup (pv 1) pe_int (fun _ _ => rfl)) pa_nil)) (fun _ _ => rfl)))) pss_nil)
      (pss_cons (ps_set (i := 3) nd rfl (.inl rfl) (pe_mcal (pv 0) X.clL CK hr (pa_cons (pe_ix ix_tup (pv 1) pe_int (fun _ _ => rfl)) (pa_cons (pv 2) pa_nil))))
      (pss_cons (ps_set (i := 4) nd rfl (.inl rfl) (pe_mcal (pv 0) X.clL CK hr (pa_cons (pe_ix ix_tup (pv 1) pe_int (fun _ _ => rfl)) (pa_cons (pv 2) pa_nil))))
      (pss_cons (ps_if (pt_cmpR op_eq (pe_ix ix_tup (pv 1) pe_int (fun _ _ => rfl)) pe_str (nomark _)) (pss_one (ps_ret (pe_tup (pa_cons (pe_op op_add (pe_ix ix_tup (pv 3) pe_int (fun _ _ => rfl)) (pe_ix ix_tup (pv 4) pe_int (fun _ _ => rfl))) (pa_cons (pe_op op_add (pe_ix ix_tup (pv 3) pe_int (fun _ _ => rfl)) (pe_ix ix_tup (pv 4) pe_int (fun _ _ => rfl))) pa_nil))))) pss_nil)
      (pss_cons (ps_if (pt_cmpR op_eq (pe_ix ix_tup (pv 1) pe_int (fun _ _ => rfl)) pe_str (nomark _)) (pss_one (ps_ret (pe_tup (pa_cons (pe_op op_sub (pe_ix ix_tup (pv 3) pe_int (fun _ _ => rfl)) (pe_ix ix_tup (pv 4) pe_int (fun _ _ => rfl))) (pa_cons (pe_op op_sub (pe_ix ix_tup (pv 3) pe_int (fun _ _ => rfl)) (pe_ix ix_tup (pv 4) pe_int (fun _ _ => rfl))) pa_nil))))) pss_nil)
      (pss_one (ps_ret (pe_cal CP hr1 (pa_cons (pv 3) (pa_cons (pv 4) pa_nil)))))))))), ?_⟩
    cases e with
    | num i =>
      obtain ⟨a, rfl, ha⟩ := he
      refine ⟨_, rfl, a, _, 0, _, rfl, rfl, SqT.of ha, rfl, rfl, _, rfl, if_yes ?_⟩
      exact ⟨_, rfl, a, _, 1, _, rfl, rfl, SqT.of ha, rfl, _, rfl, a, _, 1, _, rfl, rfl, SqT.of ha, rfl, by show 2 ≤ sizeLine; decide, fun t ht => q _ _ (same_new ht _) ⟨t, rfl, upd_same⟩⟩
    | box j =>
      obtain ⟨a, x, rfl, hn, ha⟩ := he
      obtain ⟨i1, i2, i3⟩ := index_name pg.nd hn
      obtain ⟨p, hp⟩ := get_lt (l := rs) (j := j) (by rw [hro.1, ← pg.len]; exact hf)
      obtain ⟨c, c1, _, c2⟩ := rg_at rpr hp
      refine ⟨_, rfl, a, _, 0, _, rfl, rfl, SqT.of ha, rfl, rfl, _, rfl, if_no n_box_num ?_⟩
      refine ⟨_, rfl, a, _, 0, _, rfl, rfl, SqT.of ha, rfl, rfl, _, rfl, if_yes ?_⟩
      refine ⟨_, rfl, _, rfl, y, CL, dx, _, _, rfl, hy, X.clL, X.lB, lF_B _ _ _ _, .inl ⟨rfl, _, SqL.of hb⟩, _, rfl, a, _, 1, _, rfl, rfl, SqT.of ha, rfl, pb, _, _, j, _, rfl, rfl, SqL.of hb, rfl, all_flat_str ns, i1, i2, i3, ?_⟩
      refine ⟨ra, _, _, _, rfl, rfl, SqT.of hra, c1, q _ _ (Same.refl H) ⟨c, rfl, ?_⟩⟩
      show H c = some (.tup [.int (rs.getD j (0, 0)).1, .int (rs.getD j (0, 0)).2])
      rw [getD_of hp]
      exact c2
    | op s e1 e2 =>
      obtain ⟨a, u, z, rfl, ha, r1, r2⟩ := he
      refine ⟨_, rfl, a, _, 0, _, rfl, rfl, SqT.of ha, rfl, rfl, _, rfl, if_no (n_sg_num s) ?_⟩
      refine ⟨_, rfl, a, _, 0, _, rfl, rfl, SqT.of ha, rfl, rfl, _, rfl, if_no (n_sg_box s) ?_⟩
      refine ⟨_, rfl, y, dx, _, rfl, hy, nN, _, rfl, a, _, 1, _, rfl, rfl, SqT.of ha, rfl, _, rfl, ?_⟩
      refine ⟨y, u, _, e1, rs, rfl, Nat.le_of_succ_le hk, lk, r1, hf.1, hrg, hro, fun v1 H1 s1 p1 => ?_⟩
      refine ⟨_, rfl, y, dx, _, rfl, s1 _ _ hy, nN, _, rfl, a, _, 2, _, rfl, rfl, SqT.of (s1 _ _ ha), rfl, _, rfl, ?_⟩
      refine ⟨y, z, _, e2, rs, rfl, Nat.le_of_succ_le hk, lk.mono s1, r2.mono (.same s1), hf.2, hrg.mono (.same s1), hro, fun v2 H2 s2 p2 => ?_⟩
      have s12 := s1.trans s2
      have p1 := p1.mono (.same s2)
      refine ⟨_, rfl, a, _, 0, _, rfl, rfl, SqT.of (s12 _ _ ha), rfl, rfl, _, rfl, ?_⟩
      cases s with
      | add =>
        obtain ⟨b1, rfl, h1⟩ := p1
        obtain ⟨b2, rfl, h2⟩ := p2
        refine if_yes ?_
        refine ⟨_, rfl, b1, _, 0, _, rfl, rfl, SqT.of h1, rfl, _, rfl, b2, _, 0, _, rfl, rfl, SqT.of h2, rfl, _, _, rfl, rfl, ?_⟩
        refine ⟨_, rfl, b1, _, 1, _, rfl, rfl, SqT.of h1, rfl, _, rfl, b2, _, 1, _, rfl, rfl, SqT.of h2, rfl, _, _, rfl, rfl, by show 2 ≤ sizeLine; decide, fun t ht => q _ _ (s12.trans (same_new ht _)) ⟨t, rfl, upd_same⟩⟩
      | sub =>
        obtain ⟨b1, rfl, h1⟩ := p1
        obtain ⟨b2, rfl, h2⟩ := p2
        refine if_no (by decide +kernel) ?_
        refine ⟨_, rfl, a, _, 0, _, rfl, rfl, SqT.of (s12 _ _ ha), rfl, rfl, _, rfl, if_yes ?_⟩
        refine ⟨_, rfl, b1, _, 0, _, rfl, rfl, SqT.of h1, rfl, _, rfl, b2, _, 1, _, rfl, rfl, SqT.of h2, rfl, _, _, rfl, rfl, ?_⟩
        refine ⟨_, rfl, b1, _, 1, _, rfl, rfl, SqT.of h1, rfl, _, rfl, b2, _, 0, _, rfl, rfl, SqT.of h2, rfl, _, _, rfl, rfl, by show 2 ≤ sizeLine; decide, fun t ht => q _ _ (s12.trans (same_new ht _)) ⟨t, rfl, upd_same⟩⟩
      | mul =>
        refine if_no (by decide +kernel) ?_
        refine ⟨_, rfl, a, _, 0, _, rfl, rfl, SqT.of (s12 _ _ ha), rfl, rfl, _, rfl, if_no (by decide +kernel) ?_⟩
        have b := rng_bd pg.sz hro (e := e1) (k := k) (by rw [← pg.len]; exact hf.1)
        have b2 : Bd k ≤ Bd 1 := by
          cases k with
          | zero => decide
          | succ k =>
            cases k with
            | zero => decide
            | succ k => omega
        have b3 : Bd 1 = 168 := rfl
        exact ⟨_, rfl, _, rfl, v1, v2, _, _, rfl, p1, p2, by omega, fun v H3 s3 r3 => q _ _ (s12.trans s3) r3⟩
end
end Er

namespace Er
open PySem L2
/-! box_at, put_range, side -/
theorem xp_bx {ns : List Str} {H : Hp} {e : Xp} {v : V} (h : XpAt ns H e v) : ∃ a x r, v = .ref a ∧ H a = some (.tup (.str x :: r)) ∧ ((∃ j nm, e.bx = some j ∧ x = "box" ∧ ns[j]? = some nm ∧ r = [.str nm]) ∨ (e.bx = none ∧ V.str x ≠ .str "box")) := by
  cases e with
  | num i =>
    obtain ⟨a, e, q⟩ := h
    exact ⟨a, _, _, e, q, .inr ⟨rfl, by decide +kernel⟩⟩
  | box j =>
    obtain ⟨a, x, e, n, q⟩ := h
    exact ⟨a, _, _, e, q, .inl ⟨j, x, rfl, rfl, n, rfl⟩⟩
  | op s e f =>
    obtain ⟨a, u, z, e, q, _⟩ := h
    exact ⟨a, _, _, e, q, .inr ⟨rfl, n_sg_box s⟩⟩
section
variable {P : Program} {w : World} {K : PySem.W.Frag} {mg : Str → Option Value} {base : Heap} {f : Addr} {fd : FuncData} {CW CL : Addr} {ns : List Str} {sz : List Int} {r0 : Int} {v0 : List Int} {T : Tab}
def spBoxAt (CL : Addr) (ns : List Str) (sz : List Int) (r0 : Int) (v0 : List Int) (T : Tab) : Sp := fun vs H Q _ => ∃ (y : Addr) (ve : V) (e : Xp), vs = [.ref y, ve] ∧ LkAt CL ns sz r0 v0 T H y ∧ XpAt ns H e ve ∧ Gives H (fun _ v => v = optV e.bx) Q
theorem scBoxAt : FnScope ["self", "e"] ["self", "e"] (defScope sLBoxAt) := ⟨rfl, rfl, rfl, by decide +kernel, rfl, by decide +kernel, by decide +kernel⟩
theorem ok_boxAt (X : Txt K mg CW CL) (pg : Pgm ns sz T) (F : Fun K "box_at" "Looker.box_at" sLBoxAt f fd) : FnOk P w K mg base CX0 1 f fd ["self", "e"] (spBoxAt CL ns sz r0 v0 T) := by
  refine F.ok scBoxAt (fun vs H Q E h => ?_) (fun cdv A outer s H vs Q E hr h => ?_)
  · obtain ⟨y, ve, e, rfl, _⟩ := h
    rfl
  obtain ⟨y, ve, e, rfl, lk, he, q⟩ := h
  obtain ⟨dx, pb, ps, pd, pf, vv, hy, hb, hs, hd, hpf, hvv⟩ := lk.at_
  obtain ⟨a, x, r, rfl, ha, hx⟩ := xp_bx he
  refine ⟨_, pss_cons (ps_if (pt_cmpR op_eq (pe_ix ix_tup (pv 1) pe_int (fun _ _ => rfl)) pe_str (nomark _)) (pss_one (ps_ret (pe_bm PySem.F.plainAttrs_list PySem.F.slot_list_index PySem.F.type_list_index mt_index (pe_fld (pv 0) rfl) (pa_cons (pe_ix ix_tup (pv 1) pe_int (fun _ _ => rfl)) pa_nil)))) pss_nil)
    (pss_one (ps_ret pe_non)), ?_⟩
  refine ⟨_, rfl, a, _, 0, _, rfl, rfl, SqT.of ha, atI_nat (j := 0) rfl, rfl, _, rfl, ?_⟩
  rcases hx with ⟨j, nm, e1, rfl, hn, rfl⟩ | ⟨e1, ne⟩
  · obtain ⟨i1, i2, i3⟩ := index_name pg.nd hn
    refine if_yes ?_
    refine ⟨_, rfl, y, CL, dx, _, _, rfl, hy, X.clL, X.lB, lF_B _ _ _ _, .inl ⟨rfl, _, SqL.of hb⟩, _, rfl, a, _, 1, _, rfl, rfl, SqT.of ha, rfl, pb, _, _, j, _, rfl, rfl, SqL.of hb, rfl, all_flat_str ns, i1, i2, i3, ?_⟩
    exact q _ _ (Same.refl H) (by rw [e1]; rfl)
  · refine if_no ne ?_
    exact q _ _ (Same.refl H) (by rw [e1]; rfl)
def spPutRange (CL : Addr) (ns : List Str) (sz : List Int) (r0 : Int) (v0 : List Int) (T : Tab) : Sp := fun vs H Q _ => ∃ (y : Addr) (j : Nat) (vp : V) (p : Int × Int) (z : Int), vs = [.ref y, .int (j : Nat), vp] ∧ LkAt CL ns sz r0 v0 T H y ∧ sz[j]? = some z ∧ PairAt H vp p ∧
  Gives H (fun H' v => PairAt H' v (putR z p)) Q
theorem scPutRange : FnScope ["self", "place", "pair", "size"] ["self", "place", "pair"] (defScope sLPutRange) := ⟨rfl, rfl, rfl, by decide +kernel, rfl, by decide +kernel, by decide +kernel⟩
theorem ok_putRange (X : Txt K mg CW CL) (pg : Pgm ns sz T) (F : Fun K "put_range" "Looker.put_range" sLPutRange f fd) : FnOk P w K mg base CX0 1 f fd ["self", "place", "pair"] (spPutRange CL ns sz r0 v0 T) := by
  refine F.ok scPutRange (fun vs H Q E h => ?_) (fun cdv A outer s H vs Q E hr h => ?_)
  · obtain ⟨y, j, vp, p, z, rfl, _⟩ := h
    rfl
  obtain ⟨y, j, vp, p, z, rfl, lk, hz, ⟨a, rfl, ha⟩, q⟩ := h
  obtain ⟨dx, pb, ps, pd, pf, vv, hy, hb, hs, hd, hpf, hvv⟩ := lk.at_
  have zz := pg.sz j z hz
  refine ⟨_, pss_cons (ps_set (i := 3) scPutRange.nd rfl (.inl rfl) (pe_ix ix_list (pe_fld (pv 0) rfl) (pv 1) (fun _ _ => rfl)))
    (pss_cons (ps_if (pt_cmpR op_eq (pe_op op_fdiv (pe_ix ix_tup (pv 2) pe_int (fun _ _ => rfl)) (pv 3)) (pe_op op_fdiv (pe_ix ix_tup (pv 2) pe_int (fun _ _ => rfl)) (pv 3)) (nomark _))
      (pss_one (ps_ret (pe_tup (pa_cons (pe_op op_mod (pe_ix ix_tup (pv 2) pe_int (fun _ _ => rfl)) (pv 3)) (pa_cons (pe_op op_mod (pe_ix ix_tup (pv 2) pe_int (fun _ _ => rfl)) (pv 3)) pa_nil))))) pss_nil)
    (pss_one (ps_ret (pe_tup (pa_cons pe_int (pa_cons (pe_op op_sub (pv 3) pe_int) pa_nil)))))), ?_⟩
  refine ⟨_, rfl, y, CL, dx, _, _, rfl, hy, X.clL, X.lS, lF_S _ _ _ _, _, rfl, ps, _, _, .int z, rfl, rfl, SqL.of hs, atI_nat (by rw [List.getElem?_map, hz]; rfl), ?_⟩
  have cd : 0 < z ∧ z < 1073741824 := by omega
  refine ⟨_, rfl, a, _, 0, _, rfl, rfl, SqT.of ha, rfl, _, rfl, _, _, rfl, rfl, cd, ?_⟩
  refine ⟨_, rfl, a, _, 1, _, rfl, rfl, SqT.of ha, rfl, _, rfl, _, _, rfl, rfl, cd, rfl, _, rfl, if_int (fun e => ?_) (fun e => ?_)⟩
  · refine ⟨_, rfl, a, _, 0, _, rfl, rfl, SqT.of ha, rfl, _, rfl, _, _, rfl, rfl, cd.1, ?_⟩
    refine ⟨_, rfl, a, _, 1, _, rfl, rfl, SqT.of ha, rfl, _, rfl, _, _, rfl, rfl, cd.1, by show 2 ≤ sizeLine; decide, fun t ht => q _ _ (same_new ht _) ⟨t, rfl, ?_⟩⟩
    have e2 : putR z p = (p.1 % z, p.2 % z) := if_pos e
    rw [upd_same, e2]
  · refine ⟨_, rfl, _, _, rfl, rfl, by show 2 ≤ sizeLine; decide, fun t ht => q _ _ (same_new ht _) ⟨t, rfl, ?_⟩⟩
    have e2 : putR z p = (0, z - 1) := if_neg e
    rw [upd_same, e2]
def spSide (CL : Addr) (ns : List Str) (sz : List Int) (r0 : Int) (v0 : List Int) (T : Tab) : Sp := fun vs H Q _ => ∃ (y : Addr) (vt vr : V) (c : Cw) (lt : Bool) (a b : Xp) (row : Int) (kids : List V) (rs : Rg) (t : Bool), vs = [.ref y, vt, vr, .bl t] ∧ LkAt CL ns sz r0 v0 T H y ∧
  StAt ns H (.con c lt a b) row kids vt ∧ RgAt H vr rs ∧ Rok sz rs ∧ a.Fit ns.length 2 ∧ b.Fit ns.length 2 ∧ Gives H (fun H' v => OptRg H' v (side lt rs a b t)) Q
theorem scSide : FnScope ["self", "statement", "ranges", "truth", "one", "other", "left", "right", "found", "low", "high"] ["self", "statement", "ranges", "truth"] (defScope sLSide) := ⟨rfl, rfl, rfl, by decide +kernel, rfl, by decide +kernel, by decide +kernel⟩
theorem bx_lt {n : Nat} {e : Xp} {k j : Nat} (h : e.Fit n k) (hb : e.bx = some j) : j < n := by
  cases e with
  | num i => cases hb
  | op s a b => cases hb
  | box i =>
    have e : i = j := Option.some.inj hb
    subst e
    exact h
theorem raw_len {lt t : Bool} {rs g : Rg} {a b : Xp} (h : sideRaw lt rs a b t = some g) : g.length = rs.length := by
  cases lt <;> cases t
  · rw [← some_ite h, cutR_len, cutR_len]
  · rw [← some_ite h, upR_len, upR_len]
  · rw [← some_ite h, less_up, upR_len, more_up, upR_len]
  · rw [← some_ite h, more_up, upR_len, less_up, upR_len]
structure FourCal (P : Program) (w : World) (K : PySem.W.Frag) (mg : Str → Option Value) (base : Heap) : Prop where
  less : Cal P w K mg base "less_side" 2 ["ranges", "places", "one", "other"] (spSide2 lessS)
  nless : Cal P w K mg base "not_less_side" 2 ["ranges", "places", "one", "other"] (spSide2 nlessS)
  same : Cal P w K mg base "same_side" 2 ["ranges", "places", "one", "other"] (spSide2 sameS)
  nsame : Cal P w K mg base "not_same_side" 2 ["ranges", "places", "one", "other"] (spSide2 nsameS)
theorem ok_side (X : Txt K mg CW CL) (pg : Pgm ns sz T) (CR : MCal P w K mg base CL "range_by" 4 ["self", "e", "ranges"] (spRangeBy CL ns sz r0 v0 T 2)) (CB : MCal P w K mg base CL "box_at" 1 ["self", "e"] (spBoxAt CL ns sz r0 v0 T)) (C4 : FourCal P w K mg base)
    (F : Fun K "side" "Looker.side" sLSide f fd) : FnOk P w K mg base CX0 5 f fd ["self", "statement", "ranges", "truth"] (spSide CL ns sz r0 v0 T) := by
  refine F.ok scSide (fun vs H Q E h => ?_) (fun cdv A outer s H vs Q E hr h => ?_)
  · obtain ⟨y, vt, vr, c, lt, a, b, row, kids, rs, t, rfl, _⟩ := h
    rfl
  obtain ⟨y, vt, vr, c, lt, ea, eb, row, kids, rs, t, rfl, lk, ⟨p, tl, rfl, ⟨ua, ub, hea, heb, rfl⟩, hp⟩, hrg, hro, fa, fb, q⟩ := h
  obtain ⟨dx, pb, ps, pd, pf, vv, hy, hb, hs, hd, hpf, hvv⟩ := lk.at_
  have nd := scSide.nd
  have hr1 : Room 1 _ := hr.mono (by decide)
  have hr2 : Room 2 _ := hr.mono (by decide)
  have nR : (lF pb ps pd pf).lookup ("range_by" : Str) = none := lF_no _ _ _ _ (by decide +kernel) (by decide +kernel) (by decide +kernel) (by decide +kernel)
  have nB : (lF pb ps pd pf).lookup ("box_at" : Str) = none := lF_no _ _ _ _ (by decide +kernel) (by decide +kernel) (by decide +kernel) (by decide +kernel)
  have hlen : rs.length ≤ 100 := by rw [hro.1, ← pg.len]; exact Nat.le_trans pg.few (by decide)
  have hla : ∀ j, ea.bx = some j → j < rs.length := fun j e => by rw [hro.1, ← pg.len]; exact bx_lt fa e
  have hlb : ∀ j, eb.bx = some j → j < rs.length := fun j e => by rw [hro.1, ← pg.len]; exact bx_lt fb e
  refine ⟨_, pss_cons (ps_set (i := 4) nd rfl (.inl rfl) (pe_mcal (pv 0) X.clL CR hr (pa_cons (pe_ix ix_tup (pv 1) pe_int (fun _ _ => rfl)) (pa_cons (pv 2) pa_nil))))
    (pss_cons (ps_set (i := 5) nd rfl (.inl rfl) (pe_mcal (pv 0) X.clL CR hr (pa_cons (pe_ix ix_tup (pv 1) pe_int (fun _ _ => rfl)) (pa_cons (pv 2) pa_nil))))
    (pss_cons (ps_set (i := 6) nd rfl (.inl rfl) (pe_mcal (pv 0) X.clL CB hr1 (pa_cons (pe_ix ix_tup (pv 1) pe_int (fun _ _ => rfl)) pa_nil)))
    (pss_cons (ps_set (i := 7) nd rfl (.inl rfl) (pe_mcal (pv 0) X.clL CB hr1 (pa_cons (pe_ix ix_tup (pv 1) pe_int (fun _ _ => rfl)) pa_nil)))
    (Evl.pss_cut (ps_if (PW.pt (pw_and (pt_cmpR op_eq (pe_ix ix_tup (pv 1) pe_int (fun _ _ => rfl)) pe_str (nomark _)) (pw_and1 (pt_val (pv 3)))))
        (pss_one (ps_set (i := 8) nd rfl (.inl rfl) (pe_cal C4.less hr2 (pa_cons (pv 2) (pa_cons (pe_tup (pa_cons (pv 6) (pa_cons (pv 7) pa_nil))) (pa_cons (pv 4) (pa_cons (pv 5) pa_nil)))))))
      (pss_one (ps_if (pt_cmpR op_eq (pe_ix ix_tup (pv 1) pe_int (fun _ _ => rfl)) pe_str (nomark _))
        (pss_one (ps_set (i := 8) nd rfl (.inl rfl) (pe_cal C4.nless hr2 (pa_cons (pv 2) (pa_cons (pe_tup (pa_cons (pv 6) (pa_cons (pv 7) pa_nil))) (pa_cons (pv 4) (pa_cons (pv 5) pa_nil)))))))
      (pss_one (ps_if (pt_val (pv 3))
        (pss_one (ps_set (i := 8) nd rfl (.inl rfl) (pe_cal C4.same hr2 (pa_cons (pv 2) (pa_cons (pe_tup (pa_cons (pv 6) (pa_cons (pv 7) pa_nil))) (pa_cons (pv 4) (pa_cons (pv 5) pa_nil)))))))
        (pss_one (ps_set (i := 8) nd rfl (.inl rfl) (pe_cal C4.nsame hr2 (pa_cons (pv 2) (pa_cons (pe_tup (pa_cons (pv 6) (pa_cons (pv 7) pa_nil))) (pa_cons (pv 4) (pa_cons (pv 5) pa_nil))))))))))))
    (pss_cons (ps_if (PW.pt (pw_or (pt_cmp (pc_isN (pv 8))) (pw_or1 (pt_not (pt_val (pe_callB (cr_all rfl) (by rfl) X.zAll (by decide +kernel) (pa_cons
        (pe_lc (own := [("low", 9), ("high", 10)]) (g := gTup K 2 (gCons (gName 9) (gCons (gName 10) gNil))) (tt := tYes) (te := tOp (rI0 fun i j => .bl (decide (i ≤ j))) (tVar 9) (tVar 10)) rfl nd (pi_tup (pv 8))
          (blkOk_by (N := ["self", "statement", "ranges", "truth", "one", "other", "left", "right", "found", "low", "high"]) (sc := defScope sLSide) (by decide +kernel))
          (fun _ _ _ _ _ => pg_tup rfl (pgs_cons (pg_name (i := 9) nd rfl (.inl rfl)) (pgs_cons (pg_name (i := 10) nd rfl (.inl rfl)) pgs_nil))) (fun _ _ _ _ _ => pts_nil) (fun _ _ _ _ _ => pe_cmpR op_le (pv 9) (pv 10) (nomark _))) pa_nil))))))) (pss_one (ps_ret pe_non)) pss_nil)
    (pss_one (ps_ret (pv 8)))))))), ?_⟩
  refine ⟨_, rfl, y, dx, _, rfl, hy, nR, _, rfl, p, _, 3, _, rfl, rfl, SqT.of hp, atI_nat (j := 3) rfl, _, rfl, ?_⟩
  refine ⟨y, ua, vr, ea, rs, rfl, Nat.le_refl 2, lk, hea, fa, hrg, hro, fun v1 H1 s1 p1 => ?_⟩
  refine ⟨_, rfl, y, dx, _, rfl, s1 _ _ hy, nR, _, rfl, p, _, 4, _, rfl, rfl, SqT.of (s1 _ _ hp), atI_nat (j := 4) rfl, _, rfl, ?_⟩
  refine ⟨y, ub, vr, eb, rs, rfl, Nat.le_refl 2, lk.mono s1, heb.mono (.same s1), fb, hrg.mono (.same s1), hro, fun v2 H2 s2 p2 => ?_⟩
  have s12 := s1.trans s2
  refine ⟨_, rfl, y, dx, _, rfl, s12 _ _ hy, nB, _, rfl, p, _, 3, _, rfl, rfl, SqT.of (s12 _ _ hp), atI_nat (j := 3) rfl, ?_⟩
  refine ⟨y, ua, ea, rfl, lk.mono s12, hea.mono (.same s12), fun v3 H3 s3 e3 => ?_⟩
  subst e3
  have s13 := s12.trans s3
  refine ⟨_, rfl, y, dx, _, rfl, s13 _ _ hy, nB, _, rfl, p, _, 4, _, rfl, rfl, SqT.of (s13 _ _ hp), atI_nat (j := 4) rfl, ?_⟩
  refine ⟨y, ub, eb, rfl, lk.mono s13, heb.mono (.same s13), fun v4 H4 s4 e4 => ?_⟩
  subst e4
  have s14 := s13.trans s4
  have p1 : PairAt H4 v1 (ea.rng rs) := p1.mono (.same ((s2.trans s3).trans s4))
  have p2 : PairAt H4 v2 (eb.rng rs) := p2.mono (.same (s3.trans s4))
  have hrg4 := hrg.mono (.same s14)
  refine ⟨fun σ' H' => ∃ v8, σ' = [some (.ref y), some (.ref p), some vr, some (.bl t), some v1, some v2, some (optV ea.bx), some (optV eb.bx), some v8, none, none] ∧ Same H H' ∧ OptRg H' v8 (sideRaw lt rs ea eb t), ?_, ?_⟩
  · -- which of the four
    have two : 2 ≤ sizeLine := by decide
    have args : ∀ {S : Rg → Option Nat → Option Nat → Int × Int → Int × Int → Option Rg} {Q' : VK}, (∀ v H', Same H H' → OptRg H' v (S rs ea.bx eb.bx (ea.rng rs) (eb.rng rs)) → Q' v H') → ∀ c, H4 c = none →
        spSide2 S [vr, .ref c, v1, v2] (upd H4 c (.tup [optV ea.bx, optV eb.bx])) Q' E0 := fun {S Q'} k c hc => by
      have g := same_new hc (.tup [optV ea.bx, optV eb.bx])
      exact ⟨vr, c, v1, v2, rs, ea.bx, eb.bx, _, _, rfl, hrg4.mono (.same g), upd_same, p1.mono (.same g), p2.mono (.same g), hla, hlb, hlen, fun v H' s' o => k v H' ((s14.trans g).trans s') o⟩
    refine ⟨_, rfl, p, _, 2, _, rfl, rfl, SqT.of (s14 _ _ hp), atI_nat (j := 2) rfl, rfl, _, rfl, ?_⟩
    cases lt with
    | true =>
      refine if_yes ⟨_, rfl, t, rfl, ?_⟩
      cases t with
      | true =>
        refine iteT ⟨_, rfl, _, rfl, _, rfl, two, fun c hc => ⟨_, rfl, _, rfl, ?_⟩⟩
        exact args (S := lessS) (fun v H' s' o => ⟨v, rfl, s', o⟩) c hc
      | false =>
        refine iteF ⟨_, rfl, p, _, 2, _, rfl, rfl, SqT.of (s14 _ _ hp), atI_nat (j := 2) rfl, rfl, _, rfl, if_yes ?_⟩
        refine ⟨_, rfl, _, rfl, _, rfl, two, fun c hc => ⟨_, rfl, _, rfl, ?_⟩⟩
        exact args (S := nlessS) (fun v H' s' o => ⟨v, rfl, s', o⟩) c hc
    | false =>
      have ne : V.str "=" ≠ V.str "<" := by decide +kernel
      refine if_no ne ?_
      refine iteF ⟨_, rfl, p, _, 2, _, rfl, rfl, SqT.of (s14 _ _ hp), atI_nat (j := 2) rfl, rfl, _, rfl, if_no ne ?_⟩
      refine ⟨_, rfl, t, rfl, ?_⟩
      cases t with
      | true =>
        refine iteT ⟨_, rfl, _, rfl, _, rfl, two, fun c hc => ⟨_, rfl, _, rfl, ?_⟩⟩
        exact args (S := sameS) (fun v H' s' o => ⟨v, rfl, s', o⟩) c hc
      | false =>
        refine iteF ⟨_, rfl, _, rfl, _, rfl, two, fun c hc => ⟨_, rfl, _, rfl, ?_⟩⟩
        exact args (S := nsameS) (fun v H' s' o => ⟨v, rfl, s', o⟩) c hc
  rintro σ' H5 ⟨v8, rfl, s5, o5⟩
  refine ⟨_, rfl, _, rfl, ?_⟩
  cases es : sideRaw lt rs ea eb t with
  | none =>
    rw [es] at o5
    have o5 : v8 = .non := o5
    subst o5
    refine if_yes ?_
    refine iteT (q _ _ s5 ?_)
    unfold side
    rw [es]
    exact rfl
  | some g =>
    rw [es] at o5
    obtain ⟨ga, gv, rfl, hga, gpr⟩ := (show RgAt H5 v8 g from o5)
    have lg := gpr.length
    have hg100 : g.length ≤ 100 := by
      have e : g.length = rs.length := raw_len es
      omega
    refine if_no (by intro c; cases c) ?_
    refine ⟨_, rfl, ga, rfl, ⟨gv, SqT.of hga⟩, fun D hD => lc_all (walk_tup (xs := gv)) (fun _ i y => ∃ c, g[i]? = some c ∧ y = .bl (decide (c.1 ≤ c.2))) (fun _ _ _ _ _ h => h) hD (fun H s => SqT.same s (SqT.of hga)) (by omega) (fun i y H6 H7 hi s6 hy Q' k => ?_) (fun H6 zs s6 hz hl hR => ?_)⟩
    · obtain ⟨rfl, hy⟩ := hy
      obtain ⟨c, hc⟩ := get_lt (l := g) (j := i) (by omega)
      obtain ⟨y', hy', ⟨pb, rfl, hpb⟩⟩ := pget gpr hc
      rw [hy] at hy'
      cases hy'
      refine ⟨pb, _, rfl, SqT.of (s6 _ _ hpb), rfl, _, _, rfl, _, _, rfl, rfl, rfl, ?_⟩
      exact ⟨_, rfl, _, rfl, _, _, rfl, rfl, k _ _ (Same.refl _) ⟨c, hc, rfl⟩⟩
    rw [map_of (f := fun c : Int × Int => V.bl (decide (c.1 ≤ c.2))) (hl.trans lg) hR] at hz
    refine ⟨D, g.map fun c => decide (c.1 ≤ c.2), rfl, SqL.of (by rw [List.map_map]; exact hz), _, rfl, ?_⟩
    have eo : ((g.map fun c => decide (c.1 ≤ c.2)).all id) = okR g := by
      rw [List.all_map]
      rfl
    rw [eo]
    by_cases ok : okR g = true
    · rw [ok]
      refine iteF ⟨_, rfl, q _ _ (s5.trans s6) ?_⟩
      unfold side
      rw [es]
      show OptRg H6 (.ref ga) (if okR g = true then some g else none)
      rw [if_pos ok]
      exact RgAt.mono (.same s6) ⟨ga, gv, rfl, hga, gpr⟩
    · rw [bfalse ok]
      refine iteT (q _ _ (s5.trans s6) ?_)
      unfold side
      rw [es]
      show OptRg H6 .non (if okR g = true then some g else none)
      rw [if_neg ok]
      exact rfl
end
end Er

namespace Er
open PySem L2
/-! sides, ways_from, joined -/
def WayAt (H : Hp) (v : V) (w : Int × Rg) : Prop := ∃ p u, v = .ref p ∧ H p = some (.tup [.int w.1, u]) ∧ RgAt H u w.2
theorem WayAt.mono {H H' : Hp} (t : Tk H H') {v : V} {w : Int × Rg} (h : WayAt H v w) : WayAt H' v w := by
  obtain ⟨p, u, a, b, c⟩ := h
  exact ⟨p, u, a, t _ _ b, c.mono t⟩
def upto (lt : Bool) (rs : Rg) (a b : Xp) (ws : List Int) : Nat → List (Int × Rg)
  | 0 => []
  | 1 => sideW lt rs a b true ws[0]?
  | _ => sideW lt rs a b true ws[0]? ++ sideW lt rs a b false ws[1]?
theorem upto_all (lt : Bool) (rs : Rg) (a b : Xp) (ws : List Int) : upto lt rs a b ws (min 2 ws.length) = sideW lt rs a b true ws[0]? ++ sideW lt rs a b false ws[1]? := by
  match ws with
  | [] => rfl
  | [x] =>
    show sideW lt rs a b true (some x) = sideW lt rs a b true (some x) ++ sideW lt rs a b false none
    rw [sideW_no, List.append_nil]
  | x :: y :: r =>
    have e : min 2 (x :: y :: r).length = 2 := by simp
    rw [e]
    rfl
theorem upto_step {lt : Bool} {rs : Rg} {a b : Xp} {ws : List Int} {i : Nat} {x : V} {y : Int} (hx : ([V.bl true, V.bl false] : List V)[i]? = some x) (hy : ws[i]? = some y) : ∃ t, x = .bl t ∧ upto lt rs a b ws (i + 1) = upto lt rs a b ws i ++ sideW lt rs a b t (some y) := by
  match i with
  | 0 =>
    cases hx
    refine ⟨true, rfl, ?_⟩
    show sideW lt rs a b true ws[0]? = [] ++ sideW lt rs a b true (some y)
    rw [hy]
    rfl
  | 1 =>
    cases hx
    refine ⟨false, rfl, ?_⟩
    show sideW lt rs a b true ws[0]? ++ sideW lt rs a b false ws[1]? = sideW lt rs a b true ws[0]? ++ sideW lt rs a b false (some y)
    rw [hy]
  | i + 2 => simp at hx
def waysT (T : Tab) (sz : List Int) (r : Int) (rs : Rg) : List (Int × Rg) := match T r with
  | none => []
  | some x => ways sz x.1 x.2 rs
section
variable {P : Program} {w : World} {K : PySem.W.Frag} {mg : Str → Option Value} {base : Heap} {f : Addr} {fd : FuncData} {CW CL : Addr} {ns : List Str} {sz : List Int} {r0 : Int} {v0 : List Int} {T : Tab}
def spSides (CL : Addr) (ns : List Str) (sz : List Int) (r0 : Int) (v0 : List Int) (T : Tab) : Sp := fun vs H Q _ => ∃ (y : Addr) (vt vr vw : V) (c : Cw) (lt : Bool) (a b : Xp) (row : Int) (kids : List V) (rs : Rg) (ws : List Int), vs = [.ref y, vt, vr, vw] ∧ LkAt CL ns sz r0 v0 T H y ∧
  StAt ns H (.con c lt a b) row kids vt ∧ RgAt H vr rs ∧ Rok sz rs ∧ a.Fit ns.length 2 ∧ b.Fit ns.length 2 ∧ VsAt H vw ws ∧ Gives H (fun H' v => LstAt WayAt H' v (sideW lt rs a b true ws[0]? ++ sideW lt rs a b false ws[1]?)) Q
theorem scSides : FnScope ["self", "statement", "ranges", "ways", "found", "truth", "row", "behind"] ["self", "statement", "ranges", "ways"] (defScope sLSides) := ⟨rfl, rfl, rfl, by decide +kernel, rfl, by decide +kernel, by decide +kernel⟩
theorem ok_sides (X : Txt K mg CW CL) (CS : MCal P w K mg base CL "side" 5 ["self", "statement", "ranges", "truth"] (spSide CL ns sz r0 v0 T)) (F : Fun K "sides" "Looker.sides" sLSides f fd) : FnOk P w K mg base CX0 6 f fd ["self", "statement", "ranges", "ways"] (spSides CL ns sz r0 v0 T) := by
  refine F.ok scSides (fun vs H Q E h => ?_) (fun cdv A outer s H vs Q E hr h => ?_)
  · obtain ⟨y, vt, vr, vw, c, lt, a, b, row, kids, rs, ws, rfl, _⟩ := h
    rfl
  obtain ⟨y, vt, vr, vw, c, lt, ea, eb, row, kids, rs, ws, rfl, lk, hst, hrg, hro, fa, fb, ⟨wa, rfl, hw⟩, q⟩ := h
  obtain ⟨dx, pb, ps, pd, pf, vv, hy, hb, hs, hd, hpf, hvv⟩ := lk.at_
  have nd := scSides.nd
  have nS : (lF pb ps pd pf).lookup ("side" : Str) = none := lF_no _ _ _ _ (by decide +kernel) (by decide +kernel) (by decide +kernel) (by decide +kernel)
  refine ⟨_, pss_cons (ps_set (i := 4) nd rfl (.inl rfl) (pe_lst pa_nil))
    (pss_cons (ps_for PassesOwn.never rfl (RZ.pi_zipA (by rfl) X.zZip (pa_cons (pe_tup (pa_cons pe_bl (pa_cons pe_bl pa_nil))) (pa_cons (pv 3) pa_nil))) (pg_tup rfl (pgs_cons (pg_name (i := 5) nd rfl (.inl rfl)) (pgs_cons (pg_name (i := 6) nd rfl (.inl rfl)) pgs_nil)))
      (pss_cons (ps_set (i := 7) nd rfl (.inl rfl) (pe_mcal (pv 0) X.clL CS hr (pa_cons (pv 1) (pa_cons (pv 2) (pa_cons (pv 5) pa_nil)))))
      (pss_one (ps_if (pt_cmp (pc_notN (pv 7))) (pss_one (ps_expr (pe_bm PySem.F.plainAttrs_list PySem.F.slot_list_append PySem.F.type_list_append mt_append (pv 4) (pa_cons (pe_tup (pa_cons (pv 6) (pa_cons (pv 7) pa_nil))) pa_nil)))) pss_nil))))
    (pss_one (ps_ret (pv 4)))), ?_⟩
  refine ⟨Nat.zero_le _, fun l hl => ?_⟩
  have g0 := same_new hl (.lst [])
  refine ⟨by show 2 ≤ sizeLine; decide, fun u hu => ⟨_, rfl, u, wa, _, _, rfl, .inr ⟨SqT.of upd_same, SqT.of (same_new hu _ _ _ (g0 _ _ hw)), ?_⟩⟩⟩
  have g1 := same_new hu (.tup [.bl true, .bl false])
  have g01 := g0.trans g1
  have nlu : l ≠ u := ne_of_none upd_same hu
  refine for_it (walk_zipT (xs := [.bl true, .bl false]) (ys := ws.map V.int) (n := min 2 ws.length) (by rw [List.length_map]; rfl)) (fun i σ H' => ∃ (o5 o6 o7 : Option V) (acc : List V),
    σ = [some (.ref y), some vt, some vr, some (.ref wa), some (.ref l), o5, o6, o7] ∧ But l (upd (upd H l (.lst [])) u (.tup [.bl true, .bl false])) H' ∧ H' l = some (.lst acc) ∧ Paired (WayAt H') acc (upto lt rs ea eb ws i))
    ⟨none, none, none, [], rfl, .refl _ _, by rw [upd_ne nlu]; exact upd_same, .nil⟩ (fun i σ H' _ ⟨_, _, _, _, _, bt, _⟩ => ?_) ?_ ?_
  · exact ⟨SqT.of (bt _ _ nlu.symm upd_same), SqT.of (bt.out g01 hl _ _ hw)⟩
  · rintro i v σ H1 H2 hi ⟨o5, o6, o7, acc, rfl, bt, hl1, pr⟩ ⟨t, x, yv, rfl, ht, rfl, hx, hyv⟩
    have hyv : (ws.map V.int)[i]? = some yv := hyv
    rw [List.getElem?_map] at hyv
    obtain ⟨n, hn⟩ := get_lt (l := ws) (j := i) (by omega)
    rw [hn] at hyv
    have hyv : some (V.int n) = some yv := hyv
    cases hyv
    obtain ⟨tb, rfl, es⟩ := upto_step (lt := lt) (rs := rs) (a := ea) (b := eb) hx hn
    have s1 : Same H H1 := bt.out g01 hl
    have g2 := same_new ht (.tup [.bl tb, .int n])
    have s2 := s1.trans g2
    have lacc : acc.length ≤ 10 := by
      have e := pr.length
      have e2 : (upto lt rs ea eb ws i).length ≤ 2 := upto_len i
      omega
    refine ⟨t, _, rfl, SqT.of upd_same, rfl, _, _, rfl, _, _, rfl, rfl, ?_⟩
    refine ⟨_, rfl, y, dx, _, rfl, s2 _ _ hy, nS, _, rfl, _, rfl, _, rfl, ?_⟩
    refine ⟨y, vt, vr, c, lt, ea, eb, row, kids, rs, tb, rfl, lk.mono s2, hst.mono (.same s2), hrg.mono (.same s2), hro, fa, fb, fun b7 H3 s3 o3 => ?_⟩
    have hl3 : H3 l = some (.lst acc) := s3 _ _ (g2 _ _ hl1)
    refine ⟨_, rfl, _, rfl, ?_⟩
    cases e : side lt rs ea eb tb with
    | none =>
      rw [e] at o3
      have o3 : b7 = .non := o3
      subst o3
      refine notN_none ⟨_, _, _, acc, rfl, (bt.trans (.same g2)).trans (.same s3), hl3, ?_⟩
      rw [es, sideW_none e, List.append_nil]
      exact Paired.mapP pr fun _ _ h => h.mono (.same (g2.trans s3))
    | some g =>
      rw [e] at o3
      have o3 : RgAt H3 b7 g := o3
      obtain ⟨ga, gv, rfl, o4⟩ := id o3
      have ne : (!decide (V.ref ga = V.non)) = true := by
        rw [decide_eq_false (by intro c; cases c)]
        rfl
      rw [ne]
      refine iteT ⟨_, rfl, .inl ⟨rfl, _, SqL.of hl3⟩, _, rfl, _, rfl, by show 2 ≤ sizeLine; decide, fun d hd => ?_⟩
      have g4 := same_new hd (.tup [.int n, .ref ga])
      refine ⟨l, acc, _, rfl, rfl, g4 _ _ hl3, len_less lacc (by decide), ?_⟩
      have t5 : Tk H3 (upd (upd H3 d (.tup [.int n, .ref ga])) l (.lst (acc ++ [.ref d]))) := Tk.trans (.same g4) (.lst (g4 _ _ hl3) _)
      have ndl : d ≠ l := (ne_of_none hl3 hd).symm
      refine ⟨_, _, _, _, rfl, (((bt.trans (.same g2)).trans (.same s3)).trans (.same g4)).upd _, upd_same, ?_⟩
      rw [es, sideW_some e]
      exact paired_app (Paired.mapP pr fun _ _ h => h.mono (Tk.trans (.same (g2.trans s3)) t5)) (paired_one ⟨d, .ref ga, rfl, by rw [upd_ne ndl]; exact upd_same, o3.mono t5⟩)
  · rintro σ H1 ⟨o5, o6, o7, acc, rfl, bt, hl1, pr⟩
    rw [upto_all] at pr
    exact ⟨_, rfl, q _ _ (bt.out g01 hl) ⟨l, acc, rfl, hl1, pr⟩⟩
where
  upto_len {lt : Bool} {rs : Rg} {a b : Xp} {ws : List Int} : ∀ i, (upto lt rs a b ws i).length ≤ 2
    | 0 => Nat.zero_le _
    | 1 => by
      show (sideW lt rs a b true ws[0]?).length ≤ 2
      unfold sideW
      split <;> simp
    | i + 2 => by
      show (sideW lt rs a b true ws[0]? ++ sideW lt rs a b false ws[1]?).length ≤ 2
      rw [List.length_append]
      have one : ∀ t (o : Option Int), (sideW lt rs a b t o).length ≤ 1 := fun t o => by
        unfold sideW
        split <;> simp
      have := one true ws[0]?
      have := one false ws[1]?
      omega
def spLWays (CL : Addr) (ns : List Str) (sz : List Int) (r0 : Int) (v0 : List Int) (T : Tab) : Sp := fun vs H Q _ => ∃ (y : Addr) (row : Int) (vr : V) (rs : Rg), vs = [.ref y, .int row, vr] ∧ LkAt CL ns sz r0 v0 T H y ∧ RgAt H vr rs ∧ Rok sz rs ∧ (row = 0 ∨ ∃ x, T row = some x) ∧
  Gives H (fun H' v => LstAt WayAt H' v (waysT T sz row rs)) Q
theorem scLWays : FnScope ["self", "row", "ranges", "statement", "ways", "place", "low", "high"] ["self", "row", "ranges"] (defScope sLWaysFrom) := ⟨rfl, rfl, rfl, by decide +kernel, rfl, by decide +kernel, by decide +kernel⟩
theorem ok_lways (X : Txt K mg CW CL) (pg : Pgm ns sz T) (CS : MCal P w K mg base CL "sides" 6 ["self", "statement", "ranges", "ways"] (spSides CL ns sz r0 v0 T)) (CP : MCal P w K mg base CL "put_range" 1 ["self", "place", "pair"] (spPutRange CL ns sz r0 v0 T))
    (CR : MCal P w K mg base CL "range_by" 4 ["self", "e", "ranges"] (spRangeBy CL ns sz r0 v0 T 2)) (CU : Cal P w K mg base "with_range" 1 ["ranges", "place", "low", "high"] spWith) (F : Fun K "ways_from" "Looker.ways_from" sLWaysFrom f fd) :
    FnOk P w K mg base CX0 7 f fd ["self", "row", "ranges"] (spLWays CL ns sz r0 v0 T) := by
  refine F.ok scLWays (fun vs H Q E h => ?_) (fun cdv A outer s H vs Q E hr h => ?_)
  · obtain ⟨y, row, vr, rs, rfl, _⟩ := h
    rfl
  obtain ⟨y, row, vr, rs, rfl, lk, hrg, hro, hrow, q⟩ := h
  obtain ⟨dx, pb, ps, pd, pf, vv, hy, hb, hs, hd, hpf, hvv⟩ := lk.at_
  have nd := scLWays.nd
  have hr1 : Room 1 _ := hr.mono (by decide)
  have hr4 : Room 4 _ := hr.mono (by decide)
  have nS : (lF pb ps pd pf).lookup ("sides" : Str) = none := lF_no _ _ _ _ (by decide +kernel) (by decide +kernel) (by decide +kernel) (by decide +kernel)
  have nP : (lF pb ps pd pf).lookup ("put_range" : Str) = none := lF_no _ _ _ _ (by decide +kernel) (by decide +kernel) (by decide +kernel) (by decide +kernel)
  have nR : (lF pb ps pd pf).lookup ("range_by" : Str) = none := lF_no _ _ _ _ (by decide +kernel) (by decide +kernel) (by decide +kernel) (by decide +kernel)
  have hlen : rs.length ≤ 100 := by rw [hro.1, ← pg.len]; exact Nat.le_trans pg.few (by decide)
  refine ⟨_, pss_cons (ps_if (pt_cmpR op_eq (pv 1) pe_int (nomark _)) (pss_one (ps_ret (pe_lst pa_nil))) pss_nil)
    (pss_cons (ps_asg (pe_dget (hu_of hr) (pe_fld (pv 0) rfl) (pv 1) (fun _ _ => rfl)) (pg_tup rfl (pgs_cons (pg_name (i := 3) nd rfl (.inl rfl)) (pgs_cons (pg_name (i := 4) nd rfl (.inl rfl)) pgs_nil))))
    (pss_cons (ps_if (pt_cmpR op_in_seq (pe_ix ix_tup (pv 3) pe_int (fun _ _ => rfl)) (pe_tup (pa_cons pe_str (pa_cons pe_str (pa_cons pe_str pa_nil)))) (by rfl)) (pss_one (ps_ret (pe_mcal (pv 0) X.clL CS hr (pa_cons (pv 3) (pa_cons (pv 2) (pa_cons (pv 4) pa_nil)))))) pss_nil)
    (pss_cons (ps_if (pt_cmpR op_eq (pe_ix ix_tup (pv 3) pe_int (fun _ _ => rfl)) pe_str (nomark _))
      (pss_cons (ps_set (i := 5) nd rfl (.inl rfl) (pe_bm PySem.F.plainAttrs_list PySem.F.slot_list_index PySem.F.type_list_index mt_index (pe_fld (pv 0) rfl) (pa_cons (pe_ix ix_tup (pv 3) pe_int (fun _ _ => rfl)) pa_nil)))
      (pss_one (ps_ret (pe_lst (pa_cons (pe_tup (pa_cons (pe_ix ix_tup (pv 4) pe_int (fun _ _ => rfl)) (pa_cons (pe_cal CU hr1 (pa_cons (pv 2) (pa_cons (pv 5) (pa_cons pe_int (pa_cons (pe_op op_sub (pe_ix ix_list (pe_fld (pv 0) rfl) (pv 5) (fun _ _ => rfl)) pe_int) pa_nil))))) pa_nil))) pa_nil))))) pss_nil)
    (pss_cons (ps_if (pt_cmpR op_eq (pe_ix ix_tup (pv 3) pe_int (fun _ _ => rfl)) pe_str (nomark _))
      (pss_cons (ps_set (i := 5) nd rfl (.inl rfl) (pe_bm PySem.F.plainAttrs_list PySem.F.slot_list_index PySem.F.type_list_index mt_index (pe_fld (pv 0) rfl) (pa_cons (pe_ix ix_tup (pv 3) pe_int (fun _ _ => rfl)) pa_nil)))
      (pss_cons (ps_asg (pe_mcal (pv 0) X.clL CP hr1 (pa_cons (pv 5) (pa_cons (pe_mcal (pv 0) X.clL CR hr4 (pa_cons (pe_ix ix_tup (pv 3) pe_int (fun _ _ => rfl)) (pa_cons (pv 2) pa_nil))) pa_nil))) (pg_tup rfl (pgs_cons (pg_name (i := 6) nd rfl (.inl rfl)) (pgs_cons (pg_name (i := 7) nd rfl (.inl rfl)) pgs_nil))))
      (pss_one (ps_ret (pe_lst (pa_cons (pe_tup (pa_cons (pe_ix ix_tup (pv 4) pe_int (fun _ _ => rfl)) (pa_cons (pe_cal CU hr1 (pa_cons (pv 2) (pa_cons (pv 5) (pa_cons (pv 6) (pa_cons (pv 7) pa_nil))))) pa_nil))) pa_nil)))))) pss_nil)
    (pss_one (ps_ret (pe_lst (pa_cons (pe_tup (pa_cons (pe_ix ix_tup (pv 4) pe_int (fun _ _ => rfl)) (pa_cons (pv 2) pa_nil))) pa_nil)))))))), ?_⟩
  refine ⟨_, rfl, rfl, _, rfl, if_int (fun e => ?_) (fun e => ?_)⟩
  · subst e
    refine ⟨Nat.zero_le _, fun l hl => q _ _ (same_new hl _) ⟨l, [], rfl, upd_same, ?_⟩⟩
    unfold waysT
    rw [pg.tab.zero]
    exact .nil
  obtain ⟨⟨sm, ws⟩, hT⟩ := hrow.resolve_left e
  have okk := pg.tab.ok row _ _ hT
  have qe : waysT T sz row rs = ways sz sm ws rs := by unfold waysT; rw [hT]
  obtain ⟨kvs, v, hkd, hkv, ⟨pe, te, we, kids, rfl, hpe, ⟨ps2, tl, rfl, htl, hps⟩, ⟨wa, rfl, hw⟩⟩⟩ := dictS_at hd hT
  have hst : StAt ns H sm row kids (.ref ps2) := ⟨ps2, tl, rfl, htl, hps⟩
  have w0 : atI (ws.map V.int) 0 = some (.int (ws.getD 0 0)) := way_at (j := 0) (by rw [okk.2]; exact arity_pos sm)
  have one : 1 ≤ sizeLine := by decide
  have two : 2 ≤ sizeLine := by decide
  have fin : ∀ {H1 : Hp} {u : V} {g : Rg} {a b : Addr}, Same H H1 → RgAt H1 u g → H1 a = none → (upd H1 a (.tup [.int (ws.getD 0 0), u])) b = none → waysT T sz row rs = [(ws.getD 0 0, g)] → Q (.ref b) (upd (upd H1 a (.tup [.int (ws.getD 0 0), u])) b (.lst [.ref a])) := fun {H1 u g a b} s1 hu ha hb e => by
    have g2 := same_new ha (.tup [.int (ws.getD 0 0), u])
    have g3 := same_new hb (.lst [.ref a])
    refine q _ _ ((s1.trans g2).trans g3) ⟨b, _, rfl, upd_same, ?_⟩
    rw [e]
    exact paired_one ⟨a, u, rfl, g3 _ _ upd_same, hu.mono (.same (g2.trans g3))⟩
  refine ⟨_, rfl, y, CL, dx, _, _, rfl, hy, X.clL, X.lT, lF_T _ _ _ _, _, rfl, pd, _, rfl, dget_int hkd hkv, pe, _, rfl, SqT.of hpe, rfl, _, _, rfl, _, _, rfl, rfl, ?_⟩
  refine ⟨_, rfl, ps2, _, 0, _, rfl, rfl, SqT.of hps, atI_nat (j := 0) rfl, by show 3 ≤ sizeLine; decide, fun m hm => ?_⟩
  have g0 := same_new hm (.tup [.str "must", .str "if", .str "while"])
  refine ⟨m, _, rfl, .inr (SqT.of upd_same), rfl, rfl, _, rfl, ?_⟩
  show if inV (.str sm.word) [.str "must", .str "if", .str "while"] = true then _ else _
  have hps1 := g0 _ _ hps
  have hst1 := hst.mono (.same g0)
  have hw1 := g0 _ _ hw
  have hrg1 := hrg.mono (.same g0)
  have lk1 := lk.mono g0
  have hy1 := g0 _ _ hy
  generalize upd H m (.tup [.str "must", .str "if", .str "while"]) = H1 at g0 hps1 hst1 hw1 hrg1 lk1 hy1
  cases sm with
  | con c lt a b =>
    have e0 : inV (.str c.str) [.str "must", .str "if", .str "while"] = true := by cases c <;> decide +kernel
    have e1 : inV (.str (Sm.con c lt a b).word) [.str "must", .str "if", .str "while"] = true := e0
    rw [e1]
    refine iteT ⟨_, rfl, y, dx, _, rfl, hy1, nS, _, rfl, _, rfl, _, rfl, ?_⟩
    refine ⟨y, _, vr, .ref wa, c, lt, a, b, row, kids, rs, ws, rfl, lk1, hst1, hrg1, hro, okk.1.1, okk.1.2, ⟨wa, rfl, hw1⟩, fun v H2 s2 r2 => q _ _ (g0.trans s2) ?_⟩
    rw [qe]
    exact r2
  | ask j =>
    obtain ⟨nm, hnm, rfl⟩ := htl
    have e1 : inV (.str "ask") [.str "must", .str "if", .str "while"] = false := by decide +kernel
    obtain ⟨i1, i2, i3⟩ := index_name pg.nd hnm
    obtain ⟨z, hz⟩ := get_lt (l := sz) (j := j) (by rw [← pg.len]; exact okk.1)
    show if inV (.str "ask") [.str "must", .str "if", .str "while"] = true then _ else _
    rw [e1]
    refine iteF ⟨_, rfl, ps2, _, 0, _, rfl, rfl, SqT.of hps1, atI_nat (j := 0) rfl, rfl, _, rfl, if_yes ?_⟩
    have hb1 := g0 _ _ hb
    refine ⟨_, rfl, y, CL, dx, _, _, rfl, hy1, X.clL, X.lB, lF_B _ _ _ _, .inl ⟨rfl, _, SqL.of hb1⟩, _, rfl, ps2, _, 2, _, rfl, rfl, SqT.of hps1, atI_nat (j := 2) rfl, pb, _, _, j, _, rfl, rfl, SqL.of hb1, rfl, all_flat_str ns, i1, i2, i3, ?_⟩
    refine ⟨_, rfl, wa, _, 0, _, rfl, rfl, SqT.of hw1, w0, ?_⟩
    refine ⟨_, rfl, _, rfl, _, rfl, y, CL, dx, _, _, rfl, hy1, X.clL, X.lS, lF_S _ _ _ _, _, rfl, ps, _, _, .int z, rfl, rfl, SqL.of (g0 _ _ hs), atI_nat (by rw [List.getElem?_map, hz]; rfl), _, _, rfl, rfl, ?_⟩
    refine ⟨vr, some j, rs, (0, z - 1), rfl, hrg1, fun i e => by cases e; rw [hro.1]; exact lt_of_get hz, hlen, fun v H2 s2 r2 => ⟨two, fun a ha => ⟨one, fun b hb => ?_⟩⟩⟩
    refine fin (g0.trans s2) r2 ha hb ?_
    rw [qe]
    show [(ws.getD 0 0, rs.set j (0, sz.getD j 0 - 1))] = _
    rw [getD_of hz]
    rfl
  | put j e2 =>
    obtain ⟨nm, ve, hnm, he, rfl⟩ := htl
    have e1 : inV (.str "put") [.str "must", .str "if", .str "while"] = false := by decide +kernel
    obtain ⟨i1, i2, i3⟩ := index_name pg.nd hnm
    obtain ⟨z, hz⟩ := get_lt (l := sz) (j := j) (by rw [← pg.len]; exact okk.1.1)
    show if inV (.str "put") [.str "must", .str "if", .str "while"] = true then _ else _
    rw [e1]
    refine iteF ⟨_, rfl, ps2, _, 0, _, rfl, rfl, SqT.of hps1, atI_nat (j := 0) rfl, rfl, _, rfl, if_no (show V.str "put" ≠ V.str "ask" by decide +kernel) ?_⟩
    refine ⟨_, rfl, ps2, _, 0, _, rfl, rfl, SqT.of hps1, atI_nat (j := 0) rfl, rfl, _, rfl, if_yes ?_⟩
    have hb1 := g0 _ _ hb
    refine ⟨_, rfl, y, CL, dx, _, _, rfl, hy1, X.clL, X.lB, lF_B _ _ _ _, .inl ⟨rfl, _, SqL.of hb1⟩, _, rfl, ps2, _, 2, _, rfl, rfl, SqT.of hps1, atI_nat (j := 2) rfl, pb, _, _, j, _, rfl, rfl, SqL.of hb1, rfl, all_flat_str ns, i1, i2, i3, ?_⟩
    refine ⟨_, rfl, y, dx, _, rfl, hy1, nP, _, rfl, _, rfl, y, dx, _, rfl, hy1, nR, _, rfl, ps2, _, 3, _, rfl, rfl, SqT.of hps1, atI_nat (j := 3) rfl, _, rfl, ?_⟩
    refine ⟨y, ve, vr, e2, rs, rfl, Nat.le_refl 2, lk1, he.mono (.same g0), okk.1.2, hrg1, hro, fun v2 H2 s2 p2 => ?_⟩
    refine ⟨y, j, v2, _, z, rfl, lk1.mono s2, hz, p2, fun v3 H3 s3 ⟨t, et, ht⟩ => ?_⟩
    subst et
    have s13 := (g0.trans s2).trans s3
    refine ⟨t, _, rfl, SqT.of ht, rfl, _, _, rfl, _, _, rfl, rfl, ?_⟩
    refine ⟨_, rfl, wa, _, 0, _, rfl, rfl, SqT.of (s13 _ _ hw), w0, ?_⟩
    refine ⟨_, rfl, _, rfl, _, rfl, _, rfl, ?_⟩
    refine ⟨vr, some j, rs, putR z (e2.rng rs), rfl, hrg.mono (.same s13), fun i e => by cases e; rw [hro.1]; exact lt_of_get hz, hlen, fun v H4 s4 r4 => ⟨two, fun a ha => ⟨one, fun b hb => ?_⟩⟩⟩
    refine fin (s13.trans s4) r4 ha hb ?_
    rw [qe]
    show [(ws.getD 0 0, rs.set j (putR (sz.getD j 0) (e2.rng rs)))] = _
    rw [getD_of hz]
    rfl
  | say e2 =>
    have e1 : inV (.str "say") [.str "must", .str "if", .str "while"] = false := by decide +kernel
    show if inV (.str "say") [.str "must", .str "if", .str "while"] = true then _ else _
    rw [e1]
    refine iteF ⟨_, rfl, ps2, _, 0, _, rfl, rfl, SqT.of hps1, atI_nat (j := 0) rfl, rfl, _, rfl, if_no (show V.str "say" ≠ V.str "ask" by decide +kernel) ?_⟩
    refine ⟨_, rfl, ps2, _, 0, _, rfl, rfl, SqT.of hps1, atI_nat (j := 0) rfl, rfl, _, rfl, if_no (show V.str "say" ≠ V.str "put" by decide +kernel) ?_⟩
    refine ⟨_, rfl, wa, _, 0, _, rfl, rfl, SqT.of hw1, w0, _, rfl, two, fun a ha => ⟨one, fun b hb => ?_⟩⟩
    exact fin g0 hrg1 ha hb qe
  | stop =>
    have e1 : inV (.str "stop") [.str "must", .str "if", .str "while"] = false := by decide +kernel
    show if inV (.str "stop") [.str "must", .str "if", .str "while"] = true then _ else _
    rw [e1]
    refine iteF ⟨_, rfl, ps2, _, 0, _, rfl, rfl, SqT.of hps1, atI_nat (j := 0) rfl, rfl, _, rfl, if_no (show V.str "stop" ≠ V.str "ask" by decide +kernel) ?_⟩
    refine ⟨_, rfl, ps2, _, 0, _, rfl, rfl, SqT.of hps1, atI_nat (j := 0) rfl, rfl, _, rfl, if_no (show V.str "stop" ≠ V.str "put" by decide +kernel) ?_⟩
    refine ⟨_, rfl, wa, _, 0, _, rfl, rfl, SqT.of hw1, w0, _, rfl, two, fun a ha => ⟨one, fun b hb => ?_⟩⟩
    exact fin g0 hrg1 ha hb qe
end
end Er

namespace Er
open PySem L2
/-! joined; the def ways_from -/
def pData (p : Int × Int) : PyData := .tuple [.int p.1, .int p.2]
def rData (f : Rg) : PyData := .tuple (f.map pData)
def eInts : List PyData → List PyData → Bool := PyData.eqvAll
theorem beq_dec (i j : Int) : (i == j) = decide (i = j) := by
  by_cases e : i = j
  · subst e; simp
  · simp [e]
theorem eqv_pairs (p q : Int × Int) : PyData.eqv (pData p) (pData q) = decide (p = q) := eqv_pair p q
theorem eqv_rgs : ∀ f g : Rg, PyData.eqvAll (f.map pData) (g.map pData) = decide (f = g)
  | [], [] => by simp only [List.map_nil, PyData.eqvAll]; simp
  | [], _ :: _ => by simp only [List.map_nil, List.map_cons, PyData.eqvAll]; simp
  | _ :: _, [] => by simp only [List.map_nil, List.map_cons, PyData.eqvAll]; simp
  | p :: f, q :: g => by
    simp only [List.map_cons, PyData.eqvAll]
    rw [eqv_pairs, eqv_rgs f g]
    by_cases e1 : p = q
    · by_cases e2 : f = g
      · simp [e1, e2]
      · simp [e2]
    · simp [e1]
theorem eqv_rg (f g : Rg) : PyData.eqv (rData f) (rData g) = decide (f = g) := by
  unfold rData
  simp only [PyData.eqv]
  exact eqv_rgs f g
theorem canLay_rg : ∀ f : Rg, PyData.canLayAll0 (f.map pData) = true
  | [] => rfl
  | p :: f => by
    simp only [List.map_cons, PyData.canLayAll0, canLay_rg f, Bool.and_true]
    rfl
theorem depth_rg : ∀ f : Rg, PyData.depthAll (f.map pData) ≤ 1
  | [] => Nat.zero_le _
  | p :: f => by
    have := depth_rg f
    simp only [List.map_cons, PyData.depthAll]
    have e : (pData p).depth = 1 := rfl
    omega
theorem shaped_rg (f : Rg) : SeqAt.shaped (rData f) = true := by
  unfold SeqAt.shaped rData
  rw [Bool.and_eq_true]
  refine ⟨canLay_rg f, decide_eq_true ?_⟩
  have := depth_rg f
  simp only [PyData.depth]
  omega
theorem dp_pairs {K : PySem.W.Frag} {H : Hp} : ∀ {vs : List V} {f : Rg}, Paired (PairAt H) vs f → DpAll K H vs (f.map pData)
  | _, _, .nil => .nil
  | _, _, .cons (b := p) ⟨a, e, h⟩ r => by
    subst e
    exact .cons (.tup (SqT.of h) (.cons (.int _) (.cons (.int _) .nil))) (dp_pairs r)
theorem dp_rg {K : PySem.W.Frag} {H : Hp} {v : V} {f : Rg} (h : RgAt H v f) : Dp K H v (rData f) := by
  obtain ⟨a, vs, rfl, ha, pr⟩ := h
  exact .tup (SqT.of ha) (dp_pairs pr)
def rMn : List V → Hp → VK → Prop := fun xs H Q => ∃ i j, xs = [.int i, .int j] ∧ Q (.int (if j < i then j else i)) H
def rMx : List V → Hp → VK → Prop := fun xs H Q => ∃ i j, xs = [.int i, .int j] ∧ Q (.int (if j > i then j else i)) H
theorem join_at {f g : Rg} {j : Nat} {a b : Int × Int} (ha : f[j]? = some a) (hb : g[j]? = some b) : (join f g)[j]? = some (min a.1 b.1, max a.2 b.2) := by
  unfold join
  rw [List.getElem?_zipWith, ha, hb]
section
variable {P : Program} {w : World} {K : PySem.W.Frag} {mg : Str → Option Value} {base : Heap} {f : Addr} {fd : FuncData} {CW CL : Addr}
def spJoined : Sp := fun vs H Q _ => ∃ (u v : V) (f g : Rg), vs = [u, v] ∧ RgAt H u f ∧ RgAt H v g ∧ f.length ≤ 100 ∧ Gives H (fun H' v => RgAt H' v (join f g)) Q
theorem scJoined : FnScope ["one", "other", "a", "b"] ["one", "other"] (defScope sJoined) := ⟨rfl, rfl, rfl, by decide +kernel, rfl, by decide +kernel, by decide +kernel⟩
theorem ok_joined (X : Txt K mg CW CL) (F : Fun K "joined" "joined" sJoined f fd) : FnOk P w K mg base CX0 1 f fd ["one", "other"] spJoined := by
  refine F.ok scJoined (fun vs H Q E h => ?_) (fun cdv A outer s H vs Q E hr h => ?_)
  · obtain ⟨u, v, f, g, rfl, _⟩ := h
    rfl
  obtain ⟨u, v, f, g, rfl, ⟨a, us, rfl, ha, pf⟩, ⟨b, vs, rfl, hb, pg⟩, hlen, q⟩ := h
  have nd := scJoined.nd
  refine ⟨_, pss_one (ps_ret (pe_callTy call_tuple_of (by rfl) X.zTuple (by decide +kernel) (pa_cons
      (pe_lc (own := [("a", 2), ("b", 3)]) (g := gTup K 2 (gCons (gName 2) (gCons (gName 3) gNil))) (tt := tYes)
        (te := tTup (tCons (tCB rMn (tCons (tOp (rIxT K) (tVar 2) (tC (.int 0))) (tCons (tOp (rIxT K) (tVar 3) (tC (.int 0))) tNil))) (tCons (tCB rMx (tCons (tOp (rIxT K) (tVar 2) (tC (.int 1))) (tCons (tOp (rIxT K) (tVar 3) (tC (.int 1))) tNil))) tNil)))
        rfl nd (RZ.pi_zipA (by rfl) X.zZip (pa_cons (pv 0) (pa_cons (pv 1) pa_nil))) (blkOk_by (N := ["one", "other", "a", "b"]) (sc := defScope sJoined) (by decide +kernel))
        (fun _ _ _ _ _ => pg_tup rfl (pgs_cons (pg_name (i := 2) nd rfl (.inl rfl)) (pgs_cons (pg_name (i := 3) nd rfl (.inl rfl)) pgs_nil))) (fun _ _ _ _ _ => pts_nil)
        (fun _ _ _ _ _ => pe_tup (pa_cons (pe_callB (call_min2 rfl) (by rfl) X.zMin (by decide +kernel) (pa_cons (pe_ix ix_tup (pv 2) pe_int (fun _ _ => rfl)) (pa_cons (pe_ix ix_tup (pv 3) pe_int (fun _ _ => rfl)) pa_nil)))
          (pa_cons (pe_callB (call_max2 rfl) (by rfl) X.zMax (by decide +kernel) (pa_cons (pe_ix ix_tup (pv 2) pe_int (fun _ _ => rfl)) (pa_cons (pe_ix ix_tup (pv 3) pe_int (fun _ _ => rfl)) pa_nil))) pa_nil)))) pa_nil))), ?_⟩
  have lf := pf.length
  have lg := pg.length
  have lj : (join f g).length = min us.length vs.length := by unfold join; rw [List.length_zipWith, lf, lg]
  refine ⟨_, rfl, _, rfl, a, b, us, vs, rfl, .inr ⟨SqT.of ha, SqT.of hb, fun D hD =>
    lc_all (walk_zipT (xs := us) (ys := vs) rfl) (fun H i y => ∃ c, (join f g)[i]? = some c ∧ PairAt H y c) (fun H H' i y t ⟨c, e, p⟩ => ⟨c, e, p.mono t⟩) hD (fun H s => ⟨SqT.same s (SqT.of ha), SqT.same s (SqT.of hb)⟩) (by omega) (fun i y H4 H5 hi s4 hy Q' k => ?_) (fun H4 zs s4 hz hl hR => ?_)⟩⟩
  · obtain ⟨t, x, z, rfl, ht, rfl, hx, hz⟩ := hy
    obtain ⟨p, hp⟩ := get_lt (l := f) (j := i) (by omega)
    obtain ⟨p2, hp2⟩ := get_lt (l := g) (j := i) (by omega)
    obtain ⟨c1, h1, r1⟩ := pget pf hp
    obtain ⟨c2, h2, r2⟩ := pget pg hp2
    have hx : us[i]? = some x := hx
    have hz : vs[i]? = some z := hz
    rw [hx] at h1; cases h1
    rw [hz] at h2; cases h2
    obtain ⟨ax, rfl, r1⟩ := r1
    obtain ⟨az, rfl, r2⟩ := r2
    have g5 := same_new ht (.tup [.ref ax, .ref az])
    have r1 := g5 _ _ (s4 _ _ r1)
    have r2 := g5 _ _ (s4 _ _ r2)
    refine ⟨t, _, rfl, SqT.of upd_same, rfl, _, _, rfl, _, _, rfl, rfl, rfl, ?_⟩
    refine ⟨_, rfl, ax, _, 0, _, rfl, rfl, SqT.of r1, rfl, _, rfl, az, _, 0, _, rfl, rfl, SqT.of r2, rfl, _, _, rfl, ?_⟩
    refine ⟨_, rfl, ax, _, 1, _, rfl, rfl, SqT.of r1, rfl, _, rfl, az, _, 1, _, rfl, rfl, SqT.of r2, rfl, _, _, rfl, by show 2 ≤ sizeLine; decide, fun l hl => ?_⟩
    rw [min_if, max_if]
    exact k _ _ (g5.trans (same_new hl _)) ⟨_, join_at hp hp2, l, rfl, upd_same⟩
  rw [← lj] at hl
  refine ⟨D, zs, rfl, .inl ⟨SqL.of hz, fun l hl2 => q _ _ (s4.trans (same_new hl2 _)) ⟨l, zs, rfl, upd_same, ?_⟩⟩⟩
  refine paired_of hl fun i x c h1 h2 => ?_
  obtain ⟨d, e, pa⟩ := hR i x h1
  rw [e] at h2; cases h2
  exact pa.mono (.new hl2 _)
def spWays : Sp := fun vs H Q _ => ∃ (v vr : V) (bs : Bxs) (b : Bdy) (row : Int) (rs : Rg), vs = [v, .int row, vr] ∧ PgAt (bnm bs) bs b H v ∧ PgOk bs b ∧ RgAt H vr rs ∧ Rok (bsz bs) rs ∧ (row = 0 ∨ ∃ x, btb b row = some x) ∧
  Gives H (fun H' v => LstAt WayAt H' v (waysT (btb b) (bsz bs) row rs)) Q
abbrev LWC (P : Program) (w : World) (K : PySem.W.Frag) (mg : Str → Option Value) (base : Heap) (CL : Addr) : Prop := ∀ ns sz r0 v0 T, Pgm ns sz T → MCal P w K mg base CL "ways_from" 7 ["self", "row", "ranges"] (spLWays CL ns sz r0 v0 T)
theorem scWays : FnScope ["program", "row", "ranges"] ["program", "row", "ranges"] (defScope sWaysFrom) := ⟨rfl, rfl, rfl, by decide +kernel, rfl, by decide +kernel, by decide +kernel⟩
theorem ok_ways (X : Txt K mg CW CL) (C : CCal P w K mg base "Looker" CL 43 ["self", "program"] (spLInit CL)) (CS : LWC P w K mg base CL) (F : Fun K "ways_from" "ways_from" sWaysFrom f fd) : FnOk P w K mg base CX0 45 f fd ["program", "row", "ranges"] spWays := by
  refine F.ok scWays (fun vs H Q E h => ?_) (fun cdv A outer s H vs Q E hr h => ?_)
  · obtain ⟨v, vr, bs, b, row, rs, rfl, _⟩ := h
    rfl
  obtain ⟨v, vr, bs, b, row, rs, rfl, hp, ok, hrg, hro, hrow, q⟩ := h
  refine ⟨_, pss_one (ps_ret (pe_mcal (pe_ccal C (hr.mono (by decide)) (pa_cons (pv 0) pa_nil)) X.clL (CS (bnm bs) (bsz bs) (first b 0) (bfs bs) (btb b) ok.pgm) (hr.mono (by decide)) (pa_cons (pv 1) (pa_cons (pv 2) pa_nil)))), ?_⟩
  refine ⟨_, rfl, fun x dx hx hd ne => ?_⟩
  refine ⟨H, x, dx, v, bs, b, rfl, same_made hx hd, hx, upd_same, hp, ok, fun H1 s1 lk => ⟨rfl, ?_⟩⟩
  obtain ⟨dx, pb, ps, pd, pf, vv, hx, _⟩ := lk.at_
  refine ⟨x, dx, _, rfl, hx, lF_no _ _ _ _ (by decide +kernel) (by decide +kernel) (by decide +kernel) (by decide +kernel), _, rfl, _, rfl, ?_⟩
  exact ⟨x, row, vr, rs, rfl, lk, hrg.mono (.same s1), hro, hrow, fun y H2 s2 r2 => q _ _ (s1.trans s2) r2⟩
end
end Er

namespace Er
open PySem L2
/-! least_ranges: what is kept while it gathers -/
def DR (H : Hp) : Option V → Option Rg → Prop
  | none, none => True
  | some v, some g => RgAt H v g
  | _, _ => False
theorem DR.mono {H H' : Hp} (t : Tk H H') : ∀ {o : Option V} {x : Option Rg}, DR H o x → DR H' o x
  | none, none, h => h
  | some _, some _, h => RgAt.mono t h
  | none, some _, h => h.elim
  | some _, none, h => h.elim
structure Fnd (U : List Int) (H : Hp) (kvs : List (Key × V)) (fd : Fd) : Prop where
  keys : ∃ ks : List Int, kvs.map (·.1) = ks.map Sum.inl ∧ ks.Nodup ∧ ∀ k ∈ ks, k ∈ U
  vals : ∀ r : Int, DR H (valV kvs (Sum.inl r)) (fd r)
theorem Fnd.mono {U : List Int} {H H' : Hp} {kvs : List (Key × V)} {fd : Fd} (t : Tk H H') (h : Fnd U H kvs fd) : Fnd U H' kvs fd := ⟨h.keys, fun r => (h.vals r).mono t⟩
theorem putK_keys {kvs : List (Key × V)} {k : Key} {x : V} (v : V) (h : valV kvs k = some x) : (putK kvs k v).map (·.1) = kvs.map (·.1) := by
  unfold putK
  rw [if_pos (by rw [valV_any, h]; rfl), List.map_map]
  refine List.map_congr_left fun kv _ => ?_
  show (if kv.1 = k then (kv.1, v) else kv).1 = kv.1
  by_cases e : kv.1 = k
  · rw [if_pos e]
  · rw [if_neg e]
theorem Fnd.put {U : List Int} {H : Hp} {kvs : List (Key × V)} {fd : Fd} (h : Fnd U H kvs fd) {t : Int} {v : V} {g : Rg} (ht : t ∈ U) (hv : RgAt H v g) : Fnd U H (putK kvs (Sum.inl t) v) (fd.put t g) := by
  obtain ⟨ks, e, nd, sub⟩ := h.keys
  refine ⟨?_, fun r => ?_⟩
  · cases c : valV kvs (Sum.inl t) with
    | none =>
      refine ⟨ks ++ [t], ?_, ?_, fun k hk => ?_⟩
      · rw [putK_new _ c, List.map_append, e, List.map_append]
        rfl
      · rw [List.nodup_append]
        refine ⟨nd, List.nodup_cons.mpr ⟨List.not_mem_nil, List.nodup_nil⟩, fun a ha b hb => ?_⟩
        have eb := List.mem_singleton.mp hb
        subst eb
        intro z
        subst z
        refine valV_not c ?_
        rw [e]
        exact List.mem_map.mpr ⟨_, ha, rfl⟩
      · rcases List.mem_append.mp hk with hk | hk
        · exact sub k hk
        · rw [List.mem_singleton.mp hk]; exact ht
    | some x => exact ⟨ks, (putK_keys v c).trans e, nd, sub⟩
  · rw [valV_put]
    by_cases c : r = t
    · subst c
      rw [if_pos rfl, Fd.put_same]
      exact hv
    · rw [if_neg (fun z => c (Sum.inl.inj z)), Fd.put_ne _ _ c]
      exact h.vals r
theorem Fnd.at_ {U : List Int} {H : Hp} {kvs : List (Key × V)} {fd : Fd} (h : Fnd U H kvs fd) {r : Int} {g : Rg} (e : fd r = some g) : ∃ v, valV kvs (Sum.inl r) = some v ∧ RgAt H v g := by
  have q := h.vals r
  rw [e] at q
  cases c : valV kvs (Sum.inl r) with
  | none => rw [c] at q; exact q.elim
  | some v => rw [c] at q; exact ⟨v, rfl, q⟩
theorem Fnd.no {U : List Int} {H : Hp} {kvs : List (Key × V)} {fd : Fd} (h : Fnd U H kvs fd) {r : Int} (e : fd r = none) : valV kvs (Sum.inl r) = none := by
  have q := h.vals r
  rw [e] at q
  cases c : valV kvs (Sum.inl r) with
  | none => rfl
  | some v => rw [c] at q; exact q.elim
theorem nd_len : ∀ {ks U : List Int}, ks.Nodup → (∀ k ∈ ks, k ∈ U) → ks.length ≤ U.length
  | [], _, _, _ => Nat.zero_le _
  | k :: ks, U, nd, h => by
    obtain ⟨n1, n2⟩ := List.nodup_cons.mp nd
    have hk := h k List.mem_cons_self
    have ih := nd_len (U := U.erase k) n2 fun x hx => (List.mem_erase_of_ne (show x ≠ k from fun e => n1 (by rw [← e]; exact hx))).mpr (h x (List.mem_cons_of_mem _ hx))
    rw [List.length_erase_of_mem hk] at ih
    have := List.length_pos_of_mem hk
    show ks.length + 1 ≤ U.length
    omega
theorem Fnd.few {U : List Int} {H : Hp} {kvs : List (Key × V)} {fd : Fd} (h : Fnd U H kvs fd) : kvs.length ≤ U.length := by
  obtain ⟨ks, e, nd, sub⟩ := h.keys
  have l : kvs.length = ks.length := by
    have := congrArg List.length e
    rw [List.length_map, List.length_map] at this
    exact this
  rw [l]
  exact nd_len nd sub
theorem tot_le : ∀ {sz : List Int}, Sz sz → tot sz ≤ 10 * sz.length
  | [], _ => Nat.le_refl _
  | s :: sz, h => by
    have a := h 0 s rfl
    have ih := tot_le (sz := sz) fun j z hz => h (j + 1) z (by simpa using hz)
    show s.toNat + tot sz ≤ 10 * (sz.length + 1)
    omega
theorem pot_le {sz : List Int} {fd : Fd} (h : ∀ r f, fd r = some f → Rok sz f) : ∀ U : List Int, pot U sz fd ≤ U.length * (1 + tot sz)
  | [] => Nat.zero_le _
  | r :: U => by
    have ih := pot_le h U
    have a : potAt sz (fd r) ≤ 1 + tot sz := by
      cases e : fd r with
      | none => exact Nat.le_refl _
      | some f =>
        have := slack_tot (h r f e)
        show slack sz f ≤ 1 + tot sz
        omega
    show (List.map _ (r :: U)).sum ≤ (U.length + 1) * (1 + tot sz)
    rw [List.map_cons, List.sum_cons, Nat.add_mul]
    have ih : (List.map (fun r => potAt sz (fd r)) U).sum ≤ U.length * (1 + tot sz) := ih
    omega
theorem rok_sing {sz vs : List Int} (h : Vok sz vs) : Rok sz (sing vs) := by
  refine ⟨(sing_len vs).trans h.1, fun j s p hs hp => ?_⟩
  obtain ⟨v, hv, rfl⟩ := sing_get hp
  have := h.2 j s v hs hv
  simp only
  omega
abbrev uni (b : Bdy) : List Int := 0 :: b.rows
theorem rows_len (b : Bdy) : b.rows.length = b.size := by rw [← rows_map b 0, List.length_map, rowsM_len]
theorem row_has {b : Bdy} {r : Int} (h : r ∈ b.rows) : ∃ x, btb b r = some x := tabOf_has (by rw [rows_map]; exact h)
theorem row_uni {b : Bdy} {r : Int} (h : r = 0 ∨ ∃ x, btb b r = some x) : r ∈ uni b := by
  rcases h with rfl | ⟨x, hx⟩
  · exact List.mem_cons_self
  · refine List.mem_cons_of_mem _ ?_
    rw [← rows_map b 0]
    exact List.mem_map.mpr ⟨_, tabOf_mem hx, rfl⟩
theorem first_row_ok (b : Bdy) : first b 0 = 0 ∨ ∃ x, btb b (first b 0) = some x := (first_in b 0).imp id row_has
def fd0 (r0 : Int) (v0 : List Int) : Fd := fun r => if r = r0 then some (sing v0) else none
theorem fd0_ok {bs : Bxs} {b : Bdy} (ok : PgOk bs b) : FdOk (btb b) (bsz bs) (first b 0) (bfs bs) (fd0 (first b 0) (bfs bs)) := by
  refine ⟨⟨_, if_pos rfl, Wi.sing _⟩, fun r f h => ?_⟩
  unfold fd0 at h
  by_cases e : r = first b 0
  · rw [if_pos e] at h
    cases h
    subst e
    exact ⟨rok_sing ok.fs, first_row_ok b⟩
  · rw [if_neg e] at h
    cases h
theorem fd0_closed {T : Tab} {sz : List Int} {r0 : Int} {v0 : List Int} (r : Int) : r ∈ [r0] ∨ Closed T sz (fd0 r0 v0) r := by
  by_cases e : r = r0
  · exact .inl (List.mem_singleton.mpr e)
  · refine .inr fun s ws rs _ h => ?_
    unfold fd0 at h
    rw [if_neg e] at h
    cases h
/-- the dict and the list that the gathering keeps -/
structure LrInv (bs : Bxs) (b : Bdy) (G : Hp) (d l : Addr) (fd : Fd) (due : List Int) (kvs : List (Key × V)) (H : Hp) : Prop where
  same : Same G H
  hd : H d = some (.dK kvs)
  fnd : Fnd (uni b) H kvs fd
  hl : H l = some (.lst (due.map V.int))
  ok : FdOk (btb b) (bsz bs) (first b 0) (bfs bs) fd
  has : ∀ r ∈ due, ∃ f, fd r = some f
  small : 2 * pot (uni b) (bsz bs) fd + due.length ≤ 5000
theorem LrInv.mono {bs : Bxs} {b : Bdy} {G H H' : Hp} {d l : Addr} {fd : Fd} {due : List Int} {kvs : List (Key × V)} (s : Same H H') (h : LrInv bs b G d l fd due kvs H) : LrInv bs b G d l fd due kvs H' :=
  ⟨h.same.trans s, s _ _ h.hd, h.fnd.mono (.same s), s _ _ h.hl, h.ok, h.has, h.small⟩
theorem LrInv.put {bs : Bxs} {b : Bdy} {G H : Hp} {d l : Addr} {fd : Fd} {due : List Int} {kvs : List (Key × V)} (h : LrInv bs b G d l fd due kvs H) (nd : G d = none) (nl : G l = none) {t : Int} {v : V} {g : Rg} (ht : t = 0 ∨ ∃ x, btb b t = some x) (hv : RgAt H v g)
    (wd : ∀ f, fd t = some f → Sub f g) (rg : Rok (bsz bs) g) (lt : pot (uni b) (bsz bs) (fd.put t g) < pot (uni b) (bsz bs) fd) :
    (upd H d (.dK (putK kvs (Sum.inl t) v))) l = some (.lst (due.map V.int)) ∧ LrInv bs b G d l (fd.put t g) (due ++ [t]) (putK kvs (Sum.inl t) v) (upd (upd H d (.dK (putK kvs (Sum.inl t) v))) l (.lst (due.map V.int ++ [.int t]))) := by
  have ndl : d ≠ l := ne_of h.hd h.hl (by intro c; cases c)
  have l1 : (upd H d (.dK (putK kvs (Sum.inl t) v))) l = some (.lst (due.map V.int)) := by rw [upd_ne ndl.symm]; exact h.hl
  have tk : Tk H (upd (upd H d (.dK (putK kvs (Sum.inl t) v))) l (.lst (due.map V.int ++ [.int t]))) := Tk.trans (.dict h.hd _) (.lst l1 _)
  refine ⟨l1, Same.mut (Same.mut h.same nd) nl, by rw [upd_ne ndl]; exact upd_same, (h.fnd.put (row_uni ht) hv).mono tk, ?_, h.ok.put wd rg ht, fun r hr => ?_, ?_⟩
  · rw [upd_same, List.map_append]
    rfl
  · by_cases c : r = t
    · subst c
      exact ⟨g, Fd.put_same _ _ _⟩
    · rcases List.mem_append.mp hr with hr | hr
      · obtain ⟨f, hf⟩ := h.has r hr
        exact ⟨f, by rw [Fd.put_ne _ _ c]; exact hf⟩
      · exact absurd (List.mem_singleton.mp hr) c
  · have := h.small
    rw [List.length_append, List.length_singleton]
    omega
theorem ways_row {bs : Bxs} {b : Bdy} {row t : Int} {rs g : Rg} (ok : PgOk bs b) (ro : Rok (bsz bs) rs) (h : (t, g) ∈ waysT (btb b) (bsz bs) row rs) : Rok (bsz bs) g ∧ (t = 0 ∨ ∃ x, btb b t = some x) := by
  have pg := ok.pgm
  unfold waysT at h
  cases e : btb b row with
  | none => rw [e] at h; cases h
  | some x =>
    rw [e] at h
    have o := pg.tab.ok row x.1 x.2 e
    obtain ⟨r1, r2⟩ := ways_ok pg.sz ro (by rw [← pg.len]; exact o.1) o.2 h
    exact ⟨r1, pg.tab.to row x.1 x.2 t e r2⟩
theorem mid_done {T : Tab} {sz : List Int} {fd : Fd} {due : List Int} {row : Int} {rs : Rg} (h : Mid T sz fd due row (waysT T sz row rs) rs) : ∀ r, r ∈ due ∨ Closed T sz fd r := by
  intro r
  rcases h r with h | ⟨rfl, e, c⟩ | h
  · exact .inl h
  · refine .inr fun s ws rs' hT hr w hw => c w ?_
    rw [e] at hr
    cases hr
    unfold waysT
    rw [hT]
    exact hw
  · exact .inr h
/-- a list of ways is not the list of ints -/
theorem way_ne {H : Hp} {a l : Addr} {vs : List V} {L : List (Int × Rg)} {xs : List Int} {i : Nat} {w : Int × Rg} (ha : H a = some (.lst vs)) (pr : Paired (WayAt H) vs L) (hl : H l = some (.lst (xs.map V.int))) (hi : L[i]? = some w) : a ≠ l := by
  intro e
  subst e
  rw [hl] at ha
  have ha := HO.lst.inj (Option.some.inj ha)
  obtain ⟨v, hv, ⟨p, u, rfl, _⟩⟩ := pget pr hi
  rw [← ha, List.getElem?_map] at hv
  cases e : xs[i]? with
  | none => rw [e] at hv; cases hv
  | some x => rw [e] at hv; cases hv
/-- the rows that are given back, as a dict again -/
def backK (kvs : List (Key × V)) (ys : List Int) : List (Key × V) := ys.map fun r => (Sum.inl r, (valV kvs (Sum.inl r)).getD .non)
theorem valV_back (kvs : List (Key × V)) : ∀ (ys : List Int) (r : Int), valV (backK kvs ys) (Sum.inl r) = if r ∈ ys then some ((valV kvs (Sum.inl r)).getD .non) else none
  | [], r => rfl
  | y :: ys, r => by
    by_cases e : y = r
    · subst e
      rw [if_pos List.mem_cons_self]
      exact valV_pos (p := (Sum.inl y, _)) rfl
    · refine (valV_neg (p := (Sum.inl y, _)) (fun z => e (Sum.inl.inj z))).trans ((valV_back kvs ys r).trans ?_)
      by_cases c : r ∈ ys
      · rw [if_pos c, if_pos (List.mem_cons_of_mem _ c)]
      · rw [if_neg c, if_neg (fun z => (List.mem_cons.mp z).elim (fun q => e q.symm) c)]
theorem Fnd.back {U : List Int} {H : Hp} {kvs : List (Key × V)} {fd : Fd} (h : Fnd U H kvs fd) {ks ys : List Int} (e : kvs.map (·.1) = ks.map Sum.inl) (nd : ks.Nodup) (pm : ys.Perm ks) : (backK kvs ys).map (·.1) = ys.map Sum.inl ∧ ys.Nodup ∧ ∀ r : Int, DR H (valV (backK kvs ys) (Sum.inl r)) (fd r) := by
  refine ⟨by unfold backK; rw [List.map_map]; rfl, pm.nodup_iff.mpr nd, fun r => ?_⟩
  rw [valV_back]
  have q := h.vals r
  by_cases c : r ∈ ys
  · rw [if_pos c]
    have m : (Sum.inl r : Key) ∈ kvs.map (·.1) := by rw [e]; exact List.mem_map.mpr ⟨r, pm.mem_iff.mp c, rfl⟩
    cases z : valV kvs (Sum.inl r) with
    | none => exact absurd m (valV_not z)
    | some v => rw [z] at q; exact q
  · rw [if_neg c]
    have m : ¬ (Sum.inl r : Key) ∈ kvs.map (·.1) := fun m => by
      rw [e] at m
      obtain ⟨k, hk, ek⟩ := List.mem_map.mp m
      cases ek
      exact c (pm.mem_iff.mpr hk)
    cases z : valV kvs (Sum.inl r) with
    | none => rw [z] at q; exact q
    | some v => exact absurd (valV_in z) m
end Er

namespace Er
open PySem L2
/-! least_ranges walked -/
section
variable {P : Program} {w : World} {K : PySem.W.Frag} {mg : Str → Option Value} {base : Heap} {f : Addr} {fd : FuncData} {CW CL : Addr}
/-- the list that is given back: a dict's items -/
def ItemsAt (H : Hp) (v : V) (kvs : List (Key × V)) : Prop := ∃ l ps, v = .ref l ∧ H l = some (.lst (ps.map V.ref)) ∧ Paired (fun p kv => H p = some (.tup [kV kv.1, kv.2])) ps kvs
def LeastAt (bs : Bxs) (b : Bdy) (H : Hp) (v : V) : Prop := ∃ (kvs : List (Key × V)) (ks : List Int) (fd : Fd), ItemsAt H v kvs ∧ kvs.map (·.1) = ks.map Sum.inl ∧ ks.Nodup ∧ (∀ r : Int, DR H (valV kvs (Sum.inl r)) (fd r)) ∧
  FdOk (btb b) (bsz bs) (first b 0) (bfs bs) fd ∧ ∀ r, Closed (btb b) (bsz bs) fd r
def spLeast : Sp := fun vs H Q _ => ∃ (v : V) (bs : Bxs) (b : Bdy), vs = [v] ∧ PgAt (bnm bs) bs b H v ∧ PgOk bs b ∧ Gives H (LeastAt bs b) Q
theorem scLeast : FnScope ["program", "looker", "found", "due", "row", "there", "ranges", "wider"] ["program"] (defScope sLeastRanges) := ⟨rfl, rfl, rfl, by decide +kernel, rfl, by decide +kernel, by decide +kernel⟩
theorem none_of {G H : Hp} {l : Addr} (s : Same G H) (h : H l = none) : G l = none := by
  cases e : G l with
  | none => rfl
  | some o => rw [s _ _ e] at h; cases h
theorem refs_of : ∀ {zs : List V} {Y : Nat → Addr → Prop}, (∀ (i : Nat) z, zs[i]? = some z → ∃ p, z = .ref p ∧ Y i p) → ∃ ps : List Addr, zs = ps.map V.ref ∧ ps.length = zs.length ∧ ∀ (i : Nat) p, ps[i]? = some p → Y i p
  | [], _, _ => ⟨[], rfl, rfl, fun i p h => by simp at h⟩
  | z :: zs, Y, h => by
    obtain ⟨p, rfl, hp⟩ := h 0 z rfl
    obtain ⟨ps, rfl, l, hps⟩ := refs_of (zs := zs) (Y := fun i p => Y (i + 1) p) fun i z hz => h (i + 1) z (by simpa using hz)
    refine ⟨p :: ps, rfl, by rw [List.length_cons, List.length_cons, l], fun i q hq => ?_⟩
    cases i with
    | zero => cases hq; exact hp
    | succ i => exact hps i q (by simpa using hq)
theorem int_last {xs : List Int} {x : Int} : ((xs ++ [x]).map V.int)[((xs ++ [x]).map V.int).length - 1]? = some (.int x) ∧ ((xs ++ [x]).map V.int).dropLast = xs.map V.int := by
  rw [List.map_append]
  exact ⟨by simp, by simp⟩
theorem ok_least (X : Txt K mg CW CL) (C : CCal P w K mg base "Looker" CL 43 ["self", "program"] (spLInit CL)) (CS : LWC P w K mg base CL) (CJ : Cal P w K mg base "joined" 1 ["one", "other"] spJoined) (F : Fun K "least_ranges" "least_ranges" sLeastRanges f fd) :
    FnOk P w K mg base CX0 45 f fd ["program"] spLeast := by
  refine F.ok scLeast (fun vs H Q E h => ?_) (fun cdv A outer s H vs Q E hr h => ?_)
  · obtain ⟨v, bs, b, rfl, _⟩ := h
    rfl
  obtain ⟨v, bs, b, rfl, hp, ok, q⟩ := h
  have nd := scLeast.nd
  have pg := ok.pgm
  have hr1 : Room 1 _ := hr.mono (by decide)
  have hr7 : Room 7 _ := hr.mono (by decide)
  have CSx := CS (bnm bs) (bsz bs) (first b 0) (bfs bs) (btb b) pg
  have h30 : (uni b).length ≤ 31 := by
    show b.rows.length + 1 ≤ 31
    rw [rows_len]
    have := ok.size
    omega
  refine ⟨_, pss_cons (ps_set (i := 1) nd rfl (.inl rfl) (pe_ccal C (hr.mono (by decide)) (pa_cons (pv 0) pa_nil)))
    (pss_cons (ps_set (i := 2) nd rfl (.inr rfl) (pe_disp (pps_cons (pe_ix ix_tup (pe_fld (pv 1) rfl) pe_int (fun _ _ => rfl)) (pe_ix ix_tup (pe_fld (pv 1) rfl) pe_int (fun _ _ => rfl)) pps_nil) rfl rfl (by decide) (by decide)))
    (pss_cons (ps_set (i := 3) nd rfl (.inl rfl) (pe_lst (pa_cons (pe_ix ix_tup (pe_fld (pv 1) rfl) pe_int (fun _ _ => rfl)) pa_nil)))
    (pss_cons (ps_while PassesOwn.never (pt_cmpR (op_neNil (hu_of hr)) (pv 3) (pe_lst pa_nil) (nomark _))
      (pss_cons (ps_set (i := 4) nd rfl (.inl rfl) (pe_bm0 PySem.F.plainAttrs_list PySem.F.slot_list_pop PySem.F.type_list_pop mt_pop (pv 3)))
      (pss_one (ps_for PassesOwn.never rfl (pi_list (pe_mcal (pv 1) X.clL CSx hr7 (pa_cons (pv 4) (pa_cons (pe_dget (hu_of hr) (pv 2) (pv 4) (fun _ _ => rfl)) pa_nil)))) (pg_tup rfl (pgs_cons (pg_name (i := 5) nd rfl (.inl rfl)) (pgs_cons (pg_name (i := 6) nd rfl (.inl rfl)) pgs_nil)))
        (pss_cons (ps_set (i := 7) nd rfl (.inl rfl) (pv 6))
        (Evl.pss_cut (ps_if (pt_cmp (pc_din (hu_of hr) (pv 5) (pv 2))) (pss_one (ps_set (i := 7) nd rfl (.inl rfl) (pe_cal CJ hr1 (pa_cons (pe_dget (hu_of hr) (pv 2) (pv 5) (fun _ _ => rfl)) (pa_cons (pv 6) pa_nil))))) pss_nil)
        (pss_one (ps_if (PW.pt (pw_or (pt_cmp (pc_dnotin (hu_of hr) (pv 5) (pv 2))) (pw_or1 (pt_cmpR (op_neD hr.units) (pv 7) (pe_dget (hu_of hr) (pv 2) (pv 5) (fun _ _ => rfl)) (nomark _)))))
          (pss_cons (ps_dput (hu_of hr) (pv 2) (pv 5) (pv 7) rfl)
          (pss_one (ps_expr (pe_bm PySem.F.plainAttrs_list PySem.F.slot_list_append PySem.F.type_list_append mt_append (pv 3) (pa_cons (pv 5) pa_nil))))) pss_nil))))))))
    (pss_one (ps_ret (pe_lc (own := [("row", 4)]) (g := gName 4) (tt := tYes) (te := tTup (tCons (tVar 4) (tCons (tDGet (tVar 2) (tVar 4)) tNil))) rfl nd
      (pi_list (pe_callB (call_sortedDI rfl) (by rfl) X.zSorted (by decide +kernel) (pa_cons (pv 2) pa_nil))) (blkOk_by (N := ["program", "looker", "found", "due", "row", "there", "ranges", "wider"]) (sc := defScope sLeastRanges) (by decide +kernel))
      (fun _ _ _ _ _ => pg_name (i := 4) nd rfl (.inl rfl)) (fun _ _ _ _ _ => pts_nil) (fun _ _ _ _ _ => pe_tup (pa_cons (pv 4) (pa_cons (pe_dget (hu_of hr) (pv 2) (pv 4) (fun _ _ => rfl)) pa_nil))))))))), ?_⟩
  refine ⟨_, rfl, fun y dx hy hdx ne => ?_⟩
  refine ⟨H, y, dx, v, bs, b, rfl, same_made hy hdx, hy, upd_same, hp, ok, fun G0 s0 lk0 => ⟨rfl, ?_⟩⟩
  obtain ⟨dx, pb, ps, pd, pf, vv, hY, hB, hS, hD, hF, hV⟩ := id lk0.at_
  -- the dict
  refine fun d hd => ?_
  have g1 := same_new hd (.dK [])
  refine ⟨_, rfl, y, CL, dx, _, _, rfl, g1 _ _ hY, X.clL, X.lF, lF_F _ _ _ _, pf, _, 0, _, rfl, rfl, SqT.of (g1 _ _ hF), rfl, ?_⟩
  refine ⟨_, rfl, y, CL, dx, _, _, rfl, g1 _ _ hY, X.clL, X.lF, lF_F _ _ _ _, pf, _, 1, _, rfl, rfl, SqT.of (g1 _ _ hF), rfl, ?_⟩
  refine ⟨upd_same, [(Sum.inl (first b 0), vv)], rfl, by show 1 ≤ 15; decide, ?_⟩
  rw [upd_upd]
  have ek : mergeK [] [((Sum.inl (first b 0) : Key), vv)] = [(Sum.inl (first b 0), vv)] := rfl
  rw [ek]
  have g2 := same_new hd (.dK [((Sum.inl (first b 0) : Key), vv)])
  refine ⟨_, rfl, y, CL, dx, _, _, rfl, g2 _ _ hY, X.clL, X.lF, lF_F _ _ _ _, pf, _, 0, _, rfl, rfl, SqT.of (g2 _ _ hF), rfl, by show 1 ≤ sizeLine; decide, fun l hl => ?_⟩
  have gl : G0 l = none := none_of g2 hl
  have g3 := same_new hl (.lst [.int (first b 0)])
  have inv0 : LrInv bs b G0 d l (fd0 (first b 0) (bfs bs)) [first b 0] [((Sum.inl (first b 0) : Key), vv)] (upd (upd G0 d (.dK [((Sum.inl (first b 0) : Key), vv)])) l (.lst [.int (first b 0)])) := by
    have ok0 := fd0_ok ok
    refine ⟨g2.trans g3, g3 _ _ upd_same, ⟨⟨[first b 0], rfl, List.nodup_cons.mpr ⟨List.not_mem_nil, List.nodup_nil⟩, fun k hk => ?_⟩, fun r => ?_⟩, upd_same, ok0, fun r hr => ⟨sing (bfs bs), if_pos (List.mem_singleton.mp hr)⟩, ?_⟩
    · rw [List.mem_singleton.mp hk]
      exact row_uni (first_row_ok b)
    · unfold fd0
      by_cases e : r = first b 0
      · subst e
        rw [if_pos rfl, valV_pos (p := ((Sum.inl (first b 0) : Key), vv)) rfl]
        exact hV.mono (.same (g2.trans g3))
      · rw [if_neg e, valV_neg (p := ((Sum.inl (first b 0) : Key), vv)) (fun z => e (Sum.inl.inj z).symm)]
        exact True.intro
    · have a := pot_le (fun r f h => (ok0.rows r f h).1) (uni b)
      have t := tot_le pg.sz
      have n4 : (bsz bs).length ≤ 4 := by rw [← pg.len]; exact pg.few
      have t2 : 1 + tot (bsz bs) ≤ 41 := by omega
      have m := Nat.mul_le_mul h30 t2
      show 2 * _ + 1 ≤ 5000
      omega
  refine ⟨fun m σ' H' => ∃ (fd : Fd) (due : List Int) (kvs : List (Key × V)) (o4 o5 o6 o7 : Option V), σ' = [some v, some (.ref y), some (.ref d), some (.ref l), o4, o5, o6, o7] ∧ LrInv bs b G0 d l fd due kvs H' ∧ (∀ r, r ∈ due ∨ Closed (btb b) (bsz bs) fd r) ∧ m = 2 * pot (uni b) (bsz bs) fd + due.length,
    ⟨_, _, _, _, none, none, none, none, rfl, inv0, fd0_closed, rfl⟩, ?_⟩
  rintro m σ1 H1 ⟨fd, due, kvs, o4, o5, o6, o7, rfl, inv, cl, rfl⟩
  refine ⟨_, rfl, Nat.zero_le _, fun e he => ?_⟩
  have s2 := same_new he (.lst [])
  refine ⟨l, e, _, rfl, rfl, SqL.of (s2 _ _ inv.hl), SqL.of upd_same, _, rfl, ?_⟩
  have inv2 := inv.mono s2
  generalize upd H1 e (.lst []) = H2 at inv2
  rcases List.eq_nil_or_concat due with rfl | ⟨due0, row, ed⟩
  · -- nothing is due
    refine iteF ?_
    obtain ⟨ks, ek2, ndk, subk⟩ := inv2.fnd.keys
    refine ⟨_, rfl, d, kvs, ks, rfl, .inl inv2.hd, ek2, Nat.lt_of_le_of_lt (nd_len ndk subk) (by omega), fun ys p pm pw hp => ?_⟩
    have s3 := same_new hp (.lst (ys.map V.int))
    have inv3 := inv2.mono s3
    have h3 : upd H2 p (.lst (ys.map V.int)) p = some (.lst (ys.map V.int)) := upd_same
    generalize upd H2 p (.lst (ys.map V.int)) = H3 at inv3 h3
    obtain ⟨b1, b2, b3⟩ := inv3.fnd.back ek2 ndk pm
    have there : ∀ {i r}, ys[i]? = some r → ∃ u, valV kvs (Sum.inl r) = some u := fun {i r} h => by
      have m : (Sum.inl r : Key) ∈ kvs.map (·.1) := by rw [ek2]; exact List.mem_map.mpr ⟨r, pm.mem_iff.mp (List.mem_of_getElem? h), rfl⟩
      cases z : valV kvs (Sum.inl r) with
      | none => exact absurd m (valV_not z)
      | some u => exact ⟨u, rfl⟩
    have ly : ys.length ≤ 31 := by rw [pm.length_eq]; exact Nat.le_trans (nd_len ndk subk) h30
    refine ⟨p, rfl, ⟨_, SqL.of h3⟩, fun D hD =>
      lc_all (walk_list (xs := ys.map V.int)) (fun H i z => ∃ p, z = .ref p ∧ ∃ r u, ys[i]? = some r ∧ valV kvs (Sum.inl r) = some u ∧ H p = some (.tup [.int r, u])) (fun H H' i z t ⟨p, e, r, u, h1, h2, h3⟩ => ⟨p, e, r, u, h1, h2, t _ _ h3⟩) hD
        (fun H s => SqL.of (s _ _ h3)) (by rw [List.length_map]; omega) (fun i z H4 H5 hi s4 hy Q' k => ?_) (fun H4 zs s4 hz hl hR => ?_)⟩
    · obtain ⟨rfl, hy⟩ := hy
      rw [List.getElem?_map] at hy
      cases e : ys[i]? with
      | none => rw [e] at hy; cases hy
      | some r =>
        rw [e] at hy
        have hy : some (V.int r) = some z := hy
        cases hy
        obtain ⟨u, hu⟩ := there e
        exact ⟨rfl, _, rfl, _, rfl, _, rfl, d, u, rfl, dget_int (s4 _ _ inv3.hd) hu, by show 2 ≤ sizeLine; decide, fun t ht => k _ _ (same_new ht _) ⟨t, rfl, r, u, e, hu, upd_same⟩⟩
    obtain ⟨ps, rfl, lp, hps⟩ := refs_of hR
    rw [List.length_map, List.length_map] at hl
    refine q _ _ (s0.trans (inv3.same.trans s4)) ⟨backK kvs ys, ys, fd, ⟨D, ps, rfl, hz, paired_of (by unfold backK; rw [List.length_map]; exact hl) fun i p kv h1 h2 => ?_⟩, b1, b2, fun r => (b3 r).mono (.same s4), inv3.ok, fun r => (cl r).resolve_left List.not_mem_nil⟩
    obtain ⟨r, u, e1, e2, e3⟩ := hps i p h1
    unfold backK at h2
    rw [List.getElem?_map, e1] at h2
    have h2 : some ((Sum.inl r : Key), (valV kvs (Sum.inl r)).getD .non) = some kv := h2
    cases h2
    show H4 p = some (.tup [.int r, (valV kvs (Sum.inl r)).getD .non])
    rw [e2]
    exact e3
  -- a row is due
  rw [List.concat_eq_append] at ed
  subst ed
  have nz : (!((due0 ++ [row]).map V.int).isEmpty) = true := by simp
  rw [nz]
  refine iteT ?_
  obtain ⟨i1, i2⟩ := int_last (xs := due0) (x := row)
  refine ⟨fun σ' H' => ∃ m', m' < 2 * pot (uni b) (bsz bs) fd + (due0 ++ [row]).length ∧ ∃ (fd : Fd) (due : List Int) (kvs : List (Key × V)) (o4 o5 o6 o7 : Option V), σ' = [some v, some (.ref y), some (.ref d), some (.ref l), o4, o5, o6, o7] ∧ LrInv bs b G0 d l fd due kvs H' ∧ (∀ r, r ∈ due ∨ Closed (btb b) (bsz bs) fd r) ∧ m' = 2 * pot (uni b) (bsz bs) fd + due.length,
    fun _ _ h => h, ?_⟩
  refine ⟨_, rfl, .inl ⟨rfl, _, SqL.of inv2.hl⟩, l, _, _, rfl, rfl, inv2.hl, i1, ?_⟩
  rw [i2]
  have ndl : d ≠ l := ne_of inv2.hd inv2.hl (by intro c; cases c)
  have tk3 : Tk H2 (upd H2 l (.lst (due0.map V.int))) := .lst inv2.hl _
  have inv3 : LrInv bs b G0 d l fd due0 kvs (upd H2 l (.lst (due0.map V.int))) := ⟨Same.mut inv2.same gl, by rw [upd_ne ndl]; exact inv2.hd, inv2.fnd.mono tk3, upd_same, inv2.ok, fun r hr => inv2.has r (List.mem_append_left _ hr), by
    have := inv2.small
    rw [List.length_append] at this
    omega⟩
  obtain ⟨rs, hrs⟩ := inv2.has row (List.mem_append_right _ (List.mem_singleton.mpr rfl))
  obtain ⟨hro, hrow⟩ := inv2.ok.rows row rs hrs
  obtain ⟨u, hu, hrg⟩ := inv3.fnd.at_ hrs
  have mid0 : Mid (btb b) (bsz bs) fd due0 row [] rs := fun r => by
    rcases cl r with h | h
    · rcases List.mem_append.mp h with h | h
      · exact .inl h
      · exact .inr (.inl ⟨List.mem_singleton.mp h, by rw [List.mem_singleton.mp h]; exact hrs, fun w hw => nomatch hw⟩)
    · exact .inr (.inr h)
  generalize upd H2 l (.lst (due0.map V.int)) = H3 at inv3 hrg
  refine ⟨_, rfl, y, dx, _, rfl, inv3.same _ _ hY, lF_no _ _ _ _ (by decide +kernel) (by decide +kernel) (by decide +kernel) (by decide +kernel), _, rfl, _, rfl, _, rfl, d, u, rfl, dget_int inv3.hd hu, ?_⟩
  refine ⟨y, row, u, rs, rfl, lk0.mono inv3.same, hrg, hro, hrow, fun wv H4 s4 r4 => ?_⟩
  obtain ⟨a, vs, rfl, ha, pr⟩ := r4
  have hL : vs.length = (waysT (btb b) (bsz bs) row rs).length := pr.length
  refine ⟨a, rfl, ⟨_, SqL.of ha⟩, for_list (xs := vs) (fun i σ' H' => ∃ (fd' : Fd) (due' : List Int) (kvs' : List (Key × V)) (o5 o6 o7 : Option V), σ' = [some v, some (.ref y), some (.ref d), some (.ref l), some (.int row), o5, o6, o7] ∧ LrInv bs b G0 d l fd' due' kvs' H' ∧
    H' a = some (.lst vs) ∧ Paired (WayAt H') vs (waysT (btb b) (bsz bs) row rs) ∧ Mid (btb b) (bsz bs) fd' due' row ((waysT (btb b) (bsz bs) row rs).take i) rs ∧ 2 * pot (uni b) (bsz bs) fd' + due'.length ≤ 2 * pot (uni b) (bsz bs) fd + due0.length)
    ⟨fd, due0, kvs, o5, o6, o7, rfl, inv3.mono s4, ha, pr, mid0, Nat.le_refl _⟩ (fun i σ' H' _ ⟨_, _, _, _, _, _, _, _, h, _⟩ => SqL.of h) ?_ ?_⟩
  · rintro i x σ' H5 hx ⟨fd', due', kvs', p5, p6, p7, rfl, inv5, ha5, pr5, mid5, le5⟩
    obtain ⟨w, hw⟩ := get_lt (l := waysT (btb b) (bsz bs) row rs) (j := i) (by rw [← hL]; exact lt_of_get hx)
    obtain ⟨x', hx', hwx⟩ := pget pr5 hw
    rw [hx] at hx'
    cases hx'
    obtain ⟨t, g⟩ := w
    obtain ⟨px, ux, rfl, hpx, hgx⟩ := hwx
    obtain ⟨rokg, ht⟩ := ways_row ok hro (List.mem_of_getElem? hw)
    have nal : a ≠ l := way_ne ha5 pr5 inv5.hl hw
    have nad : a ≠ d := ne_of ha5 inv5.hd (by intro c; cases c)
    have etk : (waysT (btb b) (bsz bs) row rs).take (i + 1) = (waysT (btb b) (bsz bs) row rs).take i ++ [(t, g)] := by
      rw [List.take_succ, hw]
      rfl
    refine ⟨px, _, rfl, SqT.of hpx, rfl, _, _, rfl, _, _, rfl, rfl, ?_⟩
    refine ⟨_, rfl, ?_⟩
    refine ⟨fun σ' H' => ∃ wd, σ' = [some v, some (.ref y), some (.ref d), some (.ref l), some (.int row), some (.int t), some ux, some wd] ∧ Same H5 H' ∧ RgAt H' wd (match fd' t with | none => g | some f => join f g), ?_, ?_⟩
    · refine ⟨_, rfl, _, rfl, d, _, rfl, DGet.k (k := Sum.inl t) inv5.hd, _, rfl, ?_⟩
      cases e : fd' t with
      | none =>
        rw [inv5.fnd.no e]
        exact iteF ⟨ux, rfl, Same.refl _, hgx⟩
      | some f =>
        obtain ⟨z, hz, hf⟩ := inv5.fnd.at_ e
        rw [hz]
        refine iteT ⟨_, rfl, _, rfl, d, z, rfl, dget_int inv5.hd hz, _, rfl, z, ux, f, g, rfl, hf, hgx, ?_, fun v6 H6 s6 r6 => ⟨v6, rfl, s6, r6⟩⟩
        rw [(inv5.ok.rows t f e).1.1, ← pg.len]
        exact Nat.le_trans pg.few (by decide)
    rintro σ' H6 ⟨wd, rfl, s6, hwd⟩
    have inv6 := inv5.mono s6
    have ha6 := s6 _ _ ha5
    have pr6 : Paired (WayAt H6) vs (waysT (btb b) (bsz bs) row rs) := Paired.mapP pr5 fun _ _ h => h.mono (.same s6)
    -- the wider ranges are put, the row is due
    have putp : ∀ g', RgAt H6 wd g' → (∀ f, fd' t = some f → Sub f g') → Sub g g' → Rok (bsz bs) g' → pot (uni b) (bsz bs) (fd'.put t g') < pot (uni b) (bsz bs) fd' →
        ∃ H7, DPut H6 d (.int t) wd H7 ∧ H7 l = some (.lst (due'.map V.int)) ∧ ∃ (fd' : Fd) (due2 : List Int) (kvs' : List (Key × V)) (o5 o6 o7 : Option V), [some v, some (.ref y), some (.ref d), some (.ref l), some (.int row), some (.int t), some ux, some wd] = [some v, some (.ref y), some (.ref d), some (.ref l), some (.int row), o5, o6, o7] ∧
          LrInv bs b G0 d l fd' due2 kvs' (upd H7 l (.lst (due'.map V.int ++ [.int t]))) ∧ (upd H7 l (.lst (due'.map V.int ++ [.int t]))) a = some (.lst vs) ∧ Paired (WayAt (upd H7 l (.lst (due'.map V.int ++ [.int t])))) vs (waysT (btb b) (bsz bs) row rs) ∧
          Mid (btb b) (bsz bs) fd' due2 row ((waysT (btb b) (bsz bs) row rs).take (i + 1)) rs ∧ 2 * pot (uni b) (bsz bs) fd' + due2.length ≤ 2 * pot (uni b) (bsz bs) fd + due0.length := fun g' hg' wd' sg rg' lt => by
      obtain ⟨l1, inv7⟩ := inv6.put hd gl ht hg' wd' rg' lt
      have few := inv6.fnd.few
      refine ⟨_, DPut.k (k := Sum.inl t) inv6.hd (len_less (m := 31) (by omega) (by decide)), l1, _, _, _, _, _, _, rfl, inv7, by rw [upd_ne nal, upd_ne nad]; exact ha6, ?_, ?_, ?_⟩
      · exact Paired.mapP pr6 fun _ _ h => h.mono (Tk.trans (.dict inv6.hd _) (.lst l1 _))
      · rw [etk]
        exact (mid5.put wd').one ⟨g', Fd.put_same _ _ _, sg⟩
      · rw [List.length_append, List.length_singleton]
        omega
    have dlen : (due'.map V.int).length < sizeLine := by
      have := inv6.small
      exact len_less (m := 5000) (by rw [List.length_map]; omega) (by decide)
    refine ⟨_, rfl, _, rfl, d, _, rfl, DGet.k (k := Sum.inl t) inv6.hd, _, rfl, ?_⟩
    cases e : fd' t with
    | none =>
      rw [e] at hwd
      obtain ⟨H7, dp, l7, res⟩ := putp g hwd (fun f hf => by rw [e] at hf; cases hf) (Sub.refl g) rokg (pot_new (row_uni ht) e rokg)
      rw [inv6.fnd.no e]
      exact iteT (iteT ⟨_, rfl, _, rfl, _, rfl, d, H7, rfl, dp, _, rfl, .inl ⟨rfl, _, SqL.of l7⟩, _, rfl, l, _, _, rfl, rfl, l7, dlen, res⟩)
    | some f =>
      rw [e] at hwd
      obtain ⟨rokf, _⟩ := inv5.ok.rows t f e
      obtain ⟨z, hz, hf⟩ := inv6.fnd.at_ e
      rw [hz]
      refine iteF ⟨_, rfl, _, rfl, _, rfl, d, z, rfl, dget_int inv6.hd hz, rData (join f g), rData f, dp_rg hwd, dp_rg hf, shaped_rg _, shaped_rg _, _, rfl, ?_⟩
      rw [eqv_rg]
      by_cases c : join f g = f
      · rw [decide_eq_true c]
        refine iteF ⟨fd', due', kvs', _, _, _, rfl, inv6, ha6, pr6, ?_, le5⟩
        rw [etk]
        refine mid5.one ⟨f, e, ?_⟩
        have := join_right rokf rokg
        rw [c] at this
        exact this
      · obtain ⟨H7, dp, l7, res⟩ := putp (join f g) hwd (fun f' hf' => by rw [e] at hf'; cases hf'; exact join_left rokf rokg) (join_right rokf rokg) (join_ok rokf rokg) (pot_wide (row_uni ht) e rokf rokg c)
        rw [decide_eq_false c]
        exact iteT ⟨_, rfl, _, rfl, _, rfl, d, H7, rfl, dp, _, rfl, .inl ⟨rfl, _, SqL.of l7⟩, _, rfl, l, _, _, rfl, rfl, l7, dlen, res⟩
  · rintro σ' H5 ⟨fd', due', kvs', p5, p6, p7, rfl, inv5, ha5, pr5, mid5, le5⟩
    rw [hL, List.take_length] at mid5
    refine ⟨_, ?_, fd', due', kvs', _, _, _, _, rfl, inv5, mid_done mid5, rfl⟩
    rw [List.length_append, List.length_singleton]
    omega
end
end Er

namespace Er
open PySem L2
/-! the law's numbers: state and take; leaf and e -/
def StA (H : Hp) (t : Addr) : Prop := ∃ x s : Int, H t = some (.lst [.int x, .int s])
theorem StA.but {l : Addr} {G H : Hp} {t : Addr} (b : But l G H) (n : t ≠ l) (h : StA G t) : StA H t := by
  obtain ⟨x, s, e⟩ := h
  exact ⟨x, s, b _ _ n e⟩
theorem StA.tk {G H : Hp} {t : Addr} (b : But t G H) (h : StA G t) : Tk G H := by
  obtain ⟨x, s, e⟩ := h
  exact b.tk fun xs z => by rw [e] at z; cases z
theorem StA.ne {H : Hp} {t b : Addr} {vs : List V} {bs : Bxs} (h : StA H t) (hb : H b = some (.lst vs)) (pr : Paired (BoxAt H) vs bs) : b ≠ t := by
  intro e
  subst e
  obtain ⟨x, s, e⟩ := h
  rw [e] at hb
  have e := HO.lst.inj (Option.some.inj hb)
  subst e
  cases pr with
  | cons r _ =>
    obtain ⟨p, e, _⟩ := r
    cases e
/-- given back: R holds, all stands as it stood but the state -/
def Drw (t : Addr) (H : Hp) (R : Hp → V → Prop) (Q : VK) : Prop := ∀ v H', But t H H' → StA H' t → R H' v → Q v H'
theorem LstAt.box {H H' : Hp} {t b : Addr} {bs : Bxs} (h : LstAt BoxAt H (.ref b) bs) (s : StA H t) (bu : But t H H') : LstAt BoxAt H' (.ref b) bs := by
  obtain ⟨l, ys, e, hl, pr⟩ := h
  cases e
  exact ⟨b, ys, rfl, bu _ _ (s.ne hl pr) hl, Paired.mapP pr fun _ _ h => h.mono (s.tk bu)⟩
section
variable {P : Program} {w : World} {K : PySem.W.Frag} {mg : Str → Option Value} {base : Heap} {f : Addr} {fd : FuncData} {CW CL : Addr}
def spTake : Sp := fun vs H Q _ => ∃ (t : Addr) (m : Int), vs = [.ref t, .int m] ∧ StA H t ∧ 0 < m ∧ m < 1000 ∧ ∀ r H', But t H H' → StA H' t → 0 ≤ r → r < m → Q (.int r) H'
theorem scTake : FnScope ["state", "many", "found"] ["state", "many"] (defScope sTake) := ⟨rfl, rfl, rfl, by decide +kernel, rfl, by decide +kernel, by decide +kernel⟩
theorem ok_take (F : Fun K "_law_take" "_law_take" sTake f fd) : FnOk P w K mg base CX0 1 f fd ["state", "many"] spTake := by
  refine F.ok scTake (fun vs H Q E h => ?_) (fun cdv A outer s H vs Q E hr h => ?_)
  · obtain ⟨t, m, rfl, _⟩ := h
    rfl
  obtain ⟨t, m, rfl, ⟨x, s, ht⟩, m0, m1, q⟩ := h
  have nd := scTake.nd
  refine ⟨_, pss_cons (ps_if (pt_cmpR op_eq (pe_ix ix_list (pv 0) pe_int (fun _ _ => rfl)) pe_int (nomark _))
      (pss_cons (ps_asg (pe_op op_mod (pe_op op_mul (pe_op op_add (pe_ix ix_list (pv 0) pe_int (fun _ _ => rfl)) pe_int) pe_int) pe_int) (pg_sub (pv 0) pe_int set_list))
      (pss_cons (ps_asg (pe_op op_mod (pe_op op_mul (pe_ix ix_list (pv 0) pe_int (fun _ _ => rfl)) (pe_ix ix_list (pv 0) pe_int (fun _ _ => rfl))) pe_int) (pg_sub (pv 0) pe_int set_list))
      (pss_one (ps_ret (pe_op op_mod (pe_op op_fdiv (pe_op op_mod (pe_op op_mul (pe_ix ix_list (pv 0) pe_int (fun _ _ => rfl)) pe_int) pe_int) pe_int) (pv 1)))))) pss_nil)
    (pss_cons (ps_set (i := 2) nd rfl (.inl rfl) (pe_op op_mod (pe_ix ix_list (pv 0) pe_int (fun _ _ => rfl)) (pv 1)))
    (pss_cons (ps_asg (pe_op op_fdiv (pe_ix ix_list (pv 0) pe_int (fun _ _ => rfl)) (pv 1)) (pg_sub (pv 0) pe_int set_list))
    (pss_one (ps_ret (pv 2))))), ?_⟩
  refine ⟨_, rfl, t, _, 1, _, rfl, rfl, SqL.of ht, rfl, rfl, _, rfl, if_int (fun e => ?_) (fun e => ?_)⟩
  · have d1 : (0 : Int) < 2147483647 := by decide
    have d2 : (0 : Int) < 2147483629 := by decide
    have d3 : (0 : Int) < 2147483587 := by decide
    have a1 := Int.emod_nonneg ((x + 1) * 48271) (show (2147483647 : Int) ≠ 0 by decide)
    have a2 := Int.emod_lt_of_pos ((x + 1) * 48271) d1
    have cm : CMul ((x + 1) * 48271 % 2147483647) ((x + 1) * 48271 % 2147483647) := .inl ⟨by omega, by omega⟩
    refine ⟨_, rfl, t, _, 0, _, rfl, rfl, SqL.of ht, rfl, _, _, rfl, rfl, _, _, rfl, rfl, .inr ⟨by decide, by decide⟩, _, _, rfl, rfl, d1, ?_⟩
    refine ⟨_, rfl, t, _, 0, 0, rfl, rfl, ht, rfl, ?_⟩
    refine ⟨_, rfl, t, _, 0, _, rfl, rfl, SqL.of upd_same, rfl, _, rfl, t, _, 0, _, rfl, rfl, SqL.of upd_same, rfl, _, _, rfl, rfl, cm, _, _, rfl, rfl, d2, ?_⟩
    refine ⟨_, rfl, t, _, 0, 0, rfl, rfl, upd_same, rfl, ?_⟩
    refine ⟨_, rfl, t, _, 0, _, rfl, rfl, SqL.of upd_same, rfl, _, _, rfl, rfl, .inr ⟨by decide, by decide⟩, _, _, rfl, rfl, d3, _, _, rfl, rfl, ⟨by decide, by decide⟩, _, rfl, _, _, rfl, rfl, m0, ?_⟩
    exact q _ _ (((But.refl t H).upd _).upd _) ⟨_, _, upd_same⟩ (Int.emod_nonneg _ (by omega)) (Int.emod_lt_of_pos _ m0)
  · refine ⟨_, rfl, t, _, 0, _, rfl, rfl, SqL.of ht, rfl, _, rfl, _, _, rfl, rfl, m0, ?_⟩
    refine ⟨_, rfl, t, _, 0, _, rfl, rfl, SqL.of ht, rfl, _, rfl, _, _, rfl, rfl, ⟨m0, by omega⟩, ?_⟩
    refine ⟨_, rfl, t, _, 0, 0, rfl, rfl, ht, rfl, _, rfl, ?_⟩
    exact q _ _ ((But.refl t H).upd _) ⟨_, _, upd_same⟩ (Int.emod_nonneg _ (by omega)) (Int.emod_lt_of_pos _ m0)
def spState (K : PySem.W.Frag) : Sp := fun vs H Q _ => ∃ (a : Addr) (k : Nat) (ns : List Int), vs = [.ref a, .int (k : Nat)] ∧ SqL K H a (ns.map V.int) ∧ ∀ t H', H t = none → Same H H' → StA H' t → Q (.ref t) H'
theorem scState : FnScope ["script", "k", "cell", "small"] ["script", "k"] (defScope sState) := ⟨rfl, rfl, rfl, by decide +kernel, rfl, by decide +kernel, by decide +kernel⟩
theorem ok_state (X : Txt K mg CW CL) (F : Fun K "_law_state" "_law_state" sState f fd) : FnOk P w K mg base CX0 1 f fd ["script", "k"] (spState K) := by
  refine F.ok scState (fun vs H Q E h => ?_) (fun cdv A outer s H vs Q E hr h => ?_)
  · obtain ⟨a, k, ns, rfl, _⟩ := h
    rfl
  obtain ⟨a, k, ns, rfl, hS, q⟩ := h
  have nd := scState.nd
  refine ⟨_, pss_cons (ps_set (i := 2) nd rfl (.inl rfl) pe_int)
    (Evl.pss_cut (ps_if (pt_cmpR op_lt (pv 1) (pe_callB call_len_seq (by rfl) X.zLen PySem.boot_len (pa_cons (pv 0) pa_nil)) (nomark _)) (pss_one (ps_set (i := 2) nd rfl (.inl rfl) (pe_ix ix_list (pv 0) (pv 1) (fun _ _ => rfl)))) pss_nil)
    (pss_cons (ps_set (i := 3) nd rfl (.inl rfl) (pe_callTy call_int1 (by rfl) X.zInt (by decide +kernel) (pa_cons (pe_cmpR op_lt (pv 2) (pe_op op_pow pe_int pe_int) (nomark _)) pa_nil)))
    (pss_one (ps_ret (pe_lst (pa_cons (pe_op op_add (pv 2) (pe_op op_mul (pe_op op_mul pe_int (pv 1)) (pv 3))) (pa_cons (pv 3) pa_nil))))))), ?_⟩
  refine ⟨fun σ' H' => ∃ c : Int, σ' = [some (.ref a), some (.int (k : Nat)), some (.int c), none] ∧ H = H', ?_, ?_⟩
  · refine ⟨_, rfl, _, rfl, a, _, rfl, .inl hS, _, _, rfl, rfl, _, rfl, ite2 (fun c => ?_) (fun c => ⟨_, rfl, rfl⟩)⟩
    have c' : ((k : Nat) : Int) < (((ns.map V.int).length : Nat) : Int) := of_decide_eq_true c
    obtain ⟨z, hz⟩ := get_lt (l := ns) (j := k) (by rw [List.length_map] at c'; omega)
    exact ⟨_, rfl, _, rfl, a, _, _, .int z, rfl, rfl, hS, atI_nat (by rw [List.getElem?_map, hz]; rfl), z, rfl, rfl⟩
  rintro σ' H' ⟨c, rfl, rfl⟩
  refine ⟨_, rfl, _, _, rfl, rfl, ⟨by decide, by decide, by decide⟩, _, _, rfl, rfl, .inr ⟨_, rfl, ?_⟩⟩
  generalize hs : (if decide (c < 10 ^ (18 : Int).toNat) = true then (1 : Int) else 0) = sm
  have sb : sm = 0 ∨ sm = 1 := by
    rw [← hs]
    split
    · exact .inr rfl
    · exact .inl rfl
  refine ⟨_, rfl, _, rfl, _, _, rfl, rfl, .inl ⟨by decide, by decide⟩, _, rfl, _, _, rfl, rfl, .inr ?_, _, _, rfl, rfl, _, rfl, by show 2 ≤ sizeLine; decide, fun t ht => q t _ ht (same_new ht _) ⟨_, _, upd_same⟩⟩
  rcases sb with rfl | rfl
  · exact ⟨by decide, by decide⟩
  · exact ⟨by decide, by decide⟩
end
end Er

namespace Er
open PySem L2
/-! the law's leaf and e -/
structure Lw (t b : Addr) (bs : Bxs) (H : Hp) : Prop where
  st : StA H t
  bx : LstAt BoxAt H (.ref b) bs
theorem Lw.same {t b : Addr} {bs : Bxs} {H H' : Hp} (h : Lw t b bs H) (s : Same H H') : Lw t b bs H' := by
  obtain ⟨x, y, e⟩ := h.st
  obtain ⟨l, ys, e2, hl, pr⟩ := h.bx
  exact ⟨⟨x, y, s _ _ e⟩, l, ys, e2, s _ _ hl, Paired.mapP pr fun _ _ h => h.mono (.same s)⟩
theorem Lw.next {t b : Addr} {bs : Bxs} {H H' : Hp} (h : Lw t b bs H) (bu : But t H H') (s : StA H' t) : Lw t b bs H' := ⟨s, h.bx.box h.st bu⟩
/-- from G on: the state drawn from, all else as it stood -/
structure Dw (t b : Addr) (bs : Bxs) (G H : Hp) : Prop where
  but : But t G H
  lw : Lw t b bs H
  st0 : StA G t
theorem Lw.dw {t b : Addr} {bs : Bxs} {H : Hp} (h : Lw t b bs H) : Dw t b bs H H := ⟨.refl _ _, h, h.st⟩
theorem Dw.same {t b : Addr} {bs : Bxs} {G H H' : Hp} (h : Dw t b bs G H) (s : Same H H') : Dw t b bs G H' := ⟨h.but.trans (.same s), h.lw.same s, h.st0⟩
theorem Dw.next {t b : Addr} {bs : Bxs} {G H H' : Hp} (h : Dw t b bs G H) (bu : But t H H') (s : StA H' t) : Dw t b bs G H' := ⟨h.but.trans bu, h.lw.next bu s, h.st0⟩
theorem Dw.new {t b p : Addr} {bs : Bxs} {G H : Hp} {o : HO} (h : Dw t b bs G H) (n : H p = none) : Dw t b bs G (upd H p o) := h.same (same_new n o)
theorem Dw.tk {t b : Addr} {bs : Bxs} {G H : Hp} (h : Dw t b bs G H) : Tk G H := h.st0.tk h.but
theorem Lw.tk {t b : Addr} {bs : Bxs} {H H' : Hp} (h : Lw t b bs H) (bu : But t H H') : Tk H H' := h.st.tk bu
theorem Lw.lst {t b : Addr} {bs : Bxs} {H : Hp} (h : Lw t b bs H) : ∃ ys, H b = some (.lst ys) ∧ Paired (BoxAt H) ys bs := by
  obtain ⟨l, ys, e, hl, pr⟩ := h.bx
  cases e
  exact ⟨ys, hl, pr⟩
theorem sign_at {r : Int} (h0 : 0 ≤ r) (h1 : r < 3) : ∃ (c : Nat) (s : Sg), atI ("+-*" : Str).cps.toList r = some c ∧ (⟨#[c]⟩ : Str) = s.str := by
  have : r = 0 ∨ r = 1 ∨ r = 2 := by omega
  rcases this with rfl | rfl | rfl
  · exact ⟨43, .add, by decide +kernel, by decide +kernel⟩
  · exact ⟨45, .sub, by decide +kernel, by decide +kernel⟩
  · exact ⟨42, .mul, by decide +kernel, by decide +kernel⟩
theorem sign_at2 {r : Int} (h0 : 0 ≤ r) (h1 : r < 3) : ∃ (c : Nat) (s : Sg), atI ("-+*" : Str).cps.toList r = some c ∧ (⟨#[c]⟩ : Str) = s.str := by
  have : r = 0 ∨ r = 1 ∨ r = 2 := by omega
  rcases this with rfl | rfl | rfl
  · exact ⟨45, .sub, by decide +kernel, by decide +kernel⟩
  · exact ⟨43, .add, by decide +kernel, by decide +kernel⟩
  · exact ⟨42, .mul, by decide +kernel, by decide +kernel⟩
theorem sign_lt {r : Int} (h0 : 0 ≤ r) (h1 : r < 2) : ∃ (c : Nat) (lt : Bool), atI ("<=" : Str).cps.toList r = some c ∧ (⟨#[c]⟩ : Str) = ltS lt := by
  have : r = 0 ∨ r = 1 := by omega
  rcases this with rfl | rfl
  · exact ⟨60, true, by decide +kernel, by decide +kernel⟩
  · exact ⟨61, false, by decide +kernel, by decide +kernel⟩
def rLn (K : PySem.W.Frag) : List V → Hp → VK → Prop := fun xs H Q => ∃ p ys, xs = [.ref p] ∧ (SqL K H p ys ∨ SqT K H p ys) ∧ Q (.int ys.length) H
/-- boxes[_law_take(state, len(boxes))][0] -/
def tPick (K : PySem.W.Frag) : TE := tOp (rIxT K) (tOp (rIxL K) (tVar 1) (tCall spTake [] E0 (tCons (tVar 0) (tCons (tCB (rLn K) (tCons (tVar 1) tNil)) tNil)))) (tC (.int 0))
theorem pick_read {K : PySem.W.Frag} {σ : St} {H : Hp} {Q : VK} {t b : Addr} {bs : Bxs} (lw : Lw t b bs H) (ne : bs ≠ []) (few : bs.length ≤ 10) (h0 : σ[0]? = some (some (.ref t))) (h1 : σ[1]? = some (some (.ref b)))
    (k : ∀ j x H', But t H H' → Lw t b bs H' → j < bs.length → (bnm bs)[j]? = some x → Q (.str x) H') : tPick K σ H Q := by
  obtain ⟨ys, hl, pr⟩ := lw.lst
  have ln := pr.length
  have pos : 0 < bs.length := List.length_pos_iff.mpr ne
  refine ⟨_, h1, _, h0, _, h1, b, ys, rfl, .inl (SqL.of hl), t, _, rfl, lw.st, by omega, by omega, fun r H1 b1 s1 r0 r1 => ?_⟩
  have lw1 := lw.next b1 s1
  obtain ⟨zs, hz, pz⟩ := lw1.lst
  have lz := pz.length
  obtain ⟨j, rfl⟩ : ∃ j : Nat, r = (j : Int) := ⟨r.toNat, by omega⟩
  obtain ⟨bx, hbx⟩ := get_lt (l := bs) (j := j) (by omega)
  obtain ⟨v, hv, ⟨p, rfl, hp⟩⟩ := pget pz hbx
  refine ⟨b, zs, _, _, rfl, rfl, SqL.of hz, atI_nat hv, p, _, 0, _, rfl, rfl, SqT.of hp, rfl, ?_⟩
  exact k j bx.1 H1 b1 lw1 (lt_of_get hbx) (by show (bs.map (·.1))[j]? = _; rw [List.getElem?_map, hbx]; rfl)
section
variable {P : Program} {w : World} {K : PySem.W.Frag} {mg : Str → Option Value} {base : Heap} {f : Addr} {fd : FuncData} {CW CL : Addr}
def spDraw (R : Bxs → Hp → V → Prop) : Sp := fun vs H Q _ => ∃ (t b : Addr) (bs : Bxs), vs = [.ref t, .ref b] ∧ Lw t b bs H ∧ bs.length ≤ 3 ∧ Drw t H (R bs) Q
def LeafR (k : Nat) (bs : Bxs) (H : Hp) (v : V) : Prop := ∃ e : Xp, e.Fit bs.length k ∧ XpAt (bnm bs) H e v
theorem scLeaf : FnScope ["state", "boxes"] ["state", "boxes"] (defScope sLeaf) := ⟨rfl, rfl, rfl, by decide +kernel, rfl, by decide +kernel, by decide +kernel⟩
theorem ok_leaf (X : Txt K mg CW CL) (C : Cal P w K mg base "_law_take" 1 ["state", "many"] spTake) (F : Fun K "_law_leaf" "_law_leaf" sLeaf f fd) : FnOk P w K mg base CX0 2 f fd ["state", "boxes"] (spDraw (LeafR 0)) := by
  refine F.ok scLeaf (fun vs H Q E h => ?_) (fun cdv A outer s H vs Q E hr h => ?_)
  · obtain ⟨t, b, bs, rfl, _⟩ := h
    rfl
  obtain ⟨t, b, bs, rfl, lw, few, q⟩ := h
  have two : 2 ≤ sizeLine := by decide
  refine ⟨_, Evl.pss_cut (ps_if (PW.pt (pw_and (pt_cmpR (op_neNil (hu_of hr)) (pv 1) (pe_lst pa_nil) (nomark _)) (pw_and1 (pt_cmpR op_gt (pe_cal C hr (pa_cons (pv 0) (pa_cons pe_int pa_nil))) pe_int (nomark _)))))
      (pss_one (ps_ret (pe_tup (pa_cons pe_str (pa_cons (pe_ix ix_tup (pe_ix ix_list (pv 1) (pe_cal C hr (pa_cons (pv 0) (pa_cons (pe_callB call_len_seq (by rfl) X.zLen PySem.boot_len (pa_cons (pv 1) pa_nil)) pa_nil))) (fun _ _ => rfl)) pe_int (fun _ _ => rfl)) pa_nil))))) pss_nil)
    (pss_one (ps_ret (pe_tup (pa_cons pe_str (pa_cons (pe_ix ix_list (pe_lst (pa_cons (pe_cal C hr (pa_cons (pv 0) (pa_cons pe_int pa_nil))) (pa_cons (pe_cal C hr (pa_cons (pv 0) (pa_cons pe_int pa_nil))) pa_nil))) (pe_cal C hr (pa_cons (pv 0) (pa_cons pe_int pa_nil))) (fun _ _ => rfl)) pa_nil))))), ?_⟩
  refine ⟨fun σ' H' => σ' = [some (.ref t), some (.ref b)] ∧ Dw t b bs H H', ?_, ?_⟩
  · obtain ⟨ys, hl, pr⟩ := lw.lst
    refine ⟨_, rfl, Nat.zero_le _, fun e he => ?_⟩
    have d1 := lw.dw.new (o := .lst []) he
    refine ⟨b, e, ys, rfl, rfl, SqL.of (same_new he _ _ _ hl), SqL.of upd_same, _, rfl, ?_⟩
    generalize upd H e (.lst []) = H1 at d1
    cases ys with
    | nil => exact iteF (iteF ⟨rfl, d1⟩)
    | cons y ys =>
      have ne : bs ≠ [] := fun z => by subst z; cases pr
      refine iteT ⟨_, rfl, t, 3, rfl, d1.lw.st, by decide, by decide, fun r H2 b2 s2 r0 r1 => ?_⟩
      have d2 := d1.next b2 s2
      refine ⟨_, _, rfl, rfl, _, rfl, ite2 (fun c => ?_) (fun c => ⟨rfl, d2⟩)⟩
      refine pick_read d2.lw ne (by omega) rfl rfl fun j x H3 b3 lw3 hj hx => ⟨two, fun a ha => ?_⟩
      have d4 := (d2.next b3 lw3.st).new (o := .tup [.str "box", .str x]) ha
      exact q _ _ d4.but d4.lw.st ⟨.box j, hj, a, x, rfl, hx, upd_same⟩
  rintro σ' H1 ⟨rfl, d1⟩
  refine ⟨_, rfl, t, 4, rfl, d1.lw.st, by decide, by decide, fun r1 H2 b2 s2 u0 u1 => ?_⟩
  have d2 := d1.next b2 s2
  refine ⟨_, rfl, t, 12, rfl, s2, by decide, by decide, fun r2 H3 b3 s3 w0 w1 => ⟨two, fun l hl => ?_⟩⟩
  have d3 := (d2.next b3 s3).new (o := .lst [.int r1, .int r2]) hl
  obtain ⟨x3, y3, e3⟩ := s3
  have nlt : l ≠ t := (ne_of_none e3 hl).symm
  refine ⟨_, rfl, t, 2, rfl, d3.lw.st, by decide, by decide, fun r3 H4 b4 s4 z0 z1 => ?_⟩
  have d4 := d3.next b4 s4
  have hl4 : H4 l = some (.lst [.int r1, .int r2]) := b4 _ _ nlt upd_same
  obtain ⟨i, i0, i1, ei⟩ : ∃ i : Int, 0 ≤ i ∧ i ≤ 12 ∧ atI [V.int r1, V.int r2] r3 = some (.int i) := by
    have : r3 = 0 ∨ r3 = 1 := by omega
    rcases this with rfl | rfl
    · exact ⟨r1, u0, by omega, rfl⟩
    · exact ⟨r2, w0, by omega, rfl⟩
  refine ⟨l, _, _, _, rfl, rfl, SqL.of hl4, ei, two, fun a ha => ?_⟩
  have d5 := d4.new (o := .tup [.str "number", .int i]) ha
  exact q _ _ d5.but d5.lw.st ⟨.num i, ⟨i0, i1⟩, a, rfl, upd_same⟩
theorem scE : FnScope ["state", "boxes", "sign", "leaf", "other"] ["state", "boxes"] (defScope sE) := ⟨rfl, rfl, rfl, by decide +kernel, rfl, by decide +kernel, by decide +kernel⟩
theorem ok_e (X : Txt K mg CW CL) (C : Cal P w K mg base "_law_take" 1 ["state", "many"] spTake) (CL2 : Cal P w K mg base "_law_leaf" 2 ["state", "boxes"] (spDraw (LeafR 0))) (F : Fun K "_law_e" "_law_e" sE f fd) : FnOk P w K mg base CX0 3 f fd ["state", "boxes"] (spDraw (LeafR 2)) := by
  refine F.ok scE (fun vs H Q E h => ?_) (fun cdv A outer s H vs Q E hr h => ?_)
  · obtain ⟨t, b, bs, rfl, _⟩ := h
    rfl
  obtain ⟨t, b, bs, rfl, lw, few, q⟩ := h
  have three : 3 ≤ sizeLine := by decide
  have nd := scE.nd
  have hr1 : Room 1 _ := hr.mono (by decide)
  have z3 : ("+-*" : Str).length ≤ sizeLine ∧ ("-+*" : Str).length ≤ sizeLine := by decide +kernel
  refine ⟨_, pss_cons (ps_set (i := 2) nd rfl (.inl rfl) (pe_ix ix_str pe_str (pe_cal C hr1 (pa_cons (pv 0) (pa_cons pe_int pa_nil))) (fun _ _ => rfl)))
    (pss_cons (ps_set (i := 3) nd rfl (.inl rfl) (pe_cal CL2 hr (pa_cons (pv 0) (pa_cons (pv 1) pa_nil))))
    (pss_cons (ps_if (pt_cmpR op_eq (pe_cal C hr1 (pa_cons (pv 0) (pa_cons pe_int pa_nil))) pe_int (nomark _)) (pss_one (ps_ret (pv 3))) pss_nil)
    (pss_cons (ps_set (i := 4) nd rfl (.inl rfl) (pe_tup (pa_cons (pv 2) (pa_cons (pv 3) (pa_cons (pe_cal CL2 hr (pa_cons (pv 0) (pa_cons (pv 1) pa_nil))) pa_nil)))))
    (pss_cons (ps_if (pt_cmpR op_gt (pe_cal C hr1 (pa_cons (pv 0) (pa_cons pe_int pa_nil))) pe_int (nomark _)) (pss_one (ps_ret (pv 4))) pss_nil)
    (pss_one (ps_ret (pe_tup (pa_cons (pe_ix ix_str pe_str (pe_cal C hr1 (pa_cons (pv 0) (pa_cons pe_int pa_nil))) (fun _ _ => rfl)) (pa_cons (pe_cal CL2 hr (pa_cons (pv 0) (pa_cons (pv 1) pa_nil))) (pa_cons (pv 4) pa_nil)))))))))), ?_⟩
  have d0 := lw.dw
  refine ⟨_, rfl, t, 3, rfl, lw.st, by decide, by decide, fun r1 H1 b1 s1 u0 u1 => ?_⟩
  have d1 := d0.next b1 s1
  obtain ⟨c1, sg, hc1, es⟩ := sign_at u0 u1
  refine ⟨_, _, c1, rfl, rfl, z3.1, hc1, ?_⟩
  rw [es]
  refine ⟨_, rfl, _, rfl, t, b, bs, rfl, d1.lw, few, fun v2 H2 b2 s2 ⟨e2, f2, x2⟩ => ?_⟩
  have d2 := d1.next b2 s2
  refine ⟨_, rfl, t, 2, rfl, d2.lw.st, by decide, by decide, fun r3 H3 b3 s3 w0 w1 => ?_⟩
  have d3 := d2.next b3 s3
  have x3 := x2.mono (d2.lw.tk b3)
  refine ⟨rfl, _, rfl, if_int (fun e => ?_) (fun e => ?_)⟩
  · exact ⟨_, rfl, q _ _ d3.but d3.lw.st ⟨e2, f2.up (by decide), x3⟩⟩
  refine ⟨_, rfl, _, rfl, _, rfl, _, rfl, t, b, bs, rfl, d3.lw, few, fun v4 H4 b4 s4 ⟨e4, f4, x4⟩ => ⟨three, fun a ha => ?_⟩⟩
  have d4 := d3.next b4 s4
  have d5 := d4.new (o := .tup [.str sg.str, v2, v4]) ha
  have t5 : Tk H4 (upd H4 a (.tup [.str sg.str, v2, v4])) := .new ha _
  have x5 : XpAt (bnm bs) (upd H4 a (.tup [.str sg.str, v2, v4])) (.op sg e2 e4) (.ref a) := ⟨a, v2, v4, rfl, upd_same, (x3.mono (d3.lw.tk b4)).mono t5, x4.mono t5⟩
  generalize upd H4 a (.tup [.str sg.str, v2, v4]) = H5 at d5 x5
  refine ⟨_, rfl, t, 3, rfl, d5.lw.st, by decide, by decide, fun r6 H6 b6 s6 y0 y1 => ?_⟩
  have d6 := d5.next b6 s6
  have x6 := x5.mono (d5.lw.tk b6)
  refine ⟨_, _, rfl, rfl, _, rfl, ite2 (fun c => ?_) (fun c => ?_)⟩
  · exact ⟨_, rfl, q _ _ d6.but d6.lw.st ⟨.op sg e2 e4, ⟨f2.up (by decide), f4.up (by decide)⟩, x6⟩⟩
  refine ⟨_, rfl, t, 3, rfl, d6.lw.st, by decide, by decide, fun r7 H7 b7 s7 a0 a1 => ?_⟩
  have d7 := d6.next b7 s7
  obtain ⟨c7, sg7, hc7, es7⟩ := sign_at2 a0 a1
  refine ⟨_, _, c7, rfl, rfl, z3.2, hc7, ?_⟩
  rw [es7]
  refine ⟨_, rfl, _, rfl, t, b, bs, rfl, d7.lw, few, fun v8 H8 b8 s8 ⟨e8, f8, x8⟩ => ?_⟩
  have d8 := d7.next b8 s8
  refine ⟨_, rfl, three, fun z hz => ?_⟩
  have d9 := d8.new (o := .tup [.str sg7.str, v8, .ref a]) hz
  have t9 : Tk H8 (upd H8 z (.tup [.str sg7.str, v8, .ref a])) := .new hz _
  exact q _ _ d9.but d9.lw.st ⟨.op sg7 e8 (.op sg e2 e4), ⟨f8.up (by decide), f2.up (by decide), f4.up (by decide)⟩, z, v8, .ref a, rfl, upd_same, x8.mono t9, ((x6.mono (d6.lw.tk b7)).mono (d7.lw.tk b8)).mono t9⟩
end
end Er

namespace Er
open PySem L2
/-! the law's plain statement; the boxes -/
def PlainR (row : Int) (bs : Bxs) (H : Hp) (v : V) : Prop := ∃ s : Sm, s.Ok bs.length ∧ s.kids = 0 ∧ StAt (bnm bs) H s row [] v
section
variable {P : Program} {w : World} {K : PySem.W.Frag} {mg : Str → Option Value} {base : Heap} {f : Addr} {fd : FuncData} {CW CL : Addr}
def spPlain : Sp := fun vs H Q _ => ∃ (t b : Addr) (row : Int) (bs : Bxs), vs = [.ref t, .ref b, .int row] ∧ Lw t b bs H ∧ bs.length ≤ 3 ∧ Drw t H (PlainR row bs) Q
theorem scPlain : FnScope ["state", "boxes", "row", "kind"] ["state", "boxes", "row"] (defScope sPlain) := ⟨rfl, rfl, rfl, by decide +kernel, rfl, by decide +kernel, by decide +kernel⟩
theorem ok_plain (X : Txt K mg CW CL) (C : Cal P w K mg base "_law_take" 1 ["state", "many"] spTake) (CE : Cal P w K mg base "_law_e" 3 ["state", "boxes"] (spDraw (LeafR 2))) (F : Fun K "_law_plain" "_law_plain" sPlain f fd) : FnOk P w K mg base CX0 4 f fd ["state", "boxes", "row"] spPlain := by
  refine F.ok scPlain (fun vs H Q E h => ?_) (fun cdv A outer s H vs Q E hr h => ?_)
  · obtain ⟨t, b, row, bs, rfl, _⟩ := h
    rfl
  obtain ⟨t, b, row, bs, rfl, lw, few, q⟩ := h
  have nd := scPlain.nd
  have hr1 : Room 1 _ := hr.mono (by decide)
  have zl : ("<=" : Str).length ≤ sizeLine := by decide +kernel
  refine ⟨_, pss_cons (ps_set (i := 3) nd rfl (.inl rfl) (pe_cal C hr1 (pa_cons (pv 0) (pa_cons pe_int pa_nil))))
    (Evl.pss_cut (ps_if (PW.pt (pw_and (pt_cmpR (op_neNil (hu_of hr)) (pv 1) (pe_lst pa_nil) (nomark _)) (pw_and1 (pt_cmpR op_lt (pv 3) pe_int (nomark _)))))
      (pss_one (ps_ret (pe_tup (pa_cons pe_str (pa_cons (pv 2) (pa_cons (pe_ix ix_tup (pe_ix ix_list (pv 1) (pe_cal C hr1 (pa_cons (pv 0) (pa_cons (pe_callB call_len_seq (by rfl) X.zLen PySem.boot_len (pa_cons (pv 1) pa_nil)) pa_nil))) (fun _ _ => rfl)) pe_int (fun _ _ => rfl)) pa_nil)))))) pss_nil)
    (Evl.pss_cut (ps_if (PW.pt (pw_and (pt_cmpR (op_neNil (hu_of hr)) (pv 1) (pe_lst pa_nil) (nomark _)) (pw_and1 (pt_cmpR op_lt (pv 3) pe_int (nomark _)))))
      (pss_one (ps_ret (pe_tup (pa_cons pe_str (pa_cons (pv 2) (pa_cons (pe_ix ix_tup (pe_ix ix_list (pv 1) (pe_cal C hr1 (pa_cons (pv 0) (pa_cons (pe_callB call_len_seq (by rfl) X.zLen PySem.boot_len (pa_cons (pv 1) pa_nil)) pa_nil))) (fun _ _ => rfl)) pe_int (fun _ _ => rfl))
        (pa_cons (pe_cal CE hr (pa_cons (pv 0) (pa_cons (pv 1) pa_nil))) pa_nil))))))) pss_nil)
    (pss_cons (ps_if (pt_cmpR op_eq (pv 3) pe_int (nomark _)) (pss_one (ps_ret (pe_tup (pa_cons pe_str (pa_cons (pv 2) (pa_cons (pe_ix ix_str pe_str (pe_cal C hr1 (pa_cons (pv 0) (pa_cons pe_int pa_nil))) (fun _ _ => rfl))
        (pa_cons (pe_cal CE hr (pa_cons (pv 0) (pa_cons (pv 1) pa_nil))) (pa_cons (pe_cal CE hr (pa_cons (pv 0) (pa_cons (pv 1) pa_nil))) pa_nil)))))))) pss_nil)
    (Evl.pss_cut (ps_if (PW.pt (pw_and (pt_cmpR op_eq (pv 3) pe_int (nomark _)) (pw_and1 (pt_cmpR op_eq (pe_cal C hr1 (pa_cons (pv 0) (pa_cons pe_int pa_nil))) pe_int (nomark _)))))
      (pss_one (ps_ret (pe_tup (pa_cons pe_str (pa_cons (pv 2) pa_nil))))) pss_nil)
    (pss_one (ps_ret (pe_tup (pa_cons pe_str (pa_cons (pv 2) (pa_cons (pe_cal CE hr (pa_cons (pv 0) (pa_cons (pv 1) pa_nil))) pa_nil)))))))))), ?_⟩
  have ns : ∀ n : Nat, n ≤ 100 → n ≤ sizeLine := fun n h => len_small h (by decide)
  refine ⟨_, rfl, t, 9, rfl, lw.st, by decide, by decide, fun k H1 b1 s1 u0 u1 => ?_⟩
  have d1 := lw.dw.next b1 s1
  have fin : ∀ {H2 : Hp} {a : Addr} {sm : Sm} {tl : List V}, Dw t b bs H H2 → H2 a = none → sm.Ok bs.length → sm.kids = 0 → SmTl (bnm bs) H2 sm tl → Q (.ref a) (upd H2 a (.tup (.str sm.word :: .int row :: tl))) := fun {H2 a sm tl} d ha so sk st => by
    have d3 := d.new (o := .tup (.str sm.word :: .int row :: tl)) ha
    exact q _ _ d3.but d3.lw.st ⟨sm, so, sk, a, tl, rfl, st.mono (.new ha _), by rw [List.append_nil]; exact upd_same⟩
  refine ⟨fun σ' H' => σ' = [some (.ref t), some (.ref b), some (.int row), some (.int k)] ∧ Dw t b bs H H', ?_, ?_⟩
  · obtain ⟨ys, hl, pr⟩ := d1.lw.lst
    refine ⟨_, rfl, Nat.zero_le _, fun e he => ?_⟩
    have d2 := d1.new (o := .lst []) he
    refine ⟨b, e, ys, rfl, rfl, SqL.of (same_new he _ _ _ hl), SqL.of upd_same, _, rfl, ?_⟩
    generalize upd H1 e (.lst []) = H2 at d2
    cases ys with
    | nil => exact iteF (iteF ⟨rfl, d2⟩)
    | cons y ys =>
      have ne : bs ≠ [] := fun z => by subst z; cases pr
      refine iteT ⟨_, rfl, _, _, rfl, rfl, _, rfl, ite2 (fun c => ?_) (fun c => ⟨rfl, d2⟩)⟩
      refine ⟨_, rfl, ?_⟩
      exact pick_read d2.lw ne (by omega) rfl rfl fun j x H3 b3 lw3 hj hx => ⟨ns 3 (by decide), fun a ha => fin (sm := .ask j) (d2.next b3 lw3.st) ha hj rfl ⟨x, hx, rfl⟩⟩
  rintro σ' H2 ⟨rfl, d2⟩
  refine ⟨fun σ' H' => σ' = [some (.ref t), some (.ref b), some (.int row), some (.int k)] ∧ Dw t b bs H H', ?_, ?_⟩
  · obtain ⟨ys, hl, pr⟩ := d2.lw.lst
    refine ⟨_, rfl, Nat.zero_le _, fun e he => ?_⟩
    have d3 := d2.new (o := .lst []) he
    refine ⟨b, e, ys, rfl, rfl, SqL.of (same_new he _ _ _ hl), SqL.of upd_same, _, rfl, ?_⟩
    generalize upd H2 e (.lst []) = H3 at d3
    cases ys with
    | nil => exact iteF (iteF ⟨rfl, d3⟩)
    | cons y ys =>
      have ne : bs ≠ [] := fun z => by subst z; cases pr
      refine iteT ⟨_, rfl, _, _, rfl, rfl, _, rfl, ite2 (fun c => ?_) (fun c => ⟨rfl, d3⟩)⟩
      refine ⟨_, rfl, ?_⟩
      refine pick_read d3.lw ne (by omega) rfl rfl fun j x H4 b4 lw4 hj hx => ?_
      refine ⟨_, rfl, _, rfl, t, b, bs, rfl, lw4, few, fun v5 H5 b5 s5 ⟨e5, f5, x5⟩ => ⟨ns 4 (by decide), fun a ha => ?_⟩⟩
      exact fin (sm := .put j e5) ((d3.next b4 lw4.st).next b5 s5) ha ⟨hj, f5⟩ rfl ⟨x, v5, hx, x5, rfl⟩
  rintro σ' H3 ⟨rfl, d3⟩
  refine ⟨_, rfl, rfl, _, rfl, if_int (fun e => ?_) (fun e => ?_)⟩
  · refine ⟨_, rfl, ?_⟩
    refine ⟨_, rfl, t, 2, rfl, d3.lw.st, by decide, by decide, fun r H4 b4 s4 w0 w1 => ?_⟩
    have d4 := d3.next b4 s4
    obtain ⟨c, lt, hc, es⟩ := sign_lt w0 w1
    refine ⟨_, _, c, rfl, rfl, zl, hc, ?_⟩
    rw [es]
    refine ⟨_, rfl, _, rfl, t, b, bs, rfl, d4.lw, few, fun v5 H5 b5 s5 ⟨e5, f5, x5⟩ => ?_⟩
    have d5 := d4.next b5 s5
    refine ⟨_, rfl, _, rfl, t, b, bs, rfl, d5.lw, few, fun v6 H6 b6 s6 ⟨e6, f6, x6⟩ => ⟨ns 5 (by decide), fun a ha => ?_⟩⟩
    exact fin (sm := .con .mst lt e5 e6) (d5.next b6 s6) ha ⟨f5, f6⟩ rfl ⟨v5, v6, x5.mono (d5.lw.tk b6), x6, rfl⟩
  refine ⟨fun σ' H' => σ' = [some (.ref t), some (.ref b), some (.int row), some (.int k)] ∧ Dw t b bs H H', ?_, ?_⟩
  · refine ⟨_, rfl, rfl, _, rfl, if_int (fun e => ?_) (fun e => iteF ⟨rfl, d3⟩)⟩
    refine ⟨_, rfl, t, 3, rfl, d3.lw.st, by decide, by decide, fun r H4 b4 s4 w0 w1 => ?_⟩
    have d4 := d3.next b4 s4
    refine ⟨rfl, _, rfl, if_int (fun e => ?_) (fun e => ⟨rfl, d4⟩)⟩
    exact ⟨_, rfl, ns 2 (by decide), fun a ha => fin (sm := .stop) d4 ha True.intro rfl rfl⟩
  rintro σ' H4 ⟨rfl, d4⟩
  refine ⟨_, rfl, ?_⟩
  refine ⟨_, rfl, _, rfl, t, b, bs, rfl, d4.lw, few, fun v5 H5 b5 s5 ⟨e5, f5, x5⟩ => ⟨ns 3 (by decide), fun a ha => ?_⟩⟩
  exact fin (sm := .say e5) (d4.next b5 s5) ha f5 rfl ⟨v5, x5, rfl⟩
end
end Er

namespace Er
open PySem L2
/-! the law's boxes -/
structure BxOk (bs : Bxs) : Prop where
  nd : (bnm bs).Nodup
  sz : Sz (bsz bs)
  fs : Vok (bsz bs) (bfs bs)
  few : bs.length ≤ 3
theorem get_snoc {α : Type} {l : List α} {x y : α} {j : Nat} (h : (l ++ [x])[j]? = some y) : l[j]? = some y ∨ (j = l.length ∧ y = x) := by
  by_cases c : j < l.length
  · rw [List.getElem?_append_left c] at h
    exact .inl h
  · rw [List.getElem?_append_right (by omega)] at h
    have e : j - l.length = 0 := by
      have := lt_of_get h
      simp at this
      omega
    rw [e] at h
    cases h
    exact .inr ⟨by omega, rfl⟩
theorem sz_snoc {sz : List Int} {s : Int} (h : Sz sz) (h1 : 2 ≤ s) (h2 : s ≤ 10) : Sz (sz ++ [s]) := by
  intro j z hz
  rcases get_snoc hz with e | ⟨_, rfl⟩
  · exact h j z e
  · exact ⟨h1, h2⟩
theorem vok_snoc {sz xs : List Int} {s x : Int} (h : Vok sz xs) (h1 : 0 ≤ x) (h2 : x < s) : Vok (sz ++ [s]) (xs ++ [x]) := by
  refine ⟨by rw [List.length_append, List.length_append, h.1]; rfl, fun j z v hz hv => ?_⟩
  have e := h.1
  rcases get_snoc hz with e1 | ⟨e1, rfl⟩
  · rcases get_snoc hv with e2 | ⟨e2, rfl⟩
    · exact h.2 j z v e1 e2
    · have := lt_of_get e1
      omega
  · rcases get_snoc hv with e2 | ⟨e2, rfl⟩
    · have := lt_of_get e2
      omega
    · exact ⟨h1, h2⟩
def nmA : List Str := ["a", "ab", "b"]
def nmB : List Str := ["xx", "x", "boxes"]
section
variable {P : Program} {w : World} {K : PySem.W.Frag} {mg : Str → Option Value} {base : Heap} {f : Addr} {fd : FuncData} {CW CL : Addr}
def spBoxes (K : PySem.W.Frag) : Sp := fun vs H Q _ => ∃ (a : Addr) (ns : List Int), vs = [.ref a] ∧ SqL K H a (ns.map V.int) ∧ Gives H (fun H' v => ∃ bs, LstAt BoxAt H' v bs ∧ BxOk bs) Q
theorem scBoxes : FnScope ["script", "state", "names", "boxes", "name", "size"] ["script"] (defScope sBoxes) := ⟨rfl, rfl, rfl, by decide +kernel, rfl, by decide +kernel, by decide +kernel⟩
theorem ok_boxes (X : Txt K mg CW CL) (C : Cal P w K mg base "_law_take" 1 ["state", "many"] spTake) (CS : Cal P w K mg base "_law_state" 1 ["script", "k"] (spState K)) (F : Fun K "_law_boxes" "_law_boxes" sBoxes f fd) : FnOk P w K mg base CX0 2 f fd ["script"] (spBoxes K) := by
  refine F.ok scBoxes (fun vs H Q E h => ?_) (fun cdv A outer s H vs Q E hr h => ?_)
  · obtain ⟨a, ns, rfl, _⟩ := h
    rfl
  obtain ⟨a, ns, rfl, hS, q⟩ := h
  have nd := scBoxes.nd
  have sml : ∀ n : Nat, n ≤ 100 → n ≤ sizeLine := fun n h => len_small h (by decide)
  refine ⟨_, pss_cons (ps_set (i := 1) nd rfl (.inl rfl) (pe_cal CS hr (pa_cons (pv 0) (pa_cons pe_int pa_nil))))
    (Evl.pss_cut (ps_set (i := 2) nd rfl (.inl rfl) (pe_ix ix_list (pe_lst (pa_cons (pe_lst (pa_cons pe_str (pa_cons pe_str (pa_cons pe_str pa_nil)))) (pa_cons (pe_lst (pa_cons pe_str (pa_cons pe_str (pa_cons pe_str pa_nil)))) pa_nil))) (pe_cal C hr (pa_cons (pv 1) (pa_cons pe_int pa_nil))) (fun _ _ => rfl)))
    (pss_cons (ps_set (i := 3) nd rfl (.inl rfl) (pe_lst pa_nil))
    (pss_cons (ps_for PassesOwn.never rfl (pi_list (pe_slice sl_list (pv 2) po_none (po_some (pe_cal C hr (pa_cons (pv 1) (pa_cons pe_int pa_nil)))))) (pg_name (i := 4) nd rfl (.inl rfl))
      (pss_cons (ps_set (i := 5) nd rfl (.inl rfl) (pe_op op_add pe_int (pe_cal C hr (pa_cons (pv 1) (pa_cons (pe_ix ix_list (pe_lst (pa_cons pe_int (pa_cons pe_int pa_nil))) (pe_cal C hr (pa_cons (pv 1) (pa_cons pe_int pa_nil))) (fun _ _ => rfl)) pa_nil)))))
      (pss_one (ps_expr (pe_bm PySem.F.plainAttrs_list PySem.F.slot_list_append PySem.F.type_list_append mt_append (pv 3) (pa_cons (pe_tup (pa_cons (pv 4) (pa_cons (pv 5) (pa_cons (pe_cal C hr (pa_cons (pv 1) (pa_cons (pv 5) pa_nil))) pa_nil)))) pa_nil))))))
    (pss_one (ps_ret (pv 3)))))), ?_⟩
  refine ⟨_, rfl, a, 0, ns, rfl, hS, fun t H1 ht s1 st1 => ?_⟩
  refine ⟨fun σ' H' => ∃ (n : Addr) (nm : List Str), σ' = [some (.ref a), some (.ref t), some (.ref n), none, none, none] ∧ Same H H' ∧ StA H' t ∧ H' n = some (.lst (nm.map V.str)) ∧ nm.Nodup ∧ nm.length = 3, ?_, ?_⟩
  · refine ⟨sml 3 (by decide), fun p1 hp1 => ⟨sml 3 (by decide), fun p2 hp2 => ⟨sml 2 (by decide), fun p3 hp3 => ?_⟩⟩⟩
    have g1 := same_new hp1 (.lst (nmA.map V.str))
    have g2 := same_new (H := upd H1 p1 (.lst (nmA.map V.str))) hp2 (.lst (nmB.map V.str))
    have g3 := same_new (H := upd (upd H1 p1 (.lst (nmA.map V.str))) p2 (.lst (nmB.map V.str))) hp3 (.lst [.ref p1, .ref p2])
    have h1 := g3 _ _ (g2 _ _ upd_same)
    have h2 := g3 _ _ (upd_same (H := upd H1 p1 (.lst (nmA.map V.str))) (a := p2) (o := .lst (nmB.map V.str)))
    have g := (g1.trans g2).trans g3
    obtain ⟨x, y, e⟩ := st1
    have st3 : StA (upd (upd (upd H1 p1 (.lst (nmA.map V.str))) p2 (.lst (nmB.map V.str))) p3 (.lst [.ref p1, .ref p2])) t := ⟨x, y, g _ _ e⟩
    have n3 : p3 ≠ t := (ne_of_none (g2 _ _ (g1 _ _ e)) hp3).symm
    have n2 : p2 ≠ t := (ne_of_none (g1 _ _ e) hp2).symm
    have n1 : p1 ≠ t := (ne_of_none e hp1).symm
    refine ⟨_, rfl, t, 2, rfl, st3, by decide, by decide, fun r H2 b2 s2 r0 r1 => ?_⟩
    have z3 := b2 _ _ n3 upd_same
    have sm2 := (But.same g).trans b2
    have sH : Same H H2 := sm2.out s1 ht
    have : r = 0 ∨ r = 1 := by omega
    rcases this with rfl | rfl
    · exact ⟨p3, _, _, .ref p1, rfl, rfl, SqL.of z3, rfl, p1, nmA, rfl, sH, s2, b2 _ _ n1 h1, by decide +kernel, rfl⟩
    · exact ⟨p3, _, _, .ref p2, rfl, rfl, SqL.of z3, rfl, p2, nmB, rfl, sH, s2, b2 _ _ n2 h2, by decide +kernel, rfl⟩
  rintro σ' H2 ⟨n, nm, rfl, s2, st2, hn, ndn, l3⟩
  refine ⟨Nat.zero_le _, fun l hl => ?_⟩
  have g3 := same_new hl (.lst [])
  obtain ⟨x, y, e⟩ := st2
  have nlt : l ≠ t := (ne_of_none e hl).symm
  have nnt : n ≠ t := ne_of hn e (by
    intro c
    have := congrArg List.length (HO.lst.inj c)
    rw [List.length_map, l3] at this
    cases this)
  refine ⟨_, rfl, _, rfl, t, 4, rfl, ⟨x, y, g3 _ _ e⟩, by decide, by decide, fun r H4 b4 s4 r0 r1 => ?_⟩
  obtain ⟨k, rfl⟩ : ∃ k : Nat, r = (k : Int) := ⟨r.toNat, by omega⟩
  have hn4 := b4 _ _ nnt (g3 _ _ hn)
  have hl4 := b4 _ _ nlt upd_same
  refine ⟨_, rfl, n, _, rfl, SqL.of hn4, fun c hc => ?_⟩
  rw [cut_to _ k (by rw [List.length_map, l3]; omega), ← List.map_take]
  have g5 := same_new hc (.lst ((nm.take k).map V.str))
  have s5 : Same H (upd H4 c (.lst ((nm.take k).map V.str))) := ((b4.out (s2.trans g3) ht)).trans g5
  obtain ⟨x4, y4, e4⟩ := s4
  have nct : c ≠ t := (ne_of_none e4 hc).symm
  have ncl : c ≠ l := (ne_of_none hl4 hc).symm
  have lk : ((nm.take k).map V.str).length = k := by rw [List.length_map, List.length_take, l3]; omega
  refine ⟨c, rfl, ⟨_, SqL.of upd_same⟩, for_list (xs := (nm.take k).map V.str) (fun i σ' H' => ∃ (o4 o5 : Option V) (vs : List V) (bs : Bxs), σ' = [some (.ref a), some (.ref t), some (.ref n), some (.ref l), o4, o5] ∧ Same H H' ∧ StA H' t ∧ H' c = some (.lst ((nm.take k).map V.str)) ∧
    H' l = some (.lst vs) ∧ Paired (BoxAt H') vs bs ∧ bnm bs = (nm.take k).take i ∧ Sz (bsz bs) ∧ Vok (bsz bs) (bfs bs)) ⟨none, none, [], [], rfl, s5, ⟨x4, y4, g5 _ _ e4⟩, upd_same, g5 _ _ hl4, .nil, rfl, (fun j s h => by simp at h), rfl, (fun j s v h => by simp at h)⟩
    (fun i σ' H' _ ⟨_, _, _, _, _, _, _, h, _⟩ => SqL.of h) ?_ ?_⟩
  · rintro i z σ' H6 hz ⟨o4, o5, vs, bs, rfl, s6, st6, hc6, hl6, pr6, en, hsz, hok⟩
    rw [List.getElem?_map] at hz
    cases ez : (nm.take k)[i]? with
    | none => rw [ez] at hz; cases hz
    | some nmx =>
      rw [ez] at hz
      have hz : some (V.str nmx) = some z := hz
      cases hz
      refine ⟨_, rfl, sml 2 (by decide), fun p hp => ?_⟩
      have g7 := same_new hp (.lst [.int 3, .int 9])
      obtain ⟨x6, y6, e6⟩ := st6
      have npt : p ≠ t := (ne_of_none e6 hp).symm
      have npl : p ≠ l := (ne_of_none hl6 hp).symm
      refine ⟨_, rfl, t, 2, rfl, ⟨x6, y6, g7 _ _ e6⟩, by decide, by decide, fun r7 H7 b7 s7 u0 u1 => ?_⟩
      have hp7 := b7 _ _ npt upd_same
      obtain ⟨m, em, hm0, hm1⟩ : ∃ m : Int, atI [V.int 3, V.int 9] r7 = some (.int m) ∧ 0 < m ∧ m ≤ 9 := by
        have : r7 = 0 ∨ r7 = 1 := by omega
        rcases this with rfl | rfl
        · exact ⟨3, rfl, by decide, by decide⟩
        · exact ⟨9, rfl, by decide, by decide⟩
      refine ⟨p, _, _, _, rfl, rfl, SqL.of hp7, em, t, m, rfl, s7, hm0, by omega, fun r8 H8 b8 s8 w0 w1 => ?_⟩
      refine ⟨_, _, rfl, rfl, ?_⟩
      have b68 := ((But.same (l := t) g7).trans b7).trans b8
      refine ⟨_, rfl, .inl ⟨rfl, _, SqL.of (b68 _ _ nlt hl6)⟩, _, rfl, _, rfl, _, rfl, _, rfl, t, 2 + r8, rfl, s8, by omega, by omega, fun r9 H9 b9 s9 z0 z1 => ⟨sml 3 (by decide), fun d hd => ?_⟩⟩
      have b69 := b68.trans b9
      have g10 := same_new hd (.tup [.str nmx, .int (2 + r8), .int r9])
      have hl9 := g10 _ _ (b69 _ _ nlt hl6)
      have lvs : vs.length ≤ 3 := by
        have e1 := pr6.length
        have e2 := congrArg List.length en
        rw [List.length_map, List.length_take, List.length_take, l3] at e2
        omega
      refine ⟨l, vs, _, rfl, rfl, hl9, len_less lvs (by decide), ?_⟩
      obtain ⟨x9, y9, e9⟩ := s9
      have tk : Tk H6 (upd (upd H9 d (.tup [.str nmx, .int (2 + r8), .int r9])) l (.lst (vs ++ [.ref d]))) := Tk.trans (b69.tk (fun xs h => by rw [e6] at h; cases h)) (Tk.trans (.same g10) (.lst hl9 _))
      have ndl : d ≠ l := (ne_of_none (b69 _ _ nlt hl6) hd).symm
      have sH9 : Same H H9 := b69.out s6 ht
      refine ⟨_, _, vs ++ [.ref d], bs ++ [(nmx, 2 + r8, r9)], rfl, ?_, ⟨x9, y9, by rw [upd_ne nlt.symm]; exact g10 _ _ e9⟩, by rw [upd_ne ncl]; exact g10 _ _ (b69 _ _ nct hc6), upd_same, ?_, ?_, ?_, ?_⟩
      · exact Same.mut (sH9.trans g10) (none_of (s2.trans (Same.refl _)) hl)
      · exact paired_app (Paired.mapP pr6 fun _ _ h => h.mono tk) (paired_one ⟨d, rfl, by rw [upd_ne ndl]; exact upd_same⟩)
      · show (bs ++ [(nmx, 2 + r8, r9)]).map (·.1) = _
        rw [List.map_append]
        show bnm bs ++ [nmx] = _
        rw [en, List.take_succ, ez]
        rfl
      · show Sz ((bs ++ [(nmx, 2 + r8, r9)]).map (·.2.1))
        rw [List.map_append]
        exact sz_snoc hsz (show 2 ≤ 2 + r8 by omega) (show 2 + r8 ≤ 10 by omega)
      · show Vok ((bs ++ [(nmx, 2 + r8, r9)]).map (·.2.1)) ((bs ++ [(nmx, 2 + r8, r9)]).map (·.2.2))
        rw [List.map_append, List.map_append]
        exact vok_snoc hok z0 z1
  · rintro σ' H6 ⟨o4, o5, vs, bs, rfl, s6, st6, hc6, hl6, pr6, en, hsz, hok⟩
    rw [lk] at en
    refine ⟨_, rfl, q _ _ s6 ⟨bs, ⟨l, vs, rfl, hl6, pr6⟩, ?_, hsz, hok, ?_⟩⟩
    · rw [en]
      exact ((ndn.sublist (List.take_sublist _ _)).sublist (List.take_sublist _ _))
    · have e2 := congrArg List.length en
      rw [List.length_map, List.length_take, List.length_take, l3] at e2
      omega
end
end Er

namespace Er
open PySem L2
/-! the law's body: a tree that is open at its end -/
def snocB : Bdy → Sm → Int → Bdy → Bdy → Bdy
  | .nil, s, r, b1, b2 => .cons s r b1 b2 .nil
  | .cons s' r' c1 c2 rest, s, r, b1, b2 => .cons s' r' c1 c2 (snocB rest s r b1 b2)
inductive Zp where
  | top
  | whl (up : Zp) (done : Bdy) (lt : Bool) (a b : Xp) (row : Int)
  | if1 (up : Zp) (done : Bdy) (lt : Bool) (a b : Xp) (row : Int)
  | if2 (up : Zp) (done : Bdy) (lt : Bool) (a b : Xp) (row : Int) (b1 : Bdy)
def plug : Zp → Bdy → Bdy
  | .top, X => X
  | .whl up done lt a b row, X => plug up (snocB done (.con .whl lt a b) row X .nil)
  | .if1 up done lt a b row, X => plug up (snocB done (.con .iff lt a b) row X .nil)
  | .if2 up done lt a b row b1, X => plug up (snocB done (.con .iff lt a b) row b1 X)
theorem snoc_count (x : Int) : ∀ (b : Bdy) (s : Sm) (r : Int) (b1 b2 : Bdy), (snocB b s r b1 b2).rows.count x = [r].count x + b1.rows.count x + b2.rows.count x + b.rows.count x
  | .nil, s, r, b1, b2 => by
    show (r :: (b1.rows ++ (b2.rows ++ []))).count x = _ + ([] : List Int).count x
    rw [List.count_cons, List.count_append, List.count_append, List.count_cons, List.count_nil]
    omega
  | .cons s' r' c1 c2 rest, s, r, b1, b2 => by
    have ih := snoc_count x rest s r b1 b2
    show (r' :: (c1.rows ++ (c2.rows ++ (snocB rest s r b1 b2).rows))).count x = _ + (r' :: (c1.rows ++ (c2.rows ++ rest.rows))).count x
    rw [List.count_cons, List.count_append, List.count_append, List.count_cons (b := r'), List.count_append, List.count_append, ih]
    omega
theorem plug_count {r x : Int} : ∀ {z : Zp} {X Y : Bdy}, X.rows.count x = [r].count x + Y.rows.count x → (plug z X).rows.count x = [r].count x + (plug z Y).rows.count x
  | .top, X, Y, h => h
  | .whl up done lt a b row, X, Y, h => plug_count (z := up) (by rw [snoc_count, snoc_count]; omega)
  | .if1 up done lt a b row, X, Y, h => plug_count (z := up) (by rw [snoc_count, snoc_count]; omega)
  | .if2 up done lt a b row b1, X, Y, h => plug_count (z := up) (by rw [snoc_count, snoc_count]; omega)
theorem snoc_size : ∀ (b : Bdy) (s : Sm) (r : Int) (b1 b2 : Bdy), (snocB b s r b1 b2).size = 1 + b1.size + b2.size + b.size
  | .nil, s, r, b1, b2 => by
    show 1 + (b1.size + (b2.size + 0)) = _ + 0
    omega
  | .cons s' r' c1 c2 rest, s, r, b1, b2 => by
    have ih := snoc_size rest s r b1 b2
    show 1 + (c1.size + (c2.size + (snocB rest s r b1 b2).size)) = _ + (1 + (c1.size + (c2.size + rest.size)))
    omega
theorem plug_size : ∀ {z : Zp} {X Y : Bdy}, X.size = Y.size + 1 → (plug z X).size = (plug z Y).size + 1
  | .top, X, Y, h => h
  | .whl up done lt a b row, X, Y, h => plug_size (z := up) (by rw [snoc_size, snoc_size]; omega)
  | .if1 up done lt a b row, X, Y, h => plug_size (z := up) (by rw [snoc_size, snoc_size]; omega)
  | .if2 up done lt a b row b1, X, Y, h => plug_size (z := up) (by rw [snoc_size, snoc_size]; omega)
theorem plug_le : ∀ (z : Zp) (X : Bdy), X.size ≤ (plug z X).size
  | .top, X => Nat.le_refl _
  | .whl up done lt a b row, X => by
    have := plug_le up (snocB done (.con .whl lt a b) row X .nil)
    rw [snoc_size] at this
    show _ ≤ (plug up _).size
    omega
  | .if1 up done lt a b row, X => by
    have := plug_le up (snocB done (.con .iff lt a b) row X .nil)
    rw [snoc_size] at this
    show _ ≤ (plug up _).size
    omega
  | .if2 up done lt a b row b1, X => by
    have := plug_le up (snocB done (.con .iff lt a b) row b1 X)
    rw [snoc_size] at this
    show _ ≤ (plug up _).size
    omega
theorem snoc_ok {n : Nat} {s : Sm} {r : Int} {b1 b2 : Bdy} : ∀ {b : Bdy}, (snocB b s r b1 b2).Ok n ↔ b.Ok n ∧ s.Ok n ∧ 0 < r ∧ b1.Ok n ∧ b2.Ok n
  | .nil => by
    show (s.Ok n ∧ 0 < r ∧ b1.Ok n ∧ b2.Ok n ∧ True) ↔ True ∧ _
    simp
  | .cons s' r' c1 c2 rest => by
    show (s'.Ok n ∧ 0 < r' ∧ c1.Ok n ∧ c2.Ok n ∧ (snocB rest s r b1 b2).Ok n) ↔ (s'.Ok n ∧ 0 < r' ∧ c1.Ok n ∧ c2.Ok n ∧ rest.Ok n) ∧ _
    rw [snoc_ok (b := rest)]
    simp only [and_assoc]
theorem plug_ok {n : Nat} : ∀ {z : Zp} {X Y : Bdy}, (plug z Y).Ok n → (Y.Ok n → X.Ok n) → (plug z X).Ok n
  | .top, X, Y, h, k => k h
  | .whl up done lt a b row, X, Y, h, k => plug_ok (z := up) h fun q => by
    rw [snoc_ok] at q ⊢
    exact ⟨q.1, q.2.1, q.2.2.1, k q.2.2.2.1, q.2.2.2.2⟩
  | .if1 up done lt a b row, X, Y, h, k => plug_ok (z := up) h fun q => by
    rw [snoc_ok] at q ⊢
    exact ⟨q.1, q.2.1, q.2.2.1, k q.2.2.2.1, q.2.2.2.2⟩
  | .if2 up done lt a b row b1, X, Y, h, k => plug_ok (z := up) h fun q => by
    rw [snoc_ok] at q ⊢
    exact ⟨q.1, q.2.1, q.2.2.1, q.2.2.2.1, k q.2.2.2.2⟩
structure WOk (n : Nat) (row : Int) (k : Nat) (W : Bdy) : Prop where
  ok : W.Ok n
  nd : W.rows.Nodup
  up : ∀ r ∈ W.rows, r ≤ row
  size : W.size ≤ k
theorem WOk.ins {n k : Nat} {row : Int} {z : Zp} {cur : Bdy} {s : Sm} (h : WOk n row k (plug z cur)) (hs : s.Ok n) (hr : 0 ≤ row) : WOk n (row + 1) (k + 1) (plug z (snocB cur s (row + 1) .nil .nil)) := by
  have hc : ∀ x, (plug z (snocB cur s (row + 1) .nil .nil)).rows.count x = [row + 1].count x + (plug z cur).rows.count x := fun x => plug_count (by
    rw [snoc_count]
    show _ + ([] : List Int).count x + ([] : List Int).count x + _ = _
    rw [List.count_nil]
    omega)
  have no : (plug z cur).rows.count (row + 1) = 0 := List.count_eq_zero.mpr fun m => by
    have := h.up _ m
    omega
  refine ⟨plug_ok h.ok fun q => snoc_ok.mpr ⟨q, hs, by omega, True.intro, True.intro⟩, ?_, fun r hr' => ?_, ?_⟩
  · rw [List.nodup_iff_count]
    intro x
    rw [hc x]
    have := List.nodup_iff_count.mp h.nd x
    by_cases e : x = row + 1
    · subst e
      rw [no, List.count_singleton_self]
      exact Nat.le_refl _
    · rw [List.count_eq_zero.mpr (fun m => e (List.mem_singleton.mp m))]
      omega
  · have p := List.count_pos_iff.mpr hr'
    rw [hc r] at p
    by_cases e : r = row + 1
    · omega
    · rw [List.count_eq_zero.mpr (fun m => e (List.mem_singleton.mp m)), Nat.zero_add] at p
      have := h.up r (List.count_pos_iff.mp p)
      omega
  · rw [plug_size (Y := cur) (by rw [snoc_size]; show 1 + 0 + 0 + _ = _; omega)]
    have := h.size
    omega
theorem bodyV_snoc {ns : List Str} {H : Hp} {s : Sm} {row : Int} {b1 b2 : Bdy} {v : V} {a1 a2 : Addr} (st : StAt ns H s row (([.ref a1, .ref a2] : List V).take s.kids) v) (h1 : if 0 < s.kids then ∃ zs, H a1 = some (.lst zs) ∧ BodyV ns H b1 zs else b1 = .nil)
    (h2 : if 1 < s.kids then ∃ zs, H a2 = some (.lst zs) ∧ BodyV ns H b2 zs else b2 = .nil) : ∀ {b : Bdy} {ys : List V}, BodyV ns H b ys → BodyV ns H (snocB b s row b1 b2) (ys ++ [v])
  | .nil, ys, h => by
    have h : ys = [] := h
    subst h
    exact ⟨v, [], a1, a2, rfl, st, rfl, h1, h2⟩
  | .cons s' r' c1 c2 rest, ys, h => by
    obtain ⟨u, zs, p1, p2, rfl, st', hr, g1, g2⟩ := h
    exact ⟨u, zs ++ [v], p1, p2, rfl, st', bodyV_snoc st h1 h2 hr, g1, g2⟩
/-! ### hidden places -/
def hide (H : Hp) (X : List Addr) : Hp := fun a => if a ∈ X then none else H a
theorem hide_in {H : Hp} {X : List Addr} {a : Addr} (h : a ∈ X) : hide H X a = none := if_pos h
theorem hide_out {H : Hp} {X : List Addr} {a : Addr} (h : ¬ a ∈ X) : hide H X a = H a := if_neg h
theorem hide_sub (H : Hp) (X : List Addr) : Same (hide H X) H := fun a o h => by
  by_cases c : a ∈ X
  · rw [hide_in c] at h; cases h
  · rw [hide_out c] at h; exact h
theorem same_hide {F H : Hp} {X : List Addr} (s : Same F H) (n : ∀ a ∈ X, F a = none) : Same F (hide H X) := fun a o h => by
  rw [hide_out (fun c => by rw [n a c] at h; cases h)]
  exact s a o h
theorem tk_hide {H : Hp} {X : List Addr} (l : ∀ a ∈ X, ∃ zs, H a = some (.lst zs)) : Tk H (hide H X) := fun a xs h => by
  rw [hide_out (fun c => by obtain ⟨zs, e⟩ := l a c; rw [e] at h; cases h)]
  exact h
/-! ### the open tree in the heap -/
def qs (xs : List V) : List Addr := xs.filterMap fun v => match v with | .ref q => some q | _ => none
def opn (pl sl : Addr) (ps : List Addr) (xs : List V) : List Addr := pl :: sl :: (ps ++ qs xs)
def ZpAt (ns : List Str) (rt : Addr) (F H : Hp) : Zp → List Addr → List V → Prop
  | .top, ps, xs => ps = [rt] ∧ xs = [.non]
  | .whl up done lt a b row, ps, xs => ∃ p p' ps' xs' ys v, ps = p :: p' :: ps' ∧ xs = .non :: xs' ∧ H p' = some (.lst (ys ++ [v])) ∧ BodyV ns F done ys ∧ StAt ns F (.con .whl lt a b) row [.ref p] v ∧ ZpAt ns rt F H up (p' :: ps') xs'
  | .if1 up done lt a b row, ps, xs => ∃ p p' ps' xs' ys v q, ps = p :: p' :: ps' ∧ xs = .ref q :: xs' ∧ H p' = some (.lst (ys ++ [v])) ∧ H q = some (.lst []) ∧ BodyV ns F done ys ∧ StAt ns F (.con .iff lt a b) row [.ref p, .ref q] v ∧ ZpAt ns rt F H up (p' :: ps') xs'
  | .if2 up done lt a b row b1, ps, xs => ∃ p p' ps' xs' ys v a1, ps = p :: p' :: ps' ∧ xs = .non :: xs' ∧ H p' = some (.lst (ys ++ [v])) ∧ BodyAt ns F b1 a1 ∧ BodyV ns F done ys ∧ StAt ns F (.con .iff lt a b) row [.ref a1, .ref p] v ∧ ZpAt ns rt F H up (p' :: ps') xs'
theorem ZpAt.mono {ns : List Str} {rt : Addr} {F F' H H' : Hp} (sF : Same F F') : ∀ {z : Zp} {ps : List Addr} {xs : List V}, (∀ a ∈ ps.tail ++ qs xs, ∀ zs, H a = some (.lst zs) → H' a = some (.lst zs)) → ZpAt ns rt F H z ps xs → ZpAt ns rt F' H' z ps xs
  | .top, ps, xs, _, h => h
  | .whl up done lt a b row, ps, xs, k, h => by
    obtain ⟨p, p', ps', xs', ys, v, rfl, rfl, h1, h2, h3, h4⟩ := h
    exact ⟨p, p', ps', xs', ys, v, rfl, rfl, k p' List.mem_cons_self _ h1, h2.mono sF, h3.mono (.same sF), ZpAt.mono sF (fun a ha => k a (List.mem_cons_of_mem _ ha)) h4⟩
  | .if1 up done lt a b row, ps, xs, k, h => by
    obtain ⟨p, p', ps', xs', ys, v, q, rfl, rfl, h1, h0, h2, h3, h4⟩ := h
    refine ⟨p, p', ps', xs', ys, v, q, rfl, rfl, k p' List.mem_cons_self _ h1, k q (List.mem_append_right _ List.mem_cons_self) _ h0, h2.mono sF, h3.mono (.same sF), ZpAt.mono sF (fun a ha => k a (List.mem_cons_of_mem _ ?_)) h4⟩
    rcases List.mem_append.mp ha with ha | ha
    · exact List.mem_append_left _ ha
    · exact List.mem_append_right _ (List.mem_cons_of_mem _ ha)
  | .if2 up done lt a b row b1, ps, xs, k, h => by
    obtain ⟨p, p', ps', xs', ys, v, a1, rfl, rfl, h1, h0, h2, h3, h4⟩ := h
    exact ⟨p, p', ps', xs', ys, v, a1, rfl, rfl, k p' List.mem_cons_self _ h1, h0.mono sF, h2.mono sF, h3.mono (.same sF), ZpAt.mono sF (fun a ha => k a (List.mem_cons_of_mem _ ha)) h4⟩
theorem ZpAt.lists {ns : List Str} {rt : Addr} {F H : Hp} : ∀ {z : Zp} {ps : List Addr} {xs : List V}, ZpAt ns rt F H z ps xs → ∀ a ∈ ps.tail ++ qs xs, ∃ zs, H a = some (.lst zs)
  | .top, ps, xs, h, a, ha => by
    obtain ⟨rfl, rfl⟩ := h
    cases ha
  | .whl up done lt _ b row, ps, xs, h, a, ha => by
    obtain ⟨p, p', ps', xs', ys, v, rfl, rfl, h1, h2, h3, h4⟩ := h
    rcases List.mem_cons.mp ha with rfl | ha
    · exact ⟨_, h1⟩
    · exact ZpAt.lists h4 a ha
  | .if1 up done lt _ b row, ps, xs, h, a, ha => by
    obtain ⟨p, p', ps', xs', ys, v, q, rfl, rfl, h1, h0, h2, h3, h4⟩ := h
    rcases List.mem_cons.mp ha with rfl | ha
    · exact ⟨_, h1⟩
    · rcases List.mem_append.mp ha with ha | ha
      · exact ZpAt.lists h4 a (List.mem_append_left _ ha)
      · rcases List.mem_cons.mp ha with rfl | ha
        · exact ⟨_, h0⟩
        · exact ZpAt.lists h4 a (List.mem_append_right _ ha)
  | .if2 up done lt _ b row b1, ps, xs, h, a, ha => by
    obtain ⟨p, p', ps', xs', ys, v, a1, rfl, rfl, h1, h0, h2, h3, h4⟩ := h
    rcases List.mem_cons.mp ha with rfl | ha
    · exact ⟨_, h1⟩
    · exact ZpAt.lists h4 a ha
/-- closed from the inside out: the whole body stands at the root -/
theorem ZpAt.close {ns : List Str} {rt : Addr} {F H : Hp} (sF : Same F H) : ∀ {z : Zp} {cur : Bdy} {p : Addr} {ps : List Addr} {xs : List V} {ys : List V}, ZpAt ns rt F H z (p :: ps) xs → H p = some (.lst ys) → BodyV ns H cur ys → BodyAt ns H (plug z cur) rt
  | .top, cur, p, ps, xs, ys, h, hp, hb => by
    obtain ⟨e, _⟩ := h
    cases e
    exact ⟨ys, hp, hb⟩
  | .whl up done lt a b row, cur, p, ps, xs, ys, h, hp, hb => by
    obtain ⟨_, p', ps', xs', zs, v, e, rfl, h1, h2, h3, h4⟩ := h
    cases e
    exact ZpAt.close sF (z := up) h4 h1 (bodyV_snoc (s := .con .whl lt a b) (a1 := p) (a2 := p) (h3.mono (.same sF)) ⟨ys, hp, hb⟩ rfl (h2.mono sF))
  | .if1 up done lt a b row, cur, p, ps, xs, ys, h, hp, hb => by
    obtain ⟨_, p', ps', xs', zs, v, q, e, rfl, h1, h0, h2, h3, h4⟩ := h
    cases e
    exact ZpAt.close sF (z := up) h4 h1 (bodyV_snoc (s := .con .iff lt a b) (b2 := .nil) (a1 := p) (a2 := q) (h3.mono (.same sF)) ⟨ys, hp, hb⟩ ⟨[], h0, rfl⟩ (h2.mono sF))
  | .if2 up done lt a b row b1, cur, p, ps, xs, ys, h, hp, hb => by
    obtain ⟨_, p', ps', xs', zs, v, a1, e, rfl, h1, h0, h2, h3, h4⟩ := h
    cases e
    exact ZpAt.close sF (z := up) h4 h1 (bodyV_snoc (s := .con .iff lt a b) (a1 := a1) (a2 := p) (h3.mono (.same sF)) (h0.mono sF) ⟨ys, hp, hb⟩ (h2.mono sF))
end Er

namespace Er
open PySem L2
/-! the open tree: what the law's loop does to it -/
structure BI (ns : List Str) (rt pl sl : Addr) (F H : Hp) (z : Zp) (cur : Bdy) (ps : List Addr) (xs : List V) : Prop where
  hpl : H pl = some (.lst (ps.reverse.map V.ref))
  hsl : H sl = some (.lst xs.reverse)
  here : ∃ p ps' ys, ps = p :: ps' ∧ H p = some (.lst ys) ∧ BodyV ns F cur ys
  zp : ZpAt ns rt F H z ps xs
  same : Same F H
  nd : (opn pl sl ps xs).Nodup
  out : ∀ a ∈ opn pl sl ps xs, F a = none
section
variable {ns : List Str} {rt pl sl : Addr} {F H H' : Hp} {z : Zp} {cur : Bdy} {ps : List Addr} {xs : List V}
theorem BI.mono (h : BI ns rt pl sl F H z cur ps xs) (s : Same H H') : BI ns rt pl sl F H' z cur ps xs := by
  obtain ⟨p, ps', ys, e, hp, hb⟩ := h.here
  exact ⟨s _ _ h.hpl, s _ _ h.hsl, ⟨p, ps', ys, e, s _ _ hp, hb⟩, h.zp.mono (Same.refl F) fun a _ zs e => s _ _ e, h.same.trans s, h.nd, h.out⟩
theorem BI.lists (h : BI ns rt pl sl F H z cur ps xs) : ∀ a ∈ opn pl sl ps xs, ∃ zs, H a = some (.lst zs) := by
  obtain ⟨p, ps', ys, rfl, hp, hb⟩ := h.here
  intro a ha
  rcases List.mem_cons.mp ha with rfl | ha
  · exact ⟨_, h.hpl⟩
  rcases List.mem_cons.mp ha with rfl | ha
  · exact ⟨_, h.hsl⟩
  rcases List.mem_cons.mp ha with rfl | ha
  · exact ⟨_, hp⟩
  · exact h.zp.lists a ha
theorem BI.done (h : BI ns rt pl sl F H z cur ps xs) : BodyAt ns H (plug z cur) rt := by
  obtain ⟨p, ps', ys, rfl, hp, hb⟩ := h.here
  exact h.zp.close h.same hp (hb.mono h.same)
/-- what must differ -/
theorem opn_ne {p : Addr} (nd : (opn pl sl (p :: ps) xs).Nodup) : pl ≠ sl ∧ pl ≠ p ∧ sl ≠ p ∧ ∀ a ∈ ps ++ qs xs, a ≠ pl ∧ a ≠ sl ∧ a ≠ p := by
  obtain ⟨n1, nd⟩ := List.nodup_cons.mp nd
  obtain ⟨n2, nd⟩ := List.nodup_cons.mp nd
  obtain ⟨n3, nd⟩ := List.nodup_cons.mp nd
  refine ⟨fun e => n1 (by rw [e]; exact List.mem_cons_self), fun e => n1 (by rw [e]; exact List.mem_cons_of_mem _ List.mem_cons_self), fun e => n2 (by rw [e]; exact List.mem_cons_self), fun a ha => ⟨fun e => n1 ?_, fun e => n2 ?_, fun e => n3 ?_⟩⟩
  · rw [← e]; exact List.mem_cons_of_mem _ (List.mem_cons_of_mem _ ha)
  · rw [← e]; exact List.mem_cons_of_mem _ ha
  · rw [← e]; exact ha
/-- a statement that holds no bodies is put at the end -/
theorem BI.plain {p : Addr} {ys : List V} {s : Sm} {row : Int} {v : V} (h : BI ns rt pl sl F H z cur (p :: ps) xs) (hp : H p = some (.lst ys)) (hs : StAt ns H s row [] v) (hk : s.kids = 0) :
    ∃ F', Same F F' ∧ BI ns rt pl sl F' (upd H p (.lst (ys ++ [v]))) z (snocB cur s row .nil .nil) (p :: ps) xs := by
  obtain ⟨e1, e2, e3, e4⟩ := opn_ne h.nd
  obtain ⟨_, _, ys', e, hp', hb⟩ := h.here
  cases e
  rw [hp] at hp'
  cases hp'
  have np : F p = none := h.out p (List.mem_cons_of_mem _ (List.mem_cons_of_mem _ List.mem_cons_self))
  have s1 : Same F (upd H p (.lst (ys ++ [v]))) := Same.mut h.same np
  have s2 := same_hide (X := opn pl sl (p :: ps) xs) s1 h.out
  have ls : ∀ a ∈ opn pl sl (p :: ps) xs, ∃ zs, (upd H p (.lst (ys ++ [v]))) a = some (.lst zs) := fun a ha => by
    by_cases c : a = p
    · subst c
      exact ⟨_, upd_same⟩
    · obtain ⟨zs, e⟩ := h.lists a ha
      exact ⟨zs, by rw [upd_ne c]; exact e⟩
  have st : StAt ns (hide (upd H p (.lst (ys ++ [v]))) (opn pl sl (p :: ps) xs)) s row [] v := (hs.mono (.lst hp _)).mono (tk_hide ls)
  refine ⟨_, s2, ?_, ?_, ⟨p, ps, _, rfl, upd_same, ?_⟩, ?_, hide_sub _ _, h.nd, fun a ha => hide_in ha⟩
  · rw [upd_ne e2]; exact h.hpl
  · rw [upd_ne e3]; exact h.hsl
  · have k1 : ¬ 0 < s.kids := by omega
    have k2 : ¬ 1 < s.kids := by omega
    exact bodyV_snoc (a1 := p) (a2 := p) (by rw [hk]; exact st) (by rw [if_neg k1]) (by rw [if_neg k2]) (hb.mono s2)
  · exact h.zp.mono s2 fun a ha zs e => by rw [upd_ne (e4 a ha).2.2]; exact e
theorem qs_non : qs (.non :: xs) = qs xs := rfl
theorem qs_ref (q : Addr) : qs (.ref q :: xs) = q :: qs xs := rfl
/-- the three lists after a statement with bodies is begun -/
def begun (H : Hp) (pl sl p e : Addr) (ps : List Addr) (xs ys : List V) (v x : V) : Hp := upd (upd (upd H p (.lst (ys ++ [v]))) pl (.lst ((p :: ps).reverse.map V.ref ++ [.ref e]))) sl (.lst (xs.reverse ++ [x]))
theorem BI.openW {p e : Addr} {ys : List V} {lt : Bool} {a b : Xp} {row : Int} {v : V} (h : BI ns rt pl sl F H z cur (p :: ps) xs) (hp : H p = some (.lst ys)) (hs : StAt ns H (.con .whl lt a b) row [.ref e] v) (he : H e = some (.lst [])) (eo : ¬ e ∈ opn pl sl (p :: ps) xs) (ef : F e = none) :
    ∃ F', Same F F' ∧ BI ns rt pl sl F' (begun H pl sl p e ps xs ys v .non) (.whl z cur lt a b row) .nil (e :: p :: ps) (.non :: xs) := by
  obtain ⟨e1, e2, e3, e4⟩ := opn_ne h.nd
  obtain ⟨_, _, ys', ee, hp', hb⟩ := h.here
  cases ee
  rw [hp] at hp'
  cases hp'
  have mp : p ∈ opn pl sl (p :: ps) xs := List.mem_cons_of_mem _ (List.mem_cons_of_mem _ List.mem_cons_self)
  have mpl : pl ∈ opn pl sl (p :: ps) xs := List.mem_cons_self
  have msl : sl ∈ opn pl sl (p :: ps) xs := List.mem_cons_of_mem _ List.mem_cons_self
  have ne1 : e ≠ p := fun c => eo (c ▸ mp)
  have ne2 : e ≠ pl := fun c => eo (c ▸ mpl)
  have ne3 : e ≠ sl := fun c => eo (c ▸ msl)
  unfold begun
  have s1 : Same F (upd (upd (upd H p (.lst (ys ++ [v]))) pl (.lst ((p :: ps).reverse.map V.ref ++ [.ref e]))) sl (.lst (xs.reverse ++ [.non]))) := Same.mut (Same.mut (Same.mut h.same (h.out p mp)) (h.out pl mpl)) (h.out sl msl)
  have perm : (opn pl sl (e :: p :: ps) (.non :: xs)).Perm (e :: opn pl sl (p :: ps) xs) := (List.Perm.cons pl (List.Perm.swap e sl _)).trans (List.Perm.swap e pl _)
  have fo : ∀ c ∈ opn pl sl (e :: p :: ps) (.non :: xs), F c = none := fun c hc => by
    rcases List.mem_cons.mp (perm.mem_iff.mp hc) with rfl | hc
    · exact ef
    · exact h.out c hc
  have s2 := same_hide (X := opn pl sl (e :: p :: ps) (.non :: xs)) s1 fo
  have at3 : ∀ c, c ≠ p → c ≠ pl → c ≠ sl → (upd (upd (upd H p (.lst (ys ++ [v]))) pl (.lst ((p :: ps).reverse.map V.ref ++ [.ref e]))) sl (.lst (xs.reverse ++ [.non]))) c = H c := fun c n1 n2 n3 => by rw [upd_ne n3, upd_ne n2, upd_ne n1]
  have hp3 : (upd (upd (upd H p (.lst (ys ++ [v]))) pl (.lst ((p :: ps).reverse.map V.ref ++ [.ref e]))) sl (.lst (xs.reverse ++ [.non]))) p = some (.lst (ys ++ [v])) := by rw [upd_ne e3.symm, upd_ne e2.symm]; exact upd_same
  have hpl3 : (upd (upd (upd H p (.lst (ys ++ [v]))) pl (.lst ((p :: ps).reverse.map V.ref ++ [.ref e]))) sl (.lst (xs.reverse ++ [.non]))) pl = some (.lst ((p :: ps).reverse.map V.ref ++ [.ref e])) := by rw [upd_ne e1]; exact upd_same
  have tk3 : Tk H (upd (upd (upd H p (.lst (ys ++ [v]))) pl (.lst ((p :: ps).reverse.map V.ref ++ [.ref e]))) sl (.lst (xs.reverse ++ [.non]))) := fun c zs hc => by
    rw [at3 c (ne_of hc hp (by intro q; cases q)) (ne_of hc h.hpl (by intro q; cases q)) (ne_of hc h.hsl (by intro q; cases q))]
    exact hc
  have he3 : (upd (upd (upd H p (.lst (ys ++ [v]))) pl (.lst ((p :: ps).reverse.map V.ref ++ [.ref e]))) sl (.lst (xs.reverse ++ [.non]))) e = some (.lst []) := by rw [at3 e ne1 ne2 ne3]; exact he
  have hz3 : ∀ c ∈ ps ++ qs xs, ∀ zs, H c = some (.lst zs) → (upd (upd (upd H p (.lst (ys ++ [v]))) pl (.lst ((p :: ps).reverse.map V.ref ++ [.ref e]))) sl (.lst (xs.reverse ++ [.non]))) c = some (.lst zs) := fun c hc zs e => by
    obtain ⟨n1, n2, n3⟩ := e4 c hc
    rw [at3 c n3 n1 n2]
    exact e
  have hsl3 : (upd (upd (upd H p (.lst (ys ++ [v]))) pl (.lst ((p :: ps).reverse.map V.ref ++ [.ref e]))) sl (.lst (xs.reverse ++ [.non]))) sl = some (.lst (xs.reverse ++ [.non])) := upd_same
  generalize upd (upd (upd H p (.lst (ys ++ [v]))) pl (.lst ((p :: ps).reverse.map V.ref ++ [.ref e]))) sl (.lst (xs.reverse ++ [.non])) = H3 at s1 s2 hp3 hpl3 hsl3 tk3 he3 hz3
  have ls : ∀ c ∈ opn pl sl (e :: p :: ps) (.non :: xs), ∃ zs, H3 c = some (.lst zs) := fun c hc => by
    rcases List.mem_cons.mp (perm.mem_iff.mp hc) with rfl | hc
    · exact ⟨_, he3⟩
    rcases List.mem_cons.mp hc with rfl | hc
    · exact ⟨_, hpl3⟩
    rcases List.mem_cons.mp hc with rfl | hc
    · exact ⟨_, hsl3⟩
    rcases List.mem_cons.mp hc with rfl | hc
    · exact ⟨_, hp3⟩
    · obtain ⟨zs, q⟩ := h.zp.lists c hc
      exact ⟨zs, hz3 c hc zs q⟩
  refine ⟨_, s2, ?_, ?_, ⟨e, _, _, rfl, he3, rfl⟩, ⟨e, p, ps, xs, ys, v, rfl, rfl, hp3, hb.mono s2, (hs.mono tk3).mono (tk_hide ls), h.zp.mono s2 hz3⟩, hide_sub _ _, perm.nodup_iff.mpr (List.nodup_cons.mpr ⟨eo, h.nd⟩), fun a ha => hide_in ha⟩
  · rw [List.reverse_cons, List.map_append]; exact hpl3
  · rw [List.reverse_cons]; exact hsl3
theorem BI.openI {p e e2 : Addr} {ys : List V} {lt : Bool} {a b : Xp} {row : Int} {v : V} (h : BI ns rt pl sl F H z cur (p :: ps) xs) (hp : H p = some (.lst ys)) (hs : StAt ns H (.con .iff lt a b) row [.ref e, .ref e2] v) (he : H e = some (.lst [])) (he2 : H e2 = some (.lst []))
    (eo : ¬ e ∈ opn pl sl (p :: ps) xs) (ef : F e = none) (eo2 : ¬ e2 ∈ opn pl sl (p :: ps) xs) (ef2 : F e2 = none) (nee : e ≠ e2) :
    ∃ F', Same F F' ∧ BI ns rt pl sl F' (begun H pl sl p e ps xs ys v (.ref e2)) (.if1 z cur lt a b row) .nil (e :: p :: ps) (.ref e2 :: xs) := by
  obtain ⟨e1, e22, e3, e4⟩ := opn_ne h.nd
  obtain ⟨_, _, ys', ee, hp', hb⟩ := h.here
  cases ee
  rw [hp] at hp'
  cases hp'
  have mp : p ∈ opn pl sl (p :: ps) xs := List.mem_cons_of_mem _ (List.mem_cons_of_mem _ List.mem_cons_self)
  have mpl : pl ∈ opn pl sl (p :: ps) xs := List.mem_cons_self
  have msl : sl ∈ opn pl sl (p :: ps) xs := List.mem_cons_of_mem _ List.mem_cons_self
  have s1 : Same F (begun H pl sl p e ps xs ys v (.ref e2)) := Same.mut (Same.mut (Same.mut h.same (h.out p mp)) (h.out pl mpl)) (h.out sl msl)
  have perm : (opn pl sl (e :: p :: ps) (.ref e2 :: xs)).Perm (e :: e2 :: opn pl sl (p :: ps) xs) := by
    rw [List.perm_iff_count]
    intro c
    show (pl :: sl :: (e :: p :: ps ++ e2 :: qs xs)).count c = (e :: e2 :: pl :: sl :: (p :: ps ++ qs xs)).count c
    simp only [List.count_cons, List.count_append]
    omega
  have fo : ∀ c ∈ opn pl sl (e :: p :: ps) (.ref e2 :: xs), F c = none := fun c hc => by
    rcases List.mem_cons.mp (perm.mem_iff.mp hc) with rfl | hc
    · exact ef
    rcases List.mem_cons.mp hc with rfl | hc
    · exact ef2
    · exact h.out c hc
  have s2 := same_hide (X := opn pl sl (e :: p :: ps) (.ref e2 :: xs)) s1 fo
  have at3 : ∀ c, c ≠ p → c ≠ pl → c ≠ sl → (begun H pl sl p e ps xs ys v (.ref e2)) c = H c := fun c n1 n2 n3 => by
    unfold begun
    rw [upd_ne n3, upd_ne n2, upd_ne n1]
  have hp3 : (begun H pl sl p e ps xs ys v (.ref e2)) p = some (.lst (ys ++ [v])) := by
    unfold begun
    rw [upd_ne e3.symm, upd_ne e22.symm]; exact upd_same
  have hpl3 : (begun H pl sl p e ps xs ys v (.ref e2)) pl = some (.lst ((p :: ps).reverse.map V.ref ++ [.ref e])) := by
    unfold begun
    rw [upd_ne e1]; exact upd_same
  have tk3 : Tk H (begun H pl sl p e ps xs ys v (.ref e2)) := fun c zs hc => by
    rw [at3 c (ne_of hc hp (by intro q; cases q)) (ne_of hc h.hpl (by intro q; cases q)) (ne_of hc h.hsl (by intro q; cases q))]
    exact hc
  have he3 : (begun H pl sl p e ps xs ys v (.ref e2)) e = some (.lst []) := by rw [at3 e (fun c => eo (c ▸ mp)) (fun c => eo (c ▸ mpl)) (fun c => eo (c ▸ msl))]; exact he
  have he23 : (begun H pl sl p e ps xs ys v (.ref e2)) e2 = some (.lst []) := by rw [at3 e2 (fun c => eo2 (c ▸ mp)) (fun c => eo2 (c ▸ mpl)) (fun c => eo2 (c ▸ msl))]; exact he2
  have hz3 : ∀ c ∈ ps ++ qs xs, ∀ zs, H c = some (.lst zs) → (begun H pl sl p e ps xs ys v (.ref e2)) c = some (.lst zs) := fun c hc zs e => by
    obtain ⟨n1, n2, n3⟩ := e4 c hc
    rw [at3 c n3 n1 n2]
    exact e
  have hsl3 : (begun H pl sl p e ps xs ys v (.ref e2)) sl = some (.lst (xs.reverse ++ [.ref e2])) := upd_same
  generalize begun H pl sl p e ps xs ys v (.ref e2) = H3 at s1 s2 hp3 hpl3 hsl3 tk3 he3 he23 hz3
  have ls : ∀ c ∈ opn pl sl (e :: p :: ps) (.ref e2 :: xs), ∃ zs, H3 c = some (.lst zs) := fun c hc => by
    rcases List.mem_cons.mp (perm.mem_iff.mp hc) with rfl | hc
    · exact ⟨_, he3⟩
    rcases List.mem_cons.mp hc with rfl | hc
    · exact ⟨_, he23⟩
    rcases List.mem_cons.mp hc with rfl | hc
    · exact ⟨_, hpl3⟩
    rcases List.mem_cons.mp hc with rfl | hc
    · exact ⟨_, hsl3⟩
    rcases List.mem_cons.mp hc with rfl | hc
    · exact ⟨_, hp3⟩
    · obtain ⟨zs, q⟩ := h.zp.lists c hc
      exact ⟨zs, hz3 c hc zs q⟩
  refine ⟨_, s2, ?_, ?_, ⟨e, _, _, rfl, he3, rfl⟩, ⟨e, p, ps, xs, ys, v, e2, rfl, rfl, hp3, he23, hb.mono s2, (hs.mono tk3).mono (tk_hide ls), h.zp.mono s2 hz3⟩, hide_sub _ _, perm.nodup_iff.mpr (List.nodup_cons.mpr ⟨?_, List.nodup_cons.mpr ⟨eo2, h.nd⟩⟩), fun a ha => hide_in ha⟩
  · rw [List.reverse_cons, List.map_append]; exact hpl3
  · rw [List.reverse_cons]; exact hsl3
  · intro c
    rcases List.mem_cons.mp c with c | c
    · exact nee c
    · exact eo c
end
end Er

namespace Er
open PySem L2
/-! the open tree: the second body is begun; a body is closed -/
section
variable {ns : List Str} {rt pl sl : Addr} {F H H' : Hp} {z : Zp} {cur : Bdy} {ps : List Addr} {xs : List V}
/-- pile and seconds anew -/
def turned (H : Hp) (pl sl : Addr) (ps : List Addr) (xs : List V) : Hp := upd (upd H pl (.lst (ps.reverse.map V.ref))) sl (.lst xs.reverse)
theorem turned_at {c : Addr} (h1 : c ≠ pl) (h2 : c ≠ sl) : (turned H pl sl ps xs) c = H c := by
  unfold turned
  rw [upd_ne h2, upd_ne h1]
theorem BI.second {up : Zp} {done : Bdy} {lt : Bool} {a b : Xp} {row : Int} {p q : Addr} (h : BI ns rt pl sl F H (.if1 up done lt a b row) cur (p :: ps) (.ref q :: xs)) :
    ∃ F', Same F F' ∧ BI ns rt pl sl F' (turned H pl sl (q :: ps) (.non :: xs)) (.if2 up done lt a b row cur) .nil (q :: ps) (.non :: xs) := by
  obtain ⟨e1, e2, e3, e4⟩ := opn_ne h.nd
  obtain ⟨_, _, ys, ee, hp, hb⟩ := h.here
  cases ee
  obtain ⟨_, p', ps', xs', zs, v, q', ee, ex, h1, h0, h2, h3, h4⟩ := h.zp
  cases ee
  cases ex
  have mpl : pl ∈ opn pl sl (p :: p' :: ps') (.ref q :: xs) := List.mem_cons_self
  have msl : sl ∈ opn pl sl (p :: p' :: ps') (.ref q :: xs) := List.mem_cons_of_mem _ List.mem_cons_self
  have s1 : Same F (turned H pl sl (q :: p' :: ps') (.non :: xs)) := Same.mut (Same.mut h.same (h.out pl mpl)) (h.out sl msl)
  have perm : (p :: opn pl sl (q :: p' :: ps') (.non :: xs)).Perm (opn pl sl (p :: p' :: ps') (.ref q :: xs)) := by
    rw [List.perm_iff_count]
    intro c
    show (p :: pl :: sl :: (q :: p' :: ps' ++ qs xs)).count c = (pl :: sl :: (p :: p' :: ps' ++ q :: qs xs)).count c
    simp only [List.count_cons, List.count_append]
    omega
  obtain ⟨np, nd'⟩ := List.nodup_cons.mp (perm.nodup_iff.mpr h.nd)
  have fo : ∀ c ∈ opn pl sl (q :: p' :: ps') (.non :: xs), F c = none := fun c hc => h.out c (perm.mem_iff.mp (List.mem_cons_of_mem _ hc))
  have s2 := same_hide s1 fo
  have hpl3 : (turned H pl sl (q :: p' :: ps') (.non :: xs)) pl = some (.lst ((q :: p' :: ps').reverse.map V.ref)) := by
    unfold turned
    rw [upd_ne e1]; exact upd_same
  have hsl3 : (turned H pl sl (q :: p' :: ps') (.non :: xs)) sl = some (.lst (V.non :: xs).reverse) := upd_same
  have hz3 : ∀ c ∈ p' :: ps' ++ qs (.ref q :: xs), ∀ zs, H c = some (.lst zs) → (turned H pl sl (q :: p' :: ps') (.non :: xs)) c = some (.lst zs) := fun c hc zs e => by
    obtain ⟨n1, n2, n3⟩ := e4 c hc
    rw [turned_at n1 n2]
    exact e
  have hp3 : (turned H pl sl (q :: p' :: ps') (.non :: xs)) p = some (.lst ys) := by rw [turned_at e2.symm e3.symm]; exact hp
  have hq3 := hz3 q (List.mem_append_right _ List.mem_cons_self) _ h0
  have tk3 : Tk H (turned H pl sl (q :: p' :: ps') (.non :: xs)) := fun c zs hc => by
    rw [turned_at (ne_of hc h.hpl (by intro q; cases q)) (ne_of hc h.hsl (by intro q; cases q))]
    exact hc
  generalize turned H pl sl (q :: p' :: ps') (.non :: xs) = H3 at s1 s2 hp3 hpl3 hsl3 tk3 hq3 hz3
  refine ⟨_, s2, ⟨hpl3, hsl3, ⟨q, _, _, rfl, hq3, rfl⟩, ⟨q, p', ps', xs, zs, v, p, rfl, rfl, hz3 p' List.mem_cons_self _ h1, ⟨ys, by rw [hide_out np]; exact hp3, hb.mono s2⟩, h2.mono s2, h3.mono (.same s2), h4.mono s2 fun c hc => hz3 c ?_⟩, hide_sub _ _, nd', fun a ha => hide_in ha⟩⟩
  rcases List.mem_append.mp hc with hc | hc
  · exact List.mem_append_left _ (List.mem_cons_of_mem _ hc)
  · exact List.mem_append_right _ (List.mem_cons_of_mem _ hc)
theorem BI.pop {p p' : Addr} {x : V} (h : BI ns rt pl sl F H z cur (p :: p' :: ps) (x :: xs)) : ∃ F' z' cur', Same F F' ∧ BI ns rt pl sl F' (turned H pl sl (p' :: ps) xs) z' cur' (p' :: ps) xs ∧ plug z' cur' = plug z cur := by
  obtain ⟨e1, e2, e3, e4⟩ := opn_ne h.nd
  obtain ⟨_, _, ys, ee, hp, hb⟩ := h.here
  cases ee
  have mpl : pl ∈ opn pl sl (p :: p' :: ps) (x :: xs) := List.mem_cons_self
  have msl : sl ∈ opn pl sl (p :: p' :: ps) (x :: xs) := List.mem_cons_of_mem _ List.mem_cons_self
  have s1 : Same F (turned H pl sl (p' :: ps) xs) := Same.mut (Same.mut h.same (h.out pl mpl)) (h.out sl msl)
  have sub : ∃ Y : List Addr, (Y ++ p :: opn pl sl (p' :: ps) xs).Perm (opn pl sl (p :: p' :: ps) (x :: xs)) := by
    refine ⟨qs [x], ?_⟩
    rw [List.perm_iff_count]
    intro c
    have e : qs (x :: xs) = qs [x] ++ qs xs := by
      show qs ([x] ++ xs) = _
      unfold qs
      rw [List.filterMap_append]
    show (qs [x] ++ p :: pl :: sl :: (p' :: ps ++ qs xs)).count c = (pl :: sl :: (p :: p' :: ps ++ qs (x :: xs))).count c
    rw [e]
    simp only [List.count_cons, List.count_append]
    omega
  obtain ⟨Y, perm⟩ := sub
  have ndY := perm.nodup_iff.mpr h.nd
  obtain ⟨np, nd'⟩ := List.nodup_cons.mp (List.nodup_append.mp ndY).2.1
  have fo : ∀ c ∈ opn pl sl (p' :: ps) xs, F c = none := fun c hc => h.out c (perm.mem_iff.mp (List.mem_append_right _ (List.mem_cons_of_mem _ hc)))
  have s2 := same_hide s1 fo
  have hpl3 : (turned H pl sl (p' :: ps) xs) pl = some (.lst ((p' :: ps).reverse.map V.ref)) := by
    unfold turned
    rw [upd_ne e1]; exact upd_same
  have hsl3 : (turned H pl sl (p' :: ps) xs) sl = some (.lst xs.reverse) := upd_same
  have hz3 : ∀ c ∈ p' :: ps ++ qs (x :: xs), ∀ zs, H c = some (.lst zs) → (turned H pl sl (p' :: ps) xs) c = some (.lst zs) := fun c hc zs e => by
    obtain ⟨n1, n2, n3⟩ := e4 c hc
    rw [turned_at n1 n2]
    exact e
  have hp3 : (turned H pl sl (p' :: ps) xs) p = some (.lst ys) := by rw [turned_at e2.symm e3.symm]; exact hp
  have np' : (hide (turned H pl sl (p' :: ps) xs) (opn pl sl (p' :: ps) xs)) p = some (.lst ys) := by rw [hide_out np]; exact hp3
  cases z with
  | top =>
    obtain ⟨c, _⟩ := h.zp
    cases c
  | whl up done lt a b row =>
    obtain ⟨_, _, _, xs', zs, v, ee, ex, h1, h2, h3, h4⟩ := h.zp
    cases ee
    cases ex
    generalize turned H pl sl (p' :: ps) xs = H3 at s1 s2 hp3 hpl3 hsl3 hz3 np'
    refine ⟨_, up, snocB done (.con .whl lt a b) row cur .nil, s2, ⟨hpl3, hsl3, ⟨p', ps, _, rfl, hz3 p' List.mem_cons_self _ h1, bodyV_snoc (s := .con .whl lt a b) (a1 := p) (a2 := p) (h3.mono (.same s2)) ⟨ys, np', hb.mono s2⟩ rfl (h2.mono s2)⟩, h4.mono s2 fun c hc => hz3 c (List.mem_cons_of_mem _ hc), hide_sub _ _, nd', fun a ha => hide_in ha⟩, rfl⟩
  | if1 up done lt a b row =>
    obtain ⟨_, _, _, xs', zs, v, q, ee, ex, h1, h0, h2, h3, h4⟩ := h.zp
    cases ee
    cases ex
    have hq3 := hz3 q (List.mem_append_right _ List.mem_cons_self) _ h0
    have nq : ¬ q ∈ opn pl sl (p' :: ps) xs := fun m => by
      have pm : (q :: p :: opn pl sl (p' :: ps) xs).Perm (opn pl sl (p :: p' :: ps) (.ref q :: xs)) := by
        rw [List.perm_iff_count]
        intro c
        show (q :: p :: pl :: sl :: (p' :: ps ++ qs xs)).count c = (pl :: sl :: (p :: p' :: ps ++ q :: qs xs)).count c
        simp only [List.count_cons, List.count_append]
        omega
      exact (List.nodup_cons.mp (pm.nodup_iff.mpr h.nd)).1 (List.mem_cons_of_mem _ m)
    have nq' : (hide (turned H pl sl (p' :: ps) xs) (opn pl sl (p' :: ps) xs)) q = some (.lst []) := by rw [hide_out nq]; exact hq3
    generalize turned H pl sl (p' :: ps) xs = H3 at s1 s2 hp3 hpl3 hsl3 hz3 np' nq'
    refine ⟨_, up, snocB done (.con .iff lt a b) row cur .nil, s2, ⟨hpl3, hsl3, ⟨p', ps, _, rfl, hz3 p' List.mem_cons_self _ h1, bodyV_snoc (s := .con .iff lt a b) (b2 := .nil) (a1 := p) (a2 := q) (h3.mono (.same s2)) ⟨ys, np', hb.mono s2⟩ ⟨[], nq', rfl⟩ (h2.mono s2)⟩, h4.mono s2 fun c hc => hz3 c (List.mem_cons_of_mem _ ?_), hide_sub _ _, nd', fun a ha => hide_in ha⟩, rfl⟩
    rcases List.mem_append.mp hc with hc | hc
    · exact List.mem_append_left _ hc
    · exact List.mem_append_right _ (List.mem_cons_of_mem _ hc)
  | if2 up done lt a b row b1 =>
    obtain ⟨_, _, _, xs', zs, v, a1, ee, ex, h1, h0, h2, h3, h4⟩ := h.zp
    cases ee
    cases ex
    generalize turned H pl sl (p' :: ps) xs = H3 at s1 s2 hp3 hpl3 hsl3 hz3 np'
    refine ⟨_, up, snocB done (.con .iff lt a b) row b1 cur, s2, ⟨hpl3, hsl3, ⟨p', ps, _, rfl, hz3 p' List.mem_cons_self _ h1, bodyV_snoc (s := .con .iff lt a b) (a1 := a1) (a2 := p) (h3.mono (.same s2)) (h0.mono s2) ⟨ys, np', hb.mono s2⟩ (h2.mono s2)⟩, h4.mono s2 fun c hc => hz3 c (List.mem_cons_of_mem _ hc), hide_sub _ _, nd', fun a ha => hide_in ha⟩, rfl⟩
/-- the piles are alike in length, and a second body waits only where an if is in its first -/
theorem ZpAt.len {ns : List Str} {rt : Addr} {F H : Hp} : ∀ {z : Zp} {ps : List Addr} {xs : List V}, ZpAt ns rt F H z ps xs → xs.length = ps.length
  | .top, ps, xs, h => by
    obtain ⟨rfl, rfl⟩ := h
    rfl
  | .whl up done lt _ b row, ps, xs, h => by
    obtain ⟨p, p', ps', xs', ys, v, rfl, rfl, h1, h2, h3, h4⟩ := h
    rw [List.length_cons, List.length_cons, h4.len]
  | .if1 up done lt _ b row, ps, xs, h => by
    obtain ⟨p, p', ps', xs', ys, v, q, rfl, rfl, h1, h0, h2, h3, h4⟩ := h
    rw [List.length_cons, List.length_cons, h4.len]
  | .if2 up done lt _ b row b1, ps, xs, h => by
    obtain ⟨p, p', ps', xs', ys, v, a1, rfl, rfl, h1, h0, h2, h3, h4⟩ := h
    rw [List.length_cons, List.length_cons, h4.len]
/-- the last of seconds: nothing, or the second body that waits -/
theorem ZpAt.sec {ns : List Str} {rt : Addr} {F H : Hp} {z : Zp} {ps : List Addr} {xs : List V} (h : ZpAt ns rt F H z ps xs) : ∃ x xs', xs = x :: xs' ∧ (x = .non ∨ ∃ q up done lt a b row, x = .ref q ∧ z = .if1 up done lt a b row) := by
  cases z with
  | top =>
    obtain ⟨rfl, rfl⟩ := h
    exact ⟨_, _, rfl, .inl rfl⟩
  | whl up done lt a b row =>
    obtain ⟨p, p', ps', xs', ys, v, rfl, rfl, _⟩ := h
    exact ⟨_, _, rfl, .inl rfl⟩
  | if1 up done lt a b row =>
    obtain ⟨p, p', ps', xs', ys, v, q, rfl, rfl, _⟩ := h
    exact ⟨_, _, rfl, .inr ⟨q, up, done, lt, a, b, row, rfl, rfl⟩⟩
  | if2 up done lt a b row b1 =>
    obtain ⟨p, p', ps', xs', ys, v, a1, rfl, rfl, _⟩ := h
    exact ⟨_, _, rfl, .inl rfl⟩
end
end Er

namespace Er
open PySem L2
/-! the law's body walked -/
section
variable {P : Program} {w : World} {K : PySem.W.Frag} {mg : Str → Option Value} {base : Heap} {f : Addr} {fd : FuncData} {CW CL : Addr}
theorem and_if {c1 c2 : Bool} {S X Y : Prop} (hS : (if c2 = true then X else Y) → S) (hX : c1 = true → c2 = true → X) (hY : ¬ (c1 = true ∧ c2 = true) → Y) : if c1 = true then S else (if false = true then X else Y) := by
  cases c1 with
  | false => exact iteF (iteF (hY fun z => nomatch z.1))
  | true =>
    refine iteT (hS ?_)
    cases c2 with
    | false => exact iteF (hY fun z => nomatch z.2)
    | true => exact iteT (hX rfl rfl)
theorem none_of' {t b l : Addr} {bs : Bxs} {G H : Hp} (h : Dw t b bs G H) (n : H l = none) : G l = none := by
  cases e : G l with
  | none => rfl
  | some o =>
    have nl : l ≠ t := fun c => by
      subst c
      obtain ⟨x, y, e2⟩ := h.lw.st
      rw [n] at e2
      cases e2
    rw [h.but _ _ nl e] at n
    cases n
theorem Lw.dwOf {t b : Addr} {bs : Bxs} {G H : Hp} (h : Lw t b bs G) (bu : But t G H) (s : StA H t) : Dw t b bs G H := ⟨bu, h.next bu s, h.st⟩
theorem Dw.mut {t b l : Addr} {bs : Bxs} {G H : Hp} {o : HO} (h : Dw t b bs G H) (h0 : Lw t b bs G) (n : G l = none) : Dw t b bs G (upd H l o) := by
  have nl : t ≠ l := by
    obtain ⟨x, y, e⟩ := h0.st
    exact ne_of_none e n
  refine h0.dwOf (fun c u hc e => ?_) ?_
  · rw [upd_ne (ne_of_none e n)]
    exact h.but c u hc e
  · obtain ⟨x, y, e⟩ := h.lw.st
    exact ⟨x, y, by rw [upd_ne nl]; exact e⟩
theorem WOk.wait {n k : Nat} {row : Int} {W : Bdy} (h : WOk n row k W) : WOk n (row + 1) (k + 1) W := ⟨h.ok, h.nd, fun r hr => by have := h.up r hr; omega, Nat.le_succ_of_le h.size⟩
theorem last_get {α : Type} (L : List α) (x : α) : (L ++ [x])[(L ++ [x]).length - 1]? = some x := by simp
theorem set_last {α : Type} (L : List α) (x y : α) : (L ++ [x]).set L.length y = L ++ [y] := by simp
theorem ixN_last {α : Type} (L : List α) (x : α) : ixN (L ++ [x]).length (-1) = some L.length := by
  have hl : (L ++ [x]).length = L.length + 1 := by simp
  unfold ixN
  rw [if_neg (by decide), hl, if_pos (by omega)]
  congr 1
  omega
theorem same_upd {Y Z : Hp} (s : Same Y Z) (l : Addr) (o : HO) : Same (upd Y l o) (upd Z l o) := fun b u h => by
  by_cases c : b = l
  · subst c
    rw [upd_same] at h ⊢
    exact h
  · rw [upd_ne c] at h ⊢
    exact s b u h
def spBody (K : PySem.W.Frag) : Sp := fun vs H Q _ => ∃ (a b : Addr) (ns : List Int) (bs : Bxs), vs = [.ref a, .ref b] ∧ SqL K H a (ns.map V.int) ∧ ns.length ≤ 100000 ∧ LstAt BoxAt H (.ref b) bs ∧ bs.length ≤ 3 ∧
  Gives H (fun H' v => ∃ (r : Addr) (B : Bdy), v = .ref r ∧ BodyAt (bnm bs) H' B r ∧ B.Ok bs.length ∧ B.rows.Nodup ∧ B.size ≤ 25) Q
theorem scBody : FnScope ["script", "boxes", "root", "pile", "seconds", "row", "k", "state", "kind", "sides", "word", "bodies"] ["script", "boxes"] (defScope sBody) := ⟨rfl, rfl, rfl, by decide +kernel, rfl, by decide +kernel, by decide +kernel⟩
theorem ok_body (X : Txt K mg CW CL) (CT : Cal P w K mg base "_law_take" 1 ["state", "many"] spTake) (CS : Cal P w K mg base "_law_state" 1 ["script", "k"] (spState K)) (CE : Cal P w K mg base "_law_e" 3 ["state", "boxes"] (spDraw (LeafR 2))) (CF : Cal P w K mg base "_law_leaf" 2 ["state", "boxes"] (spDraw (LeafR 0)))
    (CP : Cal P w K mg base "_law_plain" 4 ["state", "boxes", "row"] spPlain) (F : Fun K "_law_body" "_law_body" sBody f fd) : FnOk P w K mg base CX0 5 f fd ["script", "boxes"] (spBody K) := by
  refine F.ok scBody (fun vs H Q E h => ?_) (fun cdv A outer s H vs Q E hr h => ?_)
  · obtain ⟨a, b, ns, bs, rfl, _⟩ := h
    rfl
  obtain ⟨a, b, ns, bs, rfl, hS, hlen, hbx, few, q⟩ := h
  have nd := scBody.nd
  have sml : ∀ n : Nat, n ≤ 100 → n ≤ sizeLine := fun n h => len_small h (by decide)
  have hr1 : Room 1 _ := hr.mono (by decide)
  have hr2 : Room 2 _ := hr.mono (by decide)
  have hr3 : Room 3 _ := hr.mono (by decide)
  refine ⟨_, pss_cons (ps_set (i := 2) nd rfl (.inl rfl) (pe_lst pa_nil))
    (pss_cons (ps_set (i := 3) nd rfl (.inl rfl) (pe_lst (pa_cons (pv 2) pa_nil)))
    (pss_cons (ps_set (i := 4) nd rfl (.inl rfl) (pe_lst (pa_cons pe_non pa_nil)))
    (pss_cons (ps_set (i := 5) nd rfl (.inl rfl) (pe_callB call_len_seq (by rfl) X.zLen PySem.boot_len (pa_cons (pv 1) pa_nil)))
    (pss_cons (ps_for PassesOwn.never rfl (pi_range2 (by rfl) X.zRange (pa_cons pe_int (pa_cons (pe_callB (call_min2 rfl) (by rfl) X.zMin (by decide +kernel) (pa_cons (pe_callB call_len_seq (by rfl) X.zLen PySem.boot_len (pa_cons (pv 0) pa_nil)) (pa_cons pe_int pa_nil))) pa_nil))) (pg_name (i := 6) nd rfl (.inl rfl))
      (pss_cons (ps_set (i := 7) nd rfl (.inl rfl) (pe_cal CS hr1 (pa_cons (pv 0) (pa_cons (pv 6) pa_nil))))
      (pss_cons (ps_set (i := 5) nd rfl (.inl rfl) (pe_op op_add (pv 5) pe_int))
      (pss_cons (ps_set (i := 8) nd rfl (.inl rfl) (pe_cal CT hr1 (pa_cons (pv 7) (pa_cons pe_int pa_nil))))
      (pss_one (ps_if (PW.pt (pw_and (pt_cmpR op_lt (pv 8) pe_int (nomark _)) (pw_and1 (pt_cmpR op_lt (pe_callB call_len_seq (by rfl) X.zLen PySem.boot_len (pa_cons (pv 3) pa_nil)) pe_int (nomark _)))))
        (pss_cons (ps_set (i := 9) nd rfl (.inl rfl) (pe_lst (pa_cons (pe_cal CE hr3 (pa_cons (pv 7) (pa_cons (pv 1) pa_nil))) (pa_cons (pe_cal CF hr2 (pa_cons (pv 7) (pa_cons (pv 1) pa_nil))) pa_nil))))
        (Evl.pss_cut (ps_if (pt_cmpR op_eq (pe_cal CT hr1 (pa_cons (pv 7) (pa_cons pe_int pa_nil))) pe_int (nomark _)) (pss_one (ps_expr (pe_bm0 PySem.F.plainAttrs_list PySem.F.slot_list_reverse PySem.F.type_list_reverse mt_reverse (pv 9)))) pss_nil)
        (pss_cons (ps_set (i := 10) nd rfl (.inl rfl) (pe_ix ix_list (pe_lst (pa_cons pe_str (pa_cons pe_str (pa_cons pe_str pa_nil)))) (pv 8) (fun _ _ => rfl)))
        (pss_cons (ps_set (i := 11) nd rfl (.inl rfl) (pe_slice sl_list (pe_lst (pa_cons (pe_lst pa_nil) (pa_cons (pe_lst pa_nil) pa_nil))) po_none (po_some (pe_op op_add pe_int (pe_callTy call_int1 (by rfl) X.zInt (by decide +kernel) (pa_cons (pe_cmpR op_eq (pv 10) pe_str (nomark _)) pa_nil))))))
        (pss_cons (ps_expr (pe_bm PySem.F.plainAttrs_list PySem.F.slot_list_append PySem.F.type_list_append mt_append (pe_ix ix_list (pv 3) (pe_un un_neg pe_int) (fun _ _ => rfl)) (pa_cons (pe_callTy call_tuple_of (by rfl) X.zTuple (by decide +kernel) (pa_cons
            (pe_op op_cat (pe_op op_cat (pe_lst (pa_cons (pv 10) (pa_cons (pv 5) (pa_cons (pe_ix ix_str pe_str (pe_cal CT hr1 (pa_cons (pv 7) (pa_cons pe_int pa_nil))) (fun _ _ => rfl)) pa_nil)))) (pv 9)) (pv 11)) pa_nil)) pa_nil)))
        (pss_cons (ps_expr (pe_bm PySem.F.plainAttrs_list PySem.F.slot_list_append PySem.F.type_list_append mt_append (pv 3) (pa_cons (pe_ix ix_list (pv 11) pe_int (fun _ _ => rfl)) pa_nil)))
        (pss_one (ps_expr (pe_bm PySem.F.plainAttrs_list PySem.F.slot_list_append PySem.F.type_list_append mt_append (pv 4) (pa_cons (pe_ix ix_list (pe_op op_cat (pv 11) (pe_lst (pa_cons pe_non pa_nil))) pe_int (fun _ _ => rfl)) pa_nil))))))))))
      (pss_one (ps_if (PW.pt (pw_and (pt_cmpR op_eq (pv 8) pe_int (nomark _)) (pw_and1 (pt_cmp (pc_notN (pe_ix ix_list (pv 4) (pe_un un_neg pe_int) (fun _ _ => rfl)))))))
        (pss_cons (ps_asg (pe_ix ix_list (pv 4) (pe_un un_neg pe_int) (fun _ _ => rfl)) (pg_sub (pv 3) (pe_un un_neg pe_int) set_list))
        (pss_one (ps_asg pe_non (pg_sub (pv 4) (pe_un un_neg pe_int) set_list))))
      (pss_one (ps_if (PW.pt (pw_and (pt_cmpR op_lt (pv 8) pe_int (nomark _)) (pw_and1 (pt_cmpR op_gt (pe_callB call_len_seq (by rfl) X.zLen PySem.boot_len (pa_cons (pv 3) pa_nil)) pe_int (nomark _)))))
        (pss_cons (ps_expr (pe_bm0 PySem.F.plainAttrs_list PySem.F.slot_list_pop PySem.F.type_list_pop mt_pop (pv 3)))
        (pss_one (ps_expr (pe_bm0 PySem.F.plainAttrs_list PySem.F.slot_list_pop PySem.F.type_list_pop mt_pop (pv 4)))))
      (pss_one (ps_expr (pe_bm PySem.F.plainAttrs_list PySem.F.slot_list_append PySem.F.type_list_append mt_append (pe_ix ix_list (pv 3) (pe_un un_neg pe_int) (fun _ _ => rfl)) (pa_cons (pe_cal CP hr (pa_cons (pv 7) (pa_cons (pv 1) (pa_cons (pv 5) pa_nil)))) pa_nil))))))))))))))
    (pss_one (ps_ret (pv 2))))))), ?_⟩
  refine ⟨Nat.zero_le _, fun rt hrt => ⟨_, rfl, sml 1 (by decide), fun pl hpl => ⟨sml 1 (by decide), fun sl hsl => ?_⟩⟩⟩
  have g1 := same_new hrt (.lst [])
  have g2 := same_new hpl (.lst [.ref rt])
  have g3 := same_new hsl (.lst [.non])
  have gA := (g1.trans g2).trans g3
  obtain ⟨_, ybs, eb, hb, prb⟩ := id hbx
  cases eb
  refine ⟨_, rfl, b, _, rfl, .inl (SqL.of (gA _ _ hb)), ?_⟩
  have lyb := prb.length
  refine ⟨_, rfl, a, _, rfl, .inl (gA.seq hS), _, _, rfl, _, _, rfl, ?_⟩
  rw [min_if, List.length_map]
  have hN : min ((ns.length : Nat) : Int) 26 ≤ 26 ∧ 0 ≤ min ((ns.length : Nat) : Int) 26 := by omega
  generalize min ((ns.length : Nat) : Int) 26 = N at hN
  refine ⟨by omega, ?_⟩
  have n25 : (N - 1).toNat ≤ 25 := by omega
  have hpl0 : H pl = none := none_of g1 hpl
  have hsl0 : H sl = none := none_of (g1.trans g2) hsl
  have nlr : pl ≠ rt := (ne_of_none upd_same hpl).symm
  have nsr : sl ≠ rt := (ne_of_none (g2 _ _ upd_same) hsl).symm
  have nsp : sl ≠ pl := (ne_of_none upd_same hsl).symm
  have bi0 : BI (bnm bs) rt pl sl H (upd (upd (upd H rt (.lst [])) pl (.lst [.ref rt])) sl (.lst [.non])) .top .nil [rt] [.non] := by
    refine ⟨g3 _ _ upd_same, upd_same, ⟨rt, [], [], rfl, g3 _ _ (g2 _ _ upd_same), rfl⟩, ⟨rfl, rfl⟩, gA, ?_, fun c hc => ?_⟩
    · show [pl, sl, rt].Nodup
      simp [nlr, nsr, nsp.symm]
    · have hc : c ∈ [pl, sl, rt] := hc
      simp only [List.mem_cons, List.not_mem_nil, or_false] at hc
      rcases hc with rfl | rfl | rfl
      · exact hpl0
      · exact hsl0
      · exact hrt
  refine for_it (walk_range (lo := 1)) (fun i σ' H' => ∃ (F : Hp) (z : Zp) (cur : Bdy) (ps : List Addr) (xs : List V) (row : Int) (o6 o7 o8 o9 o10 o11 : Option V), σ' = [some (.ref a), some (.ref b), some (.ref rt), some (.ref pl), some (.ref sl), some (.int row), o6, o7, o8, o9, o10, o11] ∧ 0 ≤ row ∧ Same H F ∧
    BI (bnm bs) rt pl sl F H' z cur ps xs ∧ WOk bs.length row i (plug z cur) ∧ ps.length ≤ 5)
    ⟨H, .top, .nil, [rt], [.non], _, none, none, none, none, none, none, rfl, by omega, Same.refl H, bi0, ⟨True.intro, List.nodup_nil, (fun r hr => nomatch hr), Nat.le_refl _⟩, by show 1 ≤ 5; decide⟩ (fun _ _ _ _ _ => True.intro) ?_ ?_
  · rintro i x σ' Hd H0 hi ⟨F, z, cur, ps, xs, row, o6, o7, o8, o9, o10, o11, rfl, row0, sHF, bi, wok, l5⟩ ⟨rfl, rfl⟩
    have sH0 := sHF.trans bi.same
    have ek : (1 + (i : Int)) = ((1 + i : Nat) : Int) := by omega
    refine ⟨_, rfl, _, rfl, a, 1 + i, ns, by rw [← ek]; rfl, sH0.seq hS, fun t H1 ht s1 st1 => ?_⟩
    have lw1 : Lw t b bs H1 := ⟨st1, LstAt.mono (R := BoxAt) (fun _ _ _ _ t h => BoxAt.mono t h) (sH0.trans s1) hbx⟩
    refine ⟨_, rfl, _, _, rfl, rfl, ?_⟩
    refine ⟨_, rfl, t, 10, rfl, st1, by decide, by decide, fun k H2 b2 s2 k0 k1 => ?_⟩
    have d2 := lw1.dwOf b2 s2
    have sX : ∀ {Hk : Hp}, Dw t b bs H1 Hk → Same H0 Hk := fun d => d.but.out s1 ht
    have bi2 := bi.mono (sX d2)
    obtain ⟨p, ps', ys, rfl, hp0, hb0⟩ := id bi.here
    have w1 := wok.wait
    have row1 : 0 ≤ row + 1 := by omega
    have ely : ys.length ≤ 25 := by
      have a1 := bodyV_len hb0
      have a2 := plug_le z cur
      have a3 := wok.size
      omega
    have eL : ∀ (c : Addr) (cs : List Addr), (c :: cs).reverse.map V.ref = cs.reverse.map V.ref ++ [.ref c] := fun c cs => by rw [List.reverse_cons, List.map_append]; rfl
    obtain ⟨x0, xs0, rfl, hx0⟩ := bi.zp.sec
    have lxs := bi.zp.len
    have lps : (ps'.reverse.map V.ref).length ≤ 4 := by rw [List.length_map, List.length_reverse]; simpa using l5
    have lxs0 : xs0.reverse.length ≤ 4 := by
      rw [List.length_reverse]
      have := l5
      simp only [List.length_cons] at lxs this
      omega
    have tpl : ∀ {Hk : Hp}, Same H0 Hk → Hk pl = some (.lst (ps'.reverse.map V.ref ++ [.ref p])) := fun s => by rw [← eL]; exact s _ _ bi.hpl
    have tsl : ∀ {Hk : Hp}, Same H0 Hk → Hk sl = some (.lst (xs0.reverse ++ [x0])) := fun s => by rw [← List.reverse_cons]; exact s _ _ bi.hsl
    refine ⟨_, rfl, _, _, rfl, rfl, _, rfl, ?_⟩
    refine and_if (fun h => ⟨_, rfl, pl, _, rfl, .inl (SqL.of (tpl (sX d2))), _, _, rfl, rfl, _, rfl, h⟩) (fun c1 c2 => ?_) (fun _ => ?_)
    · have c1 := of_decide_eq_true c1
      have c2 := of_decide_eq_true c2
      rw [List.length_append, List.length_singleton] at c2
      have hcw : ∃ cw : Cw, (cw = .iff ∨ cw = .whl) ∧ atI [V.str "if", V.str "while", V.str "if"] k = some (.str cw.str) := by
        have : k = 0 ∨ k = 1 ∨ k = 2 := by omega
        rcases this with rfl | rfl | rfl
        · exact ⟨.iff, .inl rfl, rfl⟩
        · exact ⟨.whl, .inr rfl, rfl⟩
        · exact ⟨.iff, .inl rfl, rfl⟩
      obtain ⟨cw, hcw, ecw⟩ := hcw
      refine ⟨_, rfl, _, rfl, t, b, bs, rfl, d2.lw, few, fun v3 H3 b3 s3 ⟨e3, f3, x3⟩ => ?_⟩
      have d3 := d2.next b3 s3
      refine ⟨_, rfl, _, rfl, t, b, bs, rfl, d3.lw, few, fun v4 H4 b4 s4 ⟨e4, f4, x4⟩ => ⟨sml 2 (by decide), fun sd hsd => ?_⟩⟩
      have d4 := d3.next b4 s4
      have x3 := x3.mono (d3.lw.tk b4)
      have sd1 : H1 sd = none := none_of' d4 hsd
      have d5 := d4.new (o := .lst [v3, v4]) hsd
      refine ⟨fun σ' H6 => ∃ u1 u2 g1 g2, σ' = [some (.ref a), some (.ref b), some (.ref rt), some (.ref pl), some (.ref sl), some (.int (row + 1)), some (.int (1 + (i : Int))), some (.ref t), some (.int k), some (.ref sd), o10, o11] ∧ Dw t b bs H1 H6 ∧ H6 sd = some (.lst [u1, u2]) ∧
        XpAt (bnm bs) H6 g1 u1 ∧ g1.Fit bs.length 2 ∧ XpAt (bnm bs) H6 g2 u2 ∧ g2.Fit bs.length 2, ?_, ?_⟩
      · refine ⟨_, rfl, t, 2, rfl, d5.lw.st, by decide, by decide, fun r H6 b6 s6 u0 u1 => ?_⟩
        have d6 := d5.next b6 s6
        have nst : sd ≠ t := by
          obtain ⟨x, y, e⟩ := s4
          exact (ne_of_none e hsd).symm
        have hs6 : H6 sd = some (.lst [v3, v4]) := b6 _ _ nst upd_same
        have tk : Tk H4 H6 := Tk.trans (.new hsd _) (d5.lw.tk b6)
        refine ⟨rfl, _, rfl, if_int (fun e => ?_) (fun e => ?_)⟩
        · refine ⟨_, rfl, .inl ⟨rfl, _, SqL.of hs6⟩, sd, _, rfl, rfl, hs6, ?_⟩
          have tk2 : Tk H6 (upd H6 sd (.lst [v3, v4].reverse)) := .lst hs6 _
          exact ⟨v4, v3, e4, e3, rfl, d6.mut lw1 sd1, upd_same, (x4.mono tk).mono tk2, f4.up (by decide), (x3.mono tk).mono tk2, f3⟩
        · exact ⟨v3, v4, e3, e4, rfl, d6, hs6, x3.mono tk, f3, x4.mono tk, f4.up (by decide)⟩
      rintro σ' H6 ⟨u1, u2, g1, g2, rfl, d6, hsd6, y1, fg1, y2, fg2⟩
      refine ⟨sml 3 (by decide), fun wl hwl => ?_⟩
      have d7 := d6.new (o := .lst [.str "if", .str "while", .str "if"]) hwl
      refine ⟨_, rfl, wl, _, _, _, rfl, rfl, SqL.of upd_same, ecw, ?_⟩
      have g7 := same_new hwl (.lst [.str "if", .str "while", .str "if"])
      have hsd7 := g7 _ _ hsd6
      have y1 := y1.mono (.same g7)
      have y2 := y2.mono (.same g7)
      generalize upd H6 wl (.lst [.str "if", .str "while", .str "if"]) = H7 at d7 hsd7 y1 y2
      -- the new bodies
      refine ⟨Nat.zero_le _, fun n1 hn1 => ⟨Nat.zero_le _, fun n2 hn2 => ⟨sml 2 (by decide), fun nl hnl => ?_⟩⟩⟩
      have k1 := same_new hn1 (.lst [])
      have k2 := same_new hn2 (.lst [])
      have k3 := same_new hnl (.lst [.ref n1, .ref n2])
      have k13 := (k1.trans k2).trans k3
      have n10 : H0 n1 = none := none_of (sX d7) hn1
      have n20 : H0 n2 = none := none_of ((sX d7).trans k1) hn2
      have n12 : n1 ≠ n2 := ne_of_none upd_same hn2
      have a1 := k3 _ _ (k2 _ _ (upd_same (H := H7) (a := n1) (o := .lst [])))
      have a2 := k3 _ _ (upd_same (H := upd H7 n1 (.lst [])) (a := n2) (o := .lst []))
      have a3 := upd_same (H := upd (upd H7 n1 (.lst [])) n2 (.lst [])) (a := nl) (o := .lst [.ref n1, .ref n2])
      have d8 := d7.same k13
      have hsd8 := k13 _ _ hsd7
      have y1 := y1.mono (.same k13)
      have y2 := y2.mono (.same k13)
      generalize upd (upd (upd H7 n1 (.lst [])) n2 (.lst [])) nl (.lst [.ref n1, .ref n2]) = H8 at d8 hsd8 y1 y2 a1 a2 a3
      have cutk : cutV [V.ref n1, V.ref n2] none (some (1 + (if decide (V.str cw.str = V.str "if") = true then (1 : Int) else 0))) = ([.ref n1, .ref n2] : List V).take cw.kids := by
        rcases hcw with rfl | rfl
        · rw [decide_eq_true (show V.str Cw.iff.str = V.str "if" from rfl), if_pos rfl]
          exact cut_to _ 2 (Nat.le_refl 2)
        · rw [decide_eq_false (show V.str Cw.whl.str ≠ V.str "if" by decide +kernel), if_neg Bool.false_ne_true]
          exact cut_to _ 1 (Nat.le_succ 1)
      refine ⟨_, rfl, rfl, .inr ⟨_, rfl, _, _, rfl, rfl, _, rfl, nl, _, rfl, SqL.of a3, fun bd hbd => ?_⟩⟩
      rw [cutk]
      have g9 := same_new hbd (.lst (([.ref n1, .ref n2] : List V).take cw.kids))
      have d9 := d8.same g9
      have hbd0 : H0 bd = none := none_of (sX d8) hbd
      have hbd9 : (upd H8 bd (.lst (([.ref n1, .ref n2] : List V).take cw.kids))) bd = some (.lst (([.ref n1, .ref n2] : List V).take cw.kids)) := upd_same
      have hsd9 := g9 _ _ hsd8
      have y1 := y1.mono (.same g9)
      have y2 := y2.mono (.same g9)
      have a1 := g9 _ _ a1
      have a2 := g9 _ _ a2
      generalize upd H8 bd (.lst (([.ref n1, .ref n2] : List V).take cw.kids)) = H9 at d9 hbd9 hsd9 y1 y2 a1 a2
      have zl : ("<=" : Str).length ≤ sizeLine := by decide +kernel
      have kl : (([.ref n1, .ref n2] : List V).take cw.kids).length ≤ 2 := by
        rw [List.length_take]
        exact Nat.min_le_right _ _
      have not : ∀ {c : Addr}, H1 c = none → c ≠ t := fun {c} h => by
        obtain ⟨x, y, e⟩ := lw1.st
        exact (ne_of_none e h).symm
      have bd1 : H1 bd = none := none_of' d8 hbd
      have n11 : H1 n1 = none := none_of' d7 hn1
      have n21 : H1 n2 = none := none_of' (d7.same k1) hn2
      refine ⟨_, rfl, _, rfl, pl, _, _, _, rfl, rfl, SqL.of (tpl (sX d9)), atI_last _ _, .inl ⟨rfl, _, SqL.of (sX d9 _ _ hp0)⟩, ?_⟩
      refine ⟨_, rfl, _, rfl, _, rfl, t, 2, rfl, d9.lw.st, by decide, by decide, fun r H10 b10 s10 w0 w1 => ?_⟩
      have d10 := d9.next b10 s10
      obtain ⟨c, lt, hc, es⟩ := sign_lt w0 w1
      refine ⟨_, _, c, rfl, rfl, zl, hc, ?_⟩
      rw [es]
      have hsd10 := b10 _ _ (not sd1) hsd9
      have hbd10 := b10 _ _ (not bd1) hbd9
      have a1 := b10 _ _ (not n11) a1
      have a2 := b10 _ _ (not n21) a2
      have y1 := y1.mono (d9.lw.tk b10)
      have y2 := y2.mono (d9.lw.tk b10)
      refine ⟨sml 3 (by decide), fun l3 hl3 => ?_⟩
      have g11 := same_new hl3 (.lst [.str cw.str, .int (row + 1), .str (ltS lt)])
      refine ⟨_, rfl, l3, sd, _, _, rfl, rfl, upd_same, g11 _ _ hsd10, sml 5 (by decide), fun c1 hc1 => ?_⟩
      have g12 := same_new hc1 (.lst ([.str cw.str, .int (row + 1), .str (ltS lt)] ++ [u1, u2]))
      refine ⟨_, rfl, c1, bd, _, _, rfl, rfl, upd_same, g12 _ _ (g11 _ _ hbd10), len_small (m := 7) (by show 5 + _ ≤ 7; omega) (by decide), fun c2' hc2 => ?_⟩
      have g13 := same_new hc2 (.lst ([.str cw.str, .int (row + 1), .str (ltS lt)] ++ [u1, u2] ++ ([.ref n1, .ref n2] : List V).take cw.kids))
      refine ⟨c2', _, rfl, .inl ⟨SqL.of upd_same, fun v hv => ?_⟩⟩
      have g14 := same_new hv (.tup ([.str cw.str, .int (row + 1), .str (ltS lt)] ++ [u1, u2] ++ ([.ref n1, .ref n2] : List V).take cw.kids))
      have gg := ((g11.trans g12).trans g13).trans g14
      have d14 := d10.same gg
      have hv14 := upd_same (H := upd (upd (upd H10 l3 (.lst [.str cw.str, .int (row + 1), .str (ltS lt)])) c1 (.lst ([.str cw.str, .int (row + 1), .str (ltS lt)] ++ [u1, u2]))) c2' (.lst ([.str cw.str, .int (row + 1), .str (ltS lt)] ++ [u1, u2] ++ ([.ref n1, .ref n2] : List V).take cw.kids)))
        (a := v) (o := .tup ([.str cw.str, .int (row + 1), .str (ltS lt)] ++ [u1, u2] ++ ([.ref n1, .ref n2] : List V).take cw.kids))
      have hbd14 := gg _ _ hbd10
      have a1 := gg _ _ a1
      have a2 := gg _ _ a2
      have y1 := y1.mono (.same gg)
      have y2 := y2.mono (.same gg)
      generalize upd (upd (upd (upd H10 l3 (.lst [.str cw.str, .int (row + 1), .str (ltS lt)])) c1 (.lst ([.str cw.str, .int (row + 1), .str (ltS lt)] ++ [u1, u2]))) c2' (.lst ([.str cw.str, .int (row + 1), .str (ltS lt)] ++ [u1, u2] ++ ([.ref n1, .ref n2] : List V).take cw.kids)))
        v (.tup ([.str cw.str, .int (row + 1), .str (ltS lt)] ++ [u1, u2] ++ ([.ref n1, .ref n2] : List V).take cw.kids)) = H14 at d14 hv14 hbd14 a1 a2 y1 y2
      have st14 : StAt (bnm bs) H14 (.con cw lt g1 g2) (row + 1) (([.ref n1, .ref n2] : List V).take cw.kids) (.ref v) := ⟨v, [.str (ltS lt), u1, u2], rfl, ⟨u1, u2, y1, y2, rfl⟩, hv14⟩
      have s014 := sX d14
      have bi14 := bi.mono s014
      obtain ⟨q1, q2, q3, _⟩ := opn_ne bi.nd
      refine ⟨p, ys, _, rfl, rfl, s014 _ _ hp0, len_less ely (by decide), ?_⟩
      have hpl15 : (upd H14 p (.lst (ys ++ [.ref v]))) pl = some (.lst ((p :: ps').reverse.map V.ref)) := by rw [upd_ne q2]; exact bi14.hpl
      have hsl15 : (upd H14 p (.lst (ys ++ [.ref v]))) sl = some (.lst ((x0 :: xs0).reverse)) := by rw [upd_ne q3]; exact bi14.hsl
      have hbd15 : (upd H14 p (.lst (ys ++ [.ref v]))) bd = some (.lst (([.ref n1, .ref n2] : List V).take cw.kids)) := by rw [upd_ne (ne_of_none hp0 hbd0).symm]; exact hbd14
      have at0 : atI (([.ref n1, .ref n2] : List V).take cw.kids) 0 = some (.ref n1) := by
        rcases hcw with rfl | rfl
        · rfl
        · rfl
      obtain ⟨x, at1, hx⟩ : ∃ x, atI ((([.ref n1, .ref n2] : List V).take cw.kids) ++ [.non]) 1 = some x ∧ ((cw = .iff ∧ x = .ref n2) ∨ (cw = .whl ∧ x = .non)) := by
        rcases hcw with rfl | rfl
        · exact ⟨.ref n2, rfl, .inl ⟨rfl, rfl⟩⟩
        · exact ⟨.non, rfl, .inr ⟨rfl, rfl⟩⟩
      have lpl : ((p :: ps').reverse.map V.ref).length ≤ 5 := by rw [List.length_map, List.length_reverse]; exact l5
      have lsl : ((x0 :: xs0).reverse).length ≤ 5 := by rw [List.length_reverse, lxs]; exact l5
      refine ⟨_, rfl, .inl ⟨rfl, _, SqL.of hpl15⟩, _, rfl, bd, _, 0, _, rfl, rfl, SqL.of hbd15, at0, pl, _, _, rfl, rfl, hpl15, len_less lpl (by decide), ?_⟩
      have hsl16 : (upd (upd H14 p (.lst (ys ++ [.ref v]))) pl (.lst ((p :: ps').reverse.map V.ref ++ [.ref n1]))) sl = some (.lst ((x0 :: xs0).reverse)) := by rw [upd_ne q1.symm]; exact hsl15
      have hbd16 : (upd (upd H14 p (.lst (ys ++ [.ref v]))) pl (.lst ((p :: ps').reverse.map V.ref ++ [.ref n1]))) bd = some (.lst (([.ref n1, .ref n2] : List V).take cw.kids)) := by rw [upd_ne (ne_of_none bi.hpl hbd0).symm]; exact hbd15
      refine ⟨_, rfl, .inl ⟨rfl, _, SqL.of hsl16⟩, _, rfl, sml 1 (by decide), fun ll hll => ?_⟩
      have g17 := same_new hll (.lst [.non])
      refine ⟨bd, ll, _, _, rfl, rfl, g17 _ _ hbd16, upd_same, len_small (m := 3) (by show _ + 1 ≤ 3; omega) (by decide), fun c5 hc5 => ?_⟩
      have g18 := same_new hc5 (.lst (([.ref n1, .ref n2] : List V).take cw.kids ++ [.non]))
      refine ⟨c5, _, 1, _, rfl, rfl, SqL.of upd_same, at1, sl, _, _, rfl, rfl, g18 _ _ (g17 _ _ hsl16), len_less lsl (by decide), ?_⟩
      have eo : ∀ {c : Addr}, H0 c = none → ¬ c ∈ opn pl sl (p :: ps') (x0 :: xs0) := fun {c} h m => by
        obtain ⟨zs, e⟩ := bi.lists c m
        rw [h] at e
        cases e
      have l5' : (n1 :: p :: ps').length ≤ 5 := by
        rw [List.length_map, List.length_reverse] at c2
        simp only [List.length_cons]
        omega
      rcases hx with ⟨rfl, rfl⟩ | ⟨rfl, rfl⟩
      · obtain ⟨F', sF, bi5⟩ := bi14.openI (s014 _ _ hp0) st14 a1 a2 (eo n10) (none_of bi.same n10) (eo n20) (none_of bi.same n20) n12
        exact ⟨F', _, _, _, _, _, _, _, _, _, _, _, rfl, row1, sHF.trans sF, bi5.mono (same_upd (g17.trans g18) _ _), wok.ins (s := .con .iff lt g1 g2) ⟨fg1, fg2⟩ row0, l5'⟩
      · obtain ⟨F', sF, bi5⟩ := bi14.openW (s014 _ _ hp0) st14 a1 (eo n10) (none_of bi.same n10)
        exact ⟨F', _, _, _, _, _, _, _, _, _, _, _, rfl, row1, sHF.trans sF, bi5.mono (same_upd (g17.trans g18) _ _), wok.ins (s := .con .whl lt g1 g2) ⟨fg1, fg2⟩ row0, l5'⟩
    refine ⟨_, rfl, rfl, _, rfl, ?_⟩
    refine and_if (fun h => ⟨_, rfl, _, rfl, sl, _, _, _, rfl, rfl, SqL.of (tsl (sX d2)), atI_last _ _, _, rfl, h⟩) (fun c1 c2 => ?_) (fun _ => ?_)
    · -- the second body is begun
      rcases hx0 with rfl | ⟨q, up, done, lt, ea, eb, row2, rfl, rfl⟩
      · exact absurd c2 (by decide)
      obtain ⟨F', sF, bi3⟩ := bi2.second
      refine ⟨_, rfl, _, rfl, sl, _, _, _, rfl, rfl, SqL.of (tsl (sX d2)), atI_last _ _, ?_⟩
      refine ⟨_, rfl, _, rfl, pl, _, _, _, rfl, rfl, tpl (sX d2), ixN_last _ _, ?_⟩
      rw [set_last]
      have nps : pl ≠ sl := (opn_ne bi.nd).1
      refine ⟨_, rfl, _, rfl, sl, _, _, _, rfl, rfl, by rw [upd_ne nps.symm]; exact tsl (sX d2), ixN_last _ _, ?_⟩
      rw [set_last, ← eL, ← List.reverse_cons]
      exact ⟨F', _, _, _, _, _, _, _, _, _, _, _, rfl, row1, sHF.trans sF, bi3, w1, l5⟩
    refine ⟨_, rfl, _, _, rfl, rfl, _, rfl, ?_⟩
    refine and_if (fun h => ⟨_, rfl, pl, _, rfl, .inl (SqL.of (tpl (sX d2))), _, _, rfl, rfl, _, rfl, h⟩) (fun c1 c2 => ?_) (fun _ => ?_)
    · -- a body is closed
      have c2 := of_decide_eq_true c2
      rw [List.length_append, List.length_singleton, List.length_map, List.length_reverse] at c2
      cases ps' with
      | nil => simp at c2
      | cons p' ps' =>
        obtain ⟨F', z', cur', sF, bi3, ep⟩ := bi2.pop
        refine ⟨_, rfl, .inl ⟨rfl, _, SqL.of (tpl (sX d2))⟩, pl, _, _, rfl, rfl, tpl (sX d2), last_get _ _, ?_⟩
        have nps : pl ≠ sl := (opn_ne bi.nd).1
        refine ⟨_, rfl, .inl ⟨rfl, _, SqL.of (by rw [upd_ne nps.symm]; exact tsl (sX d2))⟩, sl, _, _, rfl, rfl, by rw [upd_ne nps.symm]; exact tsl (sX d2), last_get _ _, ?_⟩
        rw [List.dropLast_concat, List.dropLast_concat]
        refine ⟨F', z', cur', p' :: ps', xs0, _, _, _, _, _, _, _, rfl, row1, sHF.trans sF, bi3, by rw [ep]; exact w1, ?_⟩
        have := l5
        simp only [List.length_cons] at this ⊢
        omega
    -- a plain statement
    refine ⟨_, rfl, _, rfl, pl, _, _, _, rfl, rfl, SqL.of (tpl (sX d2)), atI_last _ _, .inl ⟨rfl, _, SqL.of (sX d2 _ _ hp0)⟩, ?_⟩
    refine ⟨_, rfl, _, rfl, _, rfl, t, b, _, bs, rfl, d2.lw, few, fun v3 H3 b3 s3 ⟨sm, so, sk, hst⟩ => ?_⟩
    have d3 := d2.next b3 s3
    obtain ⟨F', sF, bi4⟩ := (bi.mono (sX d3)).plain (sX d3 _ _ hp0) hst sk
    exact ⟨p, ys, _, rfl, rfl, sX d3 _ _ hp0, len_less ely (by decide), F', _, _, _, _, _, _, _, _, _, _, _, rfl, row1, sHF.trans sF, bi4, wok.ins so row0, l5⟩
  · rintro σ' H' ⟨F, z, cur, ps, xs, row, o6, o7, o8, o9, o10, o11, rfl, row0, sHF, bi, wok, l5⟩
    exact ⟨_, rfl, q _ _ (sHF.trans bi.same) ⟨rt, plug z cur, rfl, bi.done, wok.ok, wok.nd, Nat.le_trans wok.size n25⟩⟩
end
end Er

namespace Er
open PySem L2
/-! the law's asks -/
def Bdy.asks : Bdy → Int → Bool
  | .nil, _ => false
  | .cons s row b1 b2 rest, r => if row = r then s.isAsk else (b1.asks r || b2.asks r || rest.asks r)
theorem asks_no : ∀ {b : Bdy} {r : Int}, ¬ r ∈ b.rows → b.asks r = false
  | .nil, r, _ => rfl
  | .cons s row b1 b2 rest, r, h => by
    have h : ¬ r ∈ row :: (b1.rows ++ (b2.rows ++ rest.rows)) := h
    simp only [List.mem_cons, List.mem_append, not_or] at h
    show (if row = r then s.isAsk else (b1.asks r || b2.asks r || rest.asks r)) = false
    rw [if_neg (fun e => h.1 e.symm), asks_no h.2.1, asks_no h.2.2.1, asks_no h.2.2.2]
    rfl
theorem asks_at : ∀ {b : Bdy} {z r : Int} {s : Sm} {ws : List Int}, b.rows.Nodup → (r, s, ws) ∈ rowsM b z → b.asks r = s.isAsk
  | .nil, z, r, s, ws, _, h => nomatch h
  | .cons s' row b1 b2 rest, z, r, s, ws, nd, h => by
    have nd : (row :: (b1.rows ++ (b2.rows ++ rest.rows))).Nodup := nd
    obtain ⟨n0, nd⟩ := List.nodup_cons.mp nd
    obtain ⟨n1, nd, d1⟩ := List.nodup_append.mp nd
    obtain ⟨n2, n3, d2⟩ := List.nodup_append.mp nd
    have mem : ∀ {b : Bdy} {z : Int}, (r, s, ws) ∈ rowsM b z → r ∈ b.rows := fun {b z} h => by
      rw [← rows_map b z]
      exact List.mem_map.mpr ⟨_, h, rfl⟩
    show (if row = r then s'.isAsk else (b1.asks r || b2.asks r || rest.asks r)) = s.isAsk
    rcases List.mem_cons.mp h with h | h
    · cases h
      rw [if_pos rfl]
    · rcases List.mem_append.mp h with h | h
      · have m := mem h
        rw [if_neg (fun e => n0 (by rw [e]; exact List.mem_append_left _ m)), asks_at n1 h, asks_no (b := b2) (fun c => d1 _ m _ (List.mem_append_left _ c) rfl), asks_no (b := rest) (fun c => d1 _ m _ (List.mem_append_right _ c) rfl)]
        cases s.isAsk <;> rfl
      · rcases List.mem_append.mp h with h | h
        · have m := mem h
          rw [if_neg (fun e => n0 (by rw [e]; exact List.mem_append_right _ (List.mem_append_left _ m))), asks_no (b := b1) (fun c => d1 _ c _ (List.mem_append_left _ m) rfl), asks_at n2 h, asks_no (b := rest) (fun c => d2 _ m _ c rfl)]
          cases s.isAsk <;> rfl
        · have m := mem h
          rw [if_neg (fun e => n0 (by rw [e]; exact List.mem_append_right _ (List.mem_append_right _ m))), asks_no (b := b1) (fun c => d1 _ c _ (List.mem_append_right _ m) rfl), asks_no (b := b2) (fun c => d2 _ c _ m rfl), asks_at n3 h]
          cases s.isAsk <;> rfl
theorem word_ask (s : Sm) : decide (V.str s.word = V.str "ask") = s.isAsk := by
  cases s with
  | con c lt a b =>
    show decide (V.str c.str = V.str "ask") = false
    cases c <;> decide +kernel
  | ask j => exact decide_eq_true rfl
  | put j e => exact decide_eq_false (by show V.str "put" ≠ _; decide +kernel)
  | say e => exact decide_eq_false (by show V.str "say" ≠ _; decide +kernel)
  | stop => exact decide_eq_false (by show V.str "stop" ≠ _; decide +kernel)
theorem cut_kids {ns : List Str} {H : Hp} {s : Sm} {tl : List V} {x y a1 a2 : V} (h : SmTl ns H s tl) : cutV (x :: y :: (tl ++ ([a1, a2] : List V).take s.kids)) (some 5) none = ([a1, a2] : List V).take s.kids := by
  cases s with
  | ask j =>
    obtain ⟨c, _, rfl⟩ := h
    rfl
  | put j e =>
    obtain ⟨c, v, _, _, rfl⟩ := h
    rfl
  | say e =>
    obtain ⟨v, _, rfl⟩ := h
    rfl
  | stop =>
    have h : tl = [] := h
    subst h
    rfl
  | con c lt a b =>
    obtain ⟨u, v, _, _, rfl⟩ := h
    cases c with
    | mst => exact cut_from _ 5 (Nat.le_refl 5)
    | iff => exact cut_from _ 5 (Nat.le_add_right 5 2)
    | whl => exact cut_from _ 5 (Nat.le_add_right 5 1)
theorem kids_word {s : Sm} (h : 0 < s.kids) : inV (.str s.word) [.str "if", .str "while"] = true := by
  cases s with
  | con c lt a b =>
    cases c with
    | mst => exact absurd h (Nat.not_lt_zero _)
    | iff => show inV (.str "if") [.str "if", .str "while"] = true; decide +kernel
    | whl => show inV (.str "while") [.str "if", .str "while"] = true; decide +kernel
  | _ => exact absurd h (Nat.not_lt_zero _)
section
variable {P : Program} {w : World} {K : PySem.W.Frag} {mg : Str → Option Value} {base : Heap} {f : Addr} {fd : FuncData}
def spAsks (k : Nat) : Sp := fun vs H Q _ => ∃ (ns : List Str) (a : Addr) (r : Int) (b : Bdy), vs = [.ref a, .int r] ∧ b.dep < k ∧ BodyAt ns H b a ∧ Gives H (fun _ v => v = .bl (b.asks r)) Q
theorem scAsks : FnScope ["body", "row", "one", "inner"] ["body", "row"] (defScope sAsks) := ⟨rfl, rfl, rfl, by decide +kernel, rfl, by decide +kernel, by decide +kernel⟩
theorem ok_asks {k j : Nat} (C : Cal P w K mg base "_law_asks" j ["body", "row"] (spAsks k)) (F : Fun K "_law_asks" "_law_asks" sAsks f fd) : FnOk P w K mg base CX0 (j + 1) f fd ["body", "row"] (spAsks (k + 1)) := by
  refine F.ok scAsks (fun vs H Q E h => ?_) (fun cdv A outer s H vs Q E hr h => ?_)
  · obtain ⟨ns, a, r, b, rfl, _⟩ := h
    rfl
  obtain ⟨ns, a, r, b, rfl, hdp, ⟨ys, hys, hb⟩, q⟩ := h
  have nd := scAsks.nd
  refine ⟨_, pss_cons (ps_for PassesOwn.never rfl (pi_list (pv 0)) (pg_name (i := 2) nd rfl (.inl rfl))
      (pss_cons (ps_if (pt_cmpR op_eq (pe_ix ix_tup (pv 2) pe_int (fun _ _ => rfl)) (pv 1) (nomark _)) (pss_one (ps_ret (pe_cmpR op_eq (pe_ix ix_tup (pv 2) pe_int (fun _ _ => rfl)) pe_str (nomark _)))) pss_nil)
      (pss_one (ps_for PassesOwn.never rfl (pi_tup (pe_slice sl_tupS (pv 2) (po_some pe_int) po_none)) (pg_name (i := 3) nd rfl (.inl rfl))
        (pss_one (ps_if (PW.pt (pw_and (pt_cmpR op_in_seq (pe_ix ix_tup (pv 2) pe_int (fun _ _ => rfl)) (pe_lst (pa_cons pe_str (pa_cons pe_str pa_nil))) (by rfl)) (pw_and1 (pt_val (pe_cal C hr (pa_cons (pv 3) (pa_cons (pv 1) pa_nil)))))))
          (pss_one (ps_ret pe_bl)) pss_nil))))))
    (pss_one (ps_ret pe_bl)), ?_⟩
  refine ⟨_, rfl, a, rfl, ⟨_, SqL.of hys⟩, for_list (xs := ys) (fun i σ' H' => ∃ o2 o3, σ' = [some (.ref a), some (.int r), o2, o3] ∧ Same H H' ∧ b.asks r = (dropB b i).asks r) ⟨none, none, rfl, Same.refl H, by rw [dropB_zero]⟩ (fun i σ' H' _ ⟨_, _, _, s, _⟩ => SqL.of (s _ _ hys)) ?_ ?_⟩
  · rintro i x σ' H1 hx ⟨o2, o3, rfl, s1, e1⟩
    obtain ⟨sm, row, b1, b2, a1, a2, eb, ⟨p, tl, rfl, htl, hp⟩, k1, k2⟩ := bodyV_at hb hx
    have hdrop := (drop_le b i).1
    rw [eb] at hdrop e1
    have hd : max (dropB b (i + 1)).dep (1 + max b1.dep b2.dep) ≤ b.dep := hdrop
    have e1 : b.asks r = if row = r then sm.isAsk else (b1.asks r || b2.asks r || (dropB b (i + 1)).asks r) := e1
    have hp1 := s1 _ _ hp
    refine ⟨_, rfl, p, _, 1, _, rfl, rfl, SqT.of hp1, atI_nat (j := 1) rfl, _, rfl, rfl, _, rfl, if_int (fun e => ?_) (fun e => ?_)⟩
    · refine ⟨_, rfl, p, _, 0, _, rfl, rfl, SqT.of hp1, atI_nat (j := 0) rfl, rfl, q _ _ s1 ?_⟩
      rw [word_ask, e1, if_pos e]
    rw [if_neg e] at e1
    refine ⟨_, rfl, _, rfl, p, _, rfl, hp1, fun c H2 s2 hc => ?_⟩
    rw [cut_kids htl] at hc
    have s12 := s1.trans s2
    have kl : (([.ref a1, .ref a2] : List V).take sm.kids).length = min sm.kids 2 := List.length_take
    refine ⟨c, rfl, ⟨_, SqT.of hc⟩, for_it (walk_tup (xs := ([.ref a1, .ref a2] : List V).take sm.kids)) (fun m σ' H' => ∃ o3, σ' = [some (.ref a), some (.int r), some (.ref p), o3] ∧ Same H2 H' ∧
      (b1.asks r || b2.asks r) = ((if m ≤ 0 then b1.asks r else false) || (if m ≤ 1 then b2.asks r else false))) ⟨o3, rfl, Same.refl _, rfl⟩ (fun m σ' H' _ ⟨_, _, s, _⟩ => SqT.same s (SqT.of hc)) ?_ ?_⟩
    · rintro m y σ' Hd H3 hm ⟨o3, rfl, s3, e3⟩ ⟨rfl, hy⟩
      have k0 : 0 < sm.kids := by
        rw [kl] at hm
        omega
      have s13 := s12.trans s3
      refine ⟨_, rfl, p, _, 0, _, rfl, rfl, SqT.of (s13 _ _ hp), atI_nat (j := 0) rfl, by show 2 ≤ sizeLine; decide, fun l hl => ?_⟩
      have g := same_new hl (.lst [.str "if", .str "while"])
      refine ⟨l, _, rfl, .inl (SqL.of upd_same), rfl, rfl, _, rfl, ?_⟩
      rw [kids_word k0]
      refine iteT ?_
      have s14 := s13.trans g
      have s34 := s3.trans g
      generalize upd H3 l (.lst [.str "if", .str "while"]) = H4 at s14 s34
      obtain ⟨a3, b3, rfl, hb3, hd3, e5⟩ : ∃ a3 b3, y = .ref a3 ∧ BodyAt ns H4 b3 a3 ∧ b3.dep < b.dep ∧ (b1.asks r || b2.asks r) = (b3.asks r || ((if m + 1 ≤ 0 then b1.asks r else false) || (if m + 1 ≤ 1 then b2.asks r else false))) := by
        have hm2 : m = 0 ∨ (m = 1 ∧ 1 < sm.kids) := by
          rw [kl] at hm
          omega
        rcases hm2 with rfl | ⟨rfl, c1⟩
        · have ey : y = .ref a1 := by
            rw [List.getElem?_take_of_lt k0] at hy
            exact (Option.some.inj hy).symm
          rw [if_pos k0] at k1
          refine ⟨a1, b1, ey, BodyAt.mono s14 k1, by omega, ?_⟩
          rw [if_neg (by decide), if_pos (by decide)]
          cases b1.asks r <;> rfl
        · have ey : y = .ref a2 := by
            rw [List.getElem?_take_of_lt c1] at hy
            exact (Option.some.inj hy).symm
          rw [if_pos c1] at k2
          refine ⟨a2, b2, ey, BodyAt.mono s14 k2, by omega, ?_⟩
          rw [e3, if_neg (by decide), if_pos (by decide), if_neg (by decide), if_neg (by decide)]
          cases b2.asks r <;> rfl
      refine ⟨_, rfl, _, rfl, ns, a3, r, b3, rfl, by omega, hb3, fun v H5 s5 ev => ⟨_, ev, ?_⟩⟩
      cases eq : b3.asks r with
      | true =>
        refine iteT (q _ _ (s14.trans s5) ?_)
        rw [e1, e5, eq]
        rfl
      | false =>
        refine iteF ⟨_, rfl, s34.trans s5, ?_⟩
        rw [e5, eq]
        exact Bool.false_or _
    · rintro σ' H3 ⟨o3, rfl, s3, e3⟩
      refine ⟨_, _, rfl, s12.trans s3, ?_⟩
      rw [e1, e3, kl]
      have c3 : sm.kids = 0 ∨ sm.kids = 1 ∨ 2 ≤ sm.kids := by omega
      rcases c3 with c | c | c
      · rw [c] at k1 k2
        have k1 : b1 = .nil := k1
        have k2 : b2 = .nil := k2
        subst k1
        subst k2
        rw [c]
        rfl
      · rw [c] at k2
        have k2 : b2 = .nil := k2
        subst k2
        rw [c]
        rfl
      · rw [Nat.min_eq_right c]
        rfl
  · rintro σ' H1 ⟨o2, o3, rfl, s1, e1⟩
    refine q _ _ s1 ?_
    rw [e1, bodyV_end hb]
    rfl
theorem cal_asks (g : Gf K mg "_law_asks" sAsks ["body", "row"]) : ∀ k, Cal P w K mg base "_law_asks" (k + 1) ["body", "row"] (spAsks k)
  | 0 => g.cal fun f fd F => ⟨fun vs H Q E h => by
      obtain ⟨_, a, z, b, _, h, _⟩ := h
      exact absurd h (Nat.not_lt_zero _), fun A outer s H args us vs Q E _ _ _ _ h => by
      obtain ⟨_, a, z, b, _, h, _⟩ := h
      exact absurd h (Nat.not_lt_zero _)⟩
  | k + 1 => g.cal fun f fd F => ok_asks (cal_asks g k) F
end
end Er

namespace Er
open PySem L2
/-! the law's within and led -/
theorem lc_any {J : It} {n : Nat} {G : Hp → Prop} {Y : Nat → Hp → V → Hp → Prop} (w : Walk J n G Y) {g : TG} {tt : TT} {te : TE} {vs : List Nat} {σ : St} {H1 : Hp} {D : Addr} {Qd : Hp → Prop} (c : Nat → Bool)
    (hD : H1 D = none) (hG : ∀ H, Same H1 H → G H) (hn : n ≤ 100000)
    (hs : ∀ i x H H', i < n → Same H1 H → Y i H x H' → ∀ (Qt : V → Hp → Prop) (Qf : Hp → Prop), (c i = true → ∀ y H4, Same H H4 → Qt y H4) → (c i = false → ∀ H4, Same H H4 → Qf H4) → g x (wipe σ vs) H' fun σ2 H2 => wipe σ2 vs = wipe σ vs ∧ tt σ2 H2 fun b H3 => if b = true then te σ2 H3 Qt else Qf H3)
    (hd : ∀ H ys, Same H1 H → H D = some (.lst ys) → (ys = [] ↔ ∀ j, j < n → c j = false) → Qd H) :
    ∃ W : Nat → Nat → Hp → Prop, (∃ m, W 0 m (upd H1 D (.lst []))) ∧ ∀ i m H, W i m H →
      (J.stop i H ∧ Qd H) ∨ (J.go i H ∧ ∃ Nx : Hp → Prop, (∀ H', Nx H' → ∃ m', m' < m ∧ W (i + 1) m' H') ∧ ∀ x H', J.yld i H x H' → g x (wipe σ vs) H' fun σ2 H2 => wipe σ2 vs = wipe σ vs ∧ tt σ2 H2 fun b H3 =>
        if b = true then te σ2 H3 fun y H4 => ∃ acc, H4 D = some (.lst acc) ∧ acc.length < sizeLine ∧ Nx (upd H4 D (.lst (acc ++ [y]))) else Nx H3) := by
  refine lc_it w (fun i H => Same H1 H ∧ ∃ ys, H D = some (.lst ys) ∧ ys.length ≤ i ∧ (ys = [] ↔ ∀ j, j < i → c j = false)) ⟨same_new hD _, [], upd_same, Nat.le_refl _, by simp⟩ (fun i H _ p => hG H p.1) (fun i x H H' hi p y => ?_) (fun H p => ?_)
  · obtain ⟨s, ys, hy, hl, hc⟩ := p
    refine hs i x H H' hi s y (fun y H4 => ∃ acc, H4 D = some (.lst acc) ∧ acc.length < sizeLine ∧ (Same H1 (upd H4 D (.lst (acc ++ [y]))) ∧ ∃ ys, (upd H4 D (.lst (acc ++ [y]))) D = some (.lst ys) ∧ ys.length ≤ i + 1 ∧ (ys = [] ↔ ∀ j, j < i + 1 → c j = false)))
      (fun H3 => Same H1 H3 ∧ ∃ ys, H3 D = some (.lst ys) ∧ ys.length ≤ i + 1 ∧ (ys = [] ↔ ∀ j, j < i + 1 → c j = false)) (fun ct y H4 s4 => ?_) (fun cf H4 s4 => ?_)
    · refine ⟨ys, s4 _ _ hy, len_less (m := n) (by omega) hn, Same.mut (s.trans s4) hD, ys ++ [y], upd_same, by rw [List.length_append, List.length_singleton]; omega, ⟨fun e => ?_, fun e => ?_⟩⟩
      · simp at e
      · have := e i (Nat.lt_succ_self i)
        rw [ct] at this
        cases this
    · refine ⟨s.trans s4, ys, s4 _ _ hy, by omega, ⟨fun e j hj => ?_, fun e => hc.mpr fun j hj => e j (by omega)⟩⟩
      by_cases z : j = i
      · subst z
        exact cf
      · exact hc.mp e j (by omega)
  · obtain ⟨s, ys, hy, hl, hc⟩ := p
    exact hd H ys s hy hc
/-- within, by places -/
def outJ (rs : Rg) (xs : List Int) (j : Nat) : Bool := decide (xs.getD j 0 < (rs.getD j (0, 0)).1) || decide ((rs.getD j (0, 0)).2 < xs.getD j 0)
def wiB (rs : Rg) (xs : List Int) : Bool := decide (∀ j, j < xs.length → outJ rs xs j = false)
theorem wiB_true {rs : Rg} {xs : List Int} (hl : xs.length = rs.length) : wiB rs xs = true ↔ Wi xs rs := by
  unfold wiB
  rw [decide_eq_true_iff]
  constructor
  · intro h
    refine ⟨hl, fun j v p hv hp => ?_⟩
    have q := h j (lt_of_get hv)
    unfold outJ at q
    rw [getD_of hv, getD_of hp, Bool.or_eq_false_iff] at q
    have a := of_decide_eq_false q.1
    have b := of_decide_eq_false q.2
    omega
  · intro h j hj
    obtain ⟨v, hv⟩ := get_lt hj
    obtain ⟨p, hp⟩ := get_lt (l := rs) (j := j) (by omega)
    have q := h.2 j v p hv hp
    unfold outJ
    rw [getD_of hv, getD_of hp, Bool.or_eq_false_iff]
    exact ⟨decide_eq_false (by omega), decide_eq_false (by omega)⟩
section
variable {P : Program} {w : World} {K : PySem.W.Frag} {mg : Str → Option Value} {base : Heap} {f : Addr} {fd : FuncData} {CW CL : Addr}
def spWithin : Sp := fun vs H Q _ => ∃ (u v : V) (rs : Rg) (xs : List Int), vs = [u, v] ∧ RgAt H u rs ∧ VsAt H v xs ∧ xs.length = rs.length ∧ xs.length ≤ 100 ∧ Gives H (fun _ v => v = .bl (wiB rs xs)) Q
theorem scWithin : FnScope ["ranges", "values", "k"] ["ranges", "values"] (defScope sWithin) := ⟨rfl, rfl, rfl, by decide +kernel, rfl, by decide +kernel, by decide +kernel⟩
def tIxT (K : PySem.W.Frag) (i j : Nat) : TE := tOp (rIxT K) (tVar i) (tVar j)
theorem ok_within (X : Txt K mg CW CL) (F : Fun K "_law_within" "_law_within" sWithin f fd) : FnOk P w K mg base CX0 1 f fd ["ranges", "values"] spWithin := by
  refine F.ok scWithin (fun vs H Q E h => ?_) (fun cdv A outer s H vs Q E hr h => ?_)
  · obtain ⟨u, v, rs, xs, rfl, _⟩ := h
    rfl
  obtain ⟨u, v, rs, xs, rfl, ⟨a, us, rfl, ha, pr⟩, ⟨b, rfl, hb⟩, hl, h100, q⟩ := h
  have nd := scWithin.nd
  refine ⟨_, pss_one (ps_ret (pe_cmpR (op_eqNil (hu_of hr))
      (pe_lc (own := [("k", 2)]) (g := gName 2) (tt := tOr (tTest (tOp (rI0 fun i j => .bl (decide (i < j))) (tIxT K 1 2) (tOp (rIxT K) (tIxT K 0 2) (tC (.int 0))))) (tTest (tOp (rI0 fun i j => .bl (decide (j < i))) (tIxT K 1 2) (tOp (rIxT K) (tIxT K 0 2) (tC (.int 1))))))
        (te := tVar 2) rfl nd (pi_range1 (by rfl) X.zRange (pa_cons (pe_callB call_len_seq (by rfl) X.zLen PySem.boot_len (pa_cons (pv 1) pa_nil)) pa_nil))
        (blkOk_by (N := ["ranges", "values", "k"]) (sc := defScope sWithin) (by decide +kernel)) (fun _ _ _ _ _ => pg_name (i := 2) nd rfl (.inl rfl))
        (fun _ _ _ _ _ => pts_one (PW.pt (pw_or (pt_cmpR op_lt (pe_ix ix_tup (pv 1) (pv 2) (fun _ _ => rfl)) (pe_ix ix_tup (pe_ix ix_tup (pv 0) (pv 2) (fun _ _ => rfl)) pe_int (fun _ _ => rfl)) (nomark _))
          (pw_or1 (pt_cmpR op_gt (pe_ix ix_tup (pv 1) (pv 2) (fun _ _ => rfl)) (pe_ix ix_tup (pe_ix ix_tup (pv 0) (pv 2) (fun _ _ => rfl)) pe_int (fun _ _ => rfl)) (nomark _)))))) (fun _ _ _ _ _ => pv 2))
      (pe_lst pa_nil) (nomark _))), ?_⟩
  have lx : (xs.map V.int).length = xs.length := List.length_map _
  refine ⟨_, rfl, b, _, rfl, .inr (SqT.of hb), _, rfl, by omega, by omega, fun D hD =>
    lc_any (walk_range (lo := 0)) (fun j => outJ rs xs j) hD (fun _ _ => True.intro) (by rw [lx]; omega) (fun i x H4 H5 hi s4 hy Qt Qf kt kf => ?_) (fun H4 ys s4 hz hc => ?_)⟩
  · obtain ⟨rfl, rfl⟩ := hy
    have hi2 : i < xs.length := by rw [← lx]; omega
    obtain ⟨z, hz⟩ := get_lt hi2
    obtain ⟨p, hp⟩ := get_lt (l := rs) (j := i) (by omega)
    obtain ⟨c, hc, c2, rfl, hpc⟩ := pget pr hp
    have hpc := s4 _ _ hpc
    have ei : (0 : Int) + (i : Nat) = ((i : Nat) : Int) := by omega
    have av : atI (xs.map V.int) ((0 : Int) + (i : Nat)) = some (.int z) := by rw [ei]; exact atI_nat (by rw [List.getElem?_map, hz]; rfl)
    have ar : atI us ((0 : Int) + (i : Nat)) = some (.ref c2) := by rw [ei]; exact atI_nat hc
    have eo : outJ rs xs i = (decide (z < p.1) || decide (p.2 < z)) := by unfold outJ; rw [getD_of hz, getD_of hp]
    refine ⟨rfl, _, rfl, _, rfl, b, _, _, _, rfl, rfl, SqT.of (s4 _ _ hb), av, _, rfl, _, rfl, a, _, _, _, rfl, rfl, SqT.of (s4 _ _ ha), ar, c2, _, 0, _, rfl, rfl, SqT.of hpc, rfl, _, _, rfl, rfl, _, rfl, ?_⟩
    by_cases e1 : z < p.1
    · rw [decide_eq_true e1]
      exact iteT (iteT ⟨_, rfl, kt (by rw [eo, decide_eq_true e1]; rfl) _ _ (Same.refl _)⟩)
    · rw [decide_eq_false e1]
      refine iteF ⟨_, rfl, _, rfl, b, _, _, _, rfl, rfl, SqT.of (s4 _ _ hb), av, _, rfl, _, rfl, a, _, _, _, rfl, rfl, SqT.of (s4 _ _ ha), ar, c2, _, 1, _, rfl, rfl, SqT.of hpc, rfl, _, _, rfl, rfl, _, rfl, ?_⟩
      by_cases e2 : p.2 < z
      · rw [decide_eq_true e2]
        exact iteT ⟨_, rfl, kt (by rw [eo, decide_eq_true e2]; exact Bool.or_true _) _ _ (Same.refl _)⟩
      · rw [decide_eq_false e2]
        exact iteF (kf (by rw [eo, decide_eq_false e1, decide_eq_false e2]; rfl) _ (Same.refl _))
  rw [Int.toNat_natCast, lx] at hc
  refine ⟨Nat.zero_le _, fun e he => ?_⟩
  have g := same_new he (.lst [])
  refine ⟨D, e, ys, rfl, rfl, SqL.of (g _ _ hz), SqL.of upd_same, q _ _ (s4.trans g) ?_⟩
  congr 1
  unfold wiB
  cases ys with
  | nil => exact (decide_eq_true (hc.mp rfl)).symm
  | cons y ys => exact (decide_eq_false (fun z => by have := hc.mpr z; cases this)).symm
def spLed : Sp := fun vs H Q _ => ∃ (v st : V) (L : List (Int × Rg)) (r : Int) (xs : List Int), vs = [v, st] ∧ LstAt WayAt H v L ∧ StdAt H st r xs ∧ (∀ w ∈ L, w.2.length = xs.length) ∧ L.length ≤ 100 ∧ xs.length ≤ 100 ∧
  Gives H (fun H' v => ∃ l ys, v = .ref l ∧ H' l = some (.lst ys) ∧ ((∃ w ∈ L, w.1 = r ∧ Wi xs w.2) → ys ≠ [])) Q
theorem scLed : FnScope ["ways", "standing", "way"] ["ways", "standing"] (defScope sLed) := ⟨rfl, rfl, rfl, by decide +kernel, rfl, by decide +kernel, by decide +kernel⟩
theorem ok_led (C : Cal P w K mg base "_law_within" 1 ["ranges", "values"] spWithin) (F : Fun K "_law_led" "_law_led" sLed f fd) : FnOk P w K mg base CX0 2 f fd ["ways", "standing"] spLed := by
  refine F.ok scLed (fun vs H Q E h => ?_) (fun cdv A outer s H vs Q E hr h => ?_)
  · obtain ⟨v, st, L, r, xs, rfl, _⟩ := h
    rfl
  obtain ⟨v, st, L, r, xs, rfl, ⟨a, ys, rfl, ha, pr⟩, ⟨p, u, rfl, hp, hu⟩, hw, h100, hx, q⟩ := h
  have nd := scLed.nd
  refine ⟨_, pss_one (ps_ret (pe_lc (own := [("way", 2)]) (g := gName 2)
      (tt := tAnd (tTest (tOp rEq (tOp (rIxT K) (tVar 2) (tC (.int 0))) (tOp (rIxT K) (tVar 1) (tC (.int 0))))) (tB (tCall spWithin [] E0 (tCons (tOp (rIxT K) (tVar 2) (tC (.int 1))) (tCons (tOp (rIxT K) (tVar 1) (tC (.int 1))) tNil)))))
      (te := tVar 2) rfl nd (pi_list (pv 0)) (blkOk_by (N := ["ways", "standing", "way"]) (sc := defScope sLed) (by decide +kernel)) (fun _ _ _ _ _ => pg_name (i := 2) nd rfl (.inl rfl))
      (fun _ _ _ _ _ => pts_one (PW.pt (pw_and (pt_cmpR op_eq (pe_ix ix_tup (pv 2) pe_int (fun _ _ => rfl)) (pe_ix ix_tup (pv 1) pe_int (fun _ _ => rfl)) (nomark _)) (pw_and1 (pt_val (pe_cal C hr (pa_cons (pe_ix ix_tup (pv 2) pe_int (fun _ _ => rfl)) (pa_cons (pe_ix ix_tup (pv 1) pe_int (fun _ _ => rfl)) pa_nil))))))))
      (fun _ _ _ _ _ => pv 2))), ?_⟩
  have ln := pr.length
  let c : Nat → Bool := fun j => match L[j]? with
    | none => false
    | some w => decide (w.1 = r) && wiB w.2 xs
  refine ⟨_, rfl, a, rfl, ⟨_, SqL.of ha⟩, fun D hD =>
    lc_any (walk_list (xs := ys)) c hD (fun H s => SqL.of (s _ _ ha)) (by omega) (fun i x H4 H5 hi s4 hy Qt Qf kt kf => ?_) (fun H4 zs s4 hz hc => ?_)⟩
  · obtain ⟨rfl, hy⟩ := hy
    obtain ⟨w, hwi⟩ := get_lt (l := L) (j := i) (by omega)
    obtain ⟨y, hy', ⟨py, uy, rfl, hpy, hgy⟩⟩ := pget pr hwi
    rw [hy] at hy'
    cases hy'
    have ec : c i = (decide (w.1 = r) && wiB w.2 xs) := by show (match L[i]? with | none => false | some w => decide (w.1 = r) && wiB w.2 xs) = _; rw [hwi]
    refine ⟨rfl, _, rfl, py, _, 0, _, rfl, rfl, SqT.of (s4 _ _ hpy), rfl, _, rfl, p, _, 0, _, rfl, rfl, SqT.of (s4 _ _ hp), rfl, rfl, _, rfl, if_int (fun e => ?_) (fun e => iteF (kf (by rw [ec, decide_eq_false e]; rfl) _ (Same.refl _)))⟩
    refine ⟨_, rfl, py, _, 1, _, rfl, rfl, SqT.of (s4 _ _ hpy), rfl, _, rfl, p, _, 1, _, rfl, rfl, SqT.of (s4 _ _ hp), rfl, ?_⟩
    refine ⟨uy, u, w.2, xs, rfl, hgy.mono (.same s4), hu.mono (.same s4), (hw w (List.mem_of_getElem? hwi)).symm, hx, fun b H6 s6 eb => ⟨_, eb, ?_⟩⟩
    cases eq : wiB w.2 xs with
    | true => exact iteT ⟨_, rfl, kt (by rw [ec, decide_eq_true e, eq]; rfl) _ _ s6⟩
    | false => exact iteF (kf (by rw [ec, eq]; exact Bool.and_false _) _ s6)
  · refine q _ _ s4 ⟨D, zs, rfl, hz, fun ⟨w, hwm, hw1, hw2⟩ e => ?_⟩
    obtain ⟨j, hj⟩ := List.mem_iff_getElem?.mp hwm
    have cf := hc.mp e j (by rw [ln]; exact lt_of_get hj)
    have ec : c j = (decide (w.1 = r) && wiB w.2 xs) := by show (match L[j]? with | none => false | some w => decide (w.1 = r) && wiB w.2 xs) = _; rw [hj]
    rw [ec, decide_eq_true hw1, (wiB_true (hw w hwm).symm).mpr hw2] at cf
    cases cf
end
end Er

namespace Er
open PySem L2
/-! the law's step_right -/
def wData (r : Int) (g : Rg) : PyData := .list [.tuple [.int r, rData g]]
theorem eqv_way (r : Int) (g : Rg) : PyData.eqv (wData r g) (wData r g) = true := by
  unfold wData
  simp only [PyData.eqv, PyData.eqvAll, eqv_rg]
  simp
theorem shaped_way (r : Int) (g : Rg) : SeqAt.shaped (wData r g) = true := by
  have h := shaped_rg g
  unfold SeqAt.shaped at h ⊢
  rw [Bool.and_eq_true] at h ⊢
  have d : (rData g).depth ≤ 2 := by
    have := depth_rg g
    unfold rData
    simp only [PyData.depth]
    omega
  refine ⟨?_, decide_eq_true ?_⟩
  · unfold wData
    simp only [PyData.canLay0, PyData.canLayAll0, h.1, Bool.and_true, Bool.true_and]
  · unfold wData
    simp only [PyData.depth, PyData.depthAll]
    omega
theorem dp_way {K : PySem.W.Frag} {H : Hp} {l p : Addr} {u : V} {r : Int} {g : Rg} (hl : H l = some (.lst [.ref p])) (hp : H p = some (.tup [.int r, u])) (hu : RgAt H u g) : Dp K H (.ref l) (wData r g) :=
  .lst (SqL.of hl) (.cons (.tup (SqT.of hp) (.cons (.int _) (.cons (dp_rg hu) .nil))) .nil)
def rTupOf (K : PySem.W.Frag) : List V → Hp → VK → Prop := fun xs H Q => ∃ p ys, xs = [.ref p] ∧ ((SqL K H p ys ∧ ∀ l, H l = none → Q (.ref l) (upd H l (.tup ys))) ∨ (SqT K H p ys ∧ Q (.ref p) H))
/-- tuple([(value, value) for value in ..]) -/
theorem sing_read {K : PySem.W.Frag} {tl : TE} {a : Addr} {xs : List Int} {H : Hp} {Q : VK} {s0 s1 s2 s3 s4 s5 s6 s7 s8 s9 : Option V} (ha : H a = some (.tup (xs.map V.int))) (hx : xs.length ≤ 100) (htl : ∀ Q' : VK, Q' (.ref a) H → tl [s0, s1, s2, s3, s4, s5, s6, s7, s8, s9] H Q')
    (k : ∀ v H', Same H H' → RgAt H' v (sing xs) → Q v H') : tCB (rTupOf K) (tCons (tLc (iTup K tl) (gName 9) tYes (tTup (tCons (tVar 9) (tCons (tVar 9) tNil))) [9]) tNil) [s0, s1, s2, s3, s4, s5, s6, s7, s8, s9] H Q := by
  refine htl _ ⟨a, rfl, ⟨_, SqT.of ha⟩, fun D hD =>
    lc_all (walk_tup (xs := xs.map V.int)) (fun H i y => ∃ c, xs[i]? = some c ∧ PairAt H y (c, c)) (fun H H' i y t ⟨c, e, p⟩ => ⟨c, e, p.mono t⟩) hD (fun H s => SqT.same s (SqT.of ha)) (by rw [List.length_map]; omega) (fun i y H4 H5 hi s4 hy Q' k => ?_) (fun H4 zs s4 hz hl hR => ?_)⟩
  · obtain ⟨rfl, hy⟩ := hy
    rw [List.getElem?_map] at hy
    cases e : xs[i]? with
    | none => rw [e] at hy; cases hy
    | some c =>
      rw [e] at hy
      have hy : some (V.int c) = some y := hy
      cases hy
      exact ⟨rfl, _, rfl, _, rfl, by show 2 ≤ sizeLine; decide, fun t ht => k _ _ (same_new ht _) ⟨c, e, t, rfl, upd_same⟩⟩
  rw [List.length_map] at hl
  refine ⟨D, zs, rfl, .inl ⟨SqL.of hz, fun l hl2 => k _ _ (s4.trans (same_new hl2 _)) ⟨l, zs, rfl, upd_same, ?_⟩⟩⟩
  refine paired_of (by rw [sing_len]; exact hl) fun i a c h1 h2 => ?_
  obtain ⟨d, e, pa⟩ := hR i a h1
  obtain ⟨d', e', rfl⟩ := sing_get h2
  rw [e] at e'
  cases e'
  exact pa.mono (.new hl2 _)
section
variable {P : Program} {w : World} {K : PySem.W.Frag} {mg : Str → Option Value} {base : Heap} {f : Addr} {fd : FuncData} {CW CL : Addr}
def spRight : Sp := fun vs H Q _ => ∃ (v st bh : V) (kd : Addr) (bs : Bxs) (b : Bdy) (kvs : List (Key × V)) (fd : Fd) (r : Int) (xs ws : List Int) (rs : Rg) (s : Sm) (fig : Int), vs = [v, .ref kd, st, bh, .bl s.isAsk] ∧ PgAt (bnm bs) bs b H v ∧ PgOk bs b ∧ H kd = some (.dK kvs) ∧
  (∀ r : Int, DR H (valV kvs (Sum.inl r)) (fd r)) ∧ FdOk (btb b) (bsz bs) (first b 0) (bfs bs) fd ∧ (∀ r, Closed (btb b) (bsz bs) fd r) ∧ StdAt H st r xs ∧ Vok (bsz bs) xs ∧ fd r = some rs ∧ Wi xs rs ∧ btb b r = some (s, ws) ∧ OutAt H bh (stepM (bsz bs) s ws xs fig) ∧
  Gives H (fun _ v => v = .bl true) Q
theorem scRight : FnScope ["program", "known", "standing", "behind", "asks", "row", "values", "single", "due", "value"] ["program", "known", "standing", "behind", "asks"] (defScope sStepRight) := ⟨rfl, rfl, rfl, by decide +kernel, rfl, by decide +kernel, by decide +kernel⟩
theorem dr_at {H : Hp} {kvs : List (Key × V)} {fd : Fd} (h : ∀ r : Int, DR H (valV kvs (Sum.inl r)) (fd r)) {r : Int} {g : Rg} (e : fd r = some g) : ∃ v, valV kvs (Sum.inl r) = some v ∧ RgAt H v g := by
  have q := h r
  rw [e] at q
  cases c : valV kvs (Sum.inl r) with
  | none => rw [c] at q; exact q.elim
  | some v => rw [c] at q; exact ⟨v, rfl, q⟩
theorem ok_right (X : Txt K mg CW CL) (CI : Cal P w K mg base "_law_within" 1 ["ranges", "values"] spWithin) (CD : Cal P w K mg base "_law_led" 2 ["ways", "standing"] spLed) (CW2 : Cal P w K mg base "ways_from" 45 ["program", "row", "ranges"] spWays)
    (F : Fun K "_law_step_right" "_law_step_right" sStepRight f fd) : FnOk P w K mg base CX0 46 f fd ["program", "known", "standing", "behind", "asks"] spRight := by
  refine F.ok scRight (fun vs H Q E h => ?_) (fun cdv A outer s H vs Q E hr h => ?_)
  · obtain ⟨v, st, bh, kd, bs, b, kvs, fd, r, xs, ws, rs, s, fig, rfl, _⟩ := h
    rfl
  obtain ⟨v, st, bh, kd, bs, b, kvs, fd, r, xs, ws, rs, sm, fig, rfl, hp, ok, hkd, hdr, hfd, hcl, hst, hvo, hrs, hwi, hT, hout, q⟩ := h
  have nd := scRight.nd
  have pg := ok.pgm
  have hr1 : Room 1 _ := hr.mono (by decide)
  have hr2 : Room 2 _ := hr.mono (by decide)
  refine ⟨_, pss_cons (ps_asg (pv 2) (pg_tup rfl (pgs_cons (pg_name (i := 5) nd rfl (.inl rfl)) (pgs_cons (pg_name (i := 6) nd rfl (.inl rfl)) pgs_nil))))
    (pss_cons (ps_if (PW.pt (pw_or (pt_cmp (pc_dnotin (hu_of hr) (pv 5) (pv 1))) (pw_or1 (pt_not (pt_val (pe_cal CI hr1 (pa_cons (pe_dget (hu_of hr) (pv 1) (pv 5) (fun _ _ => rfl)) (pa_cons (pv 6) pa_nil)))))))) (pss_one (ps_ret pe_bl)) pss_nil)
    (pss_cons (ps_set (i := 7) nd rfl (.inl rfl) (pe_cal CW2 hr (pa_cons (pv 0) (pa_cons (pv 5) (pa_cons (pe_callTy (r := rTupOf K) call_tuple_of (by rfl) X.zTuple (by decide +kernel) (pa_cons
        (pe_lc (own := [("value", 9)]) (g := gName 9) (tt := tYes) (te := tTup (tCons (tVar 9) (tCons (tVar 9) tNil))) rfl nd (pi_tup (pv 6)) (blkOk_by (N := ["program", "known", "standing", "behind", "asks", "row", "values", "single", "due", "value"]) (sc := defScope sStepRight) (by decide +kernel))
          (fun _ _ _ _ _ => pg_name (i := 9) nd rfl (.inl rfl)) (fun _ _ _ _ _ => pts_nil) (fun _ _ _ _ _ => pe_tup (pa_cons (pv 9) (pa_cons (pv 9) pa_nil)))) pa_nil)) pa_nil)))))
    (pss_cons (ps_if (pt_cmp (pc_isN (pv 3))) (pss_one (ps_ret (pe_cmpR (op_eqNil (hu_of hr)) (pv 7) (pe_lst pa_nil) (nomark _)))) pss_nil)
    (pss_cons (ps_if (PW.pt (pw_or (pt_cmpR (op_eqNil (hu_of hr)) (pe_cal CD hr2 (pa_cons (pe_cal CW2 hr (pa_cons (pv 0) (pa_cons (pv 5) (pa_cons (pe_dget (hu_of hr) (pv 1) (pv 5) (fun _ _ => rfl)) pa_nil)))) (pa_cons (pv 3) pa_nil))) (pe_lst pa_nil) (nomark _))
        (pw_or1 (pt_cmpR (op_eqNil (hu_of hr)) (pe_cal CD hr2 (pa_cons (pv 7) (pa_cons (pv 3) pa_nil))) (pe_lst pa_nil) (nomark _))))) (pss_one (ps_ret pe_bl)) pss_nil)
    (pss_cons (ps_set (i := 8) nd rfl (.inl rfl) (pe_callTy (r := rTupOf K) call_tuple_of (by rfl) X.zTuple (by decide +kernel) (pa_cons
        (pe_lc (own := [("value", 9)]) (g := gName 9) (tt := tYes) (te := tTup (tCons (tVar 9) (tCons (tVar 9) tNil))) rfl nd (pi_tup (pe_ix ix_tup (pv 3) pe_int (fun _ _ => rfl))) (blkOk_by (N := ["program", "known", "standing", "behind", "asks", "row", "values", "single", "due", "value"]) (sc := defScope sStepRight) (by decide +kernel))
          (fun _ _ _ _ _ => pg_name (i := 9) nd rfl (.inl rfl)) (fun _ _ _ _ _ => pts_nil) (fun _ _ _ _ _ => pe_tup (pa_cons (pv 9) (pa_cons (pv 9) pa_nil)))) pa_nil)))
    (pss_one (ps_ret (pe_and (pe_cmpR op_eq (pe_callB call_len_seq (by rfl) X.zLen PySem.boot_len (pa_cons (pv 7) pa_nil)) pe_int (nomark _)) (pe_one (pe_or (pv 4) (pe_one (pe_cmpR (op_eqD hr.units) (pv 7) (pe_lst (pa_cons (pe_tup (pa_cons (pe_ix ix_tup (pv 3) pe_int (fun _ _ => rfl)) (pa_cons (pv 8) pa_nil))) pa_nil)) (nomark _))))))))))))), ?_⟩
  obtain ⟨ps, u, rfl, hps, hu⟩ := id hst
  obtain ⟨ua, rfl, hua⟩ := id hu
  obtain ⟨rokrs, _⟩ := hfd.rows r rs hrs
  have okk := pg.tab.ok r sm ws hT
  have okn : sm.Ok (bsz bs).length := by rw [← pg.len]; exact okk.1
  have n4 : (bsz bs).length ≤ 4 := by rw [← pg.len]; exact pg.few
  have lxs : xs.length ≤ 100 := by rw [hvo.1]; omega
  have wT : ∀ g, waysT (btb b) (bsz bs) r g = ways (bsz bs) sm ws g := fun g => by unfold waysT; rw [hT]
  refine ⟨_, rfl, ps, _, rfl, SqT.of hps, rfl, _, _, rfl, _, _, rfl, rfl, ?_⟩
  obtain ⟨z, hz, hrgz⟩ := dr_at hdr hrs
  refine ⟨_, rfl, _, rfl, kd, _, rfl, DGet.k (k := Sum.inl r) hkd, _, rfl, ?_⟩
  rw [hz]
  refine iteF ⟨_, rfl, _, rfl, kd, z, rfl, dget_int hkd hz, _, rfl, z, .ref ua, rs, xs, rfl, hrgz, hu, hwi.1, lxs, fun v1 H1 s1 e1 => ⟨_, e1, ?_⟩⟩
  rw [(wiB_true hwi.1).mpr hwi]
  refine iteF ?_
  refine ⟨_, rfl, _, rfl, sing_read (s1 _ _ hua) lxs (fun Q' h => ⟨_, rfl, h⟩) (fun v2 H2 s2 r2 => ?_)⟩
  have s12 := s1.trans s2
  refine ⟨v, v2, bs, b, r, sing xs, rfl, hp.mono s12, ok, r2, rok_sing hvo, .inr ⟨_, hT⟩, fun v3 H3 s3 r3 => ?_⟩
  have s13 := s12.trans s3
  obtain ⟨l3, ys3, rfl, hl3, pr3⟩ := id r3
  have sg := ways_sing (fig := fig) pg.sz hvo.1 okn okk.2
  refine ⟨_, rfl, _, rfl, ?_⟩
  rw [wT] at pr3 r3
  cases e : stepM (bsz bs) sm ws xs fig with
  | none =>
    rw [e] at sg hout
    have sg : ways (bsz bs) sm ws (sing xs) = [] := sg
    have hout : bh = .non := hout
    subst hout
    rw [sg] at pr3
    have ey : ys3 = [] := by cases pr3; rfl
    subst ey
    rw [decide_eq_true (show V.non = V.non from rfl)]
    refine iteT ⟨_, rfl, Nat.zero_le _, fun e he => ?_⟩
    have g := same_new he (.lst [])
    exact ⟨l3, e, [], rfl, rfl, SqL.of (g _ _ hl3), SqL.of upd_same, q _ _ (s13.trans g) rfl⟩
  | some o =>
    obtain ⟨r', xs'⟩ := o
    rw [e] at sg hout
    obtain ⟨g, eg, wg, ng⟩ : ∃ g, ways (bsz bs) sm ws (sing xs) = [(r', g)] ∧ Wi xs' g ∧ (sm.isAsk = false → g = sing xs') := sg
    obtain ⟨pb, ub, rfl, hpb, hub⟩ : StdAt H bh r' xs' := hout
    have hstb : StdAt H (.ref pb) r' xs' := ⟨pb, ub, rfl, hpb, hub⟩
    obtain ⟨uba, rfl, huba⟩ := id hub
    obtain ⟨rokg, _⟩ := ways_ok (r := r') (g := g) pg.sz (rok_sing hvo) okn okk.2 (by rw [eg]; exact List.mem_singleton.mpr rfl)
    have vo' := Vok.of rokg wg
    have lxs' : xs'.length ≤ 100 := by rw [vo'.1]; omega
    obtain ⟨g2, hg2, wg2⟩ := ways_sound (fig := fig) pg.sz rokrs.1 hwi okn okk.2 e
    rw [eg] at pr3 r3
    rw [decide_eq_false (show V.ref pb ≠ V.non by intro c; cases c)]
    refine iteF ?_
    -- the ways from the known ranges
    refine ⟨_, rfl, _, rfl, _, rfl, _, rfl, kd, z, rfl, dget_int (s13 _ _ hkd) hz, v, z, bs, b, r, rs, rfl, hp.mono s13, ok, hrgz.mono (.same s13), rokrs, .inr ⟨_, hT⟩, fun v4 H4 s4 r4 => ?_⟩
    rw [wT] at r4
    have s14 := s13.trans s4
    have wl : (ways (bsz bs) sm ws rs).length ≤ 2 := ways_len
    refine ⟨_, rfl, v4, .ref pb, ways (bsz bs) sm ws rs, r', xs', rfl, r4, hstb.mono (.same s14), (fun w hw => by rw [(ways_ok (r := w.1) (g := w.2) pg.sz rokrs okn okk.2 hw).1.1, vo'.1]), Nat.le_trans wl (by decide), lxs', fun v5 H5 s5 ⟨l5, ys5, ev, hl5, ne5⟩ => ?_⟩
    subst ev
    refine ⟨Nat.zero_le _, fun e1 he1 => ?_⟩
    have g5 := same_new he1 (.lst [])
    have n5 : ys5.isEmpty = false := by
      cases ys5 with
      | nil => exact absurd rfl (ne5 ⟨_, hg2, rfl, wg2⟩)
      | cons y ys => rfl
    refine ⟨l5, e1, ys5, rfl, rfl, SqL.of (g5 _ _ hl5), SqL.of upd_same, _, rfl, ?_⟩
    rw [n5]
    refine iteF ?_
    have s35 := (s4.trans s5).trans g5
    have s15 := s13.trans s35
    generalize upd H5 e1 (.lst []) = H6 at s35 s15
    have r6 : LstAt WayAt H6 (.ref l3) [(r', g)] := LstAt.mono (R := WayAt) (fun _ _ _ _ t h => WayAt.mono t h) s35 r3
    refine ⟨_, rfl, _, rfl, .ref l3, .ref pb, [(r', g)], r', xs', rfl, r6, hstb.mono (.same s15), (fun w hw => by rw [List.mem_singleton.mp hw, rokg.1, vo'.1]), by show 1 ≤ 100; decide, lxs', fun v7 H7 s7 ⟨l7, ys7, ev, hl7, ne7⟩ => ?_⟩
    subst ev
    refine ⟨Nat.zero_le _, fun e2 he2 => ?_⟩
    have g7 := same_new he2 (.lst [])
    have n7 : ys7.isEmpty = false := by
      cases ys7 with
      | nil => exact absurd rfl (ne7 ⟨_, List.mem_singleton.mpr rfl, rfl, wg⟩)
      | cons y ys => rfl
    refine ⟨l7, e2, ys7, rfl, rfl, SqL.of (g7 _ _ hl7), SqL.of upd_same, _, rfl, ?_⟩
    rw [n7]
    refine iteF ?_
    have s68 := s7.trans g7
    have s18 := s15.trans s68
    generalize upd H7 e2 (.lst []) = H8 at s68 s18
    have r8 : LstAt WayAt H8 (.ref l3) [(r', g)] := LstAt.mono (R := WayAt) (fun _ _ _ _ t h => WayAt.mono t h) s68 r6
    show tCB (rTupOf K) (tCons (tLc (iTup K (tOp (rIxT K) (tVar 3) (tC (.int 1)))) (gName 9) tYes (tTup (tCons (tVar 9) (tCons (tVar 9) tNil))) [9]) tNil) _ H8 _
    refine sing_read (s18 _ _ huba) lxs' (fun Q' h => ⟨_, rfl, pb, _, 1, _, rfl, rfl, SqT.of (s18 _ _ hpb), rfl, h⟩) (fun v9 H9 s9 r9 => ?_)
    have s19 := s18.trans s9
    obtain ⟨l3', ys9, el, hl9, pr9⟩ := LstAt.mono (R := WayAt) (fun _ _ _ _ t h => WayAt.mono t h) s9 r8
    cases el
    cases pr9 with
    | cons hw9 tl9 =>
      cases tl9
      obtain ⟨p9, u9, rfl, hp9, hu9⟩ := hw9
      refine ⟨_, rfl, l3, _, rfl, .inl (SqL.of hl9), rfl, _, rfl, if_int (fun _ => ?_) (fun c => absurd rfl c)⟩
      refine ⟨_, rfl, sm.isAsk, rfl, ?_⟩
      cases ea : sm.isAsk with
      | true => exact iteT (q _ _ s19 rfl)
      | false =>
        have hg := ng ea
        subst hg
        refine iteF ⟨_, rfl, _, rfl, pb, _, 0, _, rfl, rfl, SqT.of (s19 _ _ hpb), rfl, _, rfl, by show 2 ≤ sizeLine; decide, fun t ht => ⟨by show 1 ≤ sizeLine; decide, fun l hl => ?_⟩⟩
        have gt := same_new ht (.tup [.int r', v9])
        have gl := same_new hl (.lst [.ref t])
        have gg := gt.trans gl
        refine ⟨wData r' (sing xs'), wData r' (sing xs'), dp_way (gg _ _ hl9) (gg _ _ hp9) (hu9.mono (.same gg)), dp_way upd_same (gl _ _ upd_same) (r9.mono (.same gg)), shaped_way _ _, shaped_way _ _, ?_⟩
        rw [eqv_way]
        exact q _ _ (s19.trans gg) rfl
end
end Er

namespace Er
open PySem L2
/-! the law -/
theorem ints_of : ∀ {ys : List V}, (∀ (i : Nat) y, ys[i]? = some y → ∃ n : Int, y = .int n) → ∃ ns : List Int, ys = ns.map V.int
  | [], _ => ⟨[], rfl⟩
  | y :: ys, h => by
    obtain ⟨n, rfl⟩ := h 0 y rfl
    obtain ⟨ns, rfl⟩ := ints_of (ys := ys) fun i z hz => h (i + 1) z (by simpa using hz)
    exact ⟨n :: ns, rfl⟩
theorem seq_zero (n : Nat) : seqIndex? 0 (n + 1) = some 0 := by
  refine (ixN_seq (n := n + 1) (i := 0) (j := 0) ?_).1
  unfold ixN
  rw [if_pos (by decide), if_pos (by omega)]
  rfl
theorem merge_new : ∀ (kvs acc : List (Key × V)), ((acc ++ kvs).map (·.1)).Nodup → mergeK acc kvs = acc ++ kvs
  | [], acc, _ => (List.append_nil acc).symm
  | kv :: r, acc, nd => by
    have e : acc ++ kv :: r = acc ++ [kv] ++ r := by simp
    have no : valV acc kv.1 = none := by
      cases c : valV acc kv.1 with
      | none => rfl
      | some v =>
        rw [List.map_append] at nd
        exact absurd rfl ((List.nodup_append.mp nd).2.2 kv.1 (valV_in c) kv.1 List.mem_cons_self)
    show mergeK (putK acc kv.1 kv.2) r = _
    rw [putK_new _ no, e]
    exact merge_new r _ (by rw [e] at nd; exact nd)
theorem merge_keys {kvs : List (Key × V)} {ks : List Int} (e : kvs.map (·.1) = ks.map Sum.inl) (nd : ks.Nodup) : mergeK [] kvs = kvs :=
  merge_new kvs [] (by rw [List.nil_append, e]; exact List.pairwise_map.mpr (nd.imp fun h c => h (Sum.inl.inj c)))
section
variable {P : Program} {w : World} {K : PySem.W.Frag} {mg : Str → Option Value} {base : Heap} {f : Addr} {fd : FuncData} {CW CL : Addr}
def spLaw (K : PySem.W.Frag) : Sp := fun vs H Q _ => ∃ (a : Addr) (ns : List Int), vs = [.ref a] ∧ SqL K H a (ns.map V.int) ∧ ns.length ≤ 63 ∧ ∀ H', Q (.bl true) H'
theorem scLaw : FnScope ["script", "boxes", "program", "known", "standing", "figures", "turn", "asks", "figure", "behind", "k"] ["script"] (defScope sLaw) := ⟨rfl, rfl, rfl, by decide +kernel, rfl, by decide +kernel, by decide +kernel⟩
theorem ok_law (X : Txt K mg CW CL) (CT : Cal P w K mg base "_law_take" 1 ["state", "many"] spTake) (CS : Cal P w K mg base "_law_state" 1 ["script", "k"] (spState K)) (CB : Cal P w K mg base "_law_boxes" 2 ["script"] (spBoxes K)) (CY : Cal P w K mg base "_law_body" 5 ["script", "boxes"] (spBody K))
    (CG : Cal P w K mg base "least_ranges" 45 ["program"] spLeast) (CF : Cal P w K mg base "first_standing" 43 ["program"] spFirstStanding) (CI : Cal P w K mg base "_law_within" 1 ["ranges", "values"] spWithin) (CA : Cal P w K mg base "_law_asks" 27 ["body", "row"] (spAsks 26))
    (CP : Cal P w K mg base "step" 43 ["program", "standing", "figure"] spStep) (CR : Cal P w K mg base "_law_step_right" 46 ["program", "known", "standing", "behind", "asks"] spRight) (F : Fun K "law" "law" sLaw f fd) : FnOk P w K mg base CX0 47 f fd ["script"] (spLaw K) := by
  refine F.ok scLaw (fun vs H Q E h => ?_) (fun cdv A outer s H vs Q E hr h => ?_)
  · obtain ⟨a, ns, rfl, _⟩ := h
    rfl
  obtain ⟨a, ns, rfl, hS, h63, q⟩ := h
  have nd := scLaw.nd
  have hr1 : Room 1 _ := hr.mono (by decide)
  have hr2 : Room 2 _ := hr.mono (by decide)
  have hr5 : Room 5 _ := hr.mono (by decide)
  have hr45 : Room 45 _ := hr.mono (by decide)
  have hr43 : Room 43 _ := hr.mono (by decide)
  have hr27 : Room 27 _ := hr.mono (by decide)
  refine ⟨_, pss_cons (ps_set (i := 1) nd rfl (.inl rfl) (pe_cal CB hr2 (pa_cons (pv 0) pa_nil)))
    (pss_cons (ps_set (i := 2) nd rfl (.inl rfl) (pe_tup (pa_cons (pv 1) (pa_cons (pe_cal CY hr5 (pa_cons (pv 0) (pa_cons (pv 1) pa_nil))) pa_nil))))
    (pss_cons (ps_set (i := 3) nd rfl (.inl rfl) (pe_callTy (call_dictP rfl) (by rfl) X.zDict (by decide +kernel) (pa_cons (pe_cal CG hr45 (pa_cons (pv 2) pa_nil)) pa_nil)))
    (pss_cons (ps_set (i := 4) nd rfl (.inl rfl) (pe_cal CF hr43 (pa_cons (pv 2) pa_nil)))
    (pss_cons (ps_setLc (i := 5) (own := [("k", 10)]) (g := gName 10) (tt := tYes) (te := tCall spTake [] E0 (tCons (tCall (spState K) [] E0 (tCons (tVar 0) (tCons (tVar 10) tNil))) (tCons (tC (.int 10)) tNil))) rfl nd rfl rfl (by rfl)
        (pi_range2 (by rfl) X.zRange (pa_cons pe_int (pa_cons pe_int pa_nil))) (blkOk_by (N := ["script", "boxes", "program", "known", "standing", "figures", "turn", "asks", "figure", "behind", "k"]) (sc := defScope sLaw) (by decide +kernel))
        (fun _ _ _ _ _ => pg_name (i := 10) nd rfl (.inl rfl)) (fun _ _ _ _ _ => pts_nil) (fun _ _ _ _ _ => pe_cal CT hr1 (pa_cons (pe_cal CS hr1 (pa_cons (pv 0) (pa_cons (pv 10) pa_nil))) (pa_cons pe_int pa_nil))))
    (pss_cons (ps_for PassesOwn.never rfl (pi_range1 (by rfl) X.zRange (pa_cons pe_int pa_nil)) (pg_name (i := 6) nd rfl (.inl rfl))
      (pss_cons (ps_if (pt_cmpR op_eq (pe_ix ix_tup (pv 4) pe_int (fun _ _ => rfl)) pe_int (nomark _))
        (pss_one (ps_ret (pe_and (pe_cmp (pc_din (hu_of hr) pe_int (pv 3))) (pe_one (pe_cal CI hr1 (pa_cons (pe_dget (hu_of hr) (pv 3) pe_int (fun _ _ => rfl)) (pa_cons (pe_ix ix_tup (pv 4) pe_int (fun _ _ => rfl)) pa_nil))))))) pss_nil)
      (pss_cons (ps_set (i := 7) nd rfl (.inl rfl) (pe_cal CA hr27 (pa_cons (pe_ix ix_tup (pv 2) pe_int (fun _ _ => rfl)) (pa_cons (pe_ix ix_tup (pv 4) pe_int (fun _ _ => rfl)) pa_nil))))
      (pss_cons (ps_set (i := 8) nd rfl (.inl rfl) pe_non)
      (Evl.pss_cut (ps_if (PW.pt (pw_and (pt_val (pv 7)) (pw_and1 (pt_cmpR (op_eqNil (hu_of hr)) (pv 5) (pe_lst pa_nil) (nomark _)))))
        (pss_one (ps_ret (pe_and (pe_cmp (pc_din (hu_of hr) (pe_ix ix_tup (pv 4) pe_int (fun _ _ => rfl)) (pv 3))) (pe_one (pe_cal CI hr1 (pa_cons (pe_dget (hu_of hr) (pv 3) (pe_ix ix_tup (pv 4) pe_int (fun _ _ => rfl)) (fun _ _ => rfl)) (pa_cons (pe_ix ix_tup (pv 4) pe_int (fun _ _ => rfl)) pa_nil))))))) pss_nil)
      (Evl.pss_cut (ps_if (pt_val (pv 7)) (pss_one (ps_set (i := 8) nd rfl (.inl rfl) (pe_bm PySem.F.plainAttrs_list PySem.F.slot_list_pop PySem.F.type_list_pop mt_popAt (pv 5) (pa_cons pe_int pa_nil)))) pss_nil)
      (pss_cons (ps_set (i := 9) nd rfl (.inl rfl) (pe_ix ix_tup (pe_cal CP hr43 (pa_cons (pv 2) (pa_cons (pv 4) (pa_cons (pv 8) pa_nil)))) pe_int (fun _ _ => rfl)))
      (pss_cons (ps_if (pt_not (pt_val (pe_cal CR hr (pa_cons (pv 2) (pa_cons (pv 3) (pa_cons (pv 4) (pa_cons (pv 9) (pa_cons (pv 7) pa_nil)))))))) (pss_one (ps_ret pe_bl)) pss_nil)
      (pss_cons (ps_if (pt_cmp (pc_isN (pv 9))) (pss_one (ps_ret pe_bl)) pss_nil)
      (pss_one (ps_set (i := 4) nd rfl (.inl rfl) (pv 9))))))))))))
    (pss_one (ps_ret pe_bl))))))), ?_⟩
  refine ⟨_, rfl, a, ns, rfl, hS, fun v1 H1 s1 ⟨bs, hbx, bok⟩ => ?_⟩
  obtain ⟨lb, yb, rfl, hlb, prb⟩ := id hbx
  refine ⟨_, rfl, _, rfl, _, rfl, a, lb, ns, bs, rfl, s1.seq hS, by omega, hbx, bok.few, fun v2 H2 s2 ⟨rt, B, ev, hB, okB, ndB, szB⟩ => ⟨by show 2 ≤ sizeLine; decide, fun pp hpp => ?_⟩⟩
  subst ev
  have g3 := same_new hpp (.tup [.ref lb, .ref rt])
  have hbx3 : LstAt BoxAt (upd H2 pp (.tup [.ref lb, .ref rt])) (.ref lb) bs := LstAt.mono (R := BoxAt) (fun _ _ _ _ t h => BoxAt.mono t h) (s2.trans g3) hbx
  have hpg : PgAt (bnm bs) bs B (upd H2 pp (.tup [.ref lb, .ref rt])) (.ref pp) := ⟨pp, .ref lb, rt, rfl, upd_same, hbx3, hB.mono g3⟩
  have s03 := (s1.trans s2).trans g3
  have hpp3 : (upd H2 pp (.tup [.ref lb, .ref rt])) pp = some (.tup [.ref lb, .ref rt]) := upd_same
  have hB3 := hB.mono g3
  generalize upd H2 pp (.tup [.ref lb, .ref rt]) = H3 at hpg s03 hpp3 hB3
  have ok : PgOk bs B := ⟨bok.nd, bok.sz, bok.fs, okB, ndB, by omega, by have := bok.few; omega⟩
  have pg := ok.pgm
  refine ⟨_, rfl, .ref pp, bs, B, rfl, hpg, ok, fun v4 H4 s4 ⟨kvs, ks, fd, ⟨l4, ps4, ev, hl4, pr4⟩, ek, ndk, hdr, hfd, hcl⟩ => ?_⟩
  subst ev
  refine ⟨l4, ps4, kvs, rfl, SqL.of hl4, Paired.mapP pr4 fun _ _ h => SqT.of h, fun kd hkd => ?_⟩
  rw [merge_keys ek ndk]
  have g5 := same_new hkd (.dK kvs)
  have s35 := s4.trans g5
  have hkd5 : (upd H4 kd (.dK kvs)) kd = some (.dK kvs) := upd_same
  have hdr5 : ∀ r : Int, DR (upd H4 kd (.dK kvs)) (valV kvs (Sum.inl r)) (fd r) := fun r => (hdr r).mono (.same g5)
  generalize upd H4 kd (.dK kvs) = H5 at s35 hkd5 hdr5
  refine ⟨_, rfl, .ref pp, bs, B, rfl, hpg.mono s35, ok, fun st6 H6 s6 hst6 => ?_⟩
  have s36 := s35.trans s6
  have s06 := s03.trans s36
  -- the figures
  refine ⟨_, _, rfl, ⟨by decide, by decide, by decide, by decide⟩, fun D hD =>
    lc_all (walk_range (lo := 26)) (fun _ _ y => ∃ n : Int, y = .int n) (fun _ _ _ _ _ h => h) hD (fun _ _ => True.intro) (by decide) (fun i x H7 H8 hi s7 hy Q' k => ?_) (fun H7 ys s7 hz hl hR => ?_)⟩
  · obtain ⟨rfl, rfl⟩ := hy
    have ei : (26 : Int) + (i : Nat) = ((26 + i : Nat) : Int) := by omega
    refine ⟨rfl, _, rfl, _, rfl, a, 26 + i, ns, by rw [← ei]; rfl, (s06.trans s7).seq hS, fun t H9 ht s9 st9 => ⟨t, 10, rfl, st9, by decide, by decide, fun r H10 b10 _ _ _ => k _ _ (b10.out s9 ht) ⟨r, rfl⟩⟩⟩
  obtain ⟨figs, rfl⟩ := ints_of hR
  obtain ⟨f0, hf0, wf0⟩ := hfd.first
  refine ⟨_, rfl, by decide, by decide, for_it (walk_range (lo := 0)) (fun i σ' H' => ∃ (r : Int) (xs : List Int) (stv : V) (figs : List Int) (o6 o7 o8 o9 : Option V), σ' = [some (.ref a), some (.ref lb), some (.ref pp), some (.ref kd), some stv, some (.ref D), o6, o7, o8, o9, none] ∧ Same H6 H' ∧
    H' D = some (.lst (figs.map V.int)) ∧ StdAt H' stv r xs ∧ Vok (bsz bs) xs ∧ ∃ rs, fd r = some rs ∧ Wi xs rs) ⟨_, _, st6, figs, none, none, none, none, rfl, s7, hz, hst6.mono (.same s7), ok.fs, f0, hf0, wf0⟩ (fun _ _ _ _ _ => True.intro) ?_ (fun σ' H' _ => q H')⟩
  rintro i x σ' Hd H0 hi ⟨r, xs, stv, figs, o6, o7, o8, o9, rfl, s60, hD0, hst, hvo, rs, hrs, hwi⟩ ⟨rfl, rfl⟩
  obtain ⟨ps, u, rfl, hps, hu⟩ := id hst
  have hkd0 : H0 kd = some (.dK kvs) := s60 _ _ (s6 _ _ hkd5)
  have lxs : xs.length ≤ 100 := by
    rw [hvo.1, ← pg.len]
    exact Nat.le_trans pg.few (by decide)
  have hdr0 : ∀ {Hk : Hp}, Same H6 Hk → ∀ r : Int, DR Hk (valV kvs (Sum.inl r)) (fd r) := fun s r => (hdr5 r).mono (.same (s6.trans s))
  obtain ⟨z, hz2, hrgz⟩ := dr_at (hdr0 s60) hrs
  have hwt := (wiB_true hwi.1).mpr hwi
  refine ⟨_, rfl, ps, _, 0, _, rfl, rfl, SqT.of hps, rfl, rfl, _, rfl, if_int (fun e => ?_) (fun e => ?_)⟩
  · subst e
    refine ⟨_, rfl, kd, _, rfl, DGet.k (k := Sum.inl 0) hkd0, _, rfl, ?_⟩
    rw [hz2]
    refine iteT ⟨_, rfl, kd, z, rfl, dget_int hkd0 hz2, _, rfl, ps, _, 1, _, rfl, rfl, SqT.of hps, rfl, z, u, rs, xs, rfl, hrgz, hu, hwi.1, lxs, fun v H' s e => ?_⟩
    subst e
    rw [hwt]
    exact q H'
  obtain ⟨rokrs, hrow⟩ := hfd.rows r rs hrs
  obtain ⟨⟨sm, ws⟩, hT⟩ := hrow.resolve_left e
  have hpp0 := s60 _ _ (s36 _ _ hpp3)
  have hB0 := hB3.mono (s36.trans s60)
  have hpg0 : ∀ {Hk : Hp}, Same H6 Hk → PgAt (bnm bs) bs B Hk (.ref pp) := fun s => hpg.mono (s36.trans s)
  have ask : B.asks r = sm.isAsk := asks_at ndB (tabOf_mem hT)
  have hdep : B.dep < 26 := by
    have := dep_size B
    omega
  refine ⟨_, rfl, pp, _, 1, _, rfl, rfl, SqT.of hpp0, rfl, _, rfl, ps, _, 0, _, rfl, rfl, SqT.of hps, rfl, bnm bs, rt, r, B, rfl, hdep, hB0, fun v8 H8 s8 e8 => ?_⟩
  rw [ask] at e8
  subst e8
  have s68 := s60.trans s8
  have hD8 := s8 _ _ hD0
  have hps8 := s8 _ _ hps
  refine ⟨fun σ' H' => ∃ t, σ' = [some (.ref a), some (.ref lb), some (.ref pp), some (.ref kd), some (.ref ps), some (.ref D), some t, some (.bl sm.isAsk), some .non, o9, none] ∧ Same H8 H' ∧ (sm.isAsk = true → figs ≠ []), ?_, ?_⟩
  · refine ⟨_, rfl, _, rfl, ?_⟩
    cases ea : sm.isAsk with
    | false => exact iteF (iteF ⟨_, rfl, Same.refl _, fun c => nomatch c⟩)
    | true =>
      refine iteT ⟨_, rfl, Nat.zero_le _, fun e1 he1 => ?_⟩
      have g := same_new he1 (.lst [])
      refine ⟨D, e1, _, rfl, rfl, SqL.of (g _ _ hD8), SqL.of upd_same, _, rfl, ?_⟩
      have s9 := s68.trans g
      have hps9 := g _ _ hps8
      cases figs with
      | cons n figs => exact iteF ⟨_, rfl, g, fun _ c => nomatch c⟩
      | nil =>
        have hkd9 : (upd H8 e1 (.lst [])) kd = some (.dK kvs) := s9 _ _ (s6 _ _ hkd5)
        obtain ⟨z9, hz9, hrg9⟩ := dr_at (hdr0 s9) hrs
        refine iteT ⟨_, rfl, ps, _, 0, _, rfl, rfl, SqT.of hps9, rfl, _, rfl, kd, _, rfl, DGet.k (k := Sum.inl r) hkd9, _, rfl, ?_⟩
        rw [hz9]
        refine iteT ⟨_, rfl, _, rfl, ps, _, 0, _, rfl, rfl, SqT.of hps9, rfl, kd, z9, rfl, dget_int hkd9 hz9, _, rfl, ps, _, 1, _, rfl, rfl, SqT.of hps9, rfl, z9, u, rs, xs, rfl, hrg9, hu.mono (.same (s8.trans g)), hwi.1, lxs, fun v H' s e => ?_⟩
        subst e
        rw [hwt]
        exact q H'
  rintro σ' H9 ⟨t, rfl, s89, nefig⟩
  have s69 := s68.trans s89
  have hD9 := s89 _ _ hD8
  have s09 := s8.trans s89
  refine ⟨fun σ' H' => ∃ (vf : V) (figs' : List Int), σ' = [some (.ref a), some (.ref lb), some (.ref pp), some (.ref kd), some (.ref ps), some (.ref D), some t, some (.bl sm.isAsk), some vf, o9, none] ∧ Same H6 H' ∧ H' D = some (.lst (figs'.map V.int)) ∧ StdAt H' (.ref ps) r xs ∧ ∃ fig : Int, sm.isAsk = true → vf = .int fig, ?_, ?_⟩
  · refine ⟨_, rfl, _, rfl, ?_⟩
    cases ea : sm.isAsk with
    | false => exact iteF ⟨_, figs, rfl, s69, hD9, hst.mono (.same s09), 0, fun c => nomatch c⟩
    | true =>
      cases figs with
      | nil => exact absurd rfl (nefig ea)
      | cons n figs =>
        exact iteT ⟨_, rfl, .inl ⟨rfl, _, SqL.of hD9⟩, D, _, 0, 0, _, rfl, rfl, hD9, by decide, by decide, seq_zero _, rfl, .int n, figs, rfl, Same.mut s69 hD, upd_same, (hst.mono (.same s09)).mono (.lst hD9 _), n, fun _ => rfl⟩
  rintro σ' H10 ⟨vf, figs', rfl, s610, hD10, hst10, fig, hfig⟩
  refine ⟨_, rfl, _, rfl, _, rfl, .ref pp, .ref ps, vf, bs, B, r, xs, sm, ws, fig, rfl, hpg0 s610, ok, hst10, hvo, hT, hfig, fun v11 H11 s11 ⟨p11, u11, z11, ev, hp11, hout⟩ => ?_⟩
  subst ev
  have s611 := s610.trans s11
  refine ⟨p11, _, 0, _, rfl, rfl, SqT.of hp11, rfl, ?_⟩
  refine ⟨_, rfl, _, rfl, _, rfl, _, rfl, _, rfl, .ref pp, .ref ps, u11, kd, bs, B, kvs, fd, r, xs, ws, rs, sm, fig, rfl, hpg0 s611, ok, s611 _ _ (s6 _ _ hkd5), hdr0 s611, hfd, hcl, hst10.mono (.same s11), hvo, hrs, hwi, hT, hout, fun v12 H12 s12 e12 => ⟨_, e12, ?_⟩⟩
  refine iteF ?_
  have okk := pg.tab.ok r sm ws hT
  have okn : sm.Ok (bsz bs).length := by rw [← pg.len]; exact okk.1
  refine ⟨_, rfl, _, rfl, ?_⟩
  cases es : stepM (bsz bs) sm ws xs fig with
  | none =>
    rw [es] at hout
    have hout : u11 = .non := hout
    subst hout
    rw [decide_eq_true (show V.non = V.non from rfl)]
    exact iteT (q _)
  | some o =>
    obtain ⟨r', xs'⟩ := o
    rw [es] at hout
    obtain ⟨pb, ub, rfl, hpb, hub⟩ : StdAt H11 u11 r' xs' := hout
    rw [decide_eq_false (show V.ref pb ≠ V.non by intro c; cases c)]
    obtain ⟨g, hg, wg⟩ := ways_sound (fig := fig) pg.sz rokrs.1 hwi okn okk.2 es
    obtain ⟨rokg, _⟩ := ways_ok (r := r') (g := g) pg.sz rokrs okn okk.2 hg
    obtain ⟨f2, hf2, sub⟩ := hcl r sm ws rs hT hrs _ hg
    have hstb : StdAt H11 (.ref pb) r' xs' := ⟨pb, ub, rfl, hpb, hub⟩
    exact iteF ⟨_, rfl, r', xs', .ref pb, figs', _, _, _, _, rfl, s611.trans s12, s12 _ _ (s11 _ _ hD10), hstb.mono (.same s12), Vok.of rokg wg, f2, hf2, wg.mono sub⟩
end
end Er

namespace Er
open PySem L2
/-! what the top has written, and the head -/
structure Defs (K : PySem.W.Frag) (mg : Str → Option Value) (CW CL : Addr) : Prop where
  g_first_row : Gf K mg "first_row" sFirstRow ["body", "behind"]
  g_rows_of : Gf K mg "rows_of" sRowsOf ["body", "behind"]
  g_worth : Gf K mg "worth" sWorth ["e", "values"]
  g_first_standing : Gf K mg "first_standing" sFirstStanding ["program"]
  g_step : Gf K mg "step" sStep ["program", "standing", "figure"]
  g_product_range : Gf K mg "product_range" sProductRange ["one", "other"]
  g_with_range : Gf K mg "with_range" sWithRange ["ranges", "place", "low", "high"]
  g_cut_off : Gf K mg "cut_off" sCutOff ["pair", "number"]
  g_less_side : Gf K mg "less_side" sLessSide ["ranges", "places", "one", "other"]
  g_not_less_side : Gf K mg "not_less_side" sNotLessSide ["ranges", "places", "one", "other"]
  g_same_side : Gf K mg "same_side" sSameSide ["ranges", "places", "one", "other"]
  g_not_same_side : Gf K mg "not_same_side" sNotSameSide ["ranges", "places", "one", "other"]
  g_joined : Gf K mg "joined" sJoined ["one", "other"]
  g_ways_from : Gf K mg "ways_from" sWaysFrom ["program", "row", "ranges"]
  g_least_ranges : Gf K mg "least_ranges" sLeastRanges ["program"]
  g_law_take : Gf K mg "_law_take" sTake ["state", "many"]
  g_law_state : Gf K mg "_law_state" sState ["script", "k"]
  g_law_boxes : Gf K mg "_law_boxes" sBoxes ["script"]
  g_law_leaf : Gf K mg "_law_leaf" sLeaf ["state", "boxes"]
  g_law_e : Gf K mg "_law_e" sE ["state", "boxes"]
  g_law_plain : Gf K mg "_law_plain" sPlain ["state", "boxes", "row"]
  g_law_body : Gf K mg "_law_body" sBody ["script", "boxes"]
  g_law_asks : Gf K mg "_law_asks" sAsks ["body", "row"]
  g_law_within : Gf K mg "_law_within" sWithin ["ranges", "values"]
  g_law_led : Gf K mg "_law_led" sLed ["ways", "standing"]
  g_law_step_right : Gf K mg "_law_step_right" sStepRight ["program", "known", "standing", "behind", "asks"]
  w_init : If K mg "Walker" CW "Walker.__init__" sWInit ["self", "program"]
  w_number : Mf K CW "number" "Walker.number" sWNumber ["self", "e", "standing"]
  w_holds : Mf K CW "holds" "Walker.holds" sWHolds ["self", "standing"]
  w_with_box : Mf K CW "with_box" "Walker.with_box" sWWithBox ["self", "standing", "name", "number"]
  w_step : Mf K CW "step" "Walker.step" sWStep ["self", "standing", "figure"]
  l_init : If K mg "Looker" CL "Looker.__init__" sLInit ["self", "program"]
  l_range_by : Mf K CL "range_by" "Looker.range_by" sLRangeBy ["self", "e", "ranges"]
  l_box_at : Mf K CL "box_at" "Looker.box_at" sLBoxAt ["self", "e"]
  l_put_range : Mf K CL "put_range" "Looker.put_range" sLPutRange ["self", "place", "pair"]
  l_side : Mf K CL "side" "Looker.side" sLSide ["self", "statement", "ranges", "truth"]
  l_sides : Mf K CL "sides" "Looker.sides" sLSides ["self", "statement", "ranges", "ways"]
  l_ways_from : Mf K CL "ways_from" "Looker.ways_from" sLWaysFrom ["self", "row", "ranges"]
section
variable {P : Program} {w : World} {K : PySem.W.Frag} {mg : Str → Option Value} {base : Heap} {CW CL : Addr}
theorem whole {f : Addr} {fd : FuncData} (D : Defs K mg CW CL) (X : Txt K mg CW CL) (F : Fun K "law" "law" sLaw f fd) : FnOk P w K mg base CX0 47 f fd ["script"] (spLaw K) := by
  have c1 : ∀ ns, Cal P w K mg base "first_row" 1 ["body", "behind"] (spFirstRow ns K) := fun ns => cal_firstRow D.g_first_row
  have c2 : ∀ ns, Cal P w K mg base "rows_of" 40 ["body", "behind"] (spRowsOf ns 39) := fun ns => cal_rowsOf D.g_rows_of D.g_first_row X.zEnum 39
  have c3 : ∀ ns, Cal P w K mg base "worth" 3 ["e", "values"] (spWorth ns 2) := fun ns => cal_worth D.g_worth 2
  have cW : CCal P w K mg base "Walker" CW 41 ["self", "program"] (spWInit CW) := D.w_init.cal fun f fd F => ok_winit X c1 c2 F
  have wS : ∀ ns sz r0 v0 T, Pgm ns sz T → MCal P w K mg base CW "step" 6 ["self", "standing", "figure"] (spWStep CW ns sz r0 v0 T) := fun ns sz r0 v0 T pg => by
    have wN : MCal P w K mg base CW "number" 4 ["self", "e", "standing"] (spNumber CW ns sz r0 v0 T) := D.w_number.cal fun f fd F => ok_number X pg (c3 ns) F
    have wH : MCal P w K mg base CW "holds" 5 ["self", "standing"] (spHolds CW ns sz r0 v0 T) := D.w_holds.cal fun f fd F => ok_holds X pg wN F
    have wB : MCal P w K mg base CW "with_box" 1 ["self", "standing", "name", "number"] (spWithBox CW ns sz r0 v0 T) := D.w_with_box.cal fun f fd F => ok_withBox X pg F
    exact D.w_step.cal fun f fd F => ok_wstep X pg wN wB wH F
  have cF : Cal P w K mg base "first_standing" 43 ["program"] spFirstStanding := D.g_first_standing.cal fun f fd F => ok_firstStanding X cW F
  have cS : Cal P w K mg base "step" 43 ["program", "standing", "figure"] spStep := D.g_step.cal fun f fd F => ok_step X cW wS F
  have cP : Cal P w K mg base "product_range" 1 ["one", "other"] spProd := D.g_product_range.cal fun f fd F => ok_prod X F
  have cU : Cal P w K mg base "with_range" 1 ["ranges", "place", "low", "high"] spWith := D.g_with_range.cal fun f fd F => ok_with F
  have cC : Cal P w K mg base "cut_off" 1 ["pair", "number"] spCut := D.g_cut_off.cal fun f fd F => ok_cut F
  have c4 : FourCal P w K mg base := ⟨D.g_less_side.cal fun f fd F => ok_less X cU F, D.g_not_less_side.cal fun f fd F => ok_nless X cU F, D.g_same_side.cal fun f fd F => ok_same X cU F, D.g_not_same_side.cal fun f fd F => ok_nsame X cU cC F⟩
  have cL : CCal P w K mg base "Looker" CL 43 ["self", "program"] (spLInit CL) := D.l_init.cal fun f fd F => ok_linit X cW F
  have lW : LWC P w K mg base CL := fun ns sz r0 v0 T pg => by
    have r0' : MCal P w K mg base CL "range_by" 2 ["self", "e", "ranges"] (spRangeBy CL ns sz r0 v0 T 0) := D.l_range_by.cal fun f fd F => ok_rangeBy X pg (Nat.le_refl 1) (fun i e => nomatch e) cP F
    have r1' : MCal P w K mg base CL "range_by" 3 ["self", "e", "ranges"] (spRangeBy CL ns sz r0 v0 T 1) := D.l_range_by.cal fun f fd F => ok_rangeBy X pg (by decide) (fun i e => by cases e; exact r0') cP F
    have r2' : MCal P w K mg base CL "range_by" 4 ["self", "e", "ranges"] (spRangeBy CL ns sz r0 v0 T 2) := D.l_range_by.cal fun f fd F => ok_rangeBy X pg (by decide) (fun i e => by cases e; exact r1') cP F
    have lB : MCal P w K mg base CL "box_at" 1 ["self", "e"] (spBoxAt CL ns sz r0 v0 T) := D.l_box_at.cal fun f fd F => ok_boxAt X pg F
    have lP : MCal P w K mg base CL "put_range" 1 ["self", "place", "pair"] (spPutRange CL ns sz r0 v0 T) := D.l_put_range.cal fun f fd F => ok_putRange X pg F
    have lS : MCal P w K mg base CL "side" 5 ["self", "statement", "ranges", "truth"] (spSide CL ns sz r0 v0 T) := D.l_side.cal fun f fd F => ok_side X pg r2' lB c4 F
    have lSs : MCal P w K mg base CL "sides" 6 ["self", "statement", "ranges", "ways"] (spSides CL ns sz r0 v0 T) := D.l_sides.cal fun f fd F => ok_sides X lS F
    exact D.l_ways_from.cal fun f fd F => ok_lways X pg lSs lP r2' cU F
  have cJ : Cal P w K mg base "joined" 1 ["one", "other"] spJoined := D.g_joined.cal fun f fd F => ok_joined X F
  have cWF : Cal P w K mg base "ways_from" 45 ["program", "row", "ranges"] spWays := D.g_ways_from.cal fun f fd F => ok_ways X cL lW F
  have cLR : Cal P w K mg base "least_ranges" 45 ["program"] spLeast := D.g_least_ranges.cal fun f fd F => ok_least X cL lW cJ F
  have cT : Cal P w K mg base "_law_take" 1 ["state", "many"] spTake := D.g_law_take.cal fun f fd F => ok_take F
  have cSt : Cal P w K mg base "_law_state" 1 ["script", "k"] (spState K) := D.g_law_state.cal fun f fd F => ok_state X F
  have cBx : Cal P w K mg base "_law_boxes" 2 ["script"] (spBoxes K) := D.g_law_boxes.cal fun f fd F => ok_boxes X cT cSt F
  have cLf : Cal P w K mg base "_law_leaf" 2 ["state", "boxes"] (spDraw (LeafR 0)) := D.g_law_leaf.cal fun f fd F => ok_leaf X cT F
  have cE : Cal P w K mg base "_law_e" 3 ["state", "boxes"] (spDraw (LeafR 2)) := D.g_law_e.cal fun f fd F => ok_e X cT cLf F
  have cPl : Cal P w K mg base "_law_plain" 4 ["state", "boxes", "row"] spPlain := D.g_law_plain.cal fun f fd F => ok_plain X cT cE F
  have cB : Cal P w K mg base "_law_body" 5 ["script", "boxes"] (spBody K) := D.g_law_body.cal fun f fd F => ok_body X cT cSt cE cLf cPl F
  have cA : Cal P w K mg base "_law_asks" 27 ["body", "row"] (spAsks 26) := cal_asks D.g_law_asks 26
  have cWi : Cal P w K mg base "_law_within" 1 ["ranges", "values"] spWithin := D.g_law_within.cal fun f fd F => ok_within X F
  have cLd : Cal P w K mg base "_law_led" 2 ["ways", "standing"] spLed := D.g_law_led.cal fun f fd F => ok_led cWi F
  have cR : Cal P w K mg base "_law_step_right" 46 ["program", "known", "standing", "behind", "asks"] spRight := D.g_law_step_right.cal fun f fd F => ok_right X cWi cLd cWF F
  exact ok_law X cT cSt cBx cB cLR cF cWi cA cS cR F
end
theorem gf_mk {K : PySem.W.Frag} {h : Heap} {mg : Str → Option Value} {x : Str} {st : Stmt} {ps : List Str} {f : Addr} {od an : Option Addr} {sl : Array (Option Value)} {oc kV dc pm cd ct : Value} (X : K.In h) (G : h.Ns mainGlobals mg)
    (a : PySem.W.nsIn K mainGlobals x = some (some (.ref f))) (l : K.lookup f = some ⟨oc, od, .func (PySem.W.fnOf x x (defArgs st) (defBody st) (defScope st) .none kV dc pm an cd ct), sl⟩) (c : PySem.W.codeIn K cd x = true) (k : PySem.W.keepIn K (.ref f) = true)
    (b : Fun K x x st f (PySem.W.fnOf x x (defArgs st) (defBody st) (defScope st) .none kV dc pm an cd ct) → Binds K (PySem.W.fnOf x x (defArgs st) (defBody st) (defScope st) .none kV dc pm an cd ct) ps []) : Gf K mg x st ps := by
  have F := fun_mk (st := st) l c k
  exact ⟨f, _, PySem.W.mg_of X G a, F, b F⟩
theorem mf_mk {K : PySem.W.Frag} {C : Addr} {m qual : Str} {st : Stmt} {ps : List Str} {f : Addr} {od an : Option Addr} {sl : Array (Option Value)} {oc kV dc pm cd ct : Value}
    (a : PySem.W.findIn K (.ref C) m = some (some (.ref f))) (i : PySem.W.isFn K (.ref f) = true) (l : K.lookup f = some ⟨oc, od, .func (PySem.W.fnOf m qual (defArgs st) (defBody st) (defScope st) .none kV dc pm an cd ct), sl⟩) (c : PySem.W.codeIn K cd qual = true) (k : PySem.W.keepIn K (.ref f) = true)
    (b : Fun K m qual st f (PySem.W.fnOf m qual (defArgs st) (defBody st) (defScope st) .none kV dc pm an cd ct) → Binds K (PySem.W.fnOf m qual (defArgs st) (defBody st) (defScope st) .none kV dc pm an cd ct) ps []) : Mf K C m qual st ps := by
  have F := fun_mk (st := st) l c k
  exact ⟨f, _, ⟨a, i, k⟩, F, b F⟩
theorem if_mk {K : PySem.W.Frag} {h : Heap} {mg : Str → Option Value} {x : Str} {C : Addr} {qual : Str} {st : Stmt} {ps : List Str} {f : Addr} {od an : Option Addr} {sl : Array (Option Value)} {oc kV dc pm cd ct : Value} (X : K.In h) (G : h.Ns mainGlobals mg)
    (aC : PySem.W.nsIn K mainGlobals x = some (some (.ref C))) (mk : PySem.W.makesIn K C = true) (kc : PySem.W.keepIn K (.ref C) = true)
    (a : PySem.W.findIn K (.ref C) "__init__" = some (some (.ref f))) (i : PySem.W.isFn K (.ref f) = true) (l : K.lookup f = some ⟨oc, od, .func (PySem.W.fnOf "__init__" qual (defArgs st) (defBody st) (defScope st) .none kV dc pm an cd ct), sl⟩) (c : PySem.W.codeIn K cd qual = true) (k : PySem.W.keepIn K (.ref f) = true)
    (b : Fun K "__init__" qual st f (PySem.W.fnOf "__init__" qual (defArgs st) (defBody st) (defScope st) .none kV dc pm an cd ct) → Binds K (PySem.W.fnOf "__init__" qual (defArgs st) (defBody st) (defScope st) .none kV dc pm an cd ct) ps []) : If K mg x C qual st ps := by
  have F := fun_mk (st := st) l c k
  exact ⟨PySem.W.mg_of X G aC, f, _, ⟨mk, a, i, kc⟩, F, b F⟩
theorem all_mk {l : PySem.W.OpenLaw} {w : World} {K : PySem.W.Frag} {h : Heap} {mg : Str → Option Value} {fa CW CL f1 f2 f3 f4 f5 f6 f7 f8 f9 f10 f11 f12 f13 f14 f15 f16 f17 f18 f19 f20 f21 f22 f23 f24 f25 f26 f27 f28 f29 f30 f31 f32 f33 f34 f35 f36 f37 f38 f39 : Addr} (X : K.In h) (G : h.Ns mainGlobals mg) (hfa : mg "law" = some (.ref fa))
    {od1 an1 od2 an2 od3 an3 od4 an4 od5 an5 od6 an6 od7 an7 od8 an8 od9 an9 od10 an10 od11 an11 od12 an12 od13 an13 od14 an14 od15 an15 od16 an16 od17 an17 od18 an18 od19 an19 od20 an20 od21 an21 od22 an22 od23 an23 od24 an24 od25 an25 od26 an26 od27 an27 od28 an28 od29 an29 od30 an30 od31 an31 od32 an32 od33 an33 od34 an34 od35 an35 od36 an36 od37 an37 od38 an38 od39 an39 : Option Addr} {sl1 sl2 sl3 sl4 sl5 sl6 sl7 sl8 sl9 sl10 sl11 sl12 sl13 sl14 sl15 sl16 sl17 sl18 sl19 sl20 sl21 sl22 sl23 sl24 sl25 sl26 sl27 sl28 sl29 sl30 sl31 sl32 sl33 sl34 sl35 sl36 sl37 sl38 sl39 : Array (Option Value)}
    {oc1 kV1 dc1 pm1 cd1 ct1 oc2 kV2 dc2 pm2 cd2 ct2 oc3 kV3 dc3 pm3 cd3 ct3 oc4 kV4 dc4 pm4 cd4 ct4 oc5 kV5 dc5 pm5 cd5 ct5 oc6 kV6 dc6 pm6 cd6 ct6 oc7 kV7 dc7 pm7 cd7 ct7 oc8 kV8 dc8 pm8 cd8 ct8 oc9 kV9 dc9 pm9 cd9 ct9 oc10 kV10 dc10 pm10 cd10 ct10 oc11 kV11 dc11 pm11 cd11 ct11 oc12 kV12 dc12 pm12 cd12 ct12 oc13 kV13 dc13 pm13 cd13 ct13 oc14 kV14 dc14 pm14 cd14 ct14 oc15 kV15 dc15 pm15 cd15 ct15 oc16 kV16 dc16 pm16 cd16 ct16 oc17 kV17 dc17 pm17 cd17 ct17 oc18 kV18 dc18 pm18 cd18 ct18 oc19 kV19 dc19 pm19 cd19 ct19 oc20 kV20 dc20 pm20 cd20 ct20 oc21 kV21 dc21 pm21 cd21 ct21 oc22 kV22 dc22 pm22 cd22 ct22 oc23 kV23 dc23 pm23 cd23 ct23 oc24 kV24 dc24 pm24 cd24 ct24 oc25 kV25 dc25 pm25 cd25 ct25 oc26 kV26 dc26 pm26 cd26 ct26 oc27 kV27 dc27 pm27 cd27 ct27 oc28 kV28 dc28 pm28 cd28 ct28 oc29 kV29 dc29 pm29 cd29 ct29 oc30 kV30 dc30 pm30 cd30 ct30 oc31 kV31 dc31 pm31 cd31 ct31 oc32 kV32 dc32 pm32 cd32 ct32 oc33 kV33 dc33 pm33 cd33 ct33 oc34 kV34 dc34 pm34 cd34 ct34 oc35 kV35 dc35 pm35 cd35 ct35 oc36 kV36 dc36 pm36 cd36 ct36 oc37 kV37 dc37 pm37 cd37 ct37 oc38 kV38 dc38 pm38 cd38 ct38 oc39 kV39 dc39 pm39 cd39 ct39 : Value}
    (a1 : PySem.W.nsIn K mainGlobals "first_row" = some (some (.ref f1))) (l1 : K.lookup f1 = some ⟨oc1, od1, .func (PySem.W.fnOf "first_row" "first_row" (defArgs sFirstRow) (defBody sFirstRow) (defScope sFirstRow) .none kV1 dc1 pm1 an1 cd1 ct1), sl1⟩) (c1 : PySem.W.codeIn K cd1 "first_row" = true) (k1 : PySem.W.keepIn K (.ref f1) = true)
    (a2 : PySem.W.nsIn K mainGlobals "rows_of" = some (some (.ref f2))) (l2 : K.lookup f2 = some ⟨oc2, od2, .func (PySem.W.fnOf "rows_of" "rows_of" (defArgs sRowsOf) (defBody sRowsOf) (defScope sRowsOf) .none kV2 dc2 pm2 an2 cd2 ct2), sl2⟩) (c2 : PySem.W.codeIn K cd2 "rows_of" = true) (k2 : PySem.W.keepIn K (.ref f2) = true)
    (a3 : PySem.W.nsIn K mainGlobals "worth" = some (some (.ref f3))) (l3 : K.lookup f3 = some ⟨oc3, od3, .func (PySem.W.fnOf "worth" "worth" (defArgs sWorth) (defBody sWorth) (defScope sWorth) .none kV3 dc3 pm3 an3 cd3 ct3), sl3⟩) (c3 : PySem.W.codeIn K cd3 "worth" = true) (k3 : PySem.W.keepIn K (.ref f3) = true)
    (a4 : PySem.W.nsIn K mainGlobals "first_standing" = some (some (.ref f4))) (l4 : K.lookup f4 = some ⟨oc4, od4, .func (PySem.W.fnOf "first_standing" "first_standing" (defArgs sFirstStanding) (defBody sFirstStanding) (defScope sFirstStanding) .none kV4 dc4 pm4 an4 cd4 ct4), sl4⟩) (c4 : PySem.W.codeIn K cd4 "first_standing" = true) (k4 : PySem.W.keepIn K (.ref f4) = true)
    (a5 : PySem.W.nsIn K mainGlobals "step" = some (some (.ref f5))) (l5 : K.lookup f5 = some ⟨oc5, od5, .func (PySem.W.fnOf "step" "step" (defArgs sStep) (defBody sStep) (defScope sStep) .none kV5 dc5 pm5 an5 cd5 ct5), sl5⟩) (c5 : PySem.W.codeIn K cd5 "step" = true) (k5 : PySem.W.keepIn K (.ref f5) = true)
    (a6 : PySem.W.nsIn K mainGlobals "product_range" = some (some (.ref f6))) (l6 : K.lookup f6 = some ⟨oc6, od6, .func (PySem.W.fnOf "product_range" "product_range" (defArgs sProductRange) (defBody sProductRange) (defScope sProductRange) .none kV6 dc6 pm6 an6 cd6 ct6), sl6⟩) (c6 : PySem.W.codeIn K cd6 "product_range" = true) (k6 : PySem.W.keepIn K (.ref f6) = true)
    (a7 : PySem.W.nsIn K mainGlobals "with_range" = some (some (.ref f7))) (l7 : K.lookup f7 = some ⟨oc7, od7, .func (PySem.W.fnOf "with_range" "with_range" (defArgs sWithRange) (defBody sWithRange) (defScope sWithRange) .none kV7 dc7 pm7 an7 cd7 ct7), sl7⟩) (c7 : PySem.W.codeIn K cd7 "with_range" = true) (k7 : PySem.W.keepIn K (.ref f7) = true)
    (a8 : PySem.W.nsIn K mainGlobals "cut_off" = some (some (.ref f8))) (l8 : K.lookup f8 = some ⟨oc8, od8, .func (PySem.W.fnOf "cut_off" "cut_off" (defArgs sCutOff) (defBody sCutOff) (defScope sCutOff) .none kV8 dc8 pm8 an8 cd8 ct8), sl8⟩) (c8 : PySem.W.codeIn K cd8 "cut_off" = true) (k8 : PySem.W.keepIn K (.ref f8) = true)
    (a9 : PySem.W.nsIn K mainGlobals "less_side" = some (some (.ref f9))) (l9 : K.lookup f9 = some ⟨oc9, od9, .func (PySem.W.fnOf "less_side" "less_side" (defArgs sLessSide) (defBody sLessSide) (defScope sLessSide) .none kV9 dc9 pm9 an9 cd9 ct9), sl9⟩) (c9 : PySem.W.codeIn K cd9 "less_side" = true) (k9 : PySem.W.keepIn K (.ref f9) = true)
    (a10 : PySem.W.nsIn K mainGlobals "not_less_side" = some (some (.ref f10))) (l10 : K.lookup f10 = some ⟨oc10, od10, .func (PySem.W.fnOf "not_less_side" "not_less_side" (defArgs sNotLessSide) (defBody sNotLessSide) (defScope sNotLessSide) .none kV10 dc10 pm10 an10 cd10 ct10), sl10⟩) (c10 : PySem.W.codeIn K cd10 "not_less_side" = true) (k10 : PySem.W.keepIn K (.ref f10) = true)
    (a11 : PySem.W.nsIn K mainGlobals "same_side" = some (some (.ref f11))) (l11 : K.lookup f11 = some ⟨oc11, od11, .func (PySem.W.fnOf "same_side" "same_side" (defArgs sSameSide) (defBody sSameSide) (defScope sSameSide) .none kV11 dc11 pm11 an11 cd11 ct11), sl11⟩) (c11 : PySem.W.codeIn K cd11 "same_side" = true) (k11 : PySem.W.keepIn K (.ref f11) = true)
    (a12 : PySem.W.nsIn K mainGlobals "not_same_side" = some (some (.ref f12))) (l12 : K.lookup f12 = some ⟨oc12, od12, .func (PySem.W.fnOf "not_same_side" "not_same_side" (defArgs sNotSameSide) (defBody sNotSameSide) (defScope sNotSameSide) .none kV12 dc12 pm12 an12 cd12 ct12), sl12⟩) (c12 : PySem.W.codeIn K cd12 "not_same_side" = true) (k12 : PySem.W.keepIn K (.ref f12) = true)
    (a13 : PySem.W.nsIn K mainGlobals "joined" = some (some (.ref f13))) (l13 : K.lookup f13 = some ⟨oc13, od13, .func (PySem.W.fnOf "joined" "joined" (defArgs sJoined) (defBody sJoined) (defScope sJoined) .none kV13 dc13 pm13 an13 cd13 ct13), sl13⟩) (c13 : PySem.W.codeIn K cd13 "joined" = true) (k13 : PySem.W.keepIn K (.ref f13) = true)
    (a14 : PySem.W.nsIn K mainGlobals "ways_from" = some (some (.ref f14))) (l14 : K.lookup f14 = some ⟨oc14, od14, .func (PySem.W.fnOf "ways_from" "ways_from" (defArgs sWaysFrom) (defBody sWaysFrom) (defScope sWaysFrom) .none kV14 dc14 pm14 an14 cd14 ct14), sl14⟩) (c14 : PySem.W.codeIn K cd14 "ways_from" = true) (k14 : PySem.W.keepIn K (.ref f14) = true)
    (a15 : PySem.W.nsIn K mainGlobals "least_ranges" = some (some (.ref f15))) (l15 : K.lookup f15 = some ⟨oc15, od15, .func (PySem.W.fnOf "least_ranges" "least_ranges" (defArgs sLeastRanges) (defBody sLeastRanges) (defScope sLeastRanges) .none kV15 dc15 pm15 an15 cd15 ct15), sl15⟩) (c15 : PySem.W.codeIn K cd15 "least_ranges" = true) (k15 : PySem.W.keepIn K (.ref f15) = true)
    (a16 : PySem.W.nsIn K mainGlobals "_law_take" = some (some (.ref f16))) (l16 : K.lookup f16 = some ⟨oc16, od16, .func (PySem.W.fnOf "_law_take" "_law_take" (defArgs sTake) (defBody sTake) (defScope sTake) .none kV16 dc16 pm16 an16 cd16 ct16), sl16⟩) (c16 : PySem.W.codeIn K cd16 "_law_take" = true) (k16 : PySem.W.keepIn K (.ref f16) = true)
    (a17 : PySem.W.nsIn K mainGlobals "_law_state" = some (some (.ref f17))) (l17 : K.lookup f17 = some ⟨oc17, od17, .func (PySem.W.fnOf "_law_state" "_law_state" (defArgs sState) (defBody sState) (defScope sState) .none kV17 dc17 pm17 an17 cd17 ct17), sl17⟩) (c17 : PySem.W.codeIn K cd17 "_law_state" = true) (k17 : PySem.W.keepIn K (.ref f17) = true)
    (a18 : PySem.W.nsIn K mainGlobals "_law_boxes" = some (some (.ref f18))) (l18 : K.lookup f18 = some ⟨oc18, od18, .func (PySem.W.fnOf "_law_boxes" "_law_boxes" (defArgs sBoxes) (defBody sBoxes) (defScope sBoxes) .none kV18 dc18 pm18 an18 cd18 ct18), sl18⟩) (c18 : PySem.W.codeIn K cd18 "_law_boxes" = true) (k18 : PySem.W.keepIn K (.ref f18) = true)
    (a19 : PySem.W.nsIn K mainGlobals "_law_leaf" = some (some (.ref f19))) (l19 : K.lookup f19 = some ⟨oc19, od19, .func (PySem.W.fnOf "_law_leaf" "_law_leaf" (defArgs sLeaf) (defBody sLeaf) (defScope sLeaf) .none kV19 dc19 pm19 an19 cd19 ct19), sl19⟩) (c19 : PySem.W.codeIn K cd19 "_law_leaf" = true) (k19 : PySem.W.keepIn K (.ref f19) = true)
    (a20 : PySem.W.nsIn K mainGlobals "_law_e" = some (some (.ref f20))) (l20 : K.lookup f20 = some ⟨oc20, od20, .func (PySem.W.fnOf "_law_e" "_law_e" (defArgs sE) (defBody sE) (defScope sE) .none kV20 dc20 pm20 an20 cd20 ct20), sl20⟩) (c20 : PySem.W.codeIn K cd20 "_law_e" = true) (k20 : PySem.W.keepIn K (.ref f20) = true)
    (a21 : PySem.W.nsIn K mainGlobals "_law_plain" = some (some (.ref f21))) (l21 : K.lookup f21 = some ⟨oc21, od21, .func (PySem.W.fnOf "_law_plain" "_law_plain" (defArgs sPlain) (defBody sPlain) (defScope sPlain) .none kV21 dc21 pm21 an21 cd21 ct21), sl21⟩) (c21 : PySem.W.codeIn K cd21 "_law_plain" = true) (k21 : PySem.W.keepIn K (.ref f21) = true)
    (a22 : PySem.W.nsIn K mainGlobals "_law_body" = some (some (.ref f22))) (l22 : K.lookup f22 = some ⟨oc22, od22, .func (PySem.W.fnOf "_law_body" "_law_body" (defArgs sBody) (defBody sBody) (defScope sBody) .none kV22 dc22 pm22 an22 cd22 ct22), sl22⟩) (c22 : PySem.W.codeIn K cd22 "_law_body" = true) (k22 : PySem.W.keepIn K (.ref f22) = true)
    (a23 : PySem.W.nsIn K mainGlobals "_law_asks" = some (some (.ref f23))) (l23 : K.lookup f23 = some ⟨oc23, od23, .func (PySem.W.fnOf "_law_asks" "_law_asks" (defArgs sAsks) (defBody sAsks) (defScope sAsks) .none kV23 dc23 pm23 an23 cd23 ct23), sl23⟩) (c23 : PySem.W.codeIn K cd23 "_law_asks" = true) (k23 : PySem.W.keepIn K (.ref f23) = true)
    (a24 : PySem.W.nsIn K mainGlobals "_law_within" = some (some (.ref f24))) (l24 : K.lookup f24 = some ⟨oc24, od24, .func (PySem.W.fnOf "_law_within" "_law_within" (defArgs sWithin) (defBody sWithin) (defScope sWithin) .none kV24 dc24 pm24 an24 cd24 ct24), sl24⟩) (c24 : PySem.W.codeIn K cd24 "_law_within" = true) (k24 : PySem.W.keepIn K (.ref f24) = true)
    (a25 : PySem.W.nsIn K mainGlobals "_law_led" = some (some (.ref f25))) (l25 : K.lookup f25 = some ⟨oc25, od25, .func (PySem.W.fnOf "_law_led" "_law_led" (defArgs sLed) (defBody sLed) (defScope sLed) .none kV25 dc25 pm25 an25 cd25 ct25), sl25⟩) (c25 : PySem.W.codeIn K cd25 "_law_led" = true) (k25 : PySem.W.keepIn K (.ref f25) = true)
    (a26 : PySem.W.nsIn K mainGlobals "_law_step_right" = some (some (.ref f26))) (l26 : K.lookup f26 = some ⟨oc26, od26, .func (PySem.W.fnOf "_law_step_right" "_law_step_right" (defArgs sStepRight) (defBody sStepRight) (defScope sStepRight) .none kV26 dc26 pm26 an26 cd26 ct26), sl26⟩) (c26 : PySem.W.codeIn K cd26 "_law_step_right" = true) (k26 : PySem.W.keepIn K (.ref f26) = true)
    (a27 : PySem.W.nsIn K mainGlobals "law" = some (some (.ref f27))) (l27 : K.lookup f27 = some ⟨oc27, od27, .func (PySem.W.fnOf "law" "law" (defArgs sLaw) (defBody sLaw) (defScope sLaw) .none kV27 dc27 pm27 an27 cd27 ct27), sl27⟩) (c27 : PySem.W.codeIn K cd27 "law" = true) (k27 : PySem.W.keepIn K (.ref f27) = true)
    (aCW : PySem.W.nsIn K mainGlobals "Walker" = some (some (.ref CW)))
    (aCL : PySem.W.nsIn K mainGlobals "Looker" = some (some (.ref CL)))
    (a28 : PySem.W.findIn K (.ref CW) "__init__" = some (some (.ref f28))) (i28 : PySem.W.isFn K (.ref f28) = true) (l28 : K.lookup f28 = some ⟨oc28, od28, .func (PySem.W.fnOf "__init__" "Walker.__init__" (defArgs sWInit) (defBody sWInit) (defScope sWInit) .none kV28 dc28 pm28 an28 cd28 ct28), sl28⟩) (c28 : PySem.W.codeIn K cd28 "Walker.__init__" = true) (k28 : PySem.W.keepIn K (.ref f28) = true)
    (a29 : PySem.W.findIn K (.ref CW) "number" = some (some (.ref f29))) (i29 : PySem.W.isFn K (.ref f29) = true) (l29 : K.lookup f29 = some ⟨oc29, od29, .func (PySem.W.fnOf "number" "Walker.number" (defArgs sWNumber) (defBody sWNumber) (defScope sWNumber) .none kV29 dc29 pm29 an29 cd29 ct29), sl29⟩) (c29 : PySem.W.codeIn K cd29 "Walker.number" = true) (k29 : PySem.W.keepIn K (.ref f29) = true)
    (a30 : PySem.W.findIn K (.ref CW) "holds" = some (some (.ref f30))) (i30 : PySem.W.isFn K (.ref f30) = true) (l30 : K.lookup f30 = some ⟨oc30, od30, .func (PySem.W.fnOf "holds" "Walker.holds" (defArgs sWHolds) (defBody sWHolds) (defScope sWHolds) .none kV30 dc30 pm30 an30 cd30 ct30), sl30⟩) (c30 : PySem.W.codeIn K cd30 "Walker.holds" = true) (k30 : PySem.W.keepIn K (.ref f30) = true)
    (a31 : PySem.W.findIn K (.ref CW) "with_box" = some (some (.ref f31))) (i31 : PySem.W.isFn K (.ref f31) = true) (l31 : K.lookup f31 = some ⟨oc31, od31, .func (PySem.W.fnOf "with_box" "Walker.with_box" (defArgs sWWithBox) (defBody sWWithBox) (defScope sWWithBox) .none kV31 dc31 pm31 an31 cd31 ct31), sl31⟩) (c31 : PySem.W.codeIn K cd31 "Walker.with_box" = true) (k31 : PySem.W.keepIn K (.ref f31) = true)
    (a32 : PySem.W.findIn K (.ref CW) "step" = some (some (.ref f32))) (i32 : PySem.W.isFn K (.ref f32) = true) (l32 : K.lookup f32 = some ⟨oc32, od32, .func (PySem.W.fnOf "step" "Walker.step" (defArgs sWStep) (defBody sWStep) (defScope sWStep) .none kV32 dc32 pm32 an32 cd32 ct32), sl32⟩) (c32 : PySem.W.codeIn K cd32 "Walker.step" = true) (k32 : PySem.W.keepIn K (.ref f32) = true)
    (a33 : PySem.W.findIn K (.ref CL) "__init__" = some (some (.ref f33))) (i33 : PySem.W.isFn K (.ref f33) = true) (l33 : K.lookup f33 = some ⟨oc33, od33, .func (PySem.W.fnOf "__init__" "Looker.__init__" (defArgs sLInit) (defBody sLInit) (defScope sLInit) .none kV33 dc33 pm33 an33 cd33 ct33), sl33⟩) (c33 : PySem.W.codeIn K cd33 "Looker.__init__" = true) (k33 : PySem.W.keepIn K (.ref f33) = true)
    (a34 : PySem.W.findIn K (.ref CL) "range_by" = some (some (.ref f34))) (i34 : PySem.W.isFn K (.ref f34) = true) (l34 : K.lookup f34 = some ⟨oc34, od34, .func (PySem.W.fnOf "range_by" "Looker.range_by" (defArgs sLRangeBy) (defBody sLRangeBy) (defScope sLRangeBy) .none kV34 dc34 pm34 an34 cd34 ct34), sl34⟩) (c34 : PySem.W.codeIn K cd34 "Looker.range_by" = true) (k34 : PySem.W.keepIn K (.ref f34) = true)
    (a35 : PySem.W.findIn K (.ref CL) "box_at" = some (some (.ref f35))) (i35 : PySem.W.isFn K (.ref f35) = true) (l35 : K.lookup f35 = some ⟨oc35, od35, .func (PySem.W.fnOf "box_at" "Looker.box_at" (defArgs sLBoxAt) (defBody sLBoxAt) (defScope sLBoxAt) .none kV35 dc35 pm35 an35 cd35 ct35), sl35⟩) (c35 : PySem.W.codeIn K cd35 "Looker.box_at" = true) (k35 : PySem.W.keepIn K (.ref f35) = true)
    (a36 : PySem.W.findIn K (.ref CL) "put_range" = some (some (.ref f36))) (i36 : PySem.W.isFn K (.ref f36) = true) (l36 : K.lookup f36 = some ⟨oc36, od36, .func (PySem.W.fnOf "put_range" "Looker.put_range" (defArgs sLPutRange) (defBody sLPutRange) (defScope sLPutRange) .none kV36 dc36 pm36 an36 cd36 ct36), sl36⟩) (c36 : PySem.W.codeIn K cd36 "Looker.put_range" = true) (k36 : PySem.W.keepIn K (.ref f36) = true)
    (a37 : PySem.W.findIn K (.ref CL) "side" = some (some (.ref f37))) (i37 : PySem.W.isFn K (.ref f37) = true) (l37 : K.lookup f37 = some ⟨oc37, od37, .func (PySem.W.fnOf "side" "Looker.side" (defArgs sLSide) (defBody sLSide) (defScope sLSide) .none kV37 dc37 pm37 an37 cd37 ct37), sl37⟩) (c37 : PySem.W.codeIn K cd37 "Looker.side" = true) (k37 : PySem.W.keepIn K (.ref f37) = true)
    (a38 : PySem.W.findIn K (.ref CL) "sides" = some (some (.ref f38))) (i38 : PySem.W.isFn K (.ref f38) = true) (l38 : K.lookup f38 = some ⟨oc38, od38, .func (PySem.W.fnOf "sides" "Looker.sides" (defArgs sLSides) (defBody sLSides) (defScope sLSides) .none kV38 dc38 pm38 an38 cd38 ct38), sl38⟩) (c38 : PySem.W.codeIn K cd38 "Looker.sides" = true) (k38 : PySem.W.keepIn K (.ref f38) = true)
    (a39 : PySem.W.findIn K (.ref CL) "ways_from" = some (some (.ref f39))) (i39 : PySem.W.isFn K (.ref f39) = true) (l39 : K.lookup f39 = some ⟨oc39, od39, .func (PySem.W.fnOf "ways_from" "Looker.ways_from" (defArgs sLWaysFrom) (defBody sLWaysFrom) (defScope sLWaysFrom) .none kV39 dc39 pm39 an39 cd39 ct39), sl39⟩) (c39 : PySem.W.codeIn K cd39 "Looker.ways_from" = true) (k39 : PySem.W.keepIn K (.ref f39) = true)
    (pgW : PySem.W.plainGet K CW Str.empty = true) (hdW : PySem.W.hasDictIn K CW = true) (poW : PySem.W.plainOver K CW = true) (saW : PySem.W.findIn K (.ref CW) "__setattr__" = some (some (.builtin "object.__setattr__"))) (mkW : PySem.W.makesIn K CW = true) (kcW : PySem.W.keepIn K (.ref CW) = true)
    (pgL : PySem.W.plainGet K CL Str.empty = true) (hdL : PySem.W.hasDictIn K CL = true) (poL : PySem.W.plainOver K CL = true) (saL : PySem.W.findIn K (.ref CL) "__setattr__" = some (some (.builtin "object.__setattr__"))) (mkL : PySem.W.makesIn K CL = true) (kcL : PySem.W.keepIn K (.ref CL) = true)
    (wB : PySem.W.findIn K (.ref CW) "boxes" = some none)
    (wS : PySem.W.findIn K (.ref CW) "sizes" = some none)
    (wG : PySem.W.findIn K (.ref CW) "begin" = some none)
    (wT : PySem.W.findIn K (.ref CW) "statements" = some none)
    (lB : PySem.W.findIn K (.ref CL) "boxes" = some none)
    (lS : PySem.W.findIn K (.ref CL) "sizes" = some none)
    (lT : PySem.W.findIn K (.ref CL) "statements" = some none)
    (lF : PySem.W.findIn K (.ref CL) "first" = some none)
    (zTuple : PySem.W.nsIn K mainGlobals "tuple" = some none)
    (zEnum : PySem.W.nsIn K mainGlobals "enumerate" = some none)
    (zZip : PySem.W.nsIn K mainGlobals "zip" = some none)
    (zDict : PySem.W.nsIn K mainGlobals "dict" = some none)
    (zMin : PySem.W.nsIn K mainGlobals "min" = some none)
    (zMax : PySem.W.nsIn K mainGlobals "max" = some none)
    (zAll : PySem.W.nsIn K mainGlobals "all" = some none)
    (zSorted : PySem.W.nsIn K mainGlobals "sorted" = some none)
    (zLen : PySem.W.nsIn K mainGlobals "len" = some none)
    (zInt : PySem.W.nsIn K mainGlobals "int" = some none)
    (zRange : PySem.W.nsIn K mainGlobals "range" = some none) :
    ∃ fd : FuncData, (∀ (s : Shared) (v : Value), BindsTo s fd ⟨[v], []⟩ [("script", v)]) ∧ ∀ base : Heap, K.In base → base.Ns mainGlobals mg → FnOk l.prog w K mg base CX0 47 fa fd ["script"] (spLaw K) := by
  have e := hfa.symm.trans (PySem.W.mg_of X G a27)
  cases e
  have D : Defs K mg CW CL := {
    g_first_row := gf_mk X G a1 l1 c1 k1 (fun F => F.binds fun _ _ _ _ _ _ us hl => match us, hl with | [_, _], _ => rfl)
    g_rows_of := gf_mk X G a2 l2 c2 k2 (fun F => F.binds fun _ _ _ _ _ _ us hl => match us, hl with | [_, _], _ => rfl)
    g_worth := gf_mk X G a3 l3 c3 k3 (fun F => F.binds fun _ _ _ _ _ _ us hl => match us, hl with | [_, _], _ => rfl)
    g_first_standing := gf_mk X G a4 l4 c4 k4 (fun F => F.binds fun _ _ _ _ _ _ us hl => match us, hl with | [_], _ => rfl)
    g_step := gf_mk X G a5 l5 c5 k5 (fun F => F.binds fun _ _ _ _ _ _ us hl => match us, hl with | [_, _, _], _ => rfl)
    g_product_range := gf_mk X G a6 l6 c6 k6 (fun F => F.binds fun _ _ _ _ _ _ us hl => match us, hl with | [_, _], _ => rfl)
    g_with_range := gf_mk X G a7 l7 c7 k7 (fun F => F.binds fun _ _ _ _ _ _ us hl => match us, hl with | [_, _, _, _], _ => rfl)
    g_cut_off := gf_mk X G a8 l8 c8 k8 (fun F => F.binds fun _ _ _ _ _ _ us hl => match us, hl with | [_, _], _ => rfl)
    g_less_side := gf_mk X G a9 l9 c9 k9 (fun F => F.binds fun _ _ _ _ _ _ us hl => match us, hl with | [_, _, _, _], _ => rfl)
    g_not_less_side := gf_mk X G a10 l10 c10 k10 (fun F => F.binds fun _ _ _ _ _ _ us hl => match us, hl with | [_, _, _, _], _ => rfl)
    g_same_side := gf_mk X G a11 l11 c11 k11 (fun F => F.binds fun _ _ _ _ _ _ us hl => match us, hl with | [_, _, _, _], _ => rfl)
    g_not_same_side := gf_mk X G a12 l12 c12 k12 (fun F => F.binds fun _ _ _ _ _ _ us hl => match us, hl with | [_, _, _, _], _ => rfl)
    g_joined := gf_mk X G a13 l13 c13 k13 (fun F => F.binds fun _ _ _ _ _ _ us hl => match us, hl with | [_, _], _ => rfl)
    g_ways_from := gf_mk X G a14 l14 c14 k14 (fun F => F.binds fun _ _ _ _ _ _ us hl => match us, hl with | [_, _, _], _ => rfl)
    g_least_ranges := gf_mk X G a15 l15 c15 k15 (fun F => F.binds fun _ _ _ _ _ _ us hl => match us, hl with | [_], _ => rfl)
    g_law_take := gf_mk X G a16 l16 c16 k16 (fun F => F.binds fun _ _ _ _ _ _ us hl => match us, hl with | [_, _], _ => rfl)
    g_law_state := gf_mk X G a17 l17 c17 k17 (fun F => F.binds fun _ _ _ _ _ _ us hl => match us, hl with | [_, _], _ => rfl)
    g_law_boxes := gf_mk X G a18 l18 c18 k18 (fun F => F.binds fun _ _ _ _ _ _ us hl => match us, hl with | [_], _ => rfl)
    g_law_leaf := gf_mk X G a19 l19 c19 k19 (fun F => F.binds fun _ _ _ _ _ _ us hl => match us, hl with | [_, _], _ => rfl)
    g_law_e := gf_mk X G a20 l20 c20 k20 (fun F => F.binds fun _ _ _ _ _ _ us hl => match us, hl with | [_, _], _ => rfl)
    g_law_plain := gf_mk X G a21 l21 c21 k21 (fun F => F.binds fun _ _ _ _ _ _ us hl => match us, hl with | [_, _, _], _ => rfl)
    g_law_body := gf_mk X G a22 l22 c22 k22 (fun F => F.binds fun _ _ _ _ _ _ us hl => match us, hl with | [_, _], _ => rfl)
    g_law_asks := gf_mk X G a23 l23 c23 k23 (fun F => F.binds fun _ _ _ _ _ _ us hl => match us, hl with | [_, _], _ => rfl)
    g_law_within := gf_mk X G a24 l24 c24 k24 (fun F => F.binds fun _ _ _ _ _ _ us hl => match us, hl with | [_, _], _ => rfl)
    g_law_led := gf_mk X G a25 l25 c25 k25 (fun F => F.binds fun _ _ _ _ _ _ us hl => match us, hl with | [_, _], _ => rfl)
    g_law_step_right := gf_mk X G a26 l26 c26 k26 (fun F => F.binds fun _ _ _ _ _ _ us hl => match us, hl with | [_, _, _, _, _], _ => rfl)
    w_init := if_mk X G aCW mkW kcW a28 i28 l28 c28 k28 (fun F => F.binds fun _ _ _ _ _ _ us hl => match us, hl with | [_, _], _ => rfl)
    w_number := mf_mk a29 i29 l29 c29 k29 (fun F => F.binds fun _ _ _ _ _ _ us hl => match us, hl with | [_, _, _], _ => rfl)
    w_holds := mf_mk a30 i30 l30 c30 k30 (fun F => F.binds fun _ _ _ _ _ _ us hl => match us, hl with | [_, _], _ => rfl)
    w_with_box := mf_mk a31 i31 l31 c31 k31 (fun F => F.binds fun _ _ _ _ _ _ us hl => match us, hl with | [_, _, _, _], _ => rfl)
    w_step := mf_mk a32 i32 l32 c32 k32 (fun F => F.binds fun _ _ _ _ _ _ us hl => match us, hl with | [_, _, _], _ => rfl)
    l_init := if_mk X G aCL mkL kcL a33 i33 l33 c33 k33 (fun F => F.binds fun _ _ _ _ _ _ us hl => match us, hl with | [_, _], _ => rfl)
    l_range_by := mf_mk a34 i34 l34 c34 k34 (fun F => F.binds fun _ _ _ _ _ _ us hl => match us, hl with | [_, _, _], _ => rfl)
    l_box_at := mf_mk a35 i35 l35 c35 k35 (fun F => F.binds fun _ _ _ _ _ _ us hl => match us, hl with | [_, _], _ => rfl)
    l_put_range := mf_mk a36 i36 l36 c36 k36 (fun F => F.binds fun _ _ _ _ _ _ us hl => match us, hl with | [_, _, _], _ => rfl)
    l_side := mf_mk a37 i37 l37 c37 k37 (fun F => F.binds fun _ _ _ _ _ _ us hl => match us, hl with | [_, _, _, _], _ => rfl)
    l_sides := mf_mk a38 i38 l38 c38 k38 (fun F => F.binds fun _ _ _ _ _ _ us hl => match us, hl with | [_, _, _, _], _ => rfl)
    l_ways_from := mf_mk a39 i39 l39 c39 k39 (fun F => F.binds fun _ _ _ _ _ _ us hl => match us, hl with | [_, _, _], _ => rfl)
  }
  have T : Txt K mg CW CL := ⟨⟨pgW, hdW, poW, saW⟩, ⟨pgL, hdL, poL, saL⟩, wB, wS, wG, wT, lB, lS, lT, lF, PySem.W.mg_none_of X G zTuple, PySem.W.mg_none_of X G zEnum, PySem.W.mg_none_of X G zZip, PySem.W.mg_none_of X G zDict, PySem.W.mg_none_of X G zMin, PySem.W.mg_none_of X G zMax, PySem.W.mg_none_of X G zAll, PySem.W.mg_none_of X G zSorted, PySem.W.mg_none_of X G zLen, PySem.W.mg_none_of X G zInt, PySem.W.mg_none_of X G zRange⟩
  exact ⟨PySem.W.fnOf "law" "law" (defArgs sLaw) (defBody sLaw) (defScope sLaw) .none kV27 dc27 pm27 an27 cd27 ct27, fun s v => .of_eq rfl, fun base _ _ => whole D T (fun_mk (st := sLaw) l27 c27 k27)⟩
theorem walk {l : PySem.W.OpenLaw} {q : Program} {loose : List Str} {XP : (Str → Option Value) → Heap → Prop} {YP : World → Heap → Prop} {d : DefRec} {K : Params → PySem.W.Frag} (hn : l.most = some 63) (hdf : d.params.defaults = [])
    (hY : ∀ (w : World) (h : Heap), YP w h → (K w.params).In h)
    (F : ∀ (w : World) (mg : Str → Option Value) (fa : Addr) (h : Heap), (K w.params).In h → h.Ns mainGlobals mg → mg d.name = some (.ref fa) →
      ∃ fd : FuncData, (∀ (s : Shared) (u : Value), BindsTo s fd ⟨[u], []⟩ [("script", u)]) ∧ ∀ base : Heap, (K w.params).In base → base.Ns mainGlobals mg → FnOk l.prog w (K w.params) mg base CX0 47 fa fd ["script"] (spLaw (K w.params))) :
    PySem.W.WalkO q loose XP YP l.row.toRowW d [] (fun f vs => PySem.call f vs) :=
  L2.walk_of (n := 63) (k := 47) (x := "script") (CX := fun _ => CX0) (sp := fun w => spLaw (K w.params)) hn (by decide) hdf ⟨rfl, by decide, by decide⟩ hY F (fun _ _ a ns hl _ hS => ⟨a, ns, rfl, hS, hl, fun _ => rfl⟩) fun _ _ _ _ _ z => z
end Er
open PySem PySem.W PyProof.Rows in
set_option maxRecDepth 100000 in
set_option maxHeartbeats 0 in
theorem PySem.Challenge.cw_everyrow_k38_whole_no_run_leaves_ranges_holds : PySem.Challenge.rw_everyrow_k38_whole_no_run_leaves_ranges.Holds := by
  w_on; o_law; k_head; (case hw => w_witness2)
  k_fill
  refine Er.walk (l := PySem.Challenge.rw_everyrow_k38_whole_no_run_leaves_ranges) rfl rfl (fun w h Y => PySem.W.kIn_of Y) ?F
  case F =>
    intro w mg fa h KX G hmg
    refine' Er.all_mk KX G hmg ?a1 ?l1 ?c1 ?k1 ?a2 ?l2 ?c2 ?k2 ?a3 ?l3 ?c3 ?k3 ?a4 ?l4 ?c4 ?k4 ?a5 ?l5 ?c5 ?k5 ?a6 ?l6 ?c6 ?k6 ?a7 ?l7 ?c7 ?k7 ?a8 ?l8 ?c8 ?k8 ?a9 ?l9 ?c9 ?k9 ?a10 ?l10 ?c10 ?k10 ?a11 ?l11 ?c11 ?k11 ?a12 ?l12 ?c12 ?k12 ?a13 ?l13 ?c13 ?k13 ?a14 ?l14 ?c14 ?k14 ?a15 ?l15 ?c15 ?k15 ?a16 ?l16 ?c16 ?k16 ?a17 ?l17 ?c17 ?k17 ?a18 ?l18 ?c18 ?k18 ?a19 ?l19 ?c19 ?k19 ?a20 ?l20 ?c20 ?k20 ?a21 ?l21 ?c21 ?k21 ?a22 ?l22 ?c22 ?k22 ?a23 ?l23 ?c23 ?k23 ?a24 ?l24 ?c24 ?k24 ?a25 ?l25 ?c25 ?k25 ?a26 ?l26 ?c26 ?k26 ?a27 ?l27 ?c27 ?k27 ?aCW ?aCL ?a28 ?i28 ?l28 ?c28 ?k28 ?a29 ?i29 ?l29 ?c29 ?k29 ?a30 ?i30 ?l30 ?c30 ?k30 ?a31 ?i31 ?l31 ?c31 ?k31 ?a32 ?i32 ?l32 ?c32 ?k32 ?a33 ?i33 ?l33 ?c33 ?k33 ?a34 ?i34 ?l34 ?c34 ?k34 ?a35 ?i35 ?l35 ?c35 ?k35 ?a36 ?i36 ?l36 ?c36 ?k36 ?a37 ?i37 ?l37 ?c37 ?k37 ?a38 ?i38 ?l38 ?c38 ?k38 ?a39 ?i39 ?l39 ?c39 ?k39 ?pgW ?hdW ?poW ?saW ?mkW ?kcW ?pgL ?hdL ?poL ?saL ?mkL ?kcL ?wB ?wS ?wG ?wT ?lB ?lS ?lT ?lF ?zTuple ?zEnum ?zZip ?zDict ?zMin ?zMax ?zAll ?zSorted ?zLen ?zInt ?zRange
    (case a1 => k_is)
    (case l1 => k_is)
    (case c1 => k_is)
    (case k1 => k_is)
    (case a2 => k_is)
    (case l2 => k_is)
    (case c2 => k_is)
    (case k2 => k_is)
    (case a3 => k_is)
    (case l3 => k_is)
    (case c3 => k_is)
    (case k3 => k_is)
    (case a4 => k_is)
    (case l4 => k_is)
    (case c4 => k_is)
    (case k4 => k_is)
    (case a5 => k_is)
    (case l5 => k_is)
    (case c5 => k_is)
    (case k5 => k_is)
    (case a6 => k_is)
    (case l6 => k_is)
    (case c6 => k_is)
    (case k6 => k_is)
    (case a7 => k_is)
    (case l7 => k_is)
    (case c7 => k_is)
    (case k7 => k_is)
    (case a8 => k_is)
    (case l8 => k_is)
    (case c8 => k_is)
    (case k8 => k_is)
    (case a9 => k_is)
    (case l9 => k_is)
    (case c9 => k_is)
    (case k9 => k_is)
    (case a10 => k_is)
    (case l10 => k_is)
    (case c10 => k_is)
    (case k10 => k_is)
    (case a11 => k_is)
    (case l11 => k_is)
    (case c11 => k_is)
    (case k11 => k_is)
    (case a12 => k_is)
    (case l12 => k_is)
    (case c12 => k_is)
    (case k12 => k_is)
    (case a13 => k_is)
    (case l13 => k_is)
    (case c13 => k_is)
    (case k13 => k_is)
    (case a14 => k_is)
    (case l14 => k_is)
    (case c14 => k_is)
    (case k14 => k_is)
    (case a15 => k_is)
    (case l15 => k_is)
    (case c15 => k_is)
    (case k15 => k_is)
    (case a16 => k_is)
    (case l16 => k_is)
    (case c16 => k_is)
    (case k16 => k_is)
    (case a17 => k_is)
    (case l17 => k_is)
    (case c17 => k_is)
    (case k17 => k_is)
    (case a18 => k_is)
    (case l18 => k_is)
    (case c18 => k_is)
    (case k18 => k_is)
    (case a19 => k_is)
    (case l19 => k_is)
    (case c19 => k_is)
    (case k19 => k_is)
    (case a20 => k_is)
    (case l20 => k_is)
    (case c20 => k_is)
    (case k20 => k_is)
    (case a21 => k_is)
    (case l21 => k_is)
    (case c21 => k_is)
    (case k21 => k_is)
    (case a22 => k_is)
    (case l22 => k_is)
    (case c22 => k_is)
    (case k22 => k_is)
    (case a23 => k_is)
    (case l23 => k_is)
    (case c23 => k_is)
    (case k23 => k_is)
    (case a24 => k_is)
    (case l24 => k_is)
    (case c24 => k_is)
    (case k24 => k_is)
    (case a25 => k_is)
    (case l25 => k_is)
    (case c25 => k_is)
    (case k25 => k_is)
    (case a26 => k_is)
    (case l26 => k_is)
    (case c26 => k_is)
    (case k26 => k_is)
    (case a27 => k_is)
    (case l27 => k_is)
    (case c27 => k_is)
    (case k27 => k_is)
    (case aCW => k_is)
    (case aCL => k_is)
    (case a28 => k_is)
    (case i28 => k_is)
    (case l28 => k_is)
    (case c28 => k_is)
    (case k28 => k_is)
    (case a29 => k_is)
    (case i29 => k_is)
    (case l29 => k_is)
    (case c29 => k_is)
    (case k29 => k_is)
    (case a30 => k_is)
    (case i30 => k_is)
    (case l30 => k_is)
    (case c30 => k_is)
    (case k30 => k_is)
    (case a31 => k_is)
    (case i31 => k_is)
    (case l31 => k_is)
    (case c31 => k_is)
    (case k31 => k_is)
    (case a32 => k_is)
    (case i32 => k_is)
    (case l32 => k_is)
    (case c32 => k_is)
    (case k32 => k_is)
    (case a33 => k_is)
    (case i33 => k_is)
    (case l33 => k_is)
    (case c33 => k_is)
    (case k33 => k_is)
    (case a34 => k_is)
    (case i34 => k_is)
    (case l34 => k_is)
    (case c34 => k_is)
    (case k34 => k_is)
    (case a35 => k_is)
    (case i35 => k_is)
    (case l35 => k_is)
    (case c35 => k_is)
    (case k35 => k_is)
    (case a36 => k_is)
    (case i36 => k_is)
    (case l36 => k_is)
    (case c36 => k_is)
    (case k36 => k_is)
    (case a37 => k_is)
    (case i37 => k_is)
    (case l37 => k_is)
    (case c37 => k_is)
    (case k37 => k_is)
    (case a38 => k_is)
    (case i38 => k_is)
    (case l38 => k_is)
    (case c38 => k_is)
    (case k38 => k_is)
    (case a39 => k_is)
    (case i39 => k_is)
    (case l39 => k_is)
    (case c39 => k_is)
    (case k39 => k_is)
    (case pgW => k_is)
    (case hdW => k_is)
    (case poW => k_is)
    (case saW => k_is)
    (case mkW => k_is)
    (case kcW => k_is)
    (case pgL => k_is)
    (case hdL => k_is)
    (case poL => k_is)
    (case saL => k_is)
    (case mkL => k_is)
    (case kcL => k_is)
    (case wB => k_is)
    (case wS => k_is)
    (case wG => k_is)
    (case wT => k_is)
    (case lB => k_is)
    (case lS => k_is)
    (case lT => k_is)
    (case lF => k_is)
    (case zTuple => k_is)
    (case zEnum => k_is)
    (case zZip => k_is)
    (case zDict => k_is)
    (case zMin => k_is)
    (case zMax => k_is)
    (case zAll => k_is)
    (case zSorted => k_is)
    (case zLen => k_is)
    (case zInt => k_is)
    (case zRange => k_is)

