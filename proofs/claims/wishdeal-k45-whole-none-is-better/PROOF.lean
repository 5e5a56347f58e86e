import PyProof.Rows.All
import Wide.All
import OpenK.AllK
import Wide.FinOn
import HandS.ForMost
import HandS.Evl
import HandS.Walk
import HandS.More
import HandS.NoneIn
import HandS.IsInst
import HandS.Style
import HandS.SortInts
import HandS.ListItems
import HandS.Rev
import KE.DataCmp
import KE.DataFind
import HandS.ExcValue
import PySem.Challenge.RW_wishdeal_k45_whole_none_is_better
set_option Elab.async false
set_option linter.all false
set_option maxRecDepth 100000
set_option maxHeartbeats 4000000
/-! Plain sums and chains over numbers below a bound. -/
namespace Wd

/-- f 0 + .. + f (n - 1) -/
def sm : Nat → (Nat → Int) → Int
  | 0, _ => 0
  | n + 1, f => sm n f + f n

theorem sm_congr : ∀ {n : Nat} {f g : Nat → Int}, (∀ i, i < n → f i = g i) → sm n f = sm n g
  | 0, _, _, _ => rfl
  | n + 1, f, g, h => by
    show sm n f + f n = sm n g + g n
    rw [sm_congr (n := n) fun i hi => h i (by omega), h n (by omega)]

theorem sm_le : ∀ {n : Nat} {f g : Nat → Int}, (∀ i, i < n → f i ≤ g i) → sm n f ≤ sm n g
  | 0, _, _, _ => Int.le_refl _
  | n + 1, f, g, h => by
    have h1 := sm_le (n := n) (f := f) (g := g) fun i hi => h i (by omega)
    have h2 := h n (by omega)
    show sm n f + f n ≤ sm n g + g n
    omega

theorem sm_nonneg {n : Nat} {f : Nat → Int} (h : ∀ i, i < n → 0 ≤ f i) : 0 ≤ sm n f := by
  induction n with
  | zero => exact Int.le_refl _
  | succ n ih =>
    have h1 := ih fun i hi => h i (by omega)
    have h2 := h n (by omega)
    show 0 ≤ sm n f + f n
    omega

theorem sm_add (n : Nat) (f g : Nat → Int) : sm n (fun i => f i + g i) = sm n f + sm n g := by
  induction n with
  | zero => rfl
  | succ n ih =>
    show sm n (fun i => f i + g i) + (f n + g n) = sm n f + f n + (sm n g + g n)
    rw [ih]; omega

theorem sm_sub (n : Nat) (f g : Nat → Int) : sm n (fun i => f i - g i) = sm n f - sm n g := by
  induction n with
  | zero => rfl
  | succ n ih =>
    show sm n (fun i => f i - g i) + (f n - g n) = sm n f + f n - (sm n g + g n)
    rw [ih]; omega

theorem sm_zero (n : Nat) : sm n (fun _ => 0) = 0 := by
  induction n with
  | zero => rfl
  | succ n ih => show sm n (fun _ => 0) + 0 = 0; rw [ih]; rfl

theorem sm_mul (n : Nat) (c : Int) (f : Nat → Int) : sm n (fun i => c * f i) = c * sm n f := by
  induction n with
  | zero => exact (Int.mul_zero c).symm
  | succ n ih =>
    show sm n (fun i => c * f i) + c * f n = c * (sm n f + f n)
    rw [ih, Int.mul_add]

/-- f and g agree but at k -/
theorem sm_one {n k : Nat} {f g : Nat → Int} (hk : k < n) (h : ∀ i, i < n → i ≠ k → f i = g i) : sm n f = sm n g + (f k - g k) := by
  induction n with
  | zero => omega
  | succ n ih =>
    show sm n f + f n = sm n g + g n + (f k - g k)
    by_cases e : k = n
    · subst e
      rw [sm_congr (n := k) (f := f) (g := g) fun i hi => h i (by omega) (by omega)]
      omega
    · rw [ih (by omega) fun i hi hne => h i (by omega) hne, h n (by omega) (by omega)]
      omega

/-- one place alone -/
theorem sm_at {n k : Nat} {x : Int} (hk : k < n) : sm n (fun i => if i = k then x else 0) = x := by
  have := sm_one (n := n) (k := k) (f := fun i => if i = k then x else 0) (g := fun _ => 0) hk fun i _ hne => by simp [hne]
  rw [this, sm_zero]
  simp

/-- non-negative, together 0: each is 0 -/
theorem sm_each0 {n : Nat} {f : Nat → Int} (h0 : ∀ i, i < n → 0 ≤ f i) (hs : sm n f = 0) : ∀ i, i < n → f i = 0 := by
  induction n with
  | zero => intro i hi; omega
  | succ n ih =>
    have h1 : 0 ≤ sm n f := sm_nonneg fun i hi => h0 i (by omega)
    have h2 := h0 n (by omega)
    have hs : sm n f + f n = 0 := hs
    intro i hi
    by_cases e : i = n
    · subst e; omega
    · exact ih (fun i hi => h0 i (by omega)) (by omega) i (by omega)

theorem sm_lt {n : Nat} {f g : Nat → Int} (h : ∀ i, i < n → f i ≤ g i) {k : Nat} (hk : k < n) (hl : f k < g k) : sm n f < sm n g := by
  induction n with
  | zero => omega
  | succ n ih =>
    have h2 := h n (by omega)
    show sm n f + f n < sm n g + g n
    by_cases e : k = n
    · subst e
      have h1 := sm_le (n := k) (f := f) (g := g) fun i hi => h i (by omega)
      omega
    · have := ih (fun i hi => h i (by omega)) (by omega)
      omega

/-- put x at k -/
def fset {α : Type} (f : Nat → α) (k : Nat) (x : α) : Nat → α := fun i => if i = k then x else f i
theorem fset_same {α : Type} {f : Nat → α} {k : Nat} {x : α} : fset f k x k = x := by unfold fset; rw [if_pos rfl]
theorem fset_ne {α : Type} {f : Nat → α} {k i : Nat} {x : α} (h : i ≠ k) : fset f k x i = f i := by unfold fset; rw [if_neg h]

/-! ### chains -/
/-- how many steps from t until nothing follows -/
def Dep (nx : Nat → Option Nat) : Nat → Nat → Prop
  | 0, t => nx t = none
  | n + 1, t => ∃ t', nx t = some t' ∧ Dep nx n t'

theorem Dep.uniq {nx : Nat → Option Nat} : ∀ {n m t : Nat}, Dep nx n t → Dep nx m t → n = m
  | 0, 0, _, _, _ => rfl
  | 0, m + 1, t, h, h' => by
    obtain ⟨t', e, _⟩ := h'
    have h : nx t = none := h
    rw [h] at e; cases e
  | n + 1, 0, t, h, h' => by
    obtain ⟨t', e, _⟩ := h
    have h' : nx t = none := h'
    rw [h'] at e; cases e
  | n + 1, m + 1, t, h, h' => by
    obtain ⟨t1, e1, d1⟩ := h
    obtain ⟨t2, e2, d2⟩ := h'
    rw [e1] at e2; cases e2
    rw [Dep.uniq d1 d2]

def Acyc (nx : Nat → Option Nat) : Prop := ∀ t, ∃ n, Dep nx n t

theorem Acyc.set {nx nx' : Nat → Option Nat} {t : Nat} {B : Nat → Prop} (hac : Acyc nx) (h1 : ∀ x, x ≠ t → nx' x = nx x)
    (hB : ∀ x y, B x → nx x = some y → B y) (ht : ¬ B t) (hn : ∀ y, nx' t = some y → B y) : Acyc nx' := by
  have stay : ∀ n x, Dep nx n x → B x → Dep nx' n x := by
    intro n
    induction n with
    | zero =>
      intro x d b
      have hx : x ≠ t := fun e => ht (e ▸ b)
      show nx' x = none
      rw [h1 x hx]; exact d
    | succ n ih =>
      intro x d b
      obtain ⟨y, e, d'⟩ := d
      have hx : x ≠ t := fun e => ht (e ▸ b)
      exact ⟨y, by rw [h1 x hx]; exact e, ih y d' (hB x y b e)⟩
  have att : ∃ n, Dep nx' n t := by
    cases e : nx' t with
    | none => exact ⟨0, e⟩
    | some y =>
      obtain ⟨n, d⟩ := hac y
      exact ⟨n + 1, y, e, stay n y d (hn y e)⟩
  have all : ∀ n x, Dep nx n x → ∃ m, Dep nx' m x := by
    intro n
    induction n with
    | zero =>
      intro x d
      by_cases e : x = t
      · rw [e]; exact att
      · exact ⟨0, by show nx' x = none; rw [h1 x e]; exact d⟩
    | succ n ih =>
      intro x d
      by_cases e : x = t
      · rw [e]; exact att
      · obtain ⟨y, e1, d'⟩ := d
        obtain ⟨m, d2⟩ := ih y d'
        exact ⟨m + 1, y, by rw [h1 x e]; exact e1, d2⟩
  intro x
  obtain ⟨n, d⟩ := hac x
  exact all n x d

end Wd
/-! Dealings, prices by which none is worth more, and the search's invariant. -/
namespace Wd

/-- what asker a has of worth -/
def val (wt : Nat → Nat → Option Int) (a : Nat) : Option Nat → Int
  | none => 0
  | some t => (wt a t).getD 0
def pv (p : Nat → Int) : Option Nat → Int
  | none => 0
  | some t => p t
def hit (o : Option Nat) (t : Nat) : Int := if o = some t then 1 else 0
/-- how many of the first n have t -/
def cnt (n : Nat) (d : Nat → Option Nat) (t : Nat) : Int := sm n fun a => hit (d a) t
def wsum (wt : Nat → Nat → Option Int) (n : Nat) (d : Nat → Option Nat) : Int := sm n fun a => val wt a (d a)

theorem hit_none (t : Nat) : hit none t = 0 := rfl
theorem hit_same (t : Nat) : hit (some t) t = 1 := by unfold hit; rw [if_pos rfl]
theorem hit_ne {o : Option Nat} {t : Nat} (h : o ≠ some t) : hit o t = 0 := by unfold hit; rw [if_neg h]
theorem hit_nonneg (o : Option Nat) (t : Nat) : 0 ≤ hit o t := by unfold hit; split <;> decide
theorem cnt_nonneg (n : Nat) (d : Nat → Option Nat) (t : Nat) : 0 ≤ cnt n d t := sm_nonneg fun _ _ => hit_nonneg _ _

theorem sum_pv {m : Nat} {p : Nat → Int} {d : Nat → Option Nat} : ∀ {n : Nat}, (∀ a, a < n → ∀ t, d a = some t → t < m) → sm n (fun a => pv p (d a)) = sm m fun t => cnt n d t * p t
  | 0, _ => by
    show 0 = sm m fun t => cnt 0 d t * p t
    rw [sm_congr (g := fun _ => 0) fun i _ => by show (0 : Int) * p i = 0; simp, sm_zero]
  | n + 1, h => by
    show sm n (fun a => pv p (d a)) + pv p (d n) = _
    rw [sum_pv (n := n) fun a ha => h a (by omega)]
    have e : ∀ t, cnt (n + 1) d t * p t = cnt n d t * p t + hit (d n) t * p t := fun t => by
      show (cnt n d t + hit (d n) t) * p t = _
      rw [Int.add_mul]
    rw [sm_congr (n := m) (g := fun t => cnt n d t * p t + hit (d n) t * p t) fun t _ => e t, sm_add]
    congr 1
    cases ed : d n with
    | none =>
      rw [sm_congr (g := fun _ => 0) fun i _ => by rw [hit_none]; simp, sm_zero]
      rfl
    | some t =>
      have ht := h n (by omega) t ed
      rw [sm_congr (g := fun i => if i = t then p t else 0) fun i _ => ?_, sm_at ht]
      · rfl
      · by_cases e : i = t
        · subst e; rw [hit_same, if_pos rfl]; simp
        · rw [hit_ne (fun z => e (Option.some.inj z).symm), if_neg e]; simp

/-- d gives the first k askers what they wish for, m things, c copies -/
structure Feas (wt : Nat → Nat → Option Int) (m : Nat) (c : Nat → Int) (k : Nat) (d : Nat → Option Nat) : Prop where
  wish : ∀ a, a < k → ∀ t, d a = some t → t < m ∧ (wt a t).isSome = true
  cop : ∀ t, t < m → cnt k d t ≤ c t
  out : ∀ a, k ≤ a → d a = none

structure Dual (wt : Nat → Nat → Option Int) (m : Nat) (c : Nat → Int) (k : Nat) (d : Nat → Option Nat) (u p : Nat → Int) : Prop where
  u0 : ∀ a, 0 ≤ u a
  p0 : ∀ t, 0 ≤ p t
  cov : ∀ a, a < k → ∀ t v, wt a t = some v → v ≤ u a + p t
  eq : sm k u + sm m (fun t => c t * p t) = wsum wt k d

section
variable {wt : Nat → Nat → Option Int} {m k : Nat} {c : Nat → Int} {d e : Nat → Option Nat} {u p : Nat → Int}

theorem val_le (u0 : ∀ a, 0 ≤ u a) (p0 : ∀ t, 0 ≤ p t) (cov : ∀ a, a < k → ∀ t v, wt a t = some v → v ≤ u a + p t) {a : Nat} (ha : a < k) (o : Option Nat) : val wt a o ≤ u a + pv p o := by
  cases o with
  | none => have := u0 a; show 0 ≤ u a + 0; omega
  | some t =>
    show (wt a t).getD 0 ≤ u a + p t
    cases hw : wt a t with
    | none => have := u0 a; have := p0 t; show 0 ≤ _; omega
    | some v => exact cov a ha t v hw

/-- no dealing is worth more than the prices tell -/
theorem weak (u0 : ∀ a, 0 ≤ u a) (p0 : ∀ t, 0 ≤ p t) (cov : ∀ a, a < k → ∀ t v, wt a t = some v → v ≤ u a + p t) (F : Feas wt m c k e) :
    wsum wt k e ≤ sm k u + sm m (fun t => c t * p t) := by
  have h1 : wsum wt k e ≤ sm k fun a => u a + pv p (e a) := sm_le fun a ha => val_le u0 p0 cov ha (e a)
  rw [sm_add, sum_pv (m := m) fun a ha t ht => (F.wish a ha t ht).1] at h1
  have h2 : sm m (fun t => cnt k e t * p t) ≤ sm m (fun t => c t * p t) := sm_le fun t ht => Int.mul_le_mul_of_nonneg_right (F.cop t ht) (p0 t)
  omega

theorem Dual.best (D : Dual wt m c k d u p) (F : Feas wt m c k e) : wsum wt k e ≤ wsum wt k d := by
  rw [← D.eq]; exact weak D.u0 D.p0 D.cov F

/-- each is just worth what it costs -/
theorem Dual.tight (D : Dual wt m c k d u p) (F : Feas wt m c k d) : (∀ a, a < k → val wt a (d a) = u a + pv p (d a)) ∧ ∀ t, t < m → (c t - cnt k d t) * p t = 0 := by
  have h1 : 0 ≤ sm k fun a => u a + pv p (d a) - val wt a (d a) := sm_nonneg fun a ha => by have := val_le D.u0 D.p0 D.cov ha (d a); omega
  have h2 : 0 ≤ sm m fun t => (c t - cnt k d t) * p t := sm_nonneg fun t ht => Int.mul_nonneg (by have := F.cop t ht; omega) (D.p0 t)
  have e1 : (sm k fun a => u a + pv p (d a) - val wt a (d a)) = sm k u + sm m (fun t => cnt k d t * p t) - wsum wt k d := by
    rw [sm_sub, sm_add, sum_pv (m := m) fun a ha t ht => (F.wish a ha t ht).1]
    rfl
  have e2 : (sm m fun t => (c t - cnt k d t) * p t) = sm m (fun t => c t * p t) - sm m (fun t => cnt k d t * p t) := by
    rw [← sm_sub]
    exact sm_congr fun t _ => Int.sub_mul _ _ _
  have h3 := D.eq
  refine ⟨fun a ha => ?_, fun t ht => ?_⟩
  · have := sm_each0 (n := k) (f := fun a => u a + pv p (d a) - val wt a (d a)) (fun a ha => by have := val_le D.u0 D.p0 D.cov ha (d a); omega) (by omega) a ha
    omega
  · exact sm_each0 (n := m) (f := fun t => (c t - cnt k d t) * p t) (fun t ht => Int.mul_nonneg (by have := F.cop t ht; omega) (D.p0 t)) (by omega) t ht

theorem Dual.free (D : Dual wt m c k d u p) (F : Feas wt m c k d) {t : Nat} (ht : t < m) (hl : cnt k d t < c t) : p t = 0 := by
  have h := (D.tight F).2 t ht
  rcases Int.mul_eq_zero.mp h with h | h
  · omega
  · exact h
theorem Dual.had (D : Dual wt m c k d u p) (F : Feas wt m c k d) {a t : Nat} {v : Int} (ha : a < k) (hd : d a = some t) (hw : wt a t = some v) : v = u a + p t := by
  have h := (D.tight F).1 a ha
  rw [hd] at h
  show v = _
  have e : val wt a (some t) = v := by show (wt a t).getD 0 = v; rw [hw]; rfl
  rw [e] at h
  exact h
theorem Dual.idle (D : Dual wt m c k d u p) (F : Feas wt m c k d) {a : Nat} (ha : a < k) (hd : d a = none) : u a = 0 := by
  have h := (D.tight F).1 a ha
  rw [hd] at h
  have h : (0 : Int) = u a + 0 := h
  omega
end

/-! ### the search from one asker -/
/-- what a gets to, by what it is reached by: nothing behind s -/
def nxt (d : Nat → Option Nat) (P : Nat → Option Nat) (t : Nat) : Option Nat := (P t).bind d

/-- F: how much is gained up to freeing an asker; T: up to taking a thing; P: who takes it -/
structure RInv (wt : Nat → Nat → Option Int) (m s : Nat) (d : Nat → Option Nat) (F T : Nat → Option Int) (P : Nat → Option Nat) : Prop where
  start : F s = some 0
  freed : ∀ a g, F a = some g → a = s ∨ (a < s ∧ ∃ t x v, d a = some t ∧ T t = some x ∧ wt a t = some v ∧ g ≤ x - v)
  taken : ∀ t x, T t = some x → t < m ∧ ∃ a g v, P t = some a ∧ wt a t = some v ∧ d a ≠ some t ∧ F a = some g ∧ x ≤ g + v
  nons : ∀ t, T t = none → P t = none
  acyc : Acyc (nxt d P)

section
variable {wt : Nat → Nat → Option Int} {m s : Nat} {c : Nat → Int} {d : Nat → Option Nat} {u p : Nat → Int} {F T : Nat → Option Int} {P : Nat → Option Nat}

theorem RInv.init (F : Nat → Option Int) (h0 : F s = some 0) (h1 : ∀ a, a ≠ s → F a = none) : RInv wt m s d F (fun _ => none) (fun _ => none) where
  start := h0
  freed := fun a g h => by
    by_cases e : a = s
    · exact .inl e
    · rw [h1 a e] at h; cases h
  taken := fun _ _ h => nomatch h
  nons := fun _ _ => rfl
  acyc := fun _ => ⟨0, rfl⟩

theorem RInv.asker (R : RInv wt m s d F T P) {a : Nat} {g : Int} (h : F a = some g) : a ≤ s := by
  rcases R.freed a g h with e | ⟨e, _⟩ <;> omega

/-- the potential falls towards a chain's end -/
theorem RInv.back (R : RInv wt m s d F T P) (D : Dual wt m c s d u p) (Fe : Feas wt m c s d) {t t' : Nat} {x : Int} (hT : T t = some x) (hn : nxt d P t = some t') :
    ∃ y, T t' = some y ∧ x - p t ≤ y - p t' := by
  obtain ⟨ht, a, g, v, hP, hw, hne, hF, hx⟩ := R.taken t x hT
  have hd : d a = some t' := by unfold nxt at hn; rw [hP] at hn; exact hn
  rcases R.freed a g hF with e | ⟨ha, t1, y, v1, hd1, hT1, hw1, hg⟩
  · subst e; rw [Fe.out a (Nat.le_refl _)] at hd; cases hd
  · rw [hd] at hd1; cases hd1
    have h1 := D.had Fe ha hd hw1
    have h2 := D.cov a ha t v hw
    exact ⟨y, hT1, by omega⟩

/-- one thing is reached better -/
theorem RInv.relax (R : RInv wt m s d F T P) (D : Dual wt m c s d u p) (Fe : Feas wt m c s d) {a t : Nat} {g v : Int} (hF : F a = some g) (hw : wt a t = some v) (ht : t < m) (hne : d a ≠ some t)
    (hb : ∀ x, T t = some x → x < g + v) : RInv wt m s d F (fset T t (some (g + v))) (fset P t (some a)) where
  start := R.start
  freed := fun b z h => by
    rcases R.freed b z h with e | ⟨hb', t1, x, v1, h1, h2, h3, h4⟩
    · exact .inl e
    · refine .inr ⟨hb', t1, ?_⟩
      by_cases e : t1 = t
      · subst e
        exact ⟨g + v, v1, h1, fset_same, h3, by have := hb x h2; omega⟩
      · exact ⟨x, v1, h1, by rw [fset_ne e]; exact h2, h3, h4⟩
  taken := fun t1 x h => by
    by_cases e : t1 = t
    · subst e
      rw [fset_same] at h; cases h
      exact ⟨ht, a, g, v, fset_same, hw, hne, hF, Int.le_refl _⟩
    · rw [fset_ne e] at h
      rw [fset_ne e]
      exact R.taken t1 x h
  nons := fun t1 h => by
    by_cases e : t1 = t
    · subst e; rw [fset_same] at h; cases h
    · rw [fset_ne e] at h; rw [fset_ne e]; exact R.nons t1 h
  acyc := by
    refine Acyc.set (t := t) (B := fun x => ∃ y, T x = some y ∧ ∀ z, T t = some z → z - p t < y - p x) R.acyc (fun x hx => ?_) (fun x y b hn => ?_) (fun b => ?_) (fun y hn => ?_)
    · unfold nxt; rw [fset_ne hx]
    · obtain ⟨z, hz, hlt⟩ := b
      obtain ⟨z', hz', hle⟩ := R.back D Fe hz hn
      exact ⟨z', hz', fun q hq => by have := hlt q hq; omega⟩
    · obtain ⟨y, hy, hlt⟩ := b
      have := hlt y hy
      omega
    · unfold nxt at hn
      rw [fset_same] at hn
      have hd : d a = some y := hn
      rcases R.freed a g hF with e | ⟨ha, t1, x, v1, h1, h2, h3, h4⟩
      · subst e; rw [Fe.out a (Nat.le_refl _)] at hd; cases hd
      · rw [hd] at h1; cases h1
        refine ⟨x, h2, fun z hz => ?_⟩
        have q1 := hb z hz
        have q2 := D.had Fe ha hd h3
        have q3 := D.cov a ha t v hw
        omega

/-- an asker is freed as its thing is reached now -/
theorem RInv.free (R : RInv wt m s d F T P) {a t : Nat} {x v : Int} (ha : a < s) (hd : d a = some t) (hT : T t = some x) (hw : wt a t = some v) : RInv wt m s d (fset F a (some (x - v))) T P where
  start := by rw [fset_ne (by omega)]; exact R.start
  freed := fun b g h => by
    by_cases e : b = a
    · subst e
      rw [fset_same] at h; cases h
      exact .inr ⟨ha, t, x, v, hd, hT, hw, Int.le_refl _⟩
    · rw [fset_ne e] at h
      exact R.freed b g h
  taken := fun t1 x1 h => by
    obtain ⟨ht, b, g, v1, hP, hw1, hne, hF, hx⟩ := R.taken t1 x1 h
    refine ⟨ht, b, ?_⟩
    by_cases e : b = a
    · subst e
      refine ⟨x - v, v1, hP, hw1, hne, fset_same, ?_⟩
      rcases R.freed b g hF with e | ⟨_, t2, y, v2, h1, h2, h3, h4⟩
      · omega
      · rw [hd] at h1; cases h1
        rw [hT] at h2; cases h2
        rw [hw] at h3; cases h3
        omega
    · exact ⟨g, v1, hP, hw1, hne, by rw [fset_ne e]; exact hF, hx⟩
  nons := R.nons
  acyc := R.acyc

/-- above all that is reached -/
theorem RInv.bound (R : RInv wt m s d F T P) (D : Dual wt m c s d u p) (Fe : Feas wt m c s d) {B : Int} (hB : ∀ t v, wt s t = some v → v - p t ≤ B) :
    ∀ t x, T t = some x → x - p t ≤ B := by
  have all : ∀ n t x, Dep (nxt d P) n t → T t = some x → x - p t ≤ B := by
    intro n
    induction n with
    | zero =>
      intro t x hd hT
      obtain ⟨ht, a, g, v, hP, hw, hne, hF, hx⟩ := R.taken t x hT
      have hd : nxt d P t = none := hd
      have hda : d a = none := by unfold nxt at hd; rw [hP] at hd; exact hd
      rcases R.freed a g hF with e | ⟨_, t1, _, _, h1, _⟩
      · subst e
        rw [R.start] at hF; cases hF
        have := hB t v hw
        omega
      · rw [hda] at h1; cases h1
    | succ n ih =>
      intro t x hd hT
      obtain ⟨t', e, hd'⟩ := hd
      obtain ⟨y, hy, hle⟩ := R.back D Fe hT e
      have := ih t' y hd' hy
      omega
  intro t x hT
  obtain ⟨n, hn⟩ := R.acyc t
  exact all n t x hn hT
theorem RInv.boundF (R : RInv wt m s d F T P) (D : Dual wt m c s d u p) (Fe : Feas wt m c s d) {B : Int} (h0 : 0 ≤ B) (hB : ∀ t v, wt s t = some v → v - p t ≤ B) :
    ∀ a g, F a = some g → g ≤ B := by
  intro a g h
  rcases R.freed a g h with e | ⟨ha, t, x, v, h1, h2, h3, h4⟩
  · subst e; rw [R.start] at h; cases h; exact h0
  · have q1 := R.bound D Fe hB t x h2
    have q2 := D.had Fe ha h1 h3
    have q3 := D.u0 a
    omega

/-! ### the end: new prices -/
/-- nothing is reached better -/
def Fixed (wt : Nat → Nat → Option Int) (d : Nat → Option Nat) (F T : Nat → Option Int) : Prop :=
  ∀ a g, F a = some g → ∀ t v, wt a t = some v → d a ≠ some t → ∃ x, T t = some x ∧ g + v ≤ x
/-- each asker is freed as its thing is reached -/
def Sync (wt : Nat → Nat → Option Int) (s : Nat) (d : Nat → Option Nat) (F T : Nat → Option Int) : Prop :=
  ∀ a t x v, a < s → d a = some t → T t = some x → wt a t = some v → F a = some (x - v)

def pNew (p : Nat → Int) (T : Nat → Option Int) (g : Int) (t : Nat) : Int := match T t with
  | none => p t
  | some x => max (p t) (x - g)
def uNew (u : Nat → Int) (s : Nat) (F : Nat → Option Int) (g : Int) (a : Nat) : Int := if a = s then g else match F a with
  | none => u a
  | some y => min (u a) (g - y)

theorem RInv.dual (R : RInv wt m s d F T P) (D : Dual wt m c s d u p) (Fe : Feas wt m c s d) (hfix : Fixed wt d F T) (hsync : Sync wt s d F T) {g : Int} (hg : 0 ≤ g)
    (hF : ∀ a y, F a = some y → y ≤ g) (hT : ∀ t x, T t = some x → cnt s d t < c t → x ≤ g) :
    (∀ a, 0 ≤ uNew u s F g a) ∧ (∀ t, 0 ≤ pNew p T g t) ∧ (∀ a, a < s + 1 → ∀ t v, wt a t = some v → v ≤ uNew u s F g a + pNew p T g t) ∧
    sm (s + 1) (uNew u s F g) + sm m (fun t => c t * pNew p T g t) = wsum wt s d + g := by
  have pge : ∀ t, p t ≤ pNew p T g t := fun t => by
    unfold pNew
    cases T t with
    | none => exact Int.le_refl _
    | some x => exact Int.le_max_left _ _
  refine ⟨fun a => ?_, fun t => Int.le_trans (D.p0 t) (pge t), fun a ha t v hw => ?_, ?_⟩
  · unfold uNew
    split
    · exact hg
    · cases e : F a with
      | none => exact D.u0 a
      | some y =>
        have h1 := D.u0 a
        have h2 := hF a y e
        show 0 ≤ min (u a) (g - y)
        omega
  · -- the case of a price that is the gain's
    have byGain : ∀ y, F a = some y → v ≤ (g - y) + pNew p T g t := fun y hy => by
      by_cases hda : d a = some t
      · -- what it has
        rcases R.freed a y hy with e | ⟨ha', t1, x, v1, h1, h2, h3, h4⟩
        · subst e; rw [Fe.out a (Nat.le_refl _)] at hda; cases hda
        · rw [hda] at h1; cases h1
          rw [hw] at h3; cases h3
          have : x - g ≤ pNew p T g t := by unfold pNew; rw [h2]; exact Int.le_max_right _ _
          omega
      · obtain ⟨x, hx, hle⟩ := hfix a y hy t v hw hda
        have : x - g ≤ pNew p T g t := by unfold pNew; rw [hx]; exact Int.le_max_right _ _
        omega
    by_cases e : a = s
    · subst e
      have := byGain 0 R.start
      unfold uNew
      rw [if_pos rfl]
      omega
    · unfold uNew
      rw [if_neg e]
      have h1 := D.cov a (by omega) t v hw
      have h2 := pge t
      cases hFa : F a with
      | none => show v ≤ u a + _; omega
      | some y =>
        have h3 := byGain y hFa
        show v ≤ min (u a) (g - y) + _
        omega
  · -- the sums
    have hs : sm (s + 1) (uNew u s F g) = sm s (uNew u s F g) + g := by
      show sm s (uNew u s F g) + uNew u s F g s = _
      congr 1
      unfold uNew
      rw [if_pos rfl]
    -- thing by thing the new prices stand for the old ones where all copies are dealt
    have e1 : sm m (fun t => c t * pNew p T g t) = sm m fun t => cnt s d t * pNew p T g t := sm_congr fun t ht => by
      by_cases hl : cnt s d t < c t
      · have h0 := D.free Fe ht hl
        have : pNew p T g t = 0 := by
          unfold pNew
          cases hTt : T t with
          | none => exact h0
          | some x =>
            have := hT t x hTt hl
            show max (p t) (x - g) = 0
            omega
        rw [this]; simp
      · have : c t = cnt s d t := by have := Fe.cop t ht; omega
        rw [this]
    rw [e1, ← sum_pv (n := s) fun a ha t ht => (Fe.wish a ha t ht).1, hs]
    have e2 : sm s (uNew u s F g) + sm s (fun a => pv (pNew p T g) (d a)) = wsum wt s d := by
      rw [← sm_add]
      refine sm_congr fun a ha => ?_
      cases hd : d a with
      | none =>
        have h0 := D.idle Fe ha hd
        show uNew u s F g a + 0 = 0
        unfold uNew
        rw [if_neg (by omega)]
        cases hFa : F a with
        | none => show u a + 0 = 0; omega
        | some y =>
          rcases R.freed a y hFa with e | ⟨_, t1, _, _, h1, _⟩
          · omega
          · rw [hd] at h1; cases h1
      | some t =>
        obtain ⟨_, hv⟩ := Fe.wish a ha t hd
        obtain ⟨v, hw⟩ := Option.isSome_iff_exists.mp hv
        have h1 := D.had Fe ha hd hw
        have e3 : val wt a (some t) = v := by show (wt a t).getD 0 = v; rw [hw]; rfl
        show uNew u s F g a + pNew p T g t = val wt a (some t)
        rw [e3]
        unfold uNew pNew
        rw [if_neg (by omega)]
        cases hTt : T t with
        | none =>
          cases hFa : F a with
          | none => show u a + p t = v; omega
          | some y =>
            rcases R.freed a y hFa with e | ⟨_, t1, x, _, h2, h3, _⟩
            · omega
            · rw [hd] at h2; cases h2
              rw [hTt] at h3; cases h3
        | some x =>
          rw [hsync a t x v ha hd hTt hw]
          show min (u a) (g - (x - v)) + max (p t) (x - g) = v
          omega
    omega
end
end Wd
/-! The search's end: the way laid; its turns are bounded; the prices that settle. -/
namespace Wd

theorem cnt_set {n a : Nat} {d : Nat → Option Nat} {o : Option Nat} (ha : a < n) (t : Nat) : cnt n (fset d a o) t = cnt n d t + (hit o t - hit (d a) t) := by
  have h := sm_one (n := n) (k := a) (f := fun i => hit (fset d a o i) t) (g := fun i => hit (d i) t) ha fun i _ hne => by rw [fset_ne hne]
  rw [show fset d a o a = o from fset_same] at h
  exact h
theorem wsum_set {wt : Nat → Nat → Option Int} {n a : Nat} {d : Nat → Option Nat} {o : Option Nat} (ha : a < n) : wsum wt n (fset d a o) = wsum wt n d + (val wt a o - val wt a (d a)) := by
  have h := sm_one (n := n) (k := a) (f := fun i => val wt i (fset d a o i)) (g := fun i => val wt i (d i)) ha fun i _ hne => by rw [fset_ne hne]
  rw [show fset d a o a = o from fset_same] at h
  exact h

/-- a way done -/
def appl (d : Nat → Option Nat) : List (Nat × Option Nat) → Nat → Option Nat
  | [] => d
  | q :: r => appl (fset d q.1 q.2) r
theorem fset_comm {α : Type} {f : Nat → α} {a b : Nat} {x y : α} (h : a ≠ b) : fset (fset f a x) b y = fset (fset f b y) a x := by
  funext i
  unfold fset
  by_cases h1 : i = b
  · by_cases h2 : i = a
    · exact absurd (h2.symm.trans h1) h
    · simp [h1, Ne.symm h]
  · simp [h1]
theorem appl_set : ∀ {way : List (Nat × Option Nat)} {d : Nat → Option Nat} {a : Nat} {o : Option Nat}, a ∉ way.map (·.1) → appl (fset d a o) way = fset (appl d way) a o
  | [], _, _, _, _ => rfl
  | q :: r, d, a, o, h => by
    have h1 : a ≠ q.1 := fun e => h (by rw [List.map_cons, e]; exact List.mem_cons_self)
    have h2 : a ∉ r.map (·.1) := fun e => h (by rw [List.map_cons]; exact List.mem_cons_of_mem _ e)
    show appl (fset (fset d a o) q.1 q.2) r = fset (appl (fset d q.1 q.2) r) a o
    rw [fset_comm h1, appl_set h2]
theorem appl_out : ∀ {way : List (Nat × Option Nat)} {d : Nat → Option Nat} {a : Nat}, a ∉ way.map (·.1) → appl d way a = d a
  | [], _, _, _ => rfl
  | q :: r, d, a, h => by
    have h1 : a ≠ q.1 := fun e => h (by rw [List.map_cons, e]; exact List.mem_cons_self)
    have h2 : a ∉ r.map (·.1) := fun e => h (by rw [List.map_cons]; exact List.mem_cons_of_mem _ e)
    show appl (fset d q.1 q.2) r a = d a
    rw [appl_out h2, fset_ne h1]

/-- the way from its head h on, laid over d -/
structure WInv (wt : Nat → Nat → Option Int) (m : Nat) (c : Nat → Int) (s : Nat) (d : Nat → Option Nat) (F : Nat → Option Int) (P : Nat → Option Nat) (g : Int) (h : Nat) (way : List (Nat × Option Nat)) (n : Nat) : Prop where
  head : ∃ o r, way = (h, o) :: r
  le : ∀ q, q ∈ way → q.1 ≤ s ∧ ∀ t, q.2 = some t → t < m
  dep : (h = s ∧ n = 0) ∨ (h < s ∧ ∃ t k, d h = some t ∧ Dep (nxt d P) k t ∧ n = k + 1)
  old : ∀ x, x ∈ way.map (·.1) → (x = s ∧ n = 0) ∨ ∃ t k, d x = some t ∧ Dep (nxt d P) k t ∧ n ≤ k + 1
  wish : ∀ a, a < s + 1 → ∀ t, appl d way a = some t → t < m ∧ (wt a t).isSome = true
  out : ∀ a, s + 1 ≤ a → appl d way a = none
  cop : ∀ t, t < m → cnt (s + 1) (appl d way) t + hit (d h) t ≤ c t
  gain : ∃ y, F h = some y ∧ g + wsum wt (s + 1) d ≤ wsum wt (s + 1) (appl d way) + val wt h (d h) + y

section
variable {wt : Nat → Nat → Option Int} {m s : Nat} {c : Nat → Int} {d : Nat → Option Nat} {u p : Nat → Int} {F T : Nat → Option Int} {P : Nat → Option Nat} {g : Int}

theorem wsum_next (Fe : Feas wt m c s d) : wsum wt (s + 1) d = wsum wt s d := by
  show wsum wt s d + val wt s (d s) = _
  rw [Fe.out s (Nat.le_refl _)]
  show _ + 0 = _
  omega
theorem cnt_next (Fe : Feas wt m c s d) (t : Nat) : cnt (s + 1) d t = cnt s d t := by
  show cnt s d t + hit (d s) t = _
  rw [Fe.out s (Nat.le_refl _), hit_none]
  omega
theorem feas_next (Fe : Feas wt m c s d) : Feas wt m c (s + 1) d where
  wish := fun a ha t h => by
    by_cases e : a = s
    · subst e; rw [Fe.out a (Nat.le_refl _)] at h; cases h
    · exact Fe.wish a (by omega) t h
  cop := fun t ht => by rw [cnt_next Fe]; exact Fe.cop t ht
  out := fun a ha => Fe.out a (by omega)

theorem dep_of (R : RInv wt m s d F T P) (Fe : Feas wt m c s d) {a : Nat} (ha : a ≤ s) (hd : a ≠ s → ∃ t, d a = some t) : ∃ n, (a = s ∧ n = 0) ∨ (a < s ∧ ∃ t k, d a = some t ∧ Dep (nxt d P) k t ∧ n = k + 1) := by
  by_cases e : a = s
  · exact ⟨0, .inl ⟨e, rfl⟩⟩
  · obtain ⟨t, ht⟩ := hd e
    obtain ⟨k, hk⟩ := R.acyc t
    exact ⟨k + 1, .inr ⟨by omega, t, k, ht, hk, rfl⟩⟩

/-- the way's last step: nothing for the asker a -/
theorem WInv.bare (R : RInv wt m s d F T P) (Fe : Feas wt m c s d) {a : Nat} (hF : F a = some g) (hg : 0 < g) : ∃ n, WInv wt m c s d F P g a [(a, none)] n := by
  rcases R.freed a g hF with e | ⟨ha, t, x, v, hd, hT, hw, hx⟩
  · subst e; rw [R.start] at hF; cases hF; omega
  obtain ⟨k, hk⟩ := R.acyc t
  have htm := (Fe.wish a ha t hd).1
  refine ⟨k + 1, ⟨_, _, rfl⟩, fun q hq => ?_, .inr ⟨ha, t, k, hd, hk, rfl⟩, fun x hx => ?_, fun b hb t1 h1 => ?_, fun b hb => ?_, fun t1 ht1 => ?_, g, hF, ?_⟩
  · rw [List.mem_singleton.mp hq]; exact ⟨by show a ≤ s; omega, fun t h => nomatch h⟩
  · have : x = a := by simpa using hx
    subst this
    exact .inr ⟨t, k, hd, hk, by omega⟩
  · have h1 : fset d a none b = some t1 := h1
    by_cases e : b = a
    · subst e; rw [fset_same] at h1; cases h1
    · rw [fset_ne e] at h1; exact (feas_next Fe).wish b hb t1 h1
  · show fset d a none b = none
    rw [fset_ne (by omega)]; exact Fe.out b (by omega)
  · show cnt (s + 1) (fset d a none) t1 + hit (d a) t1 ≤ c t1
    rw [cnt_set (by omega), hit_none]
    have := (feas_next Fe).cop t1 ht1
    omega
  · show g + wsum wt (s + 1) d ≤ wsum wt (s + 1) (fset d a none) + val wt a (d a) + g
    rw [wsum_set (by omega)]
    show _ ≤ _ + (0 - _) + _ + _
    omega

/-- the way's last step: a thing of which a copy is left -/
theorem WInv.thing (R : RInv wt m s d F T P) (Fe : Feas wt m c s d) {a t : Nat} (hP : P t = some a) (hT : T t = some g) (hl : cnt s d t < c t) : ∃ n, WInv wt m c s d F P g a [(a, some t)] n := by
  obtain ⟨htm, a1, y, v, hP1, hw, hne, hF, hle⟩ := R.taken t g hT
  rw [hP] at hP1; cases hP1
  have ha := R.asker hF
  obtain ⟨n, hn⟩ := dep_of R Fe ha fun hne => by
    rcases R.freed a y hF with e | ⟨_, t1, _, _, h1, _⟩
    · exact absurd e hne
    · exact ⟨t1, h1⟩
  refine ⟨n, ⟨_, _, rfl⟩, fun q hq => ?_, hn, fun x hx => ?_, fun b hb t1 h1 => ?_, fun b hb => ?_, fun t1 ht1 => ?_, y, hF, ?_⟩
  · rw [List.mem_singleton.mp hq]; exact ⟨ha, fun t' h => by cases h; exact htm⟩
  · have : x = a := by simpa using hx
    subst this
    rcases hn with h | ⟨_, t1, k, h1, h2, h3⟩
    · exact .inl h
    · exact .inr ⟨t1, k, h1, h2, by omega⟩
  · have h1 : fset d a (some t) b = some t1 := h1
    by_cases e : b = a
    · subst e; rw [fset_same] at h1; cases h1; exact ⟨htm, by rw [hw]; rfl⟩
    · rw [fset_ne e] at h1; exact (feas_next Fe).wish b hb t1 h1
  · show fset d a (some t) b = none
    rw [fset_ne (by omega)]; exact Fe.out b (by omega)
  · show cnt (s + 1) (fset d a (some t)) t1 + hit (d a) t1 ≤ c t1
    rw [cnt_set (by omega), cnt_next Fe]
    have := Fe.cop t1 ht1
    by_cases e : t1 = t
    · subst e; rw [hit_same]; omega
    · rw [hit_ne (o := some t) (fun z => e (Option.some.inj z).symm)]; omega
  · show g + wsum wt (s + 1) d ≤ wsum wt (s + 1) (fset d a (some t)) + val wt a (d a) + y
    rw [wsum_set (by omega)]
    have e : val wt a (some t) = v := by show (wt a t).getD 0 = v; rw [hw]; rfl
    rw [e]
    omega

/-- one step further back -/
theorem WInv.step (R : RInv wt m s d F T P) (Fe : Feas wt m c s d) {h n : Nat} {way : List (Nat × Option Nat)} (W : WInv wt m c s d F P g h way n) (hs : h ≠ s) :
    ∃ t a n', d h = some t ∧ t < m ∧ P t = some a ∧ n' < n ∧ a ∉ way.map (·.1) ∧ WInv wt m c s d F P g a ((a, some t) :: way) n' := by
  obtain ⟨y, hFh, hgain⟩ := W.gain
  rcases R.freed h y hFh with e | ⟨hlt, t, x, v, hd, hT, hw, hy⟩
  · exact absurd e hs
  obtain ⟨htm, a, y', v', hP, hw', hne, hF', hx⟩ := R.taken t x hT
  have ha := R.asker hF'
  rcases W.dep with ⟨e, _⟩ | ⟨_, t1, k, hd1, hk, hn⟩
  · exact absurd e hs
  rw [hd] at hd1; cases hd1
  -- how deep the next one is
  have hn' : ∃ n', n' < n ∧ ((a = s ∧ n' = 0) ∨ (a < s ∧ ∃ t k, d a = some t ∧ Dep (nxt d P) k t ∧ n' = k + 1)) := by
    by_cases e : a = s
    · exact ⟨0, by omega, .inl ⟨e, rfl⟩⟩
    · rcases R.freed a y' hF' with z | ⟨hlt', t2, _, _, h2, _⟩
      · exact absurd z e
      · have nx : nxt d P t = some t2 := by unfold nxt; rw [hP]; exact h2
        cases k with
        | zero => have hk : nxt d P t = none := hk; rw [nx] at hk; cases hk
        | succ k =>
          obtain ⟨t3, e3, hk3⟩ := hk
          rw [nx] at e3; cases e3
          exact ⟨k + 1, by omega, .inr ⟨hlt', t2, k, h2, hk3, rfl⟩⟩
  obtain ⟨n', hlt', hdep'⟩ := hn'
  -- it is not in the way
  have hnot : a ∉ way.map (·.1) := fun hin => by
    rcases W.old a hin with ⟨_, e⟩ | ⟨t2, k2, h2, h3, h4⟩
    · omega
    · rcases hdep' with ⟨e, _⟩ | ⟨_, t3, k3, h5, h6, h7⟩
      · subst e; rw [Fe.out a (Nat.le_refl _)] at h2; cases h2
      · rw [h2] at h5; cases h5
        have := Dep.uniq h3 h6
        omega
  have hap : appl d ((a, some t) :: way) = fset (appl d way) a (some t) := appl_set hnot
  have hat : appl d way a = d a := appl_out hnot
  refine ⟨t, a, n', hd, htm, hP, hlt', hnot, ⟨_, _, rfl⟩, fun q hq => ?_, hdep', fun x hx => ?_, fun b hb t1 h1 => ?_, fun b hb => ?_, fun t1 ht1 => ?_, y', hF', ?_⟩
  · rcases List.mem_cons.mp hq with e | hq
    · rw [e]; exact ⟨ha, fun t' h => by cases h; exact htm⟩
    · exact W.le q hq
  · rw [List.map_cons] at hx
    rcases List.mem_cons.mp hx with e | hx
    · have e : x = a := e
      subst e
      rcases hdep' with h | ⟨_, t1, k, h1, h2, h3⟩
      · exact .inl h
      · exact .inr ⟨t1, k, h1, h2, by omega⟩
    · rcases W.old x hx with ⟨_, e⟩ | ⟨t2, k2, h2, h3, h4⟩
      · omega
      · exact .inr ⟨t2, k2, h2, h3, by omega⟩
  · rw [hap] at h1
    by_cases e : b = a
    · subst e; rw [fset_same] at h1; cases h1; exact ⟨htm, by rw [hw']; rfl⟩
    · rw [fset_ne e] at h1; exact W.wish b hb t1 h1
  · rw [hap, fset_ne (by omega)]; exact W.out b hb
  · rw [hap, cnt_set (by omega), hat]
    have := W.cop t1 ht1
    rw [hd] at this
    by_cases e : t1 = t
    · subst e; rw [hit_same] at *; omega
    · rw [hit_ne (o := some t) (fun z => e (Option.some.inj z).symm)] at *; omega
  · rw [hap, wsum_set (by omega), hat]
    have e : val wt a (some t) = v' := by show (wt a t).getD 0 = v'; rw [hw']; rfl
    have e2 : val wt h (d h) = v := by rw [hd]; show (wt h t).getD 0 = v; rw [hw]; rfl
    rw [e]
    rw [e2] at hgain
    omega

/-- a stage is through: the first s + 1 askers have what is best -/
theorem stage (R : RInv wt m s d F T P) (D : Dual wt m c s d u p) (Fe : Feas wt m c s d) (hfix : Fixed wt d F T) (hsync : Sync wt s d F T) (hg : 0 ≤ g)
    (hF : ∀ a y, F a = some y → y ≤ g) (hT : ∀ t x, T t = some x → cnt s d t < c t → x ≤ g) {e : Nat → Option Nat} (Fe' : Feas wt m c (s + 1) e) (hle : wsum wt s d + g ≤ wsum wt (s + 1) e) :
    ∃ u' p', Dual wt m c (s + 1) e u' p' := by
  obtain ⟨h1, h2, h3, h4⟩ := R.dual D Fe hfix hsync hg hF hT
  have := weak h1 h2 h3 Fe'
  exact ⟨_, _, h1, h2, h3, by omega⟩
theorem WInv.feas {n : Nat} {way : List (Nat × Option Nat)} (W : WInv wt m c s d F P g s way n) : Feas wt m c (s + 1) (appl d way) :=
  ⟨W.wish, fun t ht => by have := W.cop t ht; have := hit_nonneg (d s) t; omega, W.out⟩
theorem WInv.more {n : Nat} {way : List (Nat × Option Nat)} (R : RInv wt m s d F T P) (Fe : Feas wt m c s d) (W : WInv wt m c s d F P g s way n) : wsum wt s d + g ≤ wsum wt (s + 1) (appl d way) := by
  obtain ⟨y, h1, h2⟩ := W.gain
  rw [R.start] at h1; cases h1
  rw [Fe.out s (Nat.le_refl _), wsum_next Fe] at h2
  have h2 : g + wsum wt s d ≤ wsum wt (s + 1) (appl d way) + 0 + 0 := h2
  omega

/-! ### how long the search goes on -/
def dom (m : Nat) (T : Nat → Option Int) : Int := sm m fun t => if (T t).isSome then 1 else 0
theorem dom_nonneg (m : Nat) (T : Nat → Option Int) : 0 ≤ dom m T := sm_nonneg fun t _ => by split <;> decide
theorem dom_le (m : Nat) (T : Nat → Option Int) : dom m T ≤ m := by
  have h : dom m T ≤ sm m fun _ => 1 := sm_le fun t _ => by split <;> decide
  have e : ∀ k : Nat, sm k (fun _ => 1) = k := fun k => by
    induction k with
    | zero => rfl
    | succ k ih => show sm k (fun _ => 1) + 1 = _; rw [ih]; omega
  rw [e] at h
  exact h
structure Low (m : Nat) (M : Int) (F T : Nat → Option Int) : Prop where
  t : ∀ t x, T t = some x → -(M * dom m T) ≤ x
  f : ∀ a y, F a = some y → -(M * (dom m T + 1)) ≤ y
theorem Low.init {M : Int} (hM : 0 ≤ M) (h0 : F s = some 0) (h1 : ∀ a, a ≠ s → F a = none) : Low m M F (fun _ => none) where
  t := fun _ _ h => nomatch h
  f := fun a y h => by
    by_cases e : a = s
    · subst e; rw [h0] at h; cases h
      have := Int.mul_nonneg hM (show 0 ≤ dom m (fun _ => none) + 1 by have := dom_nonneg m (fun _ => none); omega)
      omega
    · rw [h1 a e] at h; cases h
theorem dom_set {t : Nat} {x : Int} (ht : t < m) : dom m (fset T t (some x)) = dom m T + (if (T t).isSome then 0 else 1) := by
  have h := sm_one (n := m) (k := t) (f := fun i => if (fset T t (some x) i).isSome then 1 else 0) (g := fun i => if (T i).isSome then 1 else 0) ht fun i _ hne => by rw [fset_ne hne]
  rw [show fset T t (some x) t = some x from fset_same] at h
  show _ = _
  unfold dom
  rw [h]
  cases T t <;> simp
theorem Low.relax {M : Int} (hM : 0 ≤ M) (L : Low m M F T) {a t : Nat} {y v : Int} (hF : F a = some y) (hv : 0 ≤ v) (ht : t < m) (hb : ∀ x, T t = some x → x < y + v) : Low m M F (fset T t (some (y + v))) := by
  have hd := dom_set (T := T) (x := y + v) ht
  have hmul : ∀ k : Int, dom m T ≤ k → M * dom m T ≤ M * k := fun k h => Int.mul_le_mul_of_nonneg_left h hM
  have hmul1 : ∀ k : Int, dom m T ≤ k → M * (dom m T + 1) ≤ M * (k + 1) := fun k h => Int.mul_le_mul_of_nonneg_left (by omega) hM
  have hge : dom m T ≤ dom m (fset T t (some (y + v))) := by rw [hd]; split <;> omega
  refine ⟨fun t1 x h => ?_, fun b z h => ?_⟩
  · by_cases e : t1 = t
    · subst e
      rw [fset_same] at h; cases h
      cases hT : T t1 with
      | none =>
        rw [hd, hT]
        have := L.f a y hF
        show -(M * (dom m T + 1)) ≤ _
        omega
      | some x =>
        rw [hd, hT]
        have q1 := L.t t1 x hT
        have q2 := hb x hT
        show -(M * (dom m T + 0)) ≤ _
        rw [Int.add_zero]
        omega
    · rw [fset_ne e] at h
      have := L.t t1 x h
      have := hmul _ hge
      omega
  · have := L.f b z h
    have := hmul1 _ hge
    omega
theorem Low.free {M : Int} (L : Low m M F T) {a t : Nat} {x v : Int} (hT : T t = some x) (hv : v ≤ M) : Low m M (fset F a (some (x - v))) T := by
  refine ⟨L.t, fun b z h => ?_⟩
  by_cases e : b = a
  · subst e; rw [fset_same] at h; cases h
    have := L.t t x hT
    rw [Int.mul_add]
    omega
  · rw [fset_ne e] at h; exact L.f b z h

/-- what falls with each thing that is reached better -/
def gap (m : Nat) (M B : Int) (p : Nat → Int) (T : Nat → Option Int) : Int := sm m fun t => match T t with
  | none => B + p t + M * m + 1
  | some x => B + p t - x
theorem gap_nonneg {M B : Int} (hM : 0 ≤ M) (hB : 0 ≤ B) (p0 : ∀ t, 0 ≤ p t) (h : ∀ t x, T t = some x → x - p t ≤ B) : 0 ≤ gap m M B p T := sm_nonneg fun t _ => by
  cases e : T t with
  | none =>
    have := p0 t
    have := Int.mul_nonneg hM (Int.natCast_nonneg m)
    show 0 ≤ B + p t + M * m + 1
    omega
  | some x => have := h t x e; show 0 ≤ B + p t - x; omega
theorem gap_relax {M B : Int} (hM : 0 ≤ M) (L : Low m M F T) {a t : Nat} {y v : Int} (hF : F a = some y) (hv : 0 ≤ v) (ht : t < m) (hb : ∀ x, T t = some x → x < y + v) :
    gap m M B p (fset T t (some (y + v))) < gap m M B p T := by
  have h := sm_one (n := m) (k := t) (f := fun i => match fset T t (some (y + v)) i with | none => B + p i + M * m + 1 | some x => B + p i - x) (g := fun i => match T i with | none => B + p i + M * m + 1 | some x => B + p i - x) ht fun i _ hne => by rw [fset_ne hne]
  rw [show fset T t (some (y + v)) t = some (y + v) from fset_same] at h
  have L' := Low.relax hM L hF hv ht hb
  have q1 := L'.t t (y + v) fset_same
  have q2 : M * dom m (fset T t (some (y + v))) ≤ M * m := Int.mul_le_mul_of_nonneg_left (dom_le _ _) hM
  unfold gap
  rw [h]
  cases hT : T t with
  | none => show _ + (B + p t - (y + v) - (B + p t + M * m + 1)) < _; omega
  | some x => have := hb x hT; show _ + (B + p t - (y + v) - (B + p t - x)) < _; omega
end

/-! ### prices that settle -/
def rst (wt : Nat → Nat → Option Int) (d : Nat → Option Nat) (pr : Nat → Int) (a : Nat) : Int := val wt a (d a) - pv pr (d a)
structure PInv (wt : Nat → Nat → Option Int) (m n : Nat) (d : Nat → Option Nat) (p pr : Nat → Int) (ra : Nat → Option Nat) : Prop where
  lo : ∀ t, 0 ≤ pr t
  hi : ∀ t, pr t ≤ p t
  rai : ∀ t a, ra t = some a → a < n ∧ t < m ∧ ∃ v, wt a t = some v ∧ pr t ≤ v - rst wt d pr a
  acyc : Acyc (nxt d ra)
section
variable {wt : Nat → Nat → Option Int} {m n : Nat} {c : Nat → Int} {d : Nat → Option Nat} {u p pr : Nat → Int} {ra : Nat → Option Nat}
theorem PInv.init (p0 : ∀ t, 0 ≤ p t) : PInv wt m n d p (fun _ => 0) (fun _ => none) :=
  ⟨fun _ => Int.le_refl _, p0, fun _ _ h => (nomatch h), fun _ => ⟨0, rfl⟩⟩
theorem PInv.rest (I : PInv wt m n d p pr ra) (D : Dual wt m c n d u p) (Fe : Feas wt m c n d) {a : Nat} (ha : a < n) : u a ≤ rst wt d pr a := by
  have h := (D.tight Fe).1 a ha
  unfold rst
  cases e : d a with
  | none =>
    rw [e] at h
    have h : (0 : Int) = u a + 0 := h
    show u a ≤ 0 - 0
    omega
  | some t =>
    rw [e] at h
    have h : val wt a (some t) = u a + p t := h
    have := I.hi t
    show u a ≤ val wt a (some t) - pr t
    omega
theorem PInv.back (I : PInv wt m n d p pr ra) (D : Dual wt m c n d u p) (Fe : Feas wt m c n d) {t t' : Nat} (h : nxt d ra t = some t') : p t' - pr t' ≤ p t - pr t := by
  unfold nxt at h
  cases e : ra t with
  | none => rw [e] at h; cases h
  | some a =>
    rw [e] at h
    have h : d a = some t' := h
    obtain ⟨ha, _, v, hw, hle⟩ := I.rai t a e
    obtain ⟨_, hv'⟩ := Fe.wish a ha t' h
    obtain ⟨v', hw'⟩ := Option.isSome_iff_exists.mp hv'
    have q1 := D.had Fe ha h hw'
    have q2 := D.cov a ha t v hw
    unfold rst at hle
    rw [h] at hle
    have e2 : val wt a (some t') = v' := by show (wt a t').getD 0 = v'; rw [hw']; rfl
    rw [e2] at hle
    have hle : pr t ≤ v - (v' - pr t') := hle
    omega
theorem PInv.raise (I : PInv wt m n d p pr ra) (D : Dual wt m c n d u p) (Fe : Feas wt m c n d) {a t : Nat} {v : Int} (ha : a < n) (ht : t < m) (hw : wt a t = some v) (hlt : pr t < v - rst wt d pr a) :
    PInv wt m n d p (fset pr t (v - rst wt d pr a)) (fset ra t (some a)) ∧ ¬ cnt n d t < c t := by
  have hr := I.rest D Fe ha
  have hcov := D.cov a ha t v hw
  have hhi : v - rst wt d pr a ≤ p t := by omega
  have rmono : ∀ b, rst wt d (fset pr t (v - rst wt d pr a)) b ≤ rst wt d pr b := fun b => by
    unfold rst
    cases e : d b with
    | none => exact Int.le_refl _
    | some t1 =>
      show val wt b (some t1) - fset pr t _ t1 ≤ val wt b (some t1) - pr t1
      by_cases e1 : t1 = t
      · subst e1; rw [fset_same]; unfold rst at hlt; omega
      · rw [fset_ne e1]; exact Int.le_refl _
  refine ⟨⟨fun t1 => ?_, fun t1 => ?_, fun t1 b h => ?_, ?_⟩, fun hl => ?_⟩
  · by_cases e : t1 = t
    · subst e; rw [fset_same]; have := I.lo t1; omega
    · rw [fset_ne e]; exact I.lo t1
  · by_cases e : t1 = t
    · subst e; rw [fset_same]; exact hhi
    · rw [fset_ne e]; exact I.hi t1
  · by_cases e : t1 = t
    · subst e
      rw [fset_same] at h; cases h
      refine ⟨ha, ht, v, hw, ?_⟩
      rw [fset_same]
      have := rmono a
      omega
    · rw [fset_ne e] at h
      obtain ⟨h1, h2, v1, h3, h4⟩ := I.rai t1 b h
      refine ⟨h1, h2, v1, h3, ?_⟩
      rw [fset_ne e]
      have := rmono b
      omega
  · refine Acyc.set (t := t) (B := fun x => p x - pr x < p t - pr t) I.acyc (fun x hx => ?_) (fun x y b hn => ?_) (fun b => ?_) (fun y hn => ?_)
    · unfold nxt; rw [fset_ne hx]
    · have b : p x - pr x < p t - pr t := b
      have := I.back D Fe hn
      show p y - pr y < p t - pr t
      omega
    · have b : p t - pr t < p t - pr t := b
      omega
    · unfold nxt at hn
      rw [fset_same] at hn
      have hd : d a = some y := hn
      obtain ⟨_, hv'⟩ := Fe.wish a ha y hd
      obtain ⟨v', hw'⟩ := Option.isSome_iff_exists.mp hv'
      have q1 := D.had Fe ha hd hw'
      unfold rst at hlt
      rw [hd] at hlt
      have e2 : val wt a (some y) = v' := by show (wt a y).getD 0 = v'; rw [hw']; rfl
      rw [e2] at hlt
      have hlt : pr t < v - (v' - pr y) := hlt
      show p y - pr y < p t - pr t
      omega
  · have := D.free Fe ht hl
    have := I.lo t
    omega
/-- prices only rise, up to p -/
theorem PInv.room (I : PInv wt m n d p pr ra) : 0 ≤ sm m fun t => p t - pr t := sm_nonneg fun t _ => by have := I.hi t; omega
theorem room_raise {t : Nat} {x : Int} (ht : t < m) (hlt : pr t < x) : (sm m fun i => p i - fset pr t x i) < sm m fun i => p i - pr i := by
  have h := sm_one (n := m) (k := t) (f := fun i => p i - fset pr t x i) (g := fun i => p i - pr i) ht fun i _ hne => by rw [fset_ne hne]
  rw [h, fset_same]
  omega
end
end Wd
/-! Rows of numbers, read as one number: the greater row is the greater number. Orders of counts; worths. -/
namespace Wd

/-- the row x is less than the row y, place by place -/
def lx : List Int → List Int → Bool
  | [], [] => false
  | [], _ :: _ => true
  | _ :: _, [] => false
  | x :: xs, y :: ys => if x = y then lx xs ys else decide (x < y)
theorem lx_irrefl : ∀ xs : List Int, lx xs xs = false
  | [] => rfl
  | x :: xs => by show (if x = x then _ else _) = _; rw [if_pos rfl]; exact lx_irrefl xs
theorem lx_asymm : ∀ {xs ys : List Int}, lx xs ys = true → lx ys xs = false
  | [], [], h => nomatch h
  | [], _ :: _, _ => rfl
  | _ :: _, [], h => nomatch h
  | x :: xs, y :: ys, h => by
    have h : (if x = y then lx xs ys else decide (x < y)) = true := h
    show (if y = x then lx ys xs else decide (y < x)) = false
    by_cases e : x = y
    · rw [if_pos e] at h; rw [if_pos e.symm]; exact lx_asymm h
    · rw [if_neg e] at h; rw [if_neg (Ne.symm e)]
      have := of_decide_eq_true h
      exact decide_eq_false (by omega)
theorem lx_append : ∀ {a a' b b' : List Int}, a.length = a'.length → lx (a ++ b) (a' ++ b') = if a = a' then lx b b' else lx a a'
  | [], [], _, _, _ => by simp
  | [], _ :: _, _, _, h => by simp at h
  | _ :: _, [], _, _, h => by simp at h
  | x :: xs, y :: ys, b, b', h => by
    have h' : xs.length = ys.length := by simpa using h
    show (if x = y then lx (xs ++ b) (ys ++ b') else decide (x < y)) = _
    by_cases e : x = y
    · subst e
      rw [if_pos rfl, lx_append h']
      by_cases e2 : xs = ys
      · rw [if_pos e2, if_pos (by rw [e2])]
      · rw [if_neg e2, if_neg (by simpa using e2)]
        show _ = (if x = x then lx xs ys else decide (x < x))
        rw [if_pos rfl]
    · rw [if_neg e, if_neg (by intro z; injection z with z1 _; exact e z1)]
      show _ = (if x = y then lx xs ys else decide (x < y))
      rw [if_neg e]

def num (b : Int) : List Int → Int
  | [] => 0
  | x :: xs => x * b ^ xs.length + num b xs
theorem num_snoc (b : Int) : ∀ (xs : List Int) (x : Int), num b (xs ++ [x]) = num b xs * b + x
  | [], x => by show x * b ^ 0 + 0 = 0 * b + x; simp
  | y :: ys, x => by
    show y * b ^ (ys ++ [x]).length + num b (ys ++ [x]) = (y * b ^ ys.length + num b ys) * b + x
    rw [num_snoc b ys x, List.length_append, List.length_singleton, Int.pow_succ, Int.add_mul, Int.mul_assoc]
    omega

theorem num_near {b : Int} (hb : 1 ≤ b) : ∀ {xs ys : List Int}, xs.length = ys.length → (∀ i (h1 : i < xs.length) (h2 : i < ys.length), xs[i] - ys[i] < b ∧ ys[i] - xs[i] < b) →
    num b xs - num b ys ≤ b ^ xs.length - 1 ∧ num b ys - num b xs ≤ b ^ xs.length - 1
  | [], [], _, _ => by simp [num]
  | [], _ :: _, h, _ => by simp at h
  | _ :: _, [], h, _ => by simp at h
  | x :: xs, y :: ys, h, hd => by
    have h' : xs.length = ys.length := by simpa using h
    obtain ⟨i1, i2⟩ := num_near hb h' fun i h1 h2 => hd (i + 1) (by simpa using h1) (by simpa using h2)
    obtain ⟨d1, d2⟩ := hd 0 (by simp) (by simp)
    have d1 : x - y < b := d1
    have d2 : y - x < b := d2
    have hp : 0 ≤ b ^ xs.length := Int.pow_nonneg (by omega)
    have e1 : num b (x :: xs) = x * b ^ xs.length + num b xs := rfl
    have e2 : num b (y :: ys) = y * b ^ xs.length + num b ys := by rw [h']; rfl
    have e3 : b ^ (x :: xs).length = b * b ^ xs.length := by rw [List.length_cons, Int.pow_succ, Int.mul_comm]
    have m1 : (x - y) * b ^ xs.length ≤ (b - 1) * b ^ xs.length := Int.mul_le_mul_of_nonneg_right (by omega) hp
    have m2 : (y - x) * b ^ xs.length ≤ (b - 1) * b ^ xs.length := Int.mul_le_mul_of_nonneg_right (by omega) hp
    rw [Int.sub_mul] at m1 m2
    rw [Int.sub_mul, Int.one_mul] at m1 m2
    rw [e1, e2, e3]
    constructor <;> omega
/-- the less number is the less row -/
theorem num_lx {b : Int} (hb : 1 ≤ b) : ∀ {xs ys : List Int}, xs.length = ys.length → (∀ i (h1 : i < xs.length) (h2 : i < ys.length), xs[i] - ys[i] < b ∧ ys[i] - xs[i] < b) →
    (num b xs < num b ys → lx xs ys = true) ∧ (num b xs = num b ys → xs = ys)
  | [], [], _, _ => by simp [num]
  | [], _ :: _, h, _ => by simp at h
  | _ :: _, [], h, _ => by simp at h
  | x :: xs, y :: ys, h, hd => by
    have h' : xs.length = ys.length := by simpa using h
    have hd' : ∀ i (h1 : i < xs.length) (h2 : i < ys.length), xs[i] - ys[i] < b ∧ ys[i] - xs[i] < b := fun i h1 h2 => hd (i + 1) (by simpa using h1) (by simpa using h2)
    obtain ⟨i1, i2⟩ := num_near hb h' hd'
    obtain ⟨l1, l2⟩ := num_lx hb h' hd'
    have hp : 0 < b ^ xs.length := Int.pow_pos (by omega)
    have e1 : num b (x :: xs) = x * b ^ xs.length + num b xs := rfl
    have e2 : num b (y :: ys) = y * b ^ xs.length + num b ys := by rw [h']; rfl
    rw [e1, e2]
    have e0 : lx (x :: xs) (y :: ys) = if x = y then lx xs ys else decide (x < y) := rfl
    rcases Int.lt_trichotomy x y with hlt | he | hgt
    · have m : (1 : Int) * b ^ xs.length ≤ (y - x) * b ^ xs.length := Int.mul_le_mul_of_nonneg_right (by omega) (by omega)
      rw [Int.sub_mul] at m
      refine ⟨fun _ => ?_, fun q => by omega⟩
      rw [e0, if_neg (by omega)]
      exact decide_eq_true hlt
    · subst he
      refine ⟨fun q => ?_, fun q => ?_⟩
      · rw [e0, if_pos rfl]; exact l1 (by omega)
      · rw [l2 (by omega)]
    · have m : (1 : Int) * b ^ xs.length ≤ (x - y) * b ^ xs.length := Int.mul_le_mul_of_nonneg_right (by omega) (by omega)
      rw [Int.sub_mul] at m
      exact ⟨fun q => by omega, fun q => by omega⟩

theorem num_map (b : Int) (f : Nat → Int) : ∀ n : Nat, num b ((List.range n).map f) = sm n fun j => f j * b ^ (n - 1 - j)
  | 0 => rfl
  | n + 1 => by
    rw [List.range_succ, List.map_append, List.map_singleton, num_snoc, num_map b f n]
    show _ = sm n (fun j => f j * b ^ (n + 1 - 1 - j)) + f n * b ^ (n + 1 - 1 - n)
    rw [show n + 1 - 1 - n = 0 by omega, Int.pow_zero, Int.mul_one, Int.mul_comm, ← sm_mul]
    congr 1
    refine sm_congr fun j hj => ?_
    rw [show n + 1 - 1 - j = (n - 1 - j) + 1 by omega, Int.pow_succ, Int.mul_comm b, Int.mul_assoc]
theorem num_rev (b : Int) (f : Nat → Int) : ∀ n : Nat, num b (((List.range n).map f).reverse) = sm n fun j => f j * b ^ j
  | 0 => rfl
  | n + 1 => by
    rw [List.range_succ, List.map_append, List.map_singleton, List.reverse_append]
    show f n * b ^ (((List.range n).map f).reverse).length + num b (((List.range n).map f).reverse) = sm n (fun j => f j * b ^ j) + f n * b ^ n
    rw [num_rev b f n, List.length_reverse, List.length_map, List.length_range]
    omega

/-! ### orders -/
inductive Ord where
  | firsts | full | lasts

/-- what a rank is worth by the order; B to the power .. -/
def byo : Ord → Int → Nat → Nat → Int
  | .firsts, B, R, i => B ^ (R - i)
  | .full, B, R, i => B ^ (R - i) + B ^ R
  | .lasts, B, R, i => B ^ R - B ^ (i - 1)
/-- the place of a rank among the counts; nothing is last -/
def cix (R r : Nat) : Nat := if r = 0 then R else r - 1
def cnts (n R : Nat) (rk : Nat → Nat) : List Int := (List.range (R + 1)).map fun j => cnt n (fun a => some (cix R (rk a))) j
def hgt : Ord → List Int → List Int
  | .firsts, l => l
  | .full, l => (0 - l.getLastD 0) :: l
  | .lasts, l => l.reverse.map fun x => 0 - x
def oval (o : Ord) (B : Int) (R : Nat) (r : Nat) : Int := if r = 0 then 0 else byo o B R r
def osum (o : Ord) (n R : Nat) (rk : Nat → Nat) : Int := sm n fun a => oval o (n + 1) R (rk a)

section
variable {n R : Nat} {rk rk' : Nat → Nat}
theorem cix_le {r : Nat} (h : r ≤ R) : cix R r ≤ R := by unfold cix; split <;> omega
theorem cnt_le (n : Nat) (d : Nat → Option Nat) (t : Nat) : cnt n d t ≤ n := by
  induction n with
  | zero => exact Int.le_refl _
  | succ n ih =>
    show cnt n d t + hit (d n) t ≤ _
    have : hit (d n) t ≤ 1 := by unfold hit; split <;> decide
    omega
/-- each asker is counted once -/
theorem cnt_all (h : ∀ a, a < n → rk a ≤ R) : sm (R + 1) (fun j => cnt n (fun a => some (cix R (rk a))) j) = n := by
  have e := sum_pv (m := R + 1) (p := fun _ => 1) (d := fun a => some (cix R (rk a))) (n := n) fun a ha t ht => by
    cases ht
    have := cix_le (h a ha)
    omega
  rw [sm_congr (n := R + 1) (g := fun t => cnt n (fun a => some (cix R (rk a))) t * 1) fun i _ => (Int.mul_one _).symm, ← e]
  have z : ∀ k : Nat, sm k (fun a => pv (fun _ => 1) (some (cix R (rk a)))) = k := fun k => by
    induction k with
    | zero => rfl
    | succ k ih => show sm k _ + 1 = _; rw [ih]; omega
  exact z n
/-- sums over askers by their ranks are sums over counts -/
theorem sum_cix (f : Nat → Int) (h : ∀ a, a < n → rk a ≤ R) : sm n (fun a => f (cix R (rk a))) = sm (R + 1) fun j => cnt n (fun a => some (cix R (rk a))) j * f j :=
  sum_pv (m := R + 1) (p := f) (d := fun a => some (cix R (rk a))) (n := n) fun a ha t ht => by
    cases ht
    have := cix_le (h a ha)
    omega

theorem cnts_split (n R : Nat) (rk : Nat → Nat) : cnts n R rk = (List.range R).map (fun j => cnt n (fun a => some (cix R (rk a))) j) ++ [cnt n (fun a => some (cix R (rk a))) R] := by
  unfold cnts
  rw [List.range_succ, List.map_append]
  rfl
theorem oval_cix (o : Ord) (B : Int) {r : Nat} (h : r ≤ R) : oval o B R r = if cix R r = R then 0 else byo o B R (cix R r + 1) := by
  unfold oval cix
  by_cases e : r = 0
  · simp [e]
  · rw [if_neg e, if_neg e, if_neg (by omega), show r - 1 + 1 = r by omega]
theorem osum_cnt (o : Ord) (h : ∀ a, a < n → rk a ≤ R) : osum o n R rk = sm R fun j => cnt n (fun a => some (cix R (rk a))) j * byo o (n + 1) R (j + 1) := by
  unfold osum
  rw [sm_congr (n := n) (g := fun a => (fun j => if j = R then 0 else byo o ((n : Int) + 1) R (j + 1)) (cix R (rk a))) fun a ha => oval_cix o _ (h a ha)]
  rw [sum_cix (fun j => if j = R then 0 else byo o ((n : Int) + 1) R (j + 1)) h]
  show sm R _ + cnt n _ R * (if R = R then 0 else _) = _
  rw [if_pos rfl, Int.mul_zero, Int.add_zero]
  exact sm_congr fun j hj => by rw [if_neg (show ¬ j = R by omega)]

theorem cnt_near {d d' : Nat → Option Nat} (t t' : Nat) : cnt n d t - cnt n d' t' < (n : Int) + 1 ∧ cnt n d' t' - cnt n d t < (n : Int) + 1 := by
  have := cnt_le n d t; have := cnt_le n d' t'; have := cnt_nonneg n d t; have := cnt_nonneg n d' t'
  omega
theorem map_near (k : Nat) (f g : Nat → Int) (b : Int) (h : ∀ j, j < k → f j - g j < b ∧ g j - f j < b) : ∀ i (h1 : i < ((List.range k).map f).length) (h2 : i < ((List.range k).map g).length), ((List.range k).map f)[i] - ((List.range k).map g)[i] < b ∧ ((List.range k).map g)[i] - ((List.range k).map f)[i] < b := fun i h1 h2 => by
  have h1 : i < k := by simpa using h1
  simpa using h i h1

/-- less by the order's sum: less by the order; as much: the same counts -/
theorem order_num (o : Ord) (h : ∀ a, a < n → rk a ≤ R) (h' : ∀ a, a < n → rk' a ≤ R) :
    (osum o n R rk < osum o n R rk' → lx (hgt o (cnts n R rk)) (hgt o (cnts n R rk')) = true) ∧ (osum o n R rk = osum o n R rk' → cnts n R rk = cnts n R rk') := by
  have hB : (1 : Int) ≤ (n : Int) + 1 := by omega
  have s1 := cnt_all h
  have s2 := cnt_all h'
  -- the first R counts settle the last one
  have last : (List.range R).map (fun j => cnt n (fun a => some (cix R (rk a))) j) = (List.range R).map (fun j => cnt n (fun a => some (cix R (rk' a))) j) → cnts n R rk = cnts n R rk' := fun e => by
    have e1 : ∀ j, j < R → cnt n (fun a => some (cix R (rk a))) j = cnt n (fun a => some (cix R (rk' a))) j := fun j hj => by
      have := congrArg (fun l => l[j]?) e
      simpa [hj] using this
    have s1 : sm R (fun j => cnt n (fun a => some (cix R (rk a))) j) + cnt n (fun a => some (cix R (rk a))) R = n := s1
    have s2 : sm R (fun j => cnt n (fun a => some (cix R (rk' a))) j) + cnt n (fun a => some (cix R (rk' a))) R = n := s2
    have e2 : sm R (fun j => cnt n (fun a => some (cix R (rk a))) j) = sm R (fun j => cnt n (fun a => some (cix R (rk' a))) j) := sm_congr e1
    rw [cnts_split, cnts_split, e, show cnt n (fun a => some (cix R (rk a))) R = cnt n (fun a => some (cix R (rk' a))) R by omega]
  rw [osum_cnt o h, osum_cnt o h']
  cases o with
  | firsts =>
    have near := map_near R (fun j => cnt n (fun a => some (cix R (rk a))) j) (fun j => cnt n (fun a => some (cix R (rk' a))) j) ((n : Int) + 1) fun j _ => cnt_near j j
    obtain ⟨l1, l2⟩ := num_lx hB (by simp) near
    have n1 := num_map ((n : Int) + 1) (fun j => cnt n (fun a => some (cix R (rk a))) j) R
    have n2 := num_map ((n : Int) + 1) (fun j => cnt n (fun a => some (cix R (rk' a))) j) R
    have q : ∀ f : Nat → Int, sm R (fun j => f j * byo .firsts ((n : Int) + 1) R (j + 1)) = sm R fun j => f j * ((n : Int) + 1) ^ (R - 1 - j) := fun f => sm_congr fun j _ => by
      show f j * ((n : Int) + 1) ^ (R - (j + 1)) = _
      rw [show R - (j + 1) = R - 1 - j by omega]
    rw [q, q, ← n1, ← n2]
    refine ⟨fun lt => ?_, fun e => last (l2 e)⟩
    show lx (cnts n R rk) (cnts n R rk') = true
    rw [cnts_split, cnts_split, lx_append (by simp)]
    have := l1 lt
    rw [if_neg fun e => by rw [e, lx_irrefl] at this; cases this]
    exact this
  | full =>
    have near := map_near R (fun j => cnt n (fun a => some (cix R (rk a))) j) (fun j => cnt n (fun a => some (cix R (rk' a))) j) ((n : Int) + 1) fun j _ => cnt_near j j
    have n1 := num_map ((n : Int) + 1) (fun j => cnt n (fun a => some (cix R (rk a))) j) R
    have n2 := num_map ((n : Int) + 1) (fun j => cnt n (fun a => some (cix R (rk' a))) j) R
    have s1 : sm R (fun j => cnt n (fun a => some (cix R (rk a))) j) + cnt n (fun a => some (cix R (rk a))) R = n := s1
    have s2 : sm R (fun j => cnt n (fun a => some (cix R (rk' a))) j) + cnt n (fun a => some (cix R (rk' a))) R = n := s2
    have q : ∀ f : Nat → Int, sm R (fun j => f j * byo .full ((n : Int) + 1) R (j + 1)) = sm R (fun j => f j * ((n : Int) + 1) ^ (R - 1 - j)) + sm R f * ((n : Int) + 1) ^ R := fun f => by
      rw [Int.mul_comm (sm R f), ← sm_mul, ← sm_add]
      refine sm_congr fun j _ => ?_
      show f j * (((n : Int) + 1) ^ (R - (j + 1)) + ((n : Int) + 1) ^ R) = _
      rw [show R - (j + 1) = R - 1 - j by omega, Int.mul_add, Int.mul_comm (f j) (((n : Int) + 1) ^ R)]
    rw [q, q, ← n1, ← n2]
    -- one place ahead
    have near2 : ∀ i (h1 : i < ((0 - cnt n (fun a => some (cix R (rk a))) R) :: (List.range R).map (fun j => cnt n (fun a => some (cix R (rk a))) j)).length) (h2 : i < ((0 - cnt n (fun a => some (cix R (rk' a))) R) :: (List.range R).map (fun j => cnt n (fun a => some (cix R (rk' a))) j)).length),
        ((0 - cnt n (fun a => some (cix R (rk a))) R) :: (List.range R).map (fun j => cnt n (fun a => some (cix R (rk a))) j))[i] - ((0 - cnt n (fun a => some (cix R (rk' a))) R) :: (List.range R).map (fun j => cnt n (fun a => some (cix R (rk' a))) j))[i] < (n : Int) + 1 ∧
        ((0 - cnt n (fun a => some (cix R (rk' a))) R) :: (List.range R).map (fun j => cnt n (fun a => some (cix R (rk' a))) j))[i] - ((0 - cnt n (fun a => some (cix R (rk a))) R) :: (List.range R).map (fun j => cnt n (fun a => some (cix R (rk a))) j))[i] < (n : Int) + 1 := fun i h1 h2 => by
      cases i with
      | zero =>
        show (0 - cnt n (fun a => some (cix R (rk a))) R) - (0 - cnt n (fun a => some (cix R (rk' a))) R) < (n : Int) + 1 ∧ (0 - cnt n (fun a => some (cix R (rk' a))) R) - (0 - cnt n (fun a => some (cix R (rk a))) R) < (n : Int) + 1
        have := @cnt_near n (fun a => some (cix R (rk a))) (fun a => some (cix R (rk' a))) R R
        omega
      | succ i => exact near i (by simpa using h1) (by simpa using h2)
    obtain ⟨l1, l2⟩ := num_lx hB (by simp) near2
    have m : ∀ (x : Int) (f : Nat → Int), num ((n : Int) + 1) ((0 - x) :: (List.range R).map f) = num ((n : Int) + 1) ((List.range R).map f) - x * ((n : Int) + 1) ^ R := fun x f => by
      show (0 - x) * ((n : Int) + 1) ^ ((List.range R).map f).length + _ = _
      rw [List.length_map, List.length_range, Int.sub_mul]
      omega
    rw [m, m] at l1 l2
    have k1 : sm R (fun j => cnt n (fun a => some (cix R (rk a))) j) * ((n : Int) + 1) ^ R = n * ((n : Int) + 1) ^ R - cnt n (fun a => some (cix R (rk a))) R * ((n : Int) + 1) ^ R := by
      rw [← Int.sub_mul]; congr 1; omega
    have k2 : sm R (fun j => cnt n (fun a => some (cix R (rk' a))) j) * ((n : Int) + 1) ^ R = n * ((n : Int) + 1) ^ R - cnt n (fun a => some (cix R (rk' a))) R * ((n : Int) + 1) ^ R := by
      rw [← Int.sub_mul]; congr 1; omega
    rw [k1, k2]
    have g : ∀ rk : Nat → Nat, (cnts n R rk).getLastD 0 = cnt n (fun a => some (cix R (rk a))) R := fun rk => by rw [cnts_split]; simp
    refine ⟨fun lt => ?_, fun e => ?_⟩
    · show lx ((0 - (cnts n R rk).getLastD 0) :: cnts n R rk) ((0 - (cnts n R rk').getLastD 0) :: cnts n R rk') = true
      rw [g, g, cnts_split, cnts_split, ← List.cons_append, ← List.cons_append, lx_append (by simp)]
      have := l1 (by omega)
      rw [if_neg fun e => by rw [e, lx_irrefl] at this; cases this]
      exact this
    · have := l2 (by omega)
      injection this with _ e2
      exact last e2
  | lasts =>
    have s1 : sm R (fun j => cnt n (fun a => some (cix R (rk a))) j) + cnt n (fun a => some (cix R (rk a))) R = n := s1
    have s2 : sm R (fun j => cnt n (fun a => some (cix R (rk' a))) j) + cnt n (fun a => some (cix R (rk' a))) R = n := s2
    have n1 := num_rev ((n : Int) + 1) (fun j => 0 - cnt n (fun a => some (cix R (rk a))) j) (R + 1)
    have n2 := num_rev ((n : Int) + 1) (fun j => 0 - cnt n (fun a => some (cix R (rk' a))) j) (R + 1)
    have hh : ∀ rk : Nat → Nat, hgt .lasts (cnts n R rk) = ((List.range (R + 1)).map fun j => 0 - cnt n (fun a => some (cix R (rk a))) j).reverse := fun rk => by
      show (cnts n R rk).reverse.map (fun x => 0 - x) = _
      unfold cnts
      rw [← List.map_reverse, List.map_map, ← List.map_reverse]
      rfl
    have near : ∀ i (h1 : i < (((List.range (R + 1)).map fun j => 0 - cnt n (fun a => some (cix R (rk a))) j).reverse).length) (h2 : i < (((List.range (R + 1)).map fun j => 0 - cnt n (fun a => some (cix R (rk' a))) j).reverse).length),
        (((List.range (R + 1)).map fun j => 0 - cnt n (fun a => some (cix R (rk a))) j).reverse)[i] - (((List.range (R + 1)).map fun j => 0 - cnt n (fun a => some (cix R (rk' a))) j).reverse)[i] < (n : Int) + 1 ∧
        (((List.range (R + 1)).map fun j => 0 - cnt n (fun a => some (cix R (rk' a))) j).reverse)[i] - (((List.range (R + 1)).map fun j => 0 - cnt n (fun a => some (cix R (rk a))) j).reverse)[i] < (n : Int) + 1 := fun i h1 h2 => by
      rw [List.getElem_reverse, List.getElem_reverse]
      simp only [List.getElem_map, List.getElem_range, List.length_map, List.length_range]
      have := @cnt_near n (fun a => some (cix R (rk a))) (fun a => some (cix R (rk' a))) (R + 1 - 1 - i) (R + 1 - 1 - i)
      omega
    obtain ⟨l1, l2⟩ := num_lx hB (by simp) near
    rw [n1, n2] at l1 l2
    have q : ∀ f : Nat → Int, sm R (fun j => f j * byo .lasts ((n : Int) + 1) R (j + 1)) = sm (R + 1) (fun j => (0 - f j) * ((n : Int) + 1) ^ j) + (sm R f + f R) * ((n : Int) + 1) ^ R := fun f => by
      show _ = sm R (fun j => (0 - f j) * ((n : Int) + 1) ^ j) + (0 - f R) * ((n : Int) + 1) ^ R + (sm R f + f R) * ((n : Int) + 1) ^ R
      have e1 : sm R (fun j => f j * byo .lasts ((n : Int) + 1) R (j + 1)) = sm R (fun j => (0 - f j) * ((n : Int) + 1) ^ j) + sm R f * ((n : Int) + 1) ^ R := by
        rw [Int.mul_comm (sm R f), ← sm_mul, ← sm_add]
        refine sm_congr fun j _ => ?_
        show f j * (((n : Int) + 1) ^ R - ((n : Int) + 1) ^ (j + 1 - 1)) = _
        rw [show j + 1 - 1 = j by omega, Int.mul_sub, Int.mul_comm (f j) (((n : Int) + 1) ^ R), Int.sub_mul]
        omega
      rw [e1, Int.add_mul, Int.sub_mul]
      omega
    rw [q, q, s1, s2]
    refine ⟨fun lt => ?_, fun e => ?_⟩
    · rw [hh, hh]; exact l1 (by omega)
    · have e3 := l2 (by omega)
      have e4 := List.reverse_inj.mp e3
      unfold cnts
      refine List.map_congr_left fun j hj => ?_
      have e5 := congrArg (fun l => l[j]?) e4
      have hj : j < R + 1 := by simpa using hj
      have e6 : 0 - cnt n (fun a => some (cix R (rk a))) j = 0 - cnt n (fun a => some (cix R (rk' a))) j := by simpa [hj] using e5
      omega
end
end Wd
/-! Worths of dealings beside their scores. -/
namespace Wd

/-- a rank by turns: the first one the greatest -/
def rrow (R : Nat) (turns : List Nat) (rk : Nat → Nat) : List Int := turns.map fun a => if rk a = 0 then 0 else (R : Int) + 1 - rk a
def pick (R : Nat) (turns : List Nat) (a r : Nat) : Int := if a ∈ turns then ((R : Int) + 1 - r) * ((R : Int) + 1) ^ (turns.length - 1 - turns.idxOf a) else 0
def pick0 (R : Nat) (turns : List Nat) (a r : Nat) : Int := if r = 0 then 0 else pick R turns a r
def kept (old : Nat → Option Nat) (a : Nat) (o : Option Nat) : Int := match o with
  | none => 0
  | some t => if old a = some t then 1 else 0

section
variable {n R : Nat}

theorem rrow_cons (R : Nat) (t : Nat) (ts : List Nat) (rk : Nat → Nat) : rrow R (t :: ts) rk = (if rk t = 0 then 0 else (R : Int) + 1 - rk t) :: rrow R ts rk := rfl
theorem rrow_length (R : Nat) (ts : List Nat) (rk : Nat → Nat) : (rrow R ts rk).length = ts.length := List.length_map ..

/-- the sum over askers is the number that the ranks by turns write -/
theorem sum_pick (rk : Nat → Nat) : ∀ {turns : List Nat}, turns.Nodup → (∀ a, a ∈ turns → a < n) → sm n (fun a => pick0 R turns a (rk a)) = num ((R : Int) + 1) (rrow R turns rk)
  | [], _, _ => by
    rw [sm_congr (g := fun _ => 0) fun a _ => by unfold pick0 pick; simp, sm_zero]
    rfl
  | t :: ts, hn, hl => by
    obtain ⟨h1, h2⟩ := List.nodup_cons.mp hn
    have ih := sum_pick rk h2 fun a ha => hl a (List.mem_cons_of_mem _ ha)
    have ht := hl t List.mem_cons_self
    have e := sm_one (n := n) (k := t) (f := fun a => pick0 R (t :: ts) a (rk a)) (g := fun a => pick0 R ts a (rk a)) ht fun a _ hne => by
      unfold pick0 pick
      have e1 : a ∈ t :: ts ↔ a ∈ ts := by simp [hne]
      by_cases hm : a ∈ ts
      · have hi := List.idxOf_lt_length_of_mem hm
        have ec : (t :: ts).idxOf a = ts.idxOf a + 1 := by
          rw [List.idxOf_cons]
          have : (t == a) = false := beq_eq_false_iff_ne.mpr fun z => hne z.symm
          rw [this]
          rfl
        rw [if_pos hm, if_pos (e1.mpr hm), ec, List.length_cons, show ts.length + 1 - 1 - (ts.idxOf a + 1) = ts.length - 1 - ts.idxOf a by omega]
      · rw [if_neg hm, if_neg fun z => hm (e1.mp z)]
    rw [e, ih, rrow_cons]
    show _ = (if rk t = 0 then 0 else (R : Int) + 1 - rk t) * ((R : Int) + 1) ^ (rrow R ts rk).length + num ((R : Int) + 1) (rrow R ts rk)
    have e2 : pick0 R ts t (rk t) = 0 := by unfold pick0 pick; rw [if_neg h1]; split <;> rfl
    have e3 : pick0 R (t :: ts) t (rk t) = (if rk t = 0 then 0 else (R : Int) + 1 - rk t) * ((R : Int) + 1) ^ ts.length := by
      unfold pick0 pick
      rw [if_pos List.mem_cons_self, List.idxOf_cons_self, List.length_cons, show ts.length + 1 - 1 - 0 = ts.length by omega]
      by_cases e : rk t = 0
      · rw [if_pos e, if_pos e]; simp
      · rw [if_neg e, if_neg e]
    rw [e2, e3, rrow_length]
    omega

theorem rrow_near {rk rk' : Nat → Nat} {turns : List Nat} (h : ∀ a, a ∈ turns → rk a ≤ R) (h' : ∀ a, a ∈ turns → rk' a ≤ R) :
    ∀ i (h1 : i < (rrow R turns rk).length) (h2 : i < (rrow R turns rk').length), (rrow R turns rk)[i] - (rrow R turns rk')[i] < (R : Int) + 1 ∧ (rrow R turns rk')[i] - (rrow R turns rk)[i] < (R : Int) + 1 := fun i h1 h2 => by
  unfold rrow at h1 h2 ⊢
  simp only [List.getElem_map]
  have hi : i < turns.length := by simpa using h1
  have q1 := h turns[i] (List.getElem_mem hi)
  have q2 := h' turns[i] (List.getElem_mem hi)
  split <;> split <;> omega
theorem num_rrow {rk : Nat → Nat} : ∀ {turns : List Nat}, (∀ a, a ∈ turns → rk a ≤ R) → 0 ≤ num ((R : Int) + 1) (rrow R turns rk) ∧ num ((R : Int) + 1) (rrow R turns rk) ≤ ((R : Int) + 1) ^ turns.length - 1
  | [], _ => by simp [num, rrow]
  | t :: ts, h => by
    obtain ⟨i1, i2⟩ := num_rrow (turns := ts) fun a ha => h a (List.mem_cons_of_mem _ ha)
    have ht := h t List.mem_cons_self
    rw [rrow_cons]
    show 0 ≤ _ * ((R : Int) + 1) ^ (rrow R ts rk).length + num _ _ ∧ _ * ((R : Int) + 1) ^ (rrow R ts rk).length + num _ _ ≤ _
    rw [rrow_length, List.length_cons, Int.pow_succ]
    have hp : 0 ≤ ((R : Int) + 1) ^ ts.length := Int.pow_nonneg (by omega)
    have hd : 0 ≤ (if rk t = 0 then (0 : Int) else (R : Int) + 1 - rk t) ∧ (if rk t = 0 then (0 : Int) else (R : Int) + 1 - rk t) ≤ R := by split <;> omega
    have m1 := Int.mul_nonneg hd.1 hp
    have m2 := Int.mul_le_mul_of_nonneg_right hd.2 hp
    have e : ((R : Int) + 1) ^ ts.length * ((R : Int) + 1) = (R : Int) * ((R : Int) + 1) ^ ts.length + ((R : Int) + 1) ^ ts.length := by rw [Int.mul_add, Int.mul_one, Int.mul_comm]
    rw [e]
    constructor <;> omega

/-- three numbers in one -/
def pack (B M O K T : Int) : Int := (O * B + K) * M + T
theorem pack_le {B M O K T O' K' T' : Int} (hM : 0 < M) (k0 : 0 ≤ K) (k1 : K < B) (k0' : 0 ≤ K') (k1' : K' < B) (t0 : 0 ≤ T) (t1 : T < M) (t0' : 0 ≤ T') (t1' : T' < M) (h : pack B M O K T ≤ pack B M O' K' T') :
    O < O' ∨ (O = O' ∧ (K < K' ∨ (K = K' ∧ T ≤ T'))) := by
  unfold pack at h
  rcases Int.lt_trichotomy O O' with hlt | he | hgt
  · exact .inl hlt
  · subst he
    refine .inr ⟨rfl, ?_⟩
    rcases Int.lt_trichotomy K K' with hlt | he | hgt
    · exact .inl hlt
    · subst he; exact .inr ⟨rfl, by omega⟩
    · have m : 1 * M ≤ (O * B + K - (O * B + K')) * M := Int.mul_le_mul_of_nonneg_right (by omega) (by omega)
      rw [Int.sub_mul] at m
      omega
  · have m1 : 1 * B ≤ (O - O') * B := Int.mul_le_mul_of_nonneg_right (by omega) (by omega)
    rw [Int.sub_mul] at m1
    have m : 1 * M ≤ (O * B + K - (O' * B + K')) * M := Int.mul_le_mul_of_nonneg_right (by omega) (by omega)
    rw [Int.sub_mul] at m
    omega

/-- an asker's worth, by what it has -/
def wone (o : Ord) (n R : Nat) (old : Nat → Option Nat) (turns : List Nat) (a r : Nat) (t : Nat) : Int :=
  pack ((n : Int) + 1) (((R : Int) + 1) ^ turns.length) (byo o ((n : Int) + 1) R r) (kept old a (some t)) (pick R turns a r)

theorem kept_nonneg (old : Nat → Option Nat) (a : Nat) (o : Option Nat) : 0 ≤ kept old a o := by
  unfold kept; split
  · decide
  · split <;> decide
theorem kept_le (old : Nat → Option Nat) (a : Nat) (o : Option Nat) : kept old a o ≤ 1 := by
  unfold kept; split
  · decide
  · split <;> decide
theorem ksum_le (old : Nat → Option Nat) (d : Nat → Option Nat) : ∀ n : Nat, 0 ≤ sm n (fun a => kept old a (d a)) ∧ sm n (fun a => kept old a (d a)) ≤ n
  | 0 => by simp [sm]
  | n + 1 => by
    have ih := ksum_le old d n
    have := kept_nonneg old n (d n)
    have := kept_le old n (d n)
    show 0 ≤ _ + kept old n (d n) ∧ _ + kept old n (d n) ≤ _
    omega

theorem sum_pack (B M : Int) (f g h : Nat → Int) (n : Nat) : sm n (fun a => pack B M (f a) (g a) (h a)) = pack B M (sm n f) (sm n g) (sm n h) := by
  unfold pack
  have e : ∀ a, (f a * B + g a) * M + h a = M * (B * f a + g a) + h a := fun a => by rw [Int.mul_comm M, Int.mul_comm B]
  rw [sm_congr (g := fun a => M * (B * f a + g a) + h a) fun a _ => e a, sm_add, sm_mul, sm_add, sm_mul, Int.mul_comm M, Int.mul_comm B]

/-- what a dealing is worth -/
theorem wsum_pack {wt : Nat → Nat → Option Int} {o : Ord} {old : Nat → Option Nat} {turns : List Nat} {d : Nat → Option Nat} {rk : Nat → Nat} (hn : turns.Nodup) (hl : ∀ a, a ∈ turns → a < n)
    (hw : ∀ a, a < n → ∀ t, d a = some t → rk a ≠ 0 ∧ wt a t = some (wone o n R old turns a (rk a) t)) (h0 : ∀ a, a < n → d a = none → rk a = 0) :
    wsum wt n d = pack ((n : Int) + 1) (((R : Int) + 1) ^ turns.length) (osum o n R rk) (sm n fun a => kept old a (d a)) (num ((R : Int) + 1) (rrow R turns rk)) := by
  rw [← sum_pick (n := n) rk hn hl]
  unfold osum
  rw [← sum_pack]
  refine sm_congr fun a ha => ?_
  cases hd : d a with
  | none =>
    have hr := h0 a ha hd
    show (0 : Int) = pack _ _ (oval o _ R (rk a)) 0 (pick0 R turns a (rk a))
    unfold oval pick0 pack
    rw [if_pos hr, if_pos hr]
    simp
  | some t =>
    obtain ⟨hr, hv⟩ := hw a ha t hd
    show (wt a t).getD 0 = _
    rw [hv]
    show wone o n R old turns a (rk a) t = _
    unfold wone oval pick0
    rw [if_neg hr, if_neg hr]

/-- a dealing that is worth no more is not better -/
theorem score_le {o : Ord} {old : Nat → Option Nat} {turns : List Nat} {d d' : Nat → Option Nat} {rk rk' : Nat → Nat} (hl : ∀ a, a ∈ turns → a < n) (hr : ∀ a, a < n → rk a ≤ R) (hr' : ∀ a, a < n → rk' a ≤ R)
    (h : pack ((n : Int) + 1) (((R : Int) + 1) ^ turns.length) (osum o n R rk) (sm n fun a => kept old a (d a)) (num ((R : Int) + 1) (rrow R turns rk)) ≤
      pack ((n : Int) + 1) (((R : Int) + 1) ^ turns.length) (osum o n R rk') (sm n fun a => kept old a (d' a)) (num ((R : Int) + 1) (rrow R turns rk'))) :
    lx (hgt o (cnts n R rk)) (hgt o (cnts n R rk')) = true ∨ (cnts n R rk = cnts n R rk' ∧ ((sm n fun a => kept old a (d a)) < (sm n fun a => kept old a (d' a)) ∨
      ((sm n fun a => kept old a (d a)) = (sm n fun a => kept old a (d' a)) ∧ lx (rrow R turns rk') (rrow R turns rk) = false))) := by
  have k1 := ksum_le old d n
  have k2 := ksum_le old d' n
  have t1 := num_rrow (R := R) (rk := rk) (turns := turns) fun a ha => hr a (hl a ha)
  have t2 := num_rrow (R := R) (rk := rk') (turns := turns) fun a ha => hr' a (hl a ha)
  have hM : 0 < ((R : Int) + 1) ^ turns.length := Int.pow_pos (by omega)
  obtain ⟨o1, o2⟩ := order_num o hr hr'
  rcases pack_le hM k1.1 (by omega) k2.1 (by omega) t1.1 (by omega) t2.1 (by omega) h with hO | ⟨hO, hK⟩
  · exact .inl (o1 hO)
  · refine .inr ⟨o2 hO, ?_⟩
    rcases hK with hK | ⟨hK, hT⟩
    · exact .inl hK
    · refine .inr ⟨hK, ?_⟩
      obtain ⟨l1, l2⟩ := num_lx (b := (R : Int) + 1) (by omega) (xs := rrow R turns rk) (ys := rrow R turns rk') (by rw [rrow_length, rrow_length]) (rrow_near (fun a ha => hr a (hl a ha)) fun a ha => hr' a (hl a ha))
      rcases Int.lt_or_eq_of_le hT with hlt | he
      · exact lx_asymm (l1 hlt)
      · rw [l2 he]; exact lx_irrefl _

/-- nothing is behind all ranks -/
def place (R r : Nat) : Nat := if r = 0 then R + 1 else r
theorem oval_mono (o : Ord) {B : Int} (hB : 2 ≤ B) {r r' : Nat} (h : r ≤ R) (h' : r' ≤ R) (hp : place R r < place R r') : oval o B R r' < oval o B R r := by
  unfold place at hp
  have mono : ∀ i j : Nat, i < j → B ^ i < B ^ j := fun i j hij => by
    obtain ⟨k, rfl⟩ : ∃ k, j = i + 1 + k := ⟨j - (i + 1), by omega⟩
    have p1 : 0 < B ^ i := Int.pow_pos (by omega)
    have p2 : 0 < B ^ k := Int.pow_pos (by omega)
    rw [Int.pow_add, Int.pow_succ]
    have m1 : B ^ i * 2 ≤ B ^ i * B := Int.mul_le_mul_of_nonneg_left hB (by omega)
    have m2 : B ^ i * B * 1 ≤ B ^ i * B * B ^ k := Int.mul_le_mul_of_nonneg_left (by omega) (by omega)
    omega
  have pos : ∀ i : Nat, 0 < B ^ i := fun i => Int.pow_pos (by omega)
  by_cases e : r = 0
  · rw [if_pos e] at hp; split at hp <;> omega
  · rw [if_neg e] at hp
    unfold oval
    rw [if_neg e]
    by_cases e' : r' = 0
    · rw [if_pos e']
      cases o with
      | firsts => exact pos _
      | full => show 0 < B ^ (R - r) + B ^ R; have := pos (R - r); have := pos R; omega
      | lasts => show 0 < B ^ R - B ^ (r - 1); have := mono (r - 1) R (by omega); omega
    · rw [if_neg e']
      rw [if_neg e'] at hp
      cases o with
      | firsts => exact mono _ _ (by omega)
      | full => show B ^ (R - r') + B ^ R < B ^ (R - r) + B ^ R; have := mono (R - r') (R - r) (by omega); omega
      | lasts => show B ^ R - B ^ (r' - 1) < B ^ R - B ^ (r - 1); have := mono (r - 1) (r' - 1) (by omega); omega

/-- no worse for each asker, better for one: worth more -/
theorem above_more {o : Ord} {old : Nat → Option Nat} {turns : List Nat} {d d' : Nat → Option Nat} {rk rk' : Nat → Nat} (hl : ∀ a, a ∈ turns → a < n) (hr : ∀ a, a < n → rk a ≤ R) (hr' : ∀ a, a < n → rk' a ≤ R)
    (hle : ∀ a, a < n → place R (rk a) ≤ place R (rk' a)) {a : Nat} (ha : a < n) (hlt : place R (rk a) < place R (rk' a)) :
    pack ((n : Int) + 1) (((R : Int) + 1) ^ turns.length) (osum o n R rk') (sm n fun a => kept old a (d' a)) (num ((R : Int) + 1) (rrow R turns rk')) <
      pack ((n : Int) + 1) (((R : Int) + 1) ^ turns.length) (osum o n R rk) (sm n fun a => kept old a (d a)) (num ((R : Int) + 1) (rrow R turns rk)) := by
  have hB : (2 : Int) ≤ (n : Int) + 1 := by omega
  have hO : osum o n R rk' < osum o n R rk := sm_lt (fun b hb => by
    rcases Nat.lt_or_eq_of_le (hle b hb) with h | h
    · exact Int.le_of_lt (oval_mono o hB (hr b hb) (hr' b hb) h)
    · have e : rk b = rk' b := by
        have := hr b hb; have := hr' b hb
        unfold place at h
        split at h <;> split at h <;> omega
      rw [e]; exact Int.le_refl _) ha (oval_mono o hB (hr a ha) (hr' a ha) hlt)
  have k1 := ksum_le old d n
  have k2 := ksum_le old d' n
  have t1 := num_rrow (R := R) (rk := rk) (turns := turns) fun a ha => hr a (hl a ha)
  have t2 := num_rrow (R := R) (rk := rk') (turns := turns) fun a ha => hr' a (hl a ha)
  have hM : 0 < ((R : Int) + 1) ^ turns.length := Int.pow_pos (by omega)
  refine Int.not_le.mp fun h => ?_
  rcases pack_le hM k1.1 (by omega) k2.1 (by omega) t1.1 (by omega) t2.1 (by omega) h with h | ⟨h, _⟩ <;> omega
end
end Wd
/-! Data that stands in the heap, and what evaluates to data. -/
namespace Wk
open PySem L2 Evl

def dk (l : List (Int × Int)) : List (Key × V) := l.map fun p => (Sum.inl p.1, V.int p.2)
mutual
/-- the data d stands in H as the value v (lists and tuples tracked; a dict of ints to ints, perhaps locked) -/
def Dt (H : Hp) : PyData → V → Prop
  | .none, v => v = .non
  | .bool b, v => v = .bl b
  | .int i, v => v = .int i
  | .str s, v => v = .str s
  | .list ds, v => ∃ a xs, v = .ref a ∧ H a = some (.lst xs) ∧ DtL H ds xs
  | .tuple ds, v => ∃ a xs, v = .ref a ∧ H a = some (.tup xs) ∧ DtL H ds xs
  | .dict kvs, v => ∃ (a : Addr) (l : List (Int × Int)), v = .ref a ∧ Rd H a (.dK (dk l)) ∧ kvs = l.map fun p => (PyData.int p.1, PyData.int p.2)
def DtL (H : Hp) : List PyData → List V → Prop
  | [], xs => xs = []
  | d :: ds, xs => ∃ x r, xs = x :: r ∧ Dt H d x ∧ DtL H ds r
end

theorem rd_ex {H H' : Hp} {a : Addr} {u : HO} (e : Ex H H') (h : Rd H a u) : Rd H' a u := ex_rd e h
mutual
theorem Dt.mono {H H' : Hp} (e : Ex H H') : ∀ {d : PyData} {v : V}, Dt H d v → Dt H' d v
  | .none, _, h => h
  | .bool _, _, h => h
  | .int _, _, h => h
  | .str _, _, h => h
  | .list ds, _, ⟨a, xs, h1, h2, h3⟩ => ⟨a, xs, h1, e a _ h2, DtL.mono e h3⟩
  | .tuple ds, _, ⟨a, xs, h1, h2, h3⟩ => ⟨a, xs, h1, e a _ h2, DtL.mono e h3⟩
  | .dict _, _, ⟨a, l, h1, h2, h3⟩ => ⟨a, l, h1, rd_ex e h2, h3⟩
theorem DtL.mono {H H' : Hp} (e : Ex H H') : ∀ {ds : List PyData} {xs : List V}, DtL H ds xs → DtL H' ds xs
  | [], _, h => h
  | _ :: _, _, ⟨x, r, h1, h2, h3⟩ => ⟨x, r, h1, Dt.mono e h2, DtL.mono e h3⟩
end
section
variable {H H' : Hp}
theorem DtL.nil : DtL H [] [] := rfl
theorem DtL.cons {d : PyData} {ds : List PyData} {x : V} {xs : List V} (h : Dt H d x) (t : DtL H ds xs) : DtL H (d :: ds) (x :: xs) := ⟨x, xs, rfl, h, t⟩
theorem DtL.length : ∀ {ds : List PyData} {xs : List V}, DtL H ds xs → xs.length = ds.length
  | [], _, h => by cases (show _ = [] from h); rfl
  | _ :: _, _, ⟨x, r, h1, _, h3⟩ => by rw [h1, List.length_cons, List.length_cons, DtL.length h3]
theorem DtL.get : ∀ {ds : List PyData} {xs : List V} {i : Nat} {d : PyData}, DtL H ds xs → ds[i]? = some d → ∃ x, xs[i]? = some x ∧ Dt H d x
  | [], _, _, _, _, e => by simp at e
  | _ :: _, _, 0, d, ⟨x, r, h1, h2, h3⟩, e => by
    have e' : _ = d := Option.some.inj e
    subst e' h1
    exact ⟨x, rfl, h2⟩
  | _ :: _, _, i + 1, d, ⟨x, r, h1, h2, h3⟩, e => by
    subst h1
    obtain ⟨y, e1, e2⟩ := DtL.get (i := i) h3 (by simpa using e)
    exact ⟨y, by simpa using e1, e2⟩
theorem DtL.get' : ∀ {ds : List PyData} {xs : List V} {i : Nat} {x : V}, DtL H ds xs → xs[i]? = some x → ∃ d, ds[i]? = some d ∧ Dt H d x := fun {ds xs i x} h e => by
  have hl := h.length
  have hi : i < xs.length := (List.getElem?_eq_some_iff.mp e).1
  have hd : ds[i]? = some ds[i] := List.getElem?_eq_getElem (by omega)
  obtain ⟨y, e1, e2⟩ := h.get hd
  rw [e] at e1; cases e1
  exact ⟨_, hd, e2⟩
theorem DtL.append : ∀ {ds es : List PyData} {xs ys : List V}, DtL H ds xs → DtL H es ys → DtL H (ds ++ es) (xs ++ ys)
  | [], _, _, _, h, q => by cases (show _ = [] from h); exact q
  | _ :: _, _, _, _, ⟨x, r, h1, h2, h3⟩, q => by subst h1; exact ⟨x, r ++ _, rfl, h2, DtL.append h3 q⟩
theorem DtL.take : ∀ {ds : List PyData} {xs : List V} (n : Nat), DtL H ds xs → DtL H (ds.take n) (xs.take n)
  | _, _, 0, _ => rfl
  | [], _, _ + 1, h => by cases (show _ = [] from h); rfl
  | _ :: _, _, n + 1, ⟨x, r, h1, h2, h3⟩ => by subst h1; exact ⟨x, r.take n, rfl, h2, DtL.take n h3⟩
theorem DtL.drop : ∀ {ds : List PyData} {xs : List V} (n : Nat), DtL H ds xs → DtL H (ds.drop n) (xs.drop n)
  | _, _, 0, h => h
  | [], _, _ + 1, h => by cases (show _ = [] from h); rfl
  | _ :: _, _, n + 1, ⟨x, r, h1, h2, h3⟩ => by subst h1; exact DtL.drop n h3
theorem DtL.rev : ∀ {ds : List PyData} {xs : List V}, DtL H ds xs → DtL H ds.reverse xs.reverse
  | [], _, h => by cases (show _ = [] from h); rfl
  | _ :: _, _, ⟨x, r, h1, h2, h3⟩ => by
    subst h1
    rw [List.reverse_cons, List.reverse_cons]
    exact DtL.append (DtL.rev h3) (.cons h2 .nil)
theorem DtL.rep {d : PyData} {x : V} (h : Dt H d x) : ∀ n : Nat, DtL H (List.replicate n d) (List.replicate n x)
  | 0 => rfl
  | n + 1 => ⟨x, _, rfl, h, DtL.rep h n⟩
theorem DtL.set {d : PyData} {x : V} (h : Dt H d x) : ∀ {ds : List PyData} {xs : List V} (i : Nat), DtL H ds xs → DtL H (ds.set i d) (xs.set i x)
  | [], _, _, q => by cases (show _ = [] from q); rfl
  | _ :: _, _, 0, ⟨y, r, h1, h2, h3⟩ => by subst h1; exact ⟨x, r, rfl, h, h3⟩
  | _ :: _, _, i + 1, ⟨y, r, h1, h2, h3⟩ => by subst h1; exact ⟨y, _, rfl, h2, DtL.set h i h3⟩

/-! ### flat data -/
/-- a value of flat data -/
def fV : PyData → V
  | .bool b => .bl b
  | .int i => .int i
  | .str s => .str s
  | _ => .non
def flatD : PyData → Bool
  | .none => true
  | .bool _ => true
  | .int _ => true
  | .str _ => true
  | _ => false
theorem Dt.flat {d : PyData} {v : V} (f : flatD d = true) (h : Dt H d v) : v = fV d := by
  cases d <;> first | exact h | cases f
theorem Dt.ofFlat {d : PyData} (f : flatD d = true) : Dt H d (fV d) := by
  cases d <;> first | rfl | cases f
theorem flatV_fV {d : PyData} (f : flatD d = true) : flatV (fV d) = true := by
  cases d <;> first | rfl | cases f
theorem DtL.flat : ∀ {ds : List PyData} {xs : List V}, ds.all flatD = true → DtL H ds xs → xs = ds.map fV
  | [], _, _, h => h
  | d :: ds, _, f, ⟨x, r, h1, h2, h3⟩ => by
    rw [List.all_cons, Bool.and_eq_true] at f
    rw [h1, List.map_cons, Dt.flat f.1 h2, DtL.flat f.2 h3]
theorem DtL.ofFlat : ∀ {ds : List PyData}, ds.all flatD = true → DtL H ds (ds.map fV)
  | [], _ => rfl
  | d :: ds, f => by
    rw [List.all_cons, Bool.and_eq_true] at f
    exact ⟨_, _, rfl, Dt.ofFlat f.1, DtL.ofFlat f.2⟩
theorem all_flatV {ds : List PyData} (f : ds.all flatD = true) : (ds.map fV).all flatV = true := by
  rw [List.all_map, List.all_eq_true] at *
  exact fun x hx => flatV_fV (f x hx)
theorem DtL.dp {K : PySem.W.Frag} : ∀ {ds : List PyData}, ds.all flatD = true → DpAll K H (ds.map fV) ds
  | [], _ => .nil
  | d :: ds, f => by
    rw [List.all_cons, Bool.and_eq_true] at f
    refine .cons ?_ (DtL.dp f.2)
    cases d <;> first | constructor | cases f.1
/-- lists of numbers -/
def dInts (ns : List Int) : PyData := .list (ns.map .int)
theorem flat_ints (ns : List Int) : (ns.map PyData.int).all flatD = true := by simp [List.all_eq_true, flatD]
theorem map_ints (ns : List Int) : (ns.map PyData.int).map fV = ns.map V.int := by rw [List.map_map]; rfl
theorem Dt.ints {ns : List Int} {v : V} (h : Dt H (dInts ns) v) : ∃ a, v = .ref a ∧ H a = some (.lst (ns.map V.int)) := by
  obtain ⟨a, xs, h1, h2, h3⟩ := h
  have := DtL.flat (flat_ints ns) h3
  rw [map_ints] at this
  subst this
  exact ⟨a, h1, h2⟩
theorem Dt.ofInts {ns : List Int} {a : Addr} (h : H a = some (.lst (ns.map V.int))) : Dt H (dInts ns) (.ref a) := by
  refine ⟨a, _, rfl, h, ?_⟩
  have := DtL.ofFlat (H := H) (flat_ints ns)
  rw [map_ints] at this
  exact this
end

/-! ### a dict locked: all data stand as they stood -/
section
variable {H : Hp} {a : Addr} {u : HO} {o : Obj}
theorem rd_lock {b : Addr} {w : HO} (hu : H a = some u) (hf : ∀ o' u', u ≠ .frz o' u') (h : Rd H b w) : Rd (upd H a (.frz o u)) b w := by
  by_cases e : b = a
  · subst e
    rcases h with h | ⟨o', h⟩
    · rw [hu] at h; cases h; exact .inr ⟨o, upd_same⟩
    · rw [hu] at h; cases h; exact absurd rfl (hf _ _)
  · rcases h with h | ⟨o', h⟩
    · exact .inl (by rw [upd_ne e]; exact h)
    · exact .inr ⟨o', by rw [upd_ne e]; exact h⟩
mutual
theorem Dt.lock {kv : List (Key × V)} (hu : H a = some (.dK kv)) : ∀ {d : PyData} {v : V}, Dt H d v → Dt (upd H a (.frz o (.dK kv))) d v
  | .none, _, h => h
  | .bool _, _, h => h
  | .int _, _, h => h
  | .str _, _, h => h
  | .list ds, _, ⟨b, xs, h1, h2, h3⟩ => ⟨b, xs, h1, by rw [upd_ne (by intro e; subst e; rw [hu] at h2; cases h2)]; exact h2, DtL.lock hu h3⟩
  | .tuple ds, _, ⟨b, xs, h1, h2, h3⟩ => ⟨b, xs, h1, by rw [upd_ne (by intro e; subst e; rw [hu] at h2; cases h2)]; exact h2, DtL.lock hu h3⟩
  | .dict _, _, ⟨b, l, h1, h2, h3⟩ => ⟨b, l, h1, rd_lock hu (fun _ _ z => nomatch z) h2, h3⟩
theorem DtL.lock {kv : List (Key × V)} (hu : H a = some (.dK kv)) : ∀ {ds : List PyData} {xs : List V}, DtL H ds xs → DtL (upd H a (.frz o (.dK kv))) ds xs
  | [], _, h => h
  | _ :: _, _, ⟨x, r, h1, h2, h3⟩ => ⟨x, r, h1, Dt.lock hu h2, DtL.lock hu h3⟩
end
/-- behind the lock -/
theorem Ex.unlock {B H' : Hp} {kv : List (Key × V)} (hB : B a = some (.dK kv)) (e : Ex (upd B a (.frz o (.dK kv))) H') : Ex B (upd H' a (.dK kv)) := fun b w hb => by
  by_cases q : b = a
  · subst q; rw [hB] at hb; cases hb; exact upd_same
  · rw [upd_ne q]; exact e b w (by rw [upd_ne q]; exact hb)
end

/-! ### what evaluates to what: B the data's part of the heap H; what changes stands in H alone -/
/-- from B within H to B' within H': all stands; what is new in B' is new in H' -/
structure Stp (B H B' H' : Hp) : Prop where
  h : Ex H H'
  b : Ex B B'
  i : Ex B' H'
  n : ∀ a o, H a = some o → B' a = B a
theorem Stp.refl {B H : Hp} (e : Ex B H) : Stp B H B H := ⟨Ex.refl H, Ex.refl B, e, fun _ _ _ => rfl⟩
theorem Stp.trans {B H B1 H1 B2 H2 : Hp} (s : Stp B H B1 H1) (t : Stp B1 H1 B2 H2) : Stp B H B2 H2 :=
  ⟨s.h.trans t.h, s.b.trans t.b, t.i, fun a o e => (t.n a o (s.h a o e)).trans (s.n a o e)⟩
theorem Stp.grow {B H B' H' H2 : Hp} (s : Stp B H B' H') (e : Ex H' H2) : Stp B H B' H2 := ⟨s.h.trans e, s.b, s.i.trans e, s.n⟩
theorem Stp.free {B H B' H' : Hp} (s : Stp B H B' H') {l : Addr} {o : HO} (h : H l = some o) (hb : B l = none) : B' l = none := (s.n l o h).trans hb
/-- an object of our own changes -/
theorem Stp.mut {B H B' H' : Hp} (s : Stp B H B' H') {l : Addr} (o : HO) (h : H l = none) (hb : B' l = none) : Stp B H B' (upd H' l o) :=
  ⟨Ex.mut s.h h, s.b, Ex.mut s.i hb, s.n⟩
/-- a new object of our own -/
theorem Stp.new {B H B' H' : Hp} (s : Stp B H B' H') {l : Addr} (o : HO) (h : H' l = none) : Stp B H B' (upd H' l o) := s.grow (Ex.new h)
/-- a new object is data from now on -/
theorem Stp.give {B H B' H' : Hp} (s : Stp B H B' H') {l : Addr} {o : HO} (h : H l = none) (hb : B' l = none) (hl : H' l = some o) : Stp B H (upd B' l o) H' :=
  ⟨s.h, fun a u e => by rw [upd_ne (by intro z; subst z; rw [s.b _ _ e] at hb; cases hb)]; exact s.b a u e, fun a u e => by
    by_cases z : a = l
    · subst z; rw [upd_same] at e; cases e; exact hl
    · rw [upd_ne z] at e; exact s.i a u e, fun a u e => by rw [upd_ne (by intro z; subst z; rw [h] at e; cases e)]; exact s.n a u e⟩

section
variable {K : PySem.W.Frag} {σ : L2.St} {B B' H H' : Hp} {ta tb te tx : TE} {t u : TT} {x y z v : V} {r : R2} {d d1 d2 : PyData} {ds ds1 ds2 : List PyData}
/-- data, old or new -/
def EvD (te : TE) (σ : L2.St) (B : Hp) (d : PyData) : Prop := ∀ H1, Ex B H1 → ∀ Q : VK, (∀ v H2 B2, Stp B H1 B2 H2 → Dt B2 d v → Q v H2) → te σ H1 Q
/-- data that stands in B -/
def EvB (te : TE) (σ : L2.St) (B : Hp) (d : PyData) : Prop := ∃ v, Ev te σ B v ∧ Dt B d v
def EvDA (ta : TA) (σ : L2.St) (B : Hp) (ds : List PyData) : Prop := ∀ H1, Ex B H1 → ∀ Q : List V → Hp → Prop, (∀ vs H2 B2, Stp B H1 B2 H2 → DtL B2 ds vs → Q vs H2) → ta σ H1 Q
theorem EvB.toD (h : EvB te σ B d) : EvD te σ B d := fun H1 e Q q => by
  obtain ⟨v, h1, h2⟩ := h
  exact h1 H1 e Q fun H2 e2 => q v H2 B ((Stp.refl e).grow e2) h2
/-- a wider base -/
theorem stp_wide {B B' H1 H2 B2 : Hp} (e : Ex B B') (a : Ex B' H1) (s : Stp B H1 B2 H2) : ∃ B3, Stp B' H1 B3 H2 ∧ Ex B2 B3 := by
  refine ⟨fun c => match H1 c with | some _ => B' c | none => B2 c, ⟨s.h, fun c o h => ?_, fun c o h => ?_, fun c o h => ?_⟩, fun c o h => ?_⟩
  · show (match H1 c with | some _ => B' c | none => B2 c) = some o
    rw [a c o h]; exact h
  · have h : (match H1 c with | some _ => B' c | none => B2 c) = some o := h
    cases q : H1 c with
    | none => rw [q] at h; exact s.i c o h
    | some u => rw [q] at h; exact s.h c o (a c o h)
  · show (match H1 c with | some _ => B' c | none => B2 c) = B' c
    rw [h]
  · show (match H1 c with | some _ => B' c | none => B2 c) = some o
    cases q : H1 c with
    | none => exact h
    | some u => exact e c o ((s.n c u q) ▸ h)
theorem EvD.mono (e : Ex B B') (h : EvD te σ B d) : EvD te σ B' d := fun H1 a Q q => h H1 (e.trans a) Q fun v H2 B2 s hd => by
  obtain ⟨B3, s3, e3⟩ := stp_wide e a s
  exact q v H2 B3 s3 (hd.mono e3)
theorem EvDA.mono {ta : TA} (e : Ex B B') (h : EvDA ta σ B ds) : EvDA ta σ B' ds := fun H1 a Q q => h H1 (e.trans a) Q fun v H2 B2 s hd => by
  obtain ⟨B3, s3, e3⟩ := stp_wide e a s
  exact q v H2 B3 s3 (hd.mono e3)
theorem EvB.mono (e : Ex B B') (h : EvB te σ B d) : EvB te σ B' d := by
  obtain ⟨v, h1, h2⟩ := h
  exact ⟨v, Ev.mono e h1, h2.mono e⟩
theorem EvD.eq (h : EvD te σ B d1) (e : d1 = d2) : EvD te σ B d2 := e ▸ h
theorem EvD.flat (h : EvD te σ B d) (f : flatD d = true) : Ev te σ B (fV d) := fun H1 e Q q => h H1 e Q fun v H2 B2 s hd => by
  rw [hd.flat f]; exact q H2 s.h
theorem EvD.int {i : Int} (h : EvD te σ B (.int i)) : Ev te σ B (.int i) := h.flat rfl
theorem EvD.of {v : V} (h : Ev te σ B v) (hd : Dt B d v) : EvD te σ B d := EvB.toD ⟨v, h, hd⟩

theorem eb_var {i : Nat} (h : σ[i]? = some (some v)) (hd : Dt B d v) : EvB (tVar i) σ B d := ⟨v, ev_var h, hd⟩
theorem ed_var {i : Nat} (h : σ[i]? = some (some v)) (hd : Dt B d v) : EvD (tVar i) σ B d := (eb_var h hd).toD
theorem ed_int {i : Int} : EvD (tC (.int i)) σ B (.int i) := EvD.of ev_c rfl
theorem ed_bl {b : Bool} : EvD (tC (.bl b)) σ B (.bool b) := EvD.of ev_c rfl
theorem ed_non : EvD (tC .non) σ B .none := EvD.of ev_c rfl
theorem ed_str {s : Str} : EvD (tC (.str s)) σ B (.str s) := EvD.of ev_c rfl
theorem ed_opI {f : Int → Int → Int} {i j : Int} (ha : EvD ta σ B (.int i)) (hb : EvD tb σ B (.int j)) : EvD (tOp (rI0 fun i j => .int (f i j)) ta tb) σ B (.int (f i j)) :=
  EvD.of (ev_op ha.int hb.int rv_I0) rfl
theorem ed_opC {C : Int → Int → Prop} {f : Int → Int → Int} {i j : Int} (ha : EvD ta σ B (.int i)) (hb : EvD tb σ B (.int j)) (hc : C i j) : EvD (tOp (rI C fun i j => .int (f i j)) ta tb) σ B (.int (f i j)) :=
  EvD.of (ev_op ha.int hb.int (rv_I hc)) rfl
theorem ed_cmp {p : Int → Int → Bool} {i j : Int} (ha : EvD ta σ B (.int i)) (hb : EvD tb σ B (.int j)) : EvD (tOp (rI0 fun i j => .bl (p i j)) ta tb) σ B (.bool (p i j)) :=
  EvD.of (ev_op ha.int hb.int rv_I0) rfl
theorem ed_eq {b : Bool} (ha : EvD ta σ B d1) (hb : EvD tb σ B d2) (f1 : flatD d1 = true) (f2 : flatD d2 = true) (hs : scal (fV d1) (fV d2) = true) (hd : decide (fV d1 = fV d2) = b) : EvD (tOp rEq ta tb) σ B (.bool b) :=
  hd ▸ EvD.of (ev_op (ha.flat f1) (hb.flat f2) (rv_eq hs)) rfl
theorem ed_ne {b : Bool} (ha : EvD ta σ B d1) (hb : EvD tb σ B d2) (f1 : flatD d1 = true) (f2 : flatD d2 = true) (hs : scal (fV d1) (fV d2) = true) (hd : (!decide (fV d1 = fV d2)) = b) : EvD (tOp rNe ta tb) σ B (.bool b) :=
  hd ▸ EvD.of (ev_op (ha.flat f1) (hb.flat f2) (rv_ne hs)) rfl
def isNo : PyData → Bool
  | .none => true
  | _ => false
theorem Dt.isNo {d : PyData} {v : V} (h : Dt H d v) : decide (v = .non) = Wk.isNo d := by
  cases d with
  | none => cases (show v = _ from h); rfl
  | bool b => cases (show v = _ from h); rfl
  | int b => cases (show v = _ from h); rfl
  | str b => cases (show v = _ from h); rfl
  | list ds => obtain ⟨a, xs, rfl, _⟩ := h; rfl
  | tuple ds => obtain ⟨a, xs, rfl, _⟩ := h; rfl
  | dict ds => obtain ⟨a, xs, rfl, _⟩ := h; rfl
theorem ed_isN (ha : EvD ta σ B d) : EvD (tIsN ta) σ B (.bool (isNo d)) := fun H1 e Q q => ha H1 e _ fun v H2 B2 s hd => q _ H2 B2 s (by rw [hd.isNo]; rfl)
theorem ed_notN (ha : EvD ta σ B d) : EvD (tNotN ta) σ B (.bool (!isNo d)) := fun H1 e Q q => ha H1 e _ fun v H2 B2 s hd => q _ H2 B2 s (by rw [hd.isNo]; rfl)
theorem DtL.atI {xs : List V} {i : Int} (h : DtL H ds xs) (ha : atI ds i = some d) : ∃ x, atI xs i = some x ∧ Dt H d x := by
  unfold L2.atI at *
  rw [h.length]
  cases e : ixN ds.length i with
  | none => rw [e] at ha; cases ha
  | some j => rw [e] at ha; exact h.get ha
theorem ed_ixL {i : Int} (ha : EvD ta σ B (.list ds)) (hb : EvD tb σ B (.int i)) (hi : atI ds i = some d) : EvD (tOp (rIxL K) ta tb) σ B d := fun H1 e Q q =>
  ha H1 e _ fun v H2 B2 s ⟨a, xs, h1, h2, h3⟩ => (hb.mono s.b) H2 s.i _ fun w H3 B3 s3 hw => by
    subst h1
    cases (show w = _ from hw)
    obtain ⟨x, q1, q2⟩ := h3.atI hi
    exact ⟨a, xs, i, x, rfl, rfl, sq_of (s3.i a _ (s3.b a _ h2)), q1, q x H3 B3 (s.trans s3) (q2.mono s3.b)⟩
theorem ed_ixT {i : Int} (ha : EvD ta σ B (.tuple ds)) (hb : EvD tb σ B (.int i)) (hi : atI ds i = some d) : EvD (tOp (rIxT K) ta tb) σ B d := fun H1 e Q q =>
  ha H1 e _ fun v H2 B2 s ⟨a, xs, h1, h2, h3⟩ => (hb.mono s.b) H2 s.i _ fun w H3 B3 s3 hw => by
    subst h1
    cases (show w = _ from hw)
    obtain ⟨x, q1, q2⟩ := h3.atI hi
    exact ⟨a, xs, i, x, rfl, rfl, st_of (s3.i a _ (s3.b a _ h2)), q1, q x H3 B3 (s.trans s3) (q2.mono s3.b)⟩
theorem eb_ixL {i : Int} (ha : EvB ta σ B (.list ds)) (hb : EvD tb σ B (.int i)) (hi : atI ds i = some d) : EvB (tOp (rIxL K) ta tb) σ B d := by
  obtain ⟨v, h1, a, xs, rfl, h2, h3⟩ := ha
  obtain ⟨x, q1, q2⟩ := h3.atI hi
  exact ⟨x, ev_op h1 hb.int (rv_ixL (sq_of h2) q1), q2⟩
theorem eb_ixT {i : Int} (ha : EvB ta σ B (.tuple ds)) (hb : EvD tb σ B (.int i)) (hi : atI ds i = some d) : EvB (tOp (rIxT K) ta tb) σ B d := by
  obtain ⟨v, h1, a, xs, rfl, h2, h3⟩ := ha
  obtain ⟨x, q1, q2⟩ := h3.atI hi
  exact ⟨x, ev_op h1 hb.int (rv_ixT (st_of h2) q1), q2⟩
/-- a new object that is data at once -/
theorem Stp.put {B H B1 H1 : Hp} (s : Stp B H B1 H1) {p : Addr} (o : HO) (h : H1 p = none) : Stp B H (upd B1 p o) (upd H1 p o) :=
  (s.new o h).give (fresh_back s.h h) (fresh_back s.i h) upd_same
theorem Ex.newB {B1 H1 : Hp} (i : Ex B1 H1) {p : Addr} {o : HO} (h : H1 p = none) : Ex B1 (upd B1 p o) := Ex.new (fresh_back i h)
theorem ed_cat (ha : EvD ta σ B (.list ds1)) (hb : EvD tb σ B (.list ds2)) (hl : ds1.length + ds2.length ≤ 100000) : EvD (tOp rCat ta tb) σ B (.list (ds1 ++ ds2)) := fun H1 e Q q =>
  ha H1 e _ fun v H2 B2 s ⟨a, xs, h1, h2, h3⟩ => (hb.mono s.b) H2 s.i _ fun w H3 B3 s3 ⟨b, ys, h4, h5, h6⟩ =>
    ⟨a, b, xs, ys, h1, h4, s3.i a _ (s3.b a _ h2), s3.i b _ h5, sz_of (by rw [h3.length, h6.length]; exact hl), fun p hp => q _ _ _ ((s.trans s3).put _ hp) ⟨p, _, rfl, upd_same, DtL.mono (Ex.newB s3.i hp) ((h3.mono s3.b).append h6)⟩⟩
theorem flatten_rep1 {α : Type} (x : α) (n : Nat) : (List.replicate n [x]).flatten = List.replicate n x := by
  induction n with
  | zero => rfl
  | succ n ih => rw [List.replicate_succ, List.flatten_cons, ih]; rfl
/-- [x] * n -/
theorem ed_rep {n : Nat} (ha : EvD ta σ B (.list [d])) (hb : EvD tb σ B (.int (n : Int))) (hl : n ≤ 100000) : EvD (tOp rRep ta tb) σ B (.list (List.replicate n d)) := fun H1 e Q q =>
  ha H1 e _ fun v H2 B2 s ⟨a, xs, h1, h2, h3⟩ => (hb.mono s.b) H2 s.i _ fun w H3 B3 s3 hw => by
    cases (show w = _ from hw)
    obtain ⟨x, r, rfl, hx, hr⟩ := h3
    cases (show r = [] from hr)
    refine ⟨a, (n : Int), [x], h1, rfl, s3.i a _ (s3.b a _ h2), by omega, by omega, sz_of (by rw [List.length_singleton, Int.toNat_natCast]; omega), fun p hp => ?_⟩
    rw [flatten_rep1, Int.toNat_natCast]
    exact q _ _ _ ((s.trans s3).put _ hp) ⟨p, _, rfl, upd_same, DtL.mono (Ex.newB s3.i hp) (DtL.rep (hx.mono s3.b) n)⟩
def inD (d : PyData) (ds : List PyData) : Bool := inV (fV d) (ds.map fV)
theorem ed_in {neg b : Bool} (ha : EvD ta σ B d) (hb : EvD tb σ B (.list ds)) (f : flatD d = true) (fs : ds.all flatD = true) (hv : (if neg then !inD d ds else inD d ds) = b) : EvD (tOp (rIn K neg) ta tb) σ B (.bool b) := fun H1 e Q q =>
  ha H1 e _ fun v H2 B2 s hd => (hb.mono s.b) H2 s.i _ fun w H3 B3 s3 ⟨a, xs, h4, h5, h6⟩ => by
    have e1 := hd.flat f
    have e4 := h6.flat fs
    subst e1 e4 h4
    refine ⟨a, _, rfl, .inl (sq_of (s3.i a _ h5)), flatV_fV f, all_flatV fs, q _ H3 B3 (s.trans s3) ?_⟩
    show V.bl (if neg then !inD d ds else inD d ds) = V.bl b
    rw [hv]
theorem ed_inT {neg b : Bool} (ha : EvD ta σ B d) (hb : EvD tb σ B (.tuple ds)) (f : flatD d = true) (fs : ds.all flatD = true) (hv : (if neg then !inD d ds else inD d ds) = b) : EvD (tOp (rIn K neg) ta tb) σ B (.bool b) := fun H1 e Q q =>
  ha H1 e _ fun v H2 B2 s hd => (hb.mono s.b) H2 s.i _ fun w H3 B3 s3 ⟨a, xs, h4, h5, h6⟩ => by
    have e1 := hd.flat f
    have e4 := h6.flat fs
    subst e1 e4 h4
    refine ⟨a, _, rfl, .inr (st_of (s3.i a _ h5)), flatV_fV f, all_flatV fs, q _ H3 B3 (s.trans s3) ?_⟩
    show V.bl (if neg then !inD d ds else inD d ds) = V.bl b
    rw [hv]
theorem ea_nilD : EvDA tNil σ B [] := fun H1 e _ q => q _ H1 B (Stp.refl e) rfl
theorem ea_consD {tr : TA} (h : EvD ta σ B d) (hr : EvDA tr σ B ds) : EvDA (tCons ta tr) σ B (d :: ds) := fun H1 e _ q =>
  h H1 e _ fun v H2 B2 s hd => (hr.mono s.b) H2 s.i _ fun vs H3 B3 s3 hds => q _ H3 B3 (s.trans s3) (.cons (hd.mono s3.b) hds)
theorem ed_tup {tr : TA} (h : EvDA tr σ B ds) (hl : ds.length ≤ 100000) : EvD (tTup tr) σ B (.tuple ds) := fun H1 e _ q =>
  h H1 e _ fun vs H2 B2 s hd => ⟨sz_of (by rw [hd.length]; exact hl), fun p hp => q _ _ _ (s.put _ hp) ⟨p, vs, rfl, upd_same, hd.mono (Ex.newB s.i hp)⟩⟩
theorem ed_lst {tr : TA} (h : EvDA tr σ B ds) (hl : ds.length ≤ 100000) : EvD (tLst tr) σ B (.list ds) := fun H1 e _ q =>
  h H1 e _ fun vs H2 B2 s hd => ⟨sz_of (by rw [hd.length]; exact hl), fun p hp => q _ _ _ (s.put _ hp) ⟨p, vs, rfl, upd_same, hd.mono (Ex.newB s.i hp)⟩⟩
theorem ed_len (ha : EvD ta σ B (.list ds)) : EvD (tCB (rLenS K) (tCons ta tNil)) σ B (.int (ds.length : Int)) := fun H1 e Q q =>
  ha H1 e _ fun v H2 B2 s ⟨a, xs, h1, h2, h3⟩ => ⟨a, xs, by rw [h1], .inl (sq_of (s.i a _ h2)), q _ H2 B2 s (by rw [h3.length]; rfl)⟩
theorem ed_lenT (ha : EvD ta σ B (.tuple ds)) : EvD (tCB (rLenS K) (tCons ta tNil)) σ B (.int (ds.length : Int)) := fun H1 e Q q =>
  ha H1 e _ fun v H2 B2 s ⟨a, xs, h1, h2, h3⟩ => ⟨a, xs, by rw [h1], .inr (st_of (s.i a _ h2)), q _ H2 B2 s (by rw [h3.length]; rfl)⟩
theorem ed_list (ha : EvD ta σ B (.list ds)) : EvD (tCB (rListS K) (tCons ta tNil)) σ B (.list ds) := fun H1 e Q q =>
  ha H1 e _ fun v H2 B2 s ⟨a, xs, h1, h2, h3⟩ => ⟨a, xs, by rw [h1], .inl (sq_of (s.i a _ h2)), fun l hl => q _ _ _ (s.put _ hl) ⟨l, xs, rfl, upd_same, h3.mono (Ex.newB s.i hl)⟩⟩
theorem ed_max2 {i j : Int} (ha : EvD ta σ B (.int i)) (hb : EvD tb σ B (.int j)) : EvD (tCB rMax2 (tCons ta (tCons tb tNil))) σ B (.int (if j > i then j else i)) := EvD.of (ev_max2 ha.int hb.int) rfl
theorem ed_max {ns : List Int} {m : Int} (ha : EvD ta σ B (dInts ns)) (hl : 0 < ns.length) (hm : ∀ k, k ∈ ns → (∀ y, y ∈ ns → y ≤ k) → k = m) : EvD (tCB (rMax K) (tCons ta tNil)) σ B (.int m) := fun H1 e Q q =>
  ha H1 e _ fun v H2 B2 s hd => by
    obtain ⟨a, rfl, h2⟩ := hd.ints
    exact ⟨a, ns, rfl, sq_of (s.i a _ h2), hl, fun k hk hle => q _ H2 B2 s (by rw [hm k hk hle]; rfl)⟩
theorem ed_all {bs : List Bool} (ha : EvD ta σ B (.list (bs.map .bool))) : EvD (tCB (rAll K) (tCons ta tNil)) σ B (.bool (bs.all id)) := fun H1 e Q q =>
  ha H1 e _ fun v H2 B2 s ⟨a, xs, h1, h2, h3⟩ => by
    subst h1
    have f : (bs.map PyData.bool).all flatD = true := by simp [List.all_eq_true, flatD]
    have e1 := h3.flat f
    have e3 : (bs.map PyData.bool).map fV = bs.map V.bl := by rw [List.map_map]; rfl
    rw [e3] at e1
    subst e1
    exact ⟨a, bs, rfl, sq_of (s.i a _ h2), q _ H2 B2 s rfl⟩
theorem ed_sorted {ns ms : List Int} (ha : EvD ta σ B (dInts ns)) (hp : ms.Perm ns) (hs : ms.Pairwise (· ≤ ·)) : EvD (tCB (rSortedI K) (tCons ta tNil)) σ B (dInts ms) := fun H1 e Q q =>
  ha H1 e _ fun v H2 B2 s hd => by
    obtain ⟨a, rfl, h2⟩ := hd.ints
    refine ⟨a, ns, rfl, sq_of (s.i a _ h2), fun ns' p hp' hs' hn => ?_⟩
    have e3 : ns' = ms := List.Perm.eq_of_pairwise (fun a b _ _ h1 h2 => Int.le_antisymm h1 h2) hs' hs (hp'.trans hp.symm)
    subst e3
    exact q _ _ _ (s.put _ hn) (Dt.ofInts upd_same)
theorem eo_someD {i : Int} (h : EvD te σ B (.int i)) : EvO (tPart te) σ B (some i) := eo_some h.int
theorem EvO.mono {to : TO} {o : Option Int} (e : Ex B B') (h : EvO to σ B o) : EvO to σ B' o := fun H1 a Q q => h H1 (e.trans a) Q q
def cutD (ds : List PyData) (lo hi : Option Int) : List PyData := (ds.drop (HT.sIx ds.length 0 lo)).take (HT.sIx ds.length ds.length hi - HT.sIx ds.length 0 lo)
theorem ed_sl {tl th : TO} {lo hi : Option Int} (h : EvD te σ B (.list ds)) (h1 : EvO tl σ B lo) (h2 : EvO th σ B hi) : EvD (tSl (rSlL K) te tl th) σ B (.list (cutD ds lo hi)) := fun H1 e Q q =>
  h H1 e _ fun v H2 B2 s ⟨a, xs, hv, hx, hd⟩ => h1 H2 (s.b.trans s.i) _ fun H3 e3 => h2 H3 ((s.b.trans s.i).trans e3) _ fun H4 e4 => by
    subst hv
    have s4 := s.grow (e3.trans e4)
    refine ⟨a, xs, rfl, sq_of (s4.i a _ hx), fun p hp => q _ _ _ (s4.put _ hp) ⟨p, _, rfl, upd_same, ?_⟩⟩
    have hl := hd.length
    unfold cutV cutD
    rw [hl]
    exact DtL.mono (Ex.newB s4.i hp) ((hd.drop _).take _)
theorem ed_rev (h : EvD te σ B (.list ds)) : EvD (tRevL K te) σ B (.list ds.reverse) := fun H1 e Q q =>
  h H1 e _ fun v H2 B2 s ⟨a, xs, hv, hx, hd⟩ => ⟨a, xs, hv, sq_of (s.i a _ hx), fun p hp => q _ _ _ (s.put _ hp) ⟨p, _, rfl, upd_same, DtL.mono (Ex.newB s.i hp) hd.rev⟩⟩
theorem ed_andV {a b : Bool} (h1 : EvD ta σ B (.bool a)) (h2 : a = true → EvD tb σ B (.bool b)) : EvD (tAndV ta tb) σ B (.bool (a && b)) := EvD.of (ev_andV (h1.flat rfl) fun e => (h2 e).flat rfl) rfl
theorem ed_orV {a b : Bool} (h1 : EvD ta σ B (.bool a)) (h2 : a = false → EvD tb σ B (.bool b)) : EvD (tOrV ta tb) σ B (.bool (a || b)) := EvD.of (ev_orV (h1.flat rfl) fun e => (h2 e).flat rfl) rfl
theorem ed_notV {a : Bool} (h1 : EvD ta σ B (.bool a)) : EvD (tNotV ta) σ B (.bool (!a)) := EvD.of (ev_notV (h1.flat rfl)) rfl
/-- a < b < c -/
theorem ed_chain {p q : Int → Int → Bool} {tc : TE} {i j k : Int} (ha : EvD ta σ B (.int i)) (hb : EvD tb σ B (.int j)) (hc : EvD tc σ B (.int k)) :
    EvD (tChain (rI0 fun i j => .bl (p i j)) (rI0 fun i j => .bl (q i j)) ta tb tc) σ B (.bool (p i j && q j k)) := EvD.of (v := .bl (p i j && q j k)) (fun H1 e Q kq =>
  ha.int H1 e _ fun H2 e2 => hb.int H2 (e.trans e2) _ fun H3 e3 => by
    refine ⟨i, j, rfl, rfl, p i j, rfl, ?_⟩
    cases hp : p i j with
    | true => exact iteT (hc.int H3 ((e.trans e2).trans e3) _ fun H4 e4 => ⟨j, k, rfl, rfl, by
        have := kq H4 ((e2.trans e3).trans e4)
        rw [hp, Bool.true_and] at this
        exact this⟩)
    | false => exact iteF (by
        have := kq H3 (e2.trans e3)
        rw [hp, Bool.false_and] at this
        exact this)) rfl
theorem et_D {b : Bool} (h : EvD te σ B (.bool b)) : EvT (tTest te) σ B b := et_test (h.flat rfl)
theorem et_DB {b : Bool} (h : EvD te σ B (.bool b)) : EvT (tB te) σ B b := et_B (h.flat rfl)

/-! ### calls -/
/-- a promise about data: what is asked of the arguments, what the answer is -/
def SpD (pre : List PyData → Prop) (post : List PyData → PyData → Prop) : Sp := fun vs H Q _ => ∃ B ds, Ex B H ∧ DtL B ds vs ∧ pre ds ∧ ∀ v H' B' d, Stp B H B' H' → Dt B' d v → post ds d → Q v H'
/-- .. with one of several answers -/
def EvP (te : TE) (σ : L2.St) (B : Hp) (P : PyData → Prop) : Prop := ∀ H1, Ex B H1 → ∀ Q : VK, (∀ v H2 B2 d, Stp B H1 B2 H2 → Dt B2 d v → P d → Q v H2) → te σ H1 Q
theorem ep_call {pre : List PyData → Prop} {post : List PyData → PyData → Prop} {tr : TA} {E : XK} (h : EvDA tr σ B ds) (hp : pre ds) : EvP (tCall (SpD pre post) [] E tr) σ B (post ds) := fun H1 e Q q =>
  h H1 e _ fun vs H2 B2 s hd => ⟨B2, ds, s.i, by rw [List.append_nil]; exact hd, hp, fun v H3 B3 d' s3 hv hpost => q v H3 B3 d' (s.trans s3) hv hpost⟩
theorem EvP.one {P : PyData → Prop} (h : EvP te σ B P) (hq : ∀ d', P d' → d' = d) : EvD te σ B d := fun H1 e Q q => h H1 e Q fun v H2 B2 d' s hd hp => q v H2 B2 s (by rw [← hq d' hp]; exact hd)
theorem ed_call {pre : List PyData → Prop} {post : List PyData → PyData → Prop} {tr : TA} {E : XK} (h : EvDA tr σ B ds) (hp : pre ds) (hq : ∀ d', post ds d' → d' = d) : EvD (tCall (SpD pre post) [] E tr) σ B d := (ep_call h hp).one hq
/-- .. of named things -/
def SpA {α : Type} (args : α → List PyData) (pre : α → Prop) (post : α → PyData → Prop) : Sp := fun vs H Q _ => ∃ B a, Ex B H ∧ DtL B (args a) vs ∧ pre a ∧ ∀ v H' B' d, Stp B H B' H' → Dt B' d v → post a d → Q v H'
theorem ep_callA {α : Type} {args : α → List PyData} {pre : α → Prop} {post : α → PyData → Prop} {tr : TA} {E : XK} (a : α) (h : EvDA tr σ B (args a)) (hp : pre a) : EvP (tCall (SpA args pre post) [] E tr) σ B (post a) := fun H1 e Q q =>
  h H1 e _ fun vs H2 B2 s hd => ⟨B2, a, s.i, by rw [List.append_nil]; exact hd, hp, fun v H3 B3 d' s3 hv hpost => q v H3 B3 d' (s.trans s3) hv hpost⟩
theorem ed_callA {α : Type} {args : α → List PyData} {pre : α → Prop} {post : α → PyData → Prop} {tr : TA} {E : XK} (a : α) (h : EvDA tr σ B (args a)) (hp : pre a) (hq : ∀ d', post a d' → d' = d) : EvD (tCall (SpA args pre post) [] E tr) σ B d := (ep_callA a h hp).one hq
theorem EvD.p {P : PyData → Prop} (h : EvD te σ B d) (hp : P d) : EvP te σ B P := fun H1 e Q q => h H1 e Q fun v H2 B2 s hd => q v H2 B2 d s hd hp
theorem EvP.mono {P : PyData → Prop} (e : Ex B B') (h : EvP te σ B P) : EvP te σ B' P := fun H1 a Q q => h H1 (e.trans a) Q fun v H2 B2 d s hd hp => by
  obtain ⟨B3, s3, e3⟩ := stp_wide e a s
  exact q v H2 B3 d s3 (hd.mono e3) hp

/-! ### statements -/
variable {D : Ends} {tu tw tz : TS} {g : TG}
theorem s_asgD {i : Nat} (i0 : Ex B H) (h : EvD te σ B d) (k : ∀ v B2 H2, Stp B H B2 H2 → Dt B2 d v → D.nx (σ.set i (some v)) H2) : tAsg te (gName i) D σ H := h H i0 _ fun v H2 B2 s hd => k v B2 H2 s hd
theorem q_asgD {i : Nat} (i0 : Ex B H) (h : EvD te σ B d) (k : ∀ v B2 H2, Stp B H B2 H2 → Dt B2 d v → tz D (σ.set i (some v)) H2) : tSeq (tAsg te (gName i)) tz D σ H := s_asgD (D := { D with nx := tz D }) i0 h k
theorem q_asgP {i : Nat} {P : PyData → Prop} (i0 : Ex B H) (h : EvP te σ B P) (k : ∀ v B2 H2 d, Stp B H B2 H2 → Dt B2 d v → P d → tz D (σ.set i (some v)) H2) : tSeq (tAsg te (gName i)) tz D σ H := h H i0 _ fun v H2 B2 d s hd hp => k v B2 H2 d s hd hp
theorem s_retD (i0 : Ex B H) (h : EvD te σ B d) (k : ∀ v B2 H2, Stp B H B2 H2 → Dt B2 d v → D.rt v H2) : tRet te D σ H := h H i0 _ fun v H2 B2 s hd => k v B2 H2 s hd
theorem s_dropD (i0 : Ex B H) (h : EvD te σ B d) (k : ∀ B2 H2, Stp B H B2 H2 → D.nx σ H2) : tDrop te D σ H := h H i0 _ fun v H2 B2 s hd => k B2 H2 s
theorem q_dropD (i0 : Ex B H) (h : EvD te σ B d) (k : ∀ B2 H2, Stp B H B2 H2 → tz D σ H2) : tSeq (tDrop te) tz D σ H := s_dropD (D := { D with nx := tz D }) i0 h k
/-- a, b = e -/
theorem q_asgT2 {i j : Nat} (i0 : Ex B H) (h : EvD te σ B (.tuple [d1, d2])) (k : ∀ v w B2 H2, Stp B H B2 H2 → Dt B2 d1 v → Dt B2 d2 w → tz D ((σ.set i (some v)).set j (some w)) H2) :
    tSeq (tAsg te (gTup K 2 (gCons (gName i) (gCons (gName j) gNil)))) tz D σ H := h H i0 _ fun v H2 B2 s ⟨a, xs, h1, h2, h3⟩ => by
  obtain ⟨x, r, rfl, hx, y, r2, rfl, hy, hr⟩ := h3
  cases (show r2 = [] from hr)
  exact ⟨a, [x, y], h1, st_of (s.i a _ h2), rfl, x, [y], rfl, y, [], rfl, rfl, k x y B2 H2 s hx hy⟩
theorem q_asgT3 {i j l : Nat} {d3 : PyData} (i0 : Ex B H) (h : EvD te σ B (.tuple [d1, d2, d3])) (k : ∀ v w z B2 H2, Stp B H B2 H2 → Dt B2 d1 v → Dt B2 d2 w → Dt B2 d3 z → tz D (((σ.set i (some v)).set j (some w)).set l (some z)) H2) :
    tSeq (tAsg te (gTup K 3 (gCons (gName i) (gCons (gName j) (gCons (gName l) gNil))))) tz D σ H := h H i0 _ fun v H2 B2 s ⟨a, xs, h1, h2, h3⟩ => by
  obtain ⟨x, r, rfl, hx, y, r2, rfl, hy, z, r3, rfl, hz, hr⟩ := h3
  cases (show r3 = [] from hr)
  exact ⟨a, [x, y, z], h1, st_of (s.i a _ h2), rfl, x, [y, z], rfl, y, [z], rfl, z, [], rfl, rfl, k x y z B2 H2 s hx hy hz⟩
/-- a new list that will change -/
theorem el_new : EvL (tLst tNil) σ H [] := el_lst ea_nil (by decide)
end
end Wk
/-! Rules that the hand layer lacks: an item read for xs[i] op= e; xs > ys of numbers; xs.count(y) of flat things; sum(lists, []). -/
namespace WkR
open PySem PySem.Spec PyProof.Rows L2

/-! ### xs[i] read as a value -/
theorem get_list {X : Cx} : PGet X (rIxL X.K) := by
  intro pins s σ H x y v u Q I rx ry h
  obtain ⟨p, xs, i, z, rfl, rfl, hq, he, q⟩ := h
  cases rx
  obtain ⟨t, rfl⟩ := ry
  obtain ⟨its, r, pl, hz⟩ := I.list hq
  obtain ⟨j, h1, h2, h3, h4, h5⟩ := atI_get he
  obtain ⟨w, ew, rw'⟩ := r.get h2
  have hl := r.length
  have hn := line63
  have fin : EP X pins σ Q w s := ⟨z, H, I, rw', q⟩
  by_cases h0 : 0 ≤ i
  · have hj : i.toNat = j := by
      rw [seqIndex_of h0 h5] at h1
      exact Option.some.inj h1
    exact wpAny_getItem_list pl.isList h0 (by omega) (by rw [hj]; simpa using ew) fin
  · have hj : (i + (its.toArray.size : Int)).toNat = j := by
      rw [seqIndex_neg (by omega) h4] at h1
      rw [List.size_toArray, ← hl]
      exact Option.some.inj h1
    exact wpAny_getItem_list_neg pl.isList (by omega) (by rw [List.size_toArray] <;> omega) (by omega) (by rw [hj]; simpa using ew) fin

/-! ### xs.count(y) -/
def cntE (x : V) (u : Value) : Bool := match absV u with
  | some y => eqV y x
  | none => false
theorem cntE_of {x y : V} {u : Value} (r : RelV y u) : cntE x u = eqV y x := by
  unfold cntE
  rw [r.abs]
def rCntF (K : PySem.W.Frag) : V → List V → Hp → VK → Prop := fun x xs H Q => ∃ (p : Addr) (ys : List V) (y : V), x = .ref p ∧ xs = [y] ∧ SqL K H p ys ∧ flatV y = true ∧ ys.all flatV = true ∧ Q (.int (ys.countP fun z => eqV z y : Nat)) H
theorem countP_vals {x : V} : ∀ {ys : List V} {us : List Value}, Vals ys us → us.countP (cntE x) = ys.countP fun z => eqV z x
  | _, _, .nil => rfl
  | _, _, .cons r t => by
    rw [List.countP_cons, List.countP_cons, countP_vals t, cntE_of r]
theorem mt_countF {X : Cx} : MtR X "list.count" (rCntF X.K) := by
  intro pins s σ H x xs v us Q I rx rxs h
  obtain ⟨p, ys, y, rfl, rfl, hs, fy, fys, q⟩ := h
  cases rx
  obtain ⟨u, rfl, ru⟩ := rxs.one
  obtain ⟨its, rv, ⟨⟨cls, dd, data, sl⟩, n, ho, hc, hdn, hd⟩, hlen⟩ := I.list hs
  simp only at hc hd
  subst hc hd
  refine call_meets PySem.F.slot_list_count ⟨_, ho, rfl⟩ PySem.F.entry_list_count (PySem.F.args_list_count_2 _ _)
    (SeqAt.list_countAt p its.toArray n dd sl u (cntE y)) ⟨ho, fun w hw => ?_, ?_⟩
  · have hw : w ∈ its := by simpa using hw
    obtain ⟨i, hi⟩ := List.getElem?_of_mem hw
    have : i < ys.length := by
      have := rv.length
      have := (List.getElem?_eq_some_iff.mp hi).1
      omega
    obtain ⟨w', e1, r1⟩ := rv.get (List.getElem?_eq_getElem this)
    rw [hi] at e1; cases e1
    rw [cntE_of r1]
    exact eqAt_V r1 ru (List.all_eq_true.mp fys _ (List.getElem_mem this)) fy
  · have ec : its.toArray.toList.countP (cntE y) = ys.countP fun z => eqV z y := countP_vals rv
    refine ⟨.int (ys.countP fun z => eqV z y : Nat), H, I.tok _, ⟨s.toks, ?_⟩, q⟩
    show Value.int ((its.toArray.toList.countP (cntE y) : Nat) : Int) s.toks = Value.int ((ys.countP fun z => eqV z y : Nat) : Int) s.toks
    rw [ec]

/-! ### xs > ys, lists of numbers -/
theorem firstLt_lx (ns ms : List Int) (hl : ns.length = ms.length) : ∀ (k i : Nat), ns.length - i = k →
    PySem.SeqAt.firstLt (fun j => decide (ns.getD j 0 = ms.getD j 0)) (fun j => decide (ms.getD j 0 < ns.getD j 0)) false ((List.range ns.length).drop i) = Wd.lx (ms.drop i) (ns.drop i) := by
  intro k
  induction k with
  | zero =>
    intro i hk
    rw [List.drop_of_length_le (by simpa using (by omega : ns.length ≤ i)), List.drop_of_length_le (by omega : ms.length ≤ i), List.drop_of_length_le (by omega : ns.length ≤ i)]
    rfl
  | succ k ih =>
    intro i hk
    have h1 : i < ns.length := by omega
    have h2 : i < ms.length := by omega
    rw [List.drop_eq_getElem_cons (by simpa using h1), List.drop_eq_getElem_cons h1, List.drop_eq_getElem_cons h2, List.getElem_range]
    have e1 : ns.getD i 0 = ns[i] := by simp [h1]
    have e2 : ms.getD i 0 = ms[i] := by simp [h2]
    show _ = if ms[i] = ns[i] then Wd.lx (ms.drop (i + 1)) (ns.drop (i + 1)) else decide (ms[i] < ns[i])
    by_cases e : ns[i] = ms[i]
    · rw [if_pos e.symm, PySem.SeqAt.firstLt_yes (by rw [e1, e2]; exact decide_eq_true e)]
      exact ih (i + 1) (by omega)
    · rw [if_neg (Ne.symm e), PySem.SeqAt.firstLt_no (by rw [e1, e2]; exact decide_eq_false e), e1, e2]
def rGtL (K : PySem.W.Frag) : R2 := fun x y H Q => ∃ (a b : Addr) (ns ms : List Int), x = .ref a ∧ y = .ref b ∧ SqL K H a (ns.map V.int) ∧ SqL K H b (ms.map V.int) ∧ ns.length = ms.length ∧ Q (.bl (Wd.lx ms ns)) H
theorem op_gtL {X : Cx} (hu : X.A.units < cLine) : OpR X (compareOp .Gt) (rGtL X.K) := by
  intro pins s σ H x y v u Q I rx ry h
  obtain ⟨a, b, ns, ms, rfl, rfl, ha, hb, hlen, q⟩ := h
  cases rx
  cases ry
  obtain ⟨its, r1, p1, _⟩ := I.list ha
  obtain ⟨its2, r2, p2, _⟩ := I.list hb
  have i1 : IntsAre its ns := Vals.ints r1
  have i2 : IntsAre its2 ms := Vals.ints r2
  have e1 : its.toArray.size = ns.length := by rw [List.size_toArray]; exact i1.length
  have e2 : its2.toArray.size = ms.length := by rw [List.size_toArray]; exact i2.length
  have at1 : ∀ j (h1 : j < its.toArray.size), ∃ t, its.toArray[j] = .int (ns.getD j 0) t := fun j h1 => PyProof.Rows.IntsAre.int_at i1 _ _ (by simp at h1; simp [h1])
  have at2 : ∀ j (h1 : j < its2.toArray.size), ∃ t, its2.toArray[j] = .int (ms.getD j 0) t := fun j h1 => PyProof.Rows.IntsAre.int_at i2 _ _ (by simp at h1; simp [h1])
  have R := PySem.SeqAt.RcOp.lists_gt (A := X.A) (s := s) (e := fun j => decide (ns.getD j 0 = ms.getD j 0)) (r := fun j => decide (ms.getD j 0 < ns.getD j 0)) p1.isList p2.isList hu (fun j h1 h2 => by
    obtain ⟨t, et⟩ := at1 j h1
    obtain ⟨t', et'⟩ := at2 j h2
    rw [et, et']
    have z : (ns.getD j 0 == ms.getD j 0) = decide (ns.getD j 0 = ms.getD j 0) := by
      by_cases q : ns.getD j 0 = ms.getD j 0
      · rw [decide_eq_true q]; exact beq_iff_eq.mpr q
      · rw [decide_eq_false q]; exact beq_eq_false_iff_ne.mpr q
    rw [← z]
    exact SeqAt.EqAt.int_int _ _ _ _) (fun j h1 h2 _ => by
    obtain ⟨t, et⟩ := at1 j h1
    obtain ⟨t', et'⟩ := at2 j h2
    rw [et, et']
    exact fun _ _ _ _ h => PyProof.Rows.gt_int h)
  rw [e1, e2, ← hlen, Nat.min_self, show decide (ns.length > ns.length) = false from decide_eq_false (Nat.lt_irrefl _)] at R
  have z := firstLt_lx ns ms hlen ns.length 0 (by omega)
  rw [List.drop_zero, List.drop_zero, List.drop_zero] at z
  rw [z] at R
  have w : wpAny (model X.prog X.w) X.A (compareOp .Gt (.ref a) (.ref b)) (EP X pins σ Q) X.xe s := R X.prog X.w X.xe (EP X pins σ Q) ⟨.bl _, H, I, rfl, q⟩
  exact w

/-! ### sum(lists, []) -/
theorem args_sum2 (a b : Value) : argsOk "sum" ⟨[a, b], []⟩ := by unfold argsOk; kernel_rfl
theorem sub_list_bytes' : isSubtype (.type "list") (.type "bytes") = pure false := by rw [isSubtype_type]; kernel_rfl
theorem sub_list_str' : isSubtype (.type "list") (.type "str") = pure false := by rw [isSubtype_type]; kernel_rfl
theorem sub_list_bytearray' : isSubtype (.type "list") (.type "bytearray") = pure false := by rw [isSubtype_type]; kernel_rfl
def ListAt (h : Heap) (b : Addr) (p : List Value) : Prop := ∃ c, h.get? b = some { cls := .type "list", data := .seq p.toArray c }
section
variable {prog : Program} {w : World} {A : Around} {R : Result → Shared → Prop} {I : Addr} {fp wr : List Addr} {n : Nat} {P : Nat → Value → Prop} {St : Nat → Heap → Prop}
theorem sum_loop_lists (W : Walks prog w A.in1 I fp wr n P St) (bs : List Addr) (parts : List (List Value)) (hn : n = parts.length) (hval : ∀ i v, P i v → ∃ b, bs[i]? = some b ∧ v = .ref b) (S : Addr) (hSf : S ∉ fp)
    (hfp : ∀ i h, St i h → ∀ b ∈ fp, ∃ o, h.get? b = some o) (hb : ∀ b ∈ bs, b ∉ wr ∧ b ≠ S) (hz : parts.flatten.length ≤ sizeLine) :
    ∀ (k i : Nat) (s : Shared) (T : Addr) (c : Nat), n - i = k → i ≤ n → St i s.heap → s.heap.get? S = some { cls := .type "list", dict := none, data := .seq #[.ref T] c, slots := #[] } → ListAt s.heap T (parts.take i).flatten → T ∉ wr → T ≠ S →
    (∀ (j : Nat) b p, bs[j]? = some b → parts[j]? = some p → ListAt s.heap b p) →
    (∀ h' tk T', (∀ b o, b ∉ wr → b ≠ S → s.heap.get? b = some o → h'.get? b = some o) → ListAt h' T' parts.flatten → ((i = n ∧ T' = T) ∨ ∀ b o, b ∉ wr → b ≠ S → s.heap.get? b = some o → b ≠ T') → R (.ok (.ret (.ref T'))) { s with heap := h', toks := tk }) →
    codeAny (model prog w) A (.builtin "sum.loop" ⟨[.ref I, .ref S, rawInt 2, rawInt 0], []⟩) R s := by
  have hSw : S ∉ wr := fun h => hSf (W.sub _ h)
  intro k
  induction k with
  | zero =>
    intro i s T c hk hi hst hS hT hTw hTS hps hR
    have hin : i = n := by omega
    subst hin
    refine codeAny_builtin F.entry_sum_loop ?_
    rw [Around.under_plainId F.plain_sum_loop _]
    show wpAny _ A.in1 (seqItems? (.ref S) >>= _) _ _ s
    refine wpAny_bind (wpAny_seqItems hS rfl ?_)
    show wpAny _ A.in1 (tryCatch (pyNext (.ref I)) _ >>= _) _ _ s
    refine wpAny_bind (wpAny_tryCatch (W.done s _ _ hst fun h' tk hk' => ?_))
    obtain ⟨c', e⟩ := hT
    rw [hn, List.take_length] at e
    exact wpAny_pure (hR h' tk T (fun b o hbw _ e => hk' b o hbw e) ⟨c', hk' T _ hTw e⟩ (.inl ⟨rfl, rfl⟩))
  | succ k ih =>
    intro i s T c hk hi hst hS hT hTw hTS hps hR
    have hlt : i < n := by omega
    refine codeAny_builtin F.entry_sum_loop ?_
    rw [Around.under_plainId F.plain_sum_loop _]
    show wpAny _ A.in1 (seqItems? (.ref S) >>= _) _ _ s
    refine wpAny_bind (wpAny_seqItems hS rfl ?_)
    show wpAny _ A.in1 (tryCatch (pyNext (.ref I)) _ >>= _) _ _ s
    refine wpAny_bind (wpAny_tryCatch (W.item i s _ _ hlt hst fun v h' tk hP hst' hk' => ?_))
    obtain ⟨b, hbi, rfl⟩ := hval i v hP
    have hS' := hk' S _ hSw hS
    have hbm := hb b (List.mem_of_getElem? hbi)
    have hpi : parts[i]? = some parts[i] := List.getElem?_eq_getElem (by omega)
    obtain ⟨cb, eb⟩ := hps i b _ hbi hpi
    obtain ⟨cT, eT⟩ := hT
    have eb' := hk' b _ hbm.1 eb
    have eT' := hk' T _ hTw eT
    have ef : (parts.take (i + 1)).flatten = (parts.take i).flatten ++ parts[i] := by
      rw [List.take_add_one, hpi, List.flatten_append]
      simp
    have hzz : ((parts.take i).flatten.toArray).size + (parts[i].toArray).size ≤ sizeLine := by
      rw [List.size_toArray, List.size_toArray, ← List.length_append, ← ef]
      have e2 : parts.flatten = (parts.take (i + 1)).flatten ++ (parts.drop (i + 1)).flatten := by rw [← List.flatten_append, List.take_append_drop]
      rw [e2, List.length_append] at hz
      omega
    show wpAny _ A.in1 ((holding [Value.ref b] (binaryOp .Add (.ref T) (.ref b))).attempt >>= _) _ _ _
    refine wpAny_bind (wpAny_attempt (wpAny_holding (PySem.P.add_list (s := { s with heap := h', toks := tk }) eT' eb' ?_ hzz)))
    have eadd : (parts.take i).flatten.toArray ++ parts[i].toArray = (parts.take (i + 1)).flatten.toArray := by rw [ef]; simp
    rw [eadd]
    generalize hh2 : h'.push { cls := .type "list", data := .seq (parts.take (i + 1)).flatten.toArray } = h2
    generalize hT2 : h'.objs.size = T2
    have hS2 : h2.get? S = some { cls := .type "list", dict := none, data := .seq #[.ref T] c, slots := #[] } := by rw [← hh2]; exact Heap.get?_push_of_some _ hS'
    have kept2 : ∀ b o, h'.get? b = some o → h2.get? b = some o := fun b o e => by rw [← hh2]; exact Heap.get?_push_of_some _ e
    have newT : h2.get? T2 = some { cls := .type "list", data := .seq (parts.take (i + 1)).flatten.toArray } := by rw [← hh2, ← hT2]; exact Heap.get?_push_size _ rfl
    have oldlt : ∀ b o, h'.get? b = some o → b ≠ T2 := fun b o e => by rw [← hT2]; exact Nat.ne_of_lt (Heap.lt_size e)
    show wpAny _ A.in1 (updateSeq S (fun _ => #[.ref T2]) >>= _) _ _ _
    refine wpAny_bind (wpAny_updateSeq hS2 rfl ?_)
    have hS3 := Heap.get?_update_self (Obj.mapSeq fun _ => #[Value.ref T2]) hS2 rfl
    refine wpAny_bind (wpAny_letGo ?_)
    refine wpAny_bind (wpAny_updateSeq hS3 rfl (wpAny_pure ⟨plainId_quiet F.plain_sum_loop _, ?_⟩))
    have other : ∀ b o, b ≠ S → h2.get? b = some o → ((h2.update S (Obj.mapSeq fun _ => #[Value.ref T2])).update S (Obj.mapSeq fun _ => #[Value.ref T2])).get? b = some o := fun b o hne e =>
      (Heap.get?_update_other _ _ (Ne.symm hne)).trans ((Heap.get?_update_other _ _ (Ne.symm hne)).trans e)
    have hTS2 : T2 ≠ S := fun e => oldlt S _ hS' e.symm
    have hTw2 : T2 ∉ wr := fun e => by
      obtain ⟨o, q⟩ := hfp _ _ hst' T2 (W.sub _ e)
      exact oldlt T2 o q rfl
    refine ih (i + 1) _ T2 _ (by omega) hlt (W.frame _ _ _ hst' fun b hb o e => other b o (fun z => hSf (z ▸ hb)) (kept2 b o e)) (Heap.get?_update_self _ hS3 rfl) ⟨_, other T2 _ hTS2 newT⟩ hTw2 hTS2 (fun j b p h1 h2' => ?_) (fun h'' tk'' T' hk2 hT' hor => ?_)
    · obtain ⟨cc, e⟩ := hps j b p h1 h2'
      have q := hb b (List.mem_of_getElem? h1)
      exact ⟨cc, other b _ q.2 (kept2 b _ (hk' b _ q.1 e))⟩
    · refine hR h'' tk'' T' (fun b o hw hs e => hk2 b o hw hs (other b o hs (kept2 b o (hk' b o hw e)))) hT' (.inr fun b o hw hs e => ?_)
      rcases hor with ⟨_, e2⟩ | hor
      · rw [e2]; exact oldlt b o (hk' b o hw e)
      · exact hor b o hw hs (other b o hs (kept2 b o (hk' b o hw e)))

theorem sum_lists {E : Value → Shared → Prop} {s : Shared} {l e : Addr} {items : Array Value} {bs : List Addr} {parts : List (List Value)} {Q : Value → Shared → Prop} (hh : A.handled = none) (hl : s.heap.IsList l items) (he : ListAt s.heap e [])
    (hit : items = (bs.map Value.ref).toArray) (hlen : bs.length = parts.length) (hps : ∀ (j : Nat) b p, bs[j]? = some b → parts[j]? = some p → ListAt s.heap b p) (hz : parts.flatten.length ≤ sizeLine)
    (h : ∀ h' tk T', (∀ b o, s.heap.get? b = some o → h'.get? b = some o) → ListAt h' T' parts.flatten → (T' = e ∧ parts.flatten = [] ∨ s.heap.get? T' = none) → Q (.ref T') { s with heap := h', toks := tk }) :
    wpAny (model prog w) A (call (.builtin "sum") [.ref l, .ref e]) Q E s := by
  refine call_function_tree F.kind_sum F.plain_sum F.entry_sum (args_sum2 _ _) ?_
  unfold Builtin.«sum»
  simp only [List.length_cons, List.length_nil]
  rw [if_neg (by decide)]
  refine wpAny_bind (wpAny_of_eq (show Builtin.Builtins.bindParams "sum" ["start"] 0 { pos := [.ref e] } = pure [some (.ref e)] from rfl) ?_)
  refine wpAny_bind (wpAny_pyIter_list hl ?_)
  refine wpAny_bind (wpAny_pure ?_)
  simp only [List.forIn_cons, List.forIn_nil]
  obtain ⟨ce, ee⟩ := id he
  have hty : ∀ s2 : Shared, (∀ b o, s.heap.get? b = some o → s2.heap.get? b = some o) → s2.TypeIs (.ref e) "list" := fun s2 k => ⟨_, k _ _ ee, rfl⟩
  have k1 : ∀ b o, s.heap.get? b = some o → (s.heap.push { cls := .type "list_iterator", data := .fields #[.ref l, .int 0 0] }).get? b = some o := fun b o q => Heap.get?_push_of_some _ q
  refine wpAny_bind (wpAny_bind (wpAny_bind (wpAny_isInstance (T := "list") (b := false) (hty _ k1) sub_list_str' ?_)))
  simp only [Bool.false_eq_true, if_false]
  refine wpAny_pure (wpAny_bind (wpAny_bind (wpAny_isInstance (T := "list") (b := false) (hty _ k1) sub_list_bytes' ?_)))
  simp only [Bool.false_eq_true, if_false]
  refine wpAny_pure (wpAny_bind (wpAny_bind (wpAny_isInstance (T := "list") (b := false) (hty _ k1) sub_list_bytearray' ?_)))
  simp only [Bool.false_eq_true, if_false]
  refine wpAny_pure (wpAny_pure ?_)
  refine wpAny_bind (wpAny_newObj_type ?_)
  generalize hI : s.heap.objs.size = I
  generalize hh1 : s.heap.push { cls := .type "list_iterator", data := .fields #[.ref l, .int 0 0] } = h1 at k1 ⊢
  generalize hS : h1.objs.size = S
  generalize hh2 : h1.push { cls := .type "list", dict := none, data := .seq #[Value.ref e] } = h2
  have k2 : ∀ b o, h1.get? b = some o → h2.get? b = some o := fun b o q => by rw [← hh2]; exact Heap.get?_push_of_some _ q
  have kS : ∀ b o, h1.get? b = some o → b ≠ S := fun b o q => by rw [← hS]; exact Nat.ne_of_lt (Heap.lt_size q)
  have kI : ∀ b o, s.heap.get? b = some o → b ≠ I := fun b o q => by rw [← hI]; exact Nat.ne_of_lt (Heap.lt_size q)
  have eI : h1.get? I = some { cls := .type "list_iterator", data := .fields #[.ref l, .int 0 0] } := by rw [← hh1, ← hI]; exact Heap.get?_push_size _ rfl
  have eS : h2.get? S = some { cls := .type "list", dict := none, data := .seq #[Value.ref e] } := by rw [← hh2, ← hS]; exact Heap.get?_push_size _ rfl
  have hli : l ≠ I := by obtain ⟨o, ho, _⟩ := hl; exact kI l o ho
  have W : Walks prog w A.in1 I [I, l] [I] items.size (fun i v => items[i]? = some v) (fun i h => h.IsListIter I l i ∧ h.IsList l items) := Walks.list (A := A.in1) hh I l hli items
  have hsz : items.size = parts.length := by rw [hit]; simpa using hlen
  refine wpAny_pure ⟨plainId_quiet F.plain_sum_loop _, sum_loop_lists W bs parts hsz (fun i v hv => ?_) S (fun hm => ?_) (fun i h st b hb => ?_) (fun b hb => ?_) hz items.size 0 _ e _ rfl (Nat.zero_le _) ⟨?_, ?_⟩ eS ⟨ce, k2 _ _ (k1 _ _ ee)⟩ (fun hm => ?_) (kS _ _ (k1 _ _ ee))
    (fun j b p q1 q2 => ?_) (fun h' tk T' hk hT hor => ?_)⟩
  · rw [hit] at hv
    simp only [List.getElem?_toArray, List.getElem?_map] at hv
    cases q : bs[i]? with
    | none => rw [q] at hv; cases hv
    | some b => rw [q] at hv; cases hv; exact ⟨b, rfl, rfl⟩
  · simp only [List.mem_cons, List.not_mem_nil, or_false] at hm
    rcases hm with z | z
    · exact kS I _ eI z.symm
    · obtain ⟨o, ho, _⟩ := id hl
      exact kS l o (k1 _ _ ho) z.symm
  · simp only [List.mem_cons, List.not_mem_nil, or_false] at hb
    rcases hb with rfl | rfl
    · obtain ⟨o, q, _⟩ := st.1; exact ⟨o, q⟩
    · obtain ⟨o, q, _⟩ := st.2; exact ⟨o, q⟩
  · obtain ⟨j, hj⟩ := List.getElem?_of_mem hb
    have hj2 : j < parts.length := by have := (List.getElem?_eq_some_iff.mp hj).1; omega
    obtain ⟨c, q⟩ := hps j b _ hj (List.getElem?_eq_getElem hj2)
    exact ⟨fun z => kI b _ q (by simpa using z), kS b _ (k1 _ _ q)⟩
  · exact ⟨_, k2 _ _ eI, rfl, rfl⟩
  · obtain ⟨o, ho, r⟩ := id hl
    exact ⟨o, k2 _ _ (k1 _ _ ho), r⟩
  · exact kI e _ ee (by simpa using hm)
  · obtain ⟨c, q⟩ := hps j b p q1 q2
    exact ⟨c, k2 _ _ (k1 _ _ q)⟩
  · have far : ∀ b o, s.heap.get? b = some o → b ∉ [I] ∧ b ≠ S := fun b o q => ⟨fun z => kI b o q (by simpa using z), kS b o (k1 _ _ q)⟩
    refine h h' tk T' (fun b o q => hk b o (far b o q).1 (far b o q).2 (k2 _ _ (k1 _ _ q))) hT ?_
    rcases hor with ⟨z, rfl⟩ | hor
    · refine .inl ⟨rfl, ?_⟩
      have : parts = [] := List.length_eq_zero_iff.mp (by omega)
      rw [this]; rfl
    · refine .inr ?_
      cases q : s.heap.get? T' with
      | none => rfl
      | some o => exact absurd rfl (hor T' o (far T' o q).1 (far T' o q).2 (k2 _ _ (k1 _ _ q)))
end
theorem obj_ex {P : Program} {w : World} {H : Hp} {h : Heap} {a : Addr} {o : HO} (x : ObjOk P w H h a o) : ∃ ob, h.get? a = some ob := by
  cases o with
  | lst xs => obtain ⟨_, _, _, _, e⟩ := x; exact ⟨_, e⟩
  | tup xs => obtain ⟨_, _, _, ob, e, _⟩ := x; exact ⟨ob, e⟩
  | dK kvs => obtain ⟨_, _, _, _, o, _, _, e, _⟩ := x; exact ⟨_, e⟩
  | dT kvs => obtain ⟨_, _, _, _, o, _, _, e, _⟩ := x; exact ⟨_, e⟩
  | set S n => obtain ⟨o, _, _, _, e, _⟩ := x; exact ⟨_, e⟩
  | ins C dx fs => obtain ⟨_, _, _, e, _⟩ := x; exact ⟨_, e⟩
  | own y => obtain ⟨_, e⟩ := x; exact ⟨_, e⟩
  | xd fs => obtain ⟨_, ⟨_, _, _, e, _⟩, _⟩ := x; exact ⟨_, e⟩
  | rng lo hi => obtain ⟨_, _, _, e⟩ := x; exact ⟨_, e⟩
  | frz ob u => obtain ⟨e, _⟩ := x; exact ⟨_, e⟩
  | tbl ps => exact ⟨_, show h.get? a = some _ from x⟩
  | met f y => exact ⟨_, show h.get? a = some _ from x⟩
  | ext φ => obtain ⟨_, ⟨_, e⟩, _⟩ := x; exact ⟨_, e⟩
/-- sum(lists, []): all items in a row, a new list (or the written [] itself, where there are none) -/
def rSumLs (K : PySem.W.Frag) : List V → Hp → VK → Prop := fun vs H Q => ∃ (a e : Addr) (bs : List Addr) (ps : List (List V)), vs = [.ref a, .ref e] ∧ H a = some (.lst (bs.map V.ref)) ∧ H e = some (.lst []) ∧ bs.length = ps.length ∧
  (∀ (j : Nat) b p, bs[j]? = some b → ps[j]? = some p → H b = some (.lst p)) ∧ ps.flatten.length ≤ sizeLine ∧ (ps.flatten = [] → Q (.ref e) H) ∧ ∀ p, H p = none → Q (.ref p) (upd H p (.lst ps.flatten))
theorem cr_sumLs {X : Cx} (hc : X.calm = true) : CallR X (.builtin "sum") (rSumLs X.K) := by
  intro pins s σ H vs us Q I r h
  obtain ⟨a, e, bs, ps, rfl, ha, he, hlen, hps, hz, q0, q⟩ := h
  cases r with
  | cons r1 r2 =>
    cases r2 with
    | cons r2 r3 =>
      cases r3
      cases (show _ = Value.ref a from r1)
      cases (show _ = Value.ref e from r2)
      obtain ⟨_, its, n, rv, _, ea⟩ := I.lstM ha
      obtain ⟨_, its0, n0, rv0, _, ee⟩ := I.lstM he
      cases rv0
      -- the parts as they lie
      have hex : ∀ (ps : List (List V)) (bs : List Addr), bs.length = ps.length → (∀ (j : Nat) b p, bs[j]? = some b → ps[j]? = some p → H b = some (.lst p)) →
          ∃ parts : List (List Value), bs.length = parts.length ∧ Vals ps.flatten parts.flatten ∧ ∀ (j : Nat) b p, bs[j]? = some b → parts[j]? = some p → ListAt s.heap b p := by
        intro ps
        induction ps with
        | nil => intro bs hl _; exact ⟨[], hl, .nil, fun j b p _ h2 => by simp at h2⟩
        | cons p ps ih =>
          intro bs hl hps
          cases bs with
          | nil => simp at hl
          | cons b bs =>
            obtain ⟨parts, h1, h2, h3⟩ := ih bs (by simpa using hl) fun j b' p' q1 q2 => hps (j + 1) b' p' (by simpa using q1) (by simpa using q2)
            obtain ⟨_, its1, n1, rv1, _, e1⟩ := I.lstM (hps 0 b p rfl rfl)
            refine ⟨its1 :: parts, by simp [h1], Vals.append rv1 h2, fun j b' p' q1 q2 => ?_⟩
            cases j with
            | zero => cases (Option.some.inj q1); cases (Option.some.inj q2); exact ⟨n1, e1⟩
            | succ j => exact h3 j b' p' (by simpa using q1) (by simpa using q2)
      obtain ⟨parts, h1, h2, h3⟩ := hex ps bs hlen hps
      have hitems : its = bs.map Value.ref := by
        have : ∀ (bs : List Addr) (its : List Value), Vals (bs.map V.ref) its → its = bs.map Value.ref := fun bs => by
          induction bs with
          | nil => intro its h; cases h; rfl
          | cons b bs ih => intro its h; cases h with | cons x y => cases (show _ = Value.ref b from x); rw [ih _ y]; rfl
        exact this bs its rv
      refine sum_lists (I.ok.hd hc) ⟨_, ea, rfl, _, rfl⟩ ⟨n0, ee⟩ (by rw [hitems]) h1 h3 (by rw [← h2.length]; exact hz) fun h' tk T' hk hT hor => ?_
      rcases hor with ⟨rfl, hnil⟩ | hnew
      · have : ps.flatten = [] := List.length_eq_zero_iff.mp (by rw [h2.length, hnil]; rfl)
        exact ⟨.ref _, H, I.kept hk, rfl, q0 this⟩
      · have hn : H T' = none := by
          cases q : H T' with
          | none => rfl
          | some o =>
            obtain ⟨ob, z⟩ := obj_ex (I.hok T' o q)
            rw [hnew] at z; cases z
        obtain ⟨c, eT⟩ := hT
        exact ⟨.ref T', _, Inv.laidN (t' := tk) I hk hnew hn (o := .lst ps.flatten) ⟨hz, _, c, h2, eT⟩, rfl, q T' hn⟩
end WkR
/-! Loops, comprehensions and stores over data. -/
namespace Wk
open PySem L2 Evl WkR

section
variable {K : PySem.W.Frag} {σ : L2.St} {B B' H H' : Hp} {ta tb te tx : TE} {t u : TT} {d d1 d2 : PyData} {ds es : List PyData} {D : Ends} {tu tw tz : TS}

/-! ### for -/
theorem walk_ex {J : It} {n : Nat} {G G' : Hp → Prop} {Y : Nat → Hp → V → Hp → Prop} (w : Walk J n G Y) (h : ∀ H, G' H → G H) : Walk J n G' Y := ⟨fun i H hi q => w.goes i H hi (h H q), fun H q => w.stops H (h H q), fun i H x H' hi q y => w.yields i H x H' hi (h H q) y⟩

theorem s_forL {j : Nat} (i0 : Ex B H) (h : EvD te σ B (.list ds)) (k : ∀ B1 H1, Stp B H B1 H1 → ∃ Pv : Nat → L2.St → Hp → Prop, Pv 0 σ H1 ∧ (∀ i σ' H', Pv i σ' H' → Ex B1 H') ∧
      (∀ i d x σ' H', ds[i]? = some d → Dt B1 d x → Pv i σ' H' → tu { D with nx := Pv (i + 1), ct := Pv (i + 1), bk := D.nx } (σ'.set j (some x)) H') ∧ (∀ σ' H', Pv ds.length σ' H' → D.nx σ' H')) :
    tFor (iList K te) (gName j) tu D σ H := h H i0 _ fun v H1 B1 s ⟨a, xs, hv, hx, hd⟩ => by
  obtain ⟨Pv, h0, hB, hs, hdn⟩ := k B1 H1 s
  refine ⟨a, hv, ⟨xs, sq_of (s.i a _ hx)⟩, for_it walk_list Pv h0 (fun i σ' H' _ p => sq_of (hB i σ' H' p a _ hx)) (fun i x σ' H' H'' hi p y => ?_) (fun σ' H' p => ?_)⟩
  · obtain ⟨rfl, hy⟩ := y
    obtain ⟨d, e1, e2⟩ := hd.get' hy
    exact hs i d x σ' H'' e1 e2 p
  · exact hdn σ' H' (by rw [← hd.length]; exact p)
theorem q_forL {j : Nat} (i0 : Ex B H) (h : EvD te σ B (.list ds)) (k : ∀ B1 H1, Stp B H B1 H1 → ∃ Pv : Nat → L2.St → Hp → Prop, Pv 0 σ H1 ∧ (∀ i σ' H', Pv i σ' H' → Ex B1 H') ∧
      (∀ i d x σ' H', ds[i]? = some d → Dt B1 d x → Pv i σ' H' → tu { D with nx := Pv (i + 1), ct := Pv (i + 1), bk := tz D } (σ'.set j (some x)) H') ∧ (∀ σ' H', Pv ds.length σ' H' → tz D σ' H')) :
    tSeq (tFor (iList K te) (gName j) tu) tz D σ H := s_forL (D := { D with nx := tz D }) i0 h k
/-- for x, y in xs -/
theorem s_forL2 {j1 j2 : Nat} (i0 : Ex B H) (h : EvD te σ B (.list ds)) (k : ∀ B1 H1, Stp B H B1 H1 → ∃ Pv : Nat → L2.St → Hp → Prop, Pv 0 σ H1 ∧ (∀ i σ' H', Pv i σ' H' → Ex B1 H') ∧
      (∀ i, i < ds.length → ∃ d1 d2, ds[i]? = some (.tuple [d1, d2]) ∧ ∀ x y σ' H', Dt B1 d1 x → Dt B1 d2 y → Pv i σ' H' → tu { D with nx := Pv (i + 1), ct := Pv (i + 1), bk := D.nx } ((σ'.set j1 (some x)).set j2 (some y)) H') ∧ (∀ σ' H', Pv ds.length σ' H' → D.nx σ' H')) :
    tFor (iList K te) (gTup K 2 (gCons (gName j1) (gCons (gName j2) gNil))) tu D σ H := h H i0 _ fun v H1 B1 s ⟨a, xs, hv, hx, hd⟩ => by
  obtain ⟨Pv, h0, hB, hs, hdn⟩ := k B1 H1 s
  refine ⟨a, hv, ⟨xs, sq_of (s.i a _ hx)⟩, for_it walk_list Pv h0 (fun i σ' H' _ p => sq_of (hB i σ' H' p a _ hx)) (fun i x σ' H' H'' hi p y => ?_) (fun σ' H' p => ?_)⟩
  · obtain ⟨rfl, hy⟩ := y
    obtain ⟨d, e1, e2⟩ := hd.get' hy
    obtain ⟨d1, d2, e3, hs⟩ := hs i (by rw [← hd.length]; exact hi)
    rw [e1] at e3; cases e3
    obtain ⟨b, ys, rfl, hb, z1, r1, rfl, q1, z2, r2, rfl, q2, hr⟩ := e2
    cases (show r2 = [] from hr)
    exact ⟨b, [z1, z2], rfl, st_of (hB i σ' H'' p b _ hb), rfl, z1, [z2], rfl, z2, [], rfl, rfl, hs z1 z2 σ' H'' q1 q2 p⟩
  · exact hdn σ' H' (by rw [← hd.length]; exact p)
theorem s_forL3 {j1 j2 j3 : Nat} (i0 : Ex B H) (h : EvD te σ B (.list ds)) (k : ∀ B1 H1, Stp B H B1 H1 → ∃ Pv : Nat → L2.St → Hp → Prop, Pv 0 σ H1 ∧ (∀ i σ' H', Pv i σ' H' → Ex B1 H') ∧
      (∀ i, i < ds.length → ∃ d1 d2 d3, ds[i]? = some (.tuple [d1, d2, d3]) ∧ ∀ x y z σ' H', Dt B1 d1 x → Dt B1 d2 y → Dt B1 d3 z → Pv i σ' H' → tu { D with nx := Pv (i + 1), ct := Pv (i + 1), bk := D.nx } (((σ'.set j1 (some x)).set j2 (some y)).set j3 (some z)) H') ∧
      (∀ σ' H', Pv ds.length σ' H' → D.nx σ' H')) :
    tFor (iList K te) (gTup K 3 (gCons (gName j1) (gCons (gName j2) (gCons (gName j3) gNil)))) tu D σ H := h H i0 _ fun v H1 B1 s ⟨a, xs, hv, hx, hd⟩ => by
  obtain ⟨Pv, h0, hB, hs, hdn⟩ := k B1 H1 s
  refine ⟨a, hv, ⟨xs, sq_of (s.i a _ hx)⟩, for_it walk_list Pv h0 (fun i σ' H' _ p => sq_of (hB i σ' H' p a _ hx)) (fun i x σ' H' H'' hi p y => ?_) (fun σ' H' p => ?_)⟩
  · obtain ⟨rfl, hy⟩ := y
    obtain ⟨d, e1, e2⟩ := hd.get' hy
    obtain ⟨d1, d2, d3, e3, hs⟩ := hs i (by rw [← hd.length]; exact hi)
    rw [e1] at e3; cases e3
    obtain ⟨b, ys, rfl, hb, z1, r1, rfl, q1, z2, r2, rfl, q2, z3, r3, rfl, q3, hr⟩ := e2
    cases (show r3 = [] from hr)
    exact ⟨b, [z1, z2, z3], rfl, st_of (hB i σ' H'' p b _ hb), rfl, z1, [z2, z3], rfl, z2, [z3], rfl, z3, [], rfl, rfl, hs z1 z2 z3 σ' H'' q1 q2 q3 p⟩
  · exact hdn σ' H' (by rw [← hd.length]; exact p)
/-- for i, x in enumerate(xs) -/
theorem s_forE {j1 j2 : Nat} (i0 : Ex B H) (h : EvD te σ B (.list ds)) (k : ∀ B1 H1, Stp B H B1 H1 → ∃ Pv : Nat → L2.St → Hp → Prop, Pv 0 σ H1 ∧ (∀ i σ' H', Pv i σ' H' → Ex B1 H') ∧
      (∀ (i : Nat) d x σ' H' H'', ds[i]? = some d → Dt B1 d x → Pv i σ' H' → Ex H' H'' → tu { D with nx := Pv (i + 1), ct := Pv (i + 1), bk := D.nx } ((σ'.set j1 (some (.int (i : Int)))).set j2 (some x)) H'') ∧ (∀ σ' H', Pv ds.length σ' H' → D.nx σ' H')) :
    tFor (iEnum K (tCons te tNil)) (gTup K 2 (gCons (gName j1) (gCons (gName j2) gNil))) tu D σ H := h H i0 _ fun v H1 B1 s ⟨a, xs, hv, hx, hd⟩ => by
  obtain ⟨Pv, h0, hB, hs, hdn⟩ := k B1 H1 s
  refine ⟨a, xs, by rw [hv], sq_of (s.i a _ hx), for_it walk_enum Pv h0 (fun i σ' H' _ p => sq_of (hB i σ' H' p a _ hx)) (fun i x σ' H' H'' hi p y => ?_) (fun σ' H' p => ?_)⟩
  · obtain ⟨T, x1, x2, rfl, hT, rfl, e1, e2⟩ := y
    cases (Option.some.inj e1)
    obtain ⟨d, e3, e4⟩ := hd.get' e2
    exact ⟨T, [.int (i : Nat), x2], rfl, st_of upd_same, rfl, _, [x2], rfl, x2, [], rfl, rfl, hs i d x2 σ' H' _ e3 e4 p (Ex.new hT)⟩
  · exact hdn σ' H' (by rw [← hd.length]; exact p)
theorem q_forE {j1 j2 : Nat} (i0 : Ex B H) (h : EvD te σ B (.list ds)) (k : ∀ B1 H1, Stp B H B1 H1 → ∃ Pv : Nat → L2.St → Hp → Prop, Pv 0 σ H1 ∧ (∀ i σ' H', Pv i σ' H' → Ex B1 H') ∧
      (∀ (i : Nat) d x σ' H' H'', ds[i]? = some d → Dt B1 d x → Pv i σ' H' → Ex H' H'' → tu { D with nx := Pv (i + 1), ct := Pv (i + 1), bk := tz D } ((σ'.set j1 (some (.int (i : Int)))).set j2 (some x)) H'') ∧ (∀ σ' H', Pv ds.length σ' H' → tz D σ' H')) :
    tSeq (tFor (iEnum K (tCons te tNil)) (gTup K 2 (gCons (gName j1) (gCons (gName j2) gNil))) tu) tz D σ H := s_forE (D := { D with nx := tz D }) i0 h k
/-- for x, y in zip(xs, ys) -/
theorem s_forZ {j1 j2 : Nat} (i0 : Ex B H) (h : EvD ta σ B (.list ds)) (h' : EvD tb σ B (.list es)) (hl : ds.length = es.length) (k : ∀ B1 H1, Stp B H B1 H1 → ∃ Pv : Nat → L2.St → Hp → Prop, Pv 0 σ H1 ∧ (∀ i σ' H', Pv i σ' H' → Ex B1 H') ∧
      (∀ (i : Nat) d e x y σ' H' H'', ds[i]? = some d → es[i]? = some e → Dt B1 d x → Dt B1 e y → Pv i σ' H' → Ex H' H'' → tu { D with nx := Pv (i + 1), ct := Pv (i + 1), bk := D.nx } ((σ'.set j1 (some x)).set j2 (some y)) H'') ∧ (∀ σ' H', Pv ds.length σ' H' → D.nx σ' H')) :
    tFor (iZip K (tCons ta (tCons tb tNil))) (gTup K 2 (gCons (gName j1) (gCons (gName j2) gNil))) tu D σ H := h H i0 _ fun v H1 B1 s ⟨a, xs, hv, hx, hd⟩ => (h'.mono s.b) H1 s.i _ fun w H2 B2 s2 ⟨b, ys, hw, hy, he⟩ => by
  obtain ⟨Pv, h0, hB, hs, hdn⟩ := k B2 H2 (s.trans s2)
  have hx2 := s2.b a _ hx
  refine ⟨a, b, xs, ys, by rw [hv, hw], sq_of (s2.i a _ hx2), sq_of (s2.i b _ hy), for_it (walk_zip (n := ds.length) (by rw [hd.length, he.length]; omega)) Pv h0 (fun i σ' H' _ p => ⟨sq_of (hB i σ' H' p a _ hx2), sq_of (hB i σ' H' p b _ hy)⟩) (fun i x σ' H' H'' hi p y => ?_) (fun σ' H' p => hdn σ' H' p)⟩
  obtain ⟨T, x1, x2, rfl, hT, rfl, e1, e2⟩ := y
  obtain ⟨d, e3, e4⟩ := hd.get' e1
  obtain ⟨e, e5, e6⟩ := he.get' e2
  exact ⟨T, [x1, x2], rfl, st_of upd_same, rfl, _, [x2], rfl, x2, [], rfl, rfl, hs i d e x1 x2 σ' H' _ e3 e5 (e4.mono s2.b) e6 p (Ex.new hT)⟩
theorem q_forZ {j1 j2 : Nat} (i0 : Ex B H) (h : EvD ta σ B (.list ds)) (h' : EvD tb σ B (.list es)) (hl : ds.length = es.length) (k : ∀ B1 H1, Stp B H B1 H1 → ∃ Pv : Nat → L2.St → Hp → Prop, Pv 0 σ H1 ∧ (∀ i σ' H', Pv i σ' H' → Ex B1 H') ∧
      (∀ (i : Nat) d e x y σ' H' H'', ds[i]? = some d → es[i]? = some e → Dt B1 d x → Dt B1 e y → Pv i σ' H' → Ex H' H'' → tu { D with nx := Pv (i + 1), ct := Pv (i + 1), bk := tz D } ((σ'.set j1 (some x)).set j2 (some y)) H'') ∧ (∀ σ' H', Pv ds.length σ' H' → tz D σ' H')) :
    tSeq (tFor (iZip K (tCons ta (tCons tb tNil))) (gTup K 2 (gCons (gName j1) (gCons (gName j2) gNil))) tu) tz D σ H := s_forZ (D := { D with nx := tz D }) i0 h h' hl k
/-- for k in range(n) -/
theorem s_forR {j : Nat} {n : Nat} (i0 : Ex B H) (h : EvD te σ B (.int (n : Int))) (hn : n ≤ 100000) (k : ∀ B1 H1, Stp B H B1 H1 → ∃ Pv : Nat → L2.St → Hp → Prop, Pv 0 σ H1 ∧
      (∀ (i : Nat) σ' H', i < n → Pv i σ' H' → tu { D with nx := Pv (i + 1), ct := Pv (i + 1), bk := D.nx } (σ'.set j (some (.int (i : Int)))) H') ∧ (∀ σ' H', Pv n σ' H' → D.nx σ' H')) :
    tFor (iRng1 (tCons te tNil)) (gName j) tu D σ H := h H i0 _ fun v H1 B1 s hv => by
  cases (show v = _ from hv)
  obtain ⟨Pv, h0, hs, hdn⟩ := k B1 H1 s
  refine ⟨(n : Int), rfl, by omega, by omega, for_it walk_range Pv h0 (fun _ _ _ _ _ => trivial) (fun i x σ' H' H'' hi p y => ?_) (fun σ' H' p => hdn σ' H' (by rw [Int.toNat_natCast] at p; exact p))⟩
  obtain ⟨rfl, rfl⟩ := y
  rw [Int.toNat_natCast] at hi
  have e0 : (0 : Int) + (i : Int) = (i : Int) := Int.zero_add _
  show tu _ (σ'.set j (some (.int ((0 : Int) + (i : Int))))) H''
  rw [e0]
  exact hs i σ' H'' hi p
theorem q_forR {j : Nat} {n : Nat} (i0 : Ex B H) (h : EvD te σ B (.int (n : Int))) (hn : n ≤ 100000) (k : ∀ B1 H1, Stp B H B1 H1 → ∃ Pv : Nat → L2.St → Hp → Prop, Pv 0 σ H1 ∧
      (∀ (i : Nat) σ' H', i < n → Pv i σ' H' → tu { D with nx := Pv (i + 1), ct := Pv (i + 1), bk := tz D } (σ'.set j (some (.int (i : Int)))) H') ∧ (∀ σ' H', Pv n σ' H' → tz D σ' H')) :
    tSeq (tFor (iRng1 (tCons te tNil)) (gName j) tu) tz D σ H := s_forR (D := { D with nx := tz D }) i0 h hn k
/-- for k in range(1, n + 1) -/
theorem q_forR1 {j : Nat} {n : Nat} (i0 : Ex B H) (h : EvD te σ B (.int ((n : Int) + 1))) (hn : n ≤ 100000) (k : ∀ B1 H1, Stp B H B1 H1 → ∃ Pv : Nat → L2.St → Hp → Prop, Pv 0 σ H1 ∧
      (∀ (i : Nat) σ' H', i < n → Pv i σ' H' → tu { D with nx := Pv (i + 1), ct := Pv (i + 1), bk := tz D } (σ'.set j (some (.int ((i : Int) + 1)))) H') ∧ (∀ σ' H', Pv n σ' H' → tz D σ' H')) :
    tSeq (tFor (iRng2 (tCons (tC (.int 1)) (tCons te tNil))) (gName j) tu) tz D σ H := h H i0 _ fun v H1 B1 s hv => by
  cases (show v = _ from hv)
  obtain ⟨Pv, h0, hs, hdn⟩ := k B1 H1 s
  have hnn : ((n : Int) + 1 - 1).toNat = n := by omega
  refine ⟨1, (n : Int) + 1, rfl, ⟨by omega, by omega, by omega, by omega⟩, for_it walk_range Pv h0 (fun _ _ _ _ _ => trivial) (fun i x σ' H' H'' hi p y => ?_) (fun σ' H' p => hdn σ' H' (by rw [hnn] at p; exact p))⟩
  obtain ⟨rfl, rfl⟩ := y
  rw [hnn] at hi
  have e0 : (1 : Int) + (i : Int) = (i : Int) + 1 := Int.add_comm _ _
  show tu _ (σ'.set j (some (.int ((1 : Int) + (i : Int))))) H''
  rw [e0]
  exact hs i σ' H'' hi p

/-! ### comprehensions -/
def gl (n : Nat) (f : Nat → Bool) (v : Nat → PyData) : List PyData := ((List.range n).filter f).map v
theorem gl_yes {n : Nat} {f : Nat → Bool} {v : Nat → PyData} (h : f n = true) : gl (n + 1) f v = gl n f v ++ [v n] := by
  unfold gl
  rw [List.range_succ, List.filter_append, List.map_append, List.filter_cons, if_pos h] <;> rfl
theorem gl_no {n : Nat} {f : Nat → Bool} {v : Nat → PyData} (h : f n = false) : gl (n + 1) f v = gl n f v := by
  unfold gl
  rw [List.range_succ, List.filter_append, List.map_append, List.filter_cons, if_neg (by rw [h]; decide)]
  show _ ++ [] = _
  rw [List.append_nil]
theorem gl_len (n : Nat) (f : Nat → Bool) (v : Nat → PyData) : (gl n f v).length ≤ n := by
  unfold gl
  rw [List.length_map]
  have h := List.length_filter_le f (List.range n)
  rw [List.length_range] at h
  exact h
theorem gl_all (n : Nat) (v : Nat → PyData) : gl n (fun _ => true) v = (List.range n).map v := by
  unfold gl
  rw [List.filter_eq_self.mpr fun _ _ => rfl]
theorem et_yes : EvT tYes σ H true := fun H1 _ _ q => q H1 (Ex.refl H1)

theorem lc_core {J : It} {n : Nat} {G : Hp → Prop} {Y : Nat → Hp → V → Hp → Prop} {g : TG} {vs : List Nat} {B1 H1 : Hp} {Q : VK} {f : Nat → Bool} {v : Nat → PyData} (w : Walk J n G Y) (i1 : Ex B1 H1) (hn : n ≤ 40000) (hG : ∀ H', Ex B1 H' → G H')
    (hs : ∀ (i : Nat) x B' H' H'', i < n → Ex B1 B' → Ex B' H' → Y i H' x H'' → ∀ R : L2.St → Hp → Prop, (∀ σ2 H2, Ex H' H2 → wipe σ2 vs = wipe σ vs → EvT t σ2 B' (f i) → (f i = true → EvD te σ2 B' (v i)) → R σ2 H2) → g x (wipe σ vs) H'' R)
    (q : ∀ p B2 H2, Stp B1 H1 B2 H2 → Dt B2 (.list (gl n f v)) (.ref p) → Q (.ref p) H2) :
    ∀ Dl, H1 Dl = none → ∃ W : Nat → Nat → Hp → Prop, (∃ m, W 0 m (upd H1 Dl (.lst []))) ∧ ∀ i m H, W i m H → (J.stop i H ∧ Q (.ref Dl) H) ∨ (J.go i H ∧ ∃ Nx : Hp → Prop, (∀ H', Nx H' → ∃ m', m' < m ∧ W (i + 1) m' H') ∧
      ∀ x H', J.yld i H x H' → g x (wipe σ vs) H' fun σ2 H2 => wipe σ2 vs = wipe σ vs ∧ t σ2 H2 fun b H3 => if b = true then te σ2 H3 fun y H4 => ∃ acc, H4 Dl = some (.lst acc) ∧ acc.length < sizeLine ∧ Nx (upd H4 Dl (.lst (acc ++ [y]))) else Nx H3) := fun Dl hD => by
  refine lc_it w (fun i H' => ∃ B' acc, Stp B1 H1 B' H' ∧ B' Dl = none ∧ H' Dl = some (.lst acc) ∧ DtL B' (gl i f v) acc)
    ⟨B1, [], (Stp.refl i1).new _ hD, fresh_back i1 hD, upd_same, rfl⟩ (fun i H' _ ⟨B', acc, s, _, _, _⟩ => hG H' (s.b.trans s.i)) (fun i x H' H'' hi p y => ?_) (fun H' ⟨B', acc, s, hb, hl, hd⟩ => ?_)
  · obtain ⟨B', acc, s, hb, hl, hd⟩ := p
    refine hs i x B' H' H'' hi s.b s.i y _ fun σ2 H2 e2 hw ht he => ⟨hw, ht H2 (s.i.trans e2) _ fun H3 e3 => ?_⟩
    have s3 := s.grow (e2.trans e3)
    have hl3 : H3 Dl = some (.lst acc) := e3 Dl _ (e2 Dl _ hl)
    cases hf : f i with
    | true =>
      refine iteT (he hf H3 s3.i _ fun y H4 B4 s4 hy => ⟨acc, s4.h Dl _ hl3, sz_lt (by rw [hd.length]; have := gl_len i f v; omega), B4, acc ++ [y], ?_, s4.free hl3 hb, upd_same, ?_⟩)
      · exact (s3.trans s4).mut _ hD (s4.free hl3 hb)
      · rw [gl_yes hf]; exact (hd.mono s4.b).append (.cons hy .nil)
    | false => exact iteF ⟨B', acc, s3, hb, hl3, by rw [gl_no hf]; exact hd⟩
  · exact q Dl _ H' (s.give hD hb hl) ⟨Dl, acc, rfl, upd_same, hd.mono (Ex.new hb)⟩

/-- [.. for x in xs if ..] -/
theorem ed_lcL {f : Nat → Bool} {v : Nat → PyData} {j : Nat} {vs : List Nat} {tl : TE} (h : EvD tl σ B (.list ds)) (hz : ds.length ≤ 40000) (hw : ∀ x, wipe ((wipe σ vs).set j (some x)) vs = wipe σ vs)
    (ht : ∀ B', Ex B B' → ∀ (i : Nat) d x, ds[i]? = some d → Dt B' d x → EvT t ((wipe σ vs).set j (some x)) B' (f i)) (he : ∀ B', Ex B B' → ∀ (i : Nat) d x, ds[i]? = some d → f i = true → Dt B' d x → EvD te ((wipe σ vs).set j (some x)) B' (v i)) :
    EvD (tLc (iList K tl) (gName j) t te vs) σ B (.list (gl ds.length f v)) := fun H0 e Q q => h H0 e _ fun w H1 B1 s ⟨a, xs, hv, hx, hd⟩ =>
  ⟨a, hv, ⟨xs, sq_of (s.i a _ hx)⟩, by
    rw [← hd.length] at q
    refine lc_core walk_list s.i (by rw [hd.length]; exact hz) (fun H' e' => sq_of (e' a _ hx)) (fun i x B' H' H'' hi e1 e2 y R hR => ?_) (fun p B2 H2 s2 hp => q _ H2 B2 (s.trans s2) hp)
    obtain ⟨rfl, hy⟩ := y
    obtain ⟨d, q1, q2⟩ := hd.get' hy
    exact hR _ _ (Ex.refl _) (hw x) (ht B' (s.b.trans e1) i d x q1 (q2.mono e1)) fun hf => he B' (s.b.trans e1) i d x q1 hf (q2.mono e1)⟩
/-- [.. for k in range(n) if ..] -/
theorem ed_lcR {f : Nat → Bool} {v : Nat → PyData} {j n : Nat} {vs : List Nat} (h : EvD ta σ B (.int (n : Int))) (hz : n ≤ 40000) (hw : ∀ x, wipe ((wipe σ vs).set j (some x)) vs = wipe σ vs)
    (ht : ∀ B', Ex B B' → ∀ i : Nat, i < n → EvT t ((wipe σ vs).set j (some (.int (i : Int)))) B' (f i)) (he : ∀ B', Ex B B' → ∀ i : Nat, i < n → f i = true → EvD te ((wipe σ vs).set j (some (.int (i : Int)))) B' (v i)) :
    EvD (tLc (iRng1 (tCons ta tNil)) (gName j) t te vs) σ B (.list (gl n f v)) := fun H0 e Q q => h H0 e _ fun w H1 B1 s hv => by
  cases (show w = _ from hv)
  refine ⟨(n : Int), rfl, by omega, by omega, ?_⟩
  rw [Int.toNat_natCast]
  refine lc_core walk_range s.i hz (fun _ _ => trivial) (fun i x B' H' H'' hi e1 e2 y R hR => ?_) (fun p B2 H2 s2 hp => q _ H2 B2 (s.trans s2) hp)
  obtain ⟨rfl, rfl⟩ := y
  have e0 : (0 : Int) + (i : Int) = (i : Int) := Int.zero_add _
  show R ((wipe σ vs).set j (some (.int ((0 : Int) + (i : Int))))) H''
  rw [e0]
  exact hR _ _ (Ex.refl _) (hw _) (ht B' (s.b.trans e1) i hi) fun hf => he B' (s.b.trans e1) i hi hf
/-- [.. for i, x in enumerate(xs) if ..] -/
theorem ed_lcE {f : Nat → Bool} {v : Nat → PyData} {j1 j2 : Nat} {vs : List Nat} {tl : TE} (h : EvD tl σ B (.list ds)) (hz : ds.length ≤ 40000) (hw : ∀ x y, wipe (((wipe σ vs).set j1 (some x)).set j2 (some y)) vs = wipe σ vs)
    (ht : ∀ B', Ex B B' → ∀ (i : Nat) d x, ds[i]? = some d → Dt B' d x → EvT t (((wipe σ vs).set j1 (some (.int (i : Int)))).set j2 (some x)) B' (f i)) (he : ∀ B', Ex B B' → ∀ (i : Nat) d x, ds[i]? = some d → f i = true → Dt B' d x → EvD te (((wipe σ vs).set j1 (some (.int (i : Int)))).set j2 (some x)) B' (v i)) :
    EvD (tLc (iEnum K (tCons tl tNil)) (gTup K 2 (gCons (gName j1) (gCons (gName j2) gNil))) t te vs) σ B (.list (gl ds.length f v)) := fun H0 e Q q => h H0 e _ fun w H1 B1 s ⟨a, xs, hv, hx, hd⟩ =>
  ⟨a, xs, by rw [hv], sq_of (s.i a _ hx), by
    rw [← hd.length] at q
    refine lc_core walk_enum s.i (by rw [hd.length]; exact hz) (fun H' e' => sq_of (e' a _ hx)) (fun i x B' H' H'' hi e1 e2 y R hR => ?_) (fun p B2 H2 s2 hp => q _ H2 B2 (s.trans s2) hp)
    obtain ⟨T, x1, x2, rfl, hT, rfl, z1, z2⟩ := y
    cases (Option.some.inj z1)
    obtain ⟨d, q1, q2⟩ := hd.get' z2
    exact ⟨T, [.int (i : Nat), x2], rfl, st_of upd_same, rfl, _, [x2], rfl, x2, [], rfl, rfl, hR _ _ (Ex.new hT) (hw _ _) (ht B' (s.b.trans e1) i d x2 q1 (q2.mono e1)) fun hf => he B' (s.b.trans e1) i d x2 q1 hf (q2.mono e1)⟩⟩
/-- [.. for x, y in zip(xs, ys) if ..] -/
theorem ed_lcZ {f : Nat → Bool} {v : Nat → PyData} {j1 j2 : Nat} {vs : List Nat} {ta tb : TE} (h : EvD ta σ B (.list ds)) (h' : EvD tb σ B (.list es)) (hl : ds.length = es.length) (hz : ds.length ≤ 40000) (hw : ∀ x y, wipe (((wipe σ vs).set j1 (some x)).set j2 (some y)) vs = wipe σ vs)
    (ht : ∀ B', Ex B B' → ∀ (i : Nat) d e x y, ds[i]? = some d → es[i]? = some e → Dt B' d x → Dt B' e y → EvT t (((wipe σ vs).set j1 (some x)).set j2 (some y)) B' (f i))
    (he : ∀ B', Ex B B' → ∀ (i : Nat) d e x y, ds[i]? = some d → es[i]? = some e → f i = true → Dt B' d x → Dt B' e y → EvD te (((wipe σ vs).set j1 (some x)).set j2 (some y)) B' (v i)) :
    EvD (tLc (iZip K (tCons ta (tCons tb tNil))) (gTup K 2 (gCons (gName j1) (gCons (gName j2) gNil))) t te vs) σ B (.list (gl ds.length f v)) := fun H0 e Q q => h H0 e _ fun w H1 B1 s ⟨a, xs, hv, hx, hd⟩ => (h'.mono s.b) H1 s.i _ fun w2 H2 B2 s2 ⟨b, ys, hv2, hy, he2⟩ => by
  have hx2 := s2.b a _ hx
  refine ⟨a, b, xs, ys, by rw [hv, hv2], sq_of (s2.i a _ hx2), sq_of (s2.i b _ hy), ?_⟩
  refine lc_core (walk_zip (n := ds.length) (by rw [hd.length, he2.length]; omega)) s2.i hz (fun H' e' => ⟨sq_of (e' a _ hx2), sq_of (e' b _ hy)⟩) (fun i x B' H' H'' hi e1 e2 y R hR => ?_) (fun p B3 H3 s3 hp => q _ H3 B3 ((s.trans s2).trans s3) hp)
  obtain ⟨T, x1, x2, rfl, hT, rfl, z1, z2⟩ := y
  obtain ⟨d, q1, q2⟩ := hd.get' z1
  obtain ⟨d', q3, q4⟩ := he2.get' z2
  have eb := (s.b.trans s2.b).trans e1
  exact ⟨T, [x1, x2], rfl, st_of upd_same, rfl, _, [x2], rfl, x2, [], rfl, rfl, hR _ _ (Ex.new hT) (hw _ _) (ht B' eb i d d' x1 x2 q1 q3 ((q2.mono s2.b).mono e1) (q4.mono e1)) fun hf => he B' eb i d d' x1 x2 q1 q3 hf ((q2.mono s2.b).mono e1) (q4.mono e1)⟩
/-- [.. for x in reversed(xs)] -/
theorem ed_lcV {f : Nat → Bool} {v : Nat → PyData} {j : Nat} {vs : List Nat} {tl : TE} (h : EvD tl σ B (.list ds)) (hz : ds.length ≤ 40000) (hw : ∀ x, wipe ((wipe σ vs).set j (some x)) vs = wipe σ vs)
    (ht : ∀ B', Ex B B' → ∀ (i : Nat) d x, ds[ds.length - 1 - i]? = some d → Dt B' d x → EvT t ((wipe σ vs).set j (some x)) B' (f i)) (he : ∀ B', Ex B B' → ∀ (i : Nat) d x, i < ds.length → ds[ds.length - 1 - i]? = some d → f i = true → Dt B' d x → EvD te ((wipe σ vs).set j (some x)) B' (v i)) :
    EvD (tLc (iRev K (tCons tl tNil)) (gName j) t te vs) σ B (.list (gl ds.length f v)) := fun H0 e Q q => h H0 e _ fun w H1 B1 s ⟨a, xs, hv, hx, hd⟩ =>
  ⟨a, xs, by rw [hv], sq_of (s.i a _ hx), by
    rw [← hd.length] at q
    refine lc_core walk_rev s.i (by rw [hd.length]; exact hz) (fun H' e' => sq_of (e' a _ hx)) (fun i x B' H' H'' hi e1 e2 y R hR => ?_) (fun p B2 H2 s2 hp => q _ H2 B2 (s.trans s2) hp)
    obtain ⟨rfl, hy⟩ := y
    obtain ⟨d, q1, q2⟩ := hd.get' hy
    rw [hd.length] at q1
    exact hR _ _ (Ex.refl _) (hw x) (ht B' (s.b.trans e1) i d x q1 (q2.mono e1)) fun hf => he B' (s.b.trans e1) i d x (hd.length ▸ hi) q1 hf (q2.mono e1)⟩

/-! ### stores into an object of our own -/
theorem q_app {l : Addr} {xs : List V} (i0 : Ex B H) (hl : H l = some (.lst xs)) (ho : Ev ta σ B (.ref l)) (h : EvD te σ B d) (hz : xs.length < 100000) (k : ∀ y B2 H2, Stp B H B2 H2 → Dt B2 d y → tz D σ (upd H2 l (.lst (xs ++ [y])))) :
    tSeq (tDrop (tBM K "list" rAppend ta (tCons te tNil))) tz D σ H := ho H i0 _ fun H1 e1 =>
  ⟨Or.inl ⟨rfl, xs, sq_of (e1 l _ hl)⟩, h H1 (i0.trans e1) _ fun y H2 B2 s hy => ⟨l, xs, y, rfl, rfl, s.h l _ (e1 l _ hl), sz_lt hz, k y B2 H2 ⟨e1.trans s.h, s.b, s.i, fun a o q => s.n a o (e1 a o q)⟩ hy⟩⟩
theorem s_app {l : Addr} {xs : List V} (i0 : Ex B H) (hl : H l = some (.lst xs)) (ho : Ev ta σ B (.ref l)) (h : EvD te σ B d) (hz : xs.length < 100000) (k : ∀ y B2 H2, Stp B H B2 H2 → Dt B2 d y → D.nx σ (upd H2 l (.lst (xs ++ [y])))) :
    tDrop (tBM K "list" rAppend ta (tCons te tNil)) D σ H := ho H i0 _ fun H1 e1 =>
  ⟨Or.inl ⟨rfl, xs, sq_of (e1 l _ hl)⟩, h H1 (i0.trans e1) _ fun y H2 B2 s hy => ⟨l, xs, y, rfl, rfl, s.h l _ (e1 l _ hl), sz_lt hz, k y B2 H2 ⟨e1.trans s.h, s.b, s.i, fun a o q => s.n a o (e1 a o q)⟩ hy⟩⟩
/-- xs[i] = e -/
theorem s_setL {l : Addr} {xs : List V} {j : Nat} (i0 : Ex B H) (hl : H l = some (.lst xs)) (h : EvD te σ B d) (ho : Ev ta σ B (.ref l)) (hi : EvD tb σ B (.int (j : Int))) (hj : j < xs.length) (k : ∀ y B2 H2, Stp B H B2 H2 → Dt B2 d y → D.nx σ (upd H2 l (.lst (xs.set j y)))) :
    tAsg te (gSub ta tb rSetL) D σ H := h H i0 _ fun y H1 B1 s1 hy => ho H1 (s1.b.trans s1.i) _ fun H2 e2 => hi.int H2 ((s1.b.trans s1.i).trans e2) _ fun H3 e3 =>
  ⟨l, xs, (j : Int), j, rfl, rfl, e3 l _ (e2 l _ (s1.h l _ hl)), ixN_nat hj, k y B1 H3 (s1.grow (e2.trans e3)) hy⟩
theorem q_setL {l : Addr} {xs : List V} {j : Nat} (i0 : Ex B H) (hl : H l = some (.lst xs)) (h : EvD te σ B d) (ho : Ev ta σ B (.ref l)) (hi : EvD tb σ B (.int (j : Int))) (hj : j < xs.length) (k : ∀ y B2 H2, Stp B H B2 H2 → Dt B2 d y → tz D σ (upd H2 l (.lst (xs.set j y)))) :
    tSeq (tAsg te (gSub ta tb rSetL)) tz D σ H := s_setL (D := { D with nx := tz D }) i0 hl h ho hi hj k
/-- xs[i] op= e, numbers -/
theorem s_augL {l : Addr} {xs : List V} {j : Nat} {i a b : Int} {f : Int → Int → Int} (i0 : Ex B H) (hl : H l = some (.lst xs)) (ho : Ev ta σ B (.ref l)) (hi : EvD tb σ B (.int i)) (h : EvD te σ B (.int b)) (hj : ixN xs.length i = some j) (hx : xs[j]? = some (.int a))
    (k : ∀ H2, Ex H H2 → D.nx σ (upd H2 l (.lst (xs.set j (.int (f a b)))))) : tAugS ta tb te (rIxL K) (ipI f) rSetL D σ H := ho H i0 _ fun H1 e1 => hi.int H1 (i0.trans e1) _ fun H2 e2 =>
  ⟨l, xs, i, .int a, rfl, rfl, sq_of (e2 l _ (e1 l _ hl)), by unfold atI; rw [hj]; exact hx, h.int H2 ((i0.trans e1).trans e2) _ fun H3 e3 => ⟨a, b, rfl, rfl, l, xs, i, j, rfl, rfl, e3 l _ (e2 l _ (e1 l _ hl)), hj, k H3 ((e1.trans e2).trans e3)⟩⟩
/-- d[k] = v -/
theorem s_dput {l : Addr} {kv : List (Key × V)} {i : Int} {ty td : TE} (i0 : Ex B H) (hl : H l = some (.dK kv)) (h : EvD te σ B d) (ho : Ev td σ B (.ref l)) (hi : EvD ty σ B (.int i)) (hz : kv.length < 100000) (k : ∀ y B2 H2, Stp B H B2 H2 → Dt B2 d y → D.nx σ (upd H2 l (.dK (putK kv (Sum.inl i) y)))) :
    sDPut td ty te D σ H := h H i0 _ fun y H1 B1 s1 hy => ho H1 (s1.b.trans s1.i) _ fun H2 e2 => hi.int H2 ((s1.b.trans s1.i).trans e2) _ fun H3 e3 =>
  ⟨l, _, rfl, DPut.k (k := Sum.inl i) (e3 l _ (e2 l _ (s1.h l _ hl))) (sz_lt hz), k y B1 H3 (s1.grow (e2.trans e3)) hy⟩
theorem q_dput {l : Addr} {kv : List (Key × V)} {i : Int} {ty td : TE} (i0 : Ex B H) (hl : H l = some (.dK kv)) (h : EvD te σ B d) (ho : Ev td σ B (.ref l)) (hi : EvD ty σ B (.int i)) (hz : kv.length < 100000) (k : ∀ y B2 H2, Stp B H B2 H2 → Dt B2 d y → tz D σ (upd H2 l (.dK (putK kv (Sum.inl i) y)))) :
    tSeq (sDPut td ty te) tz D σ H := s_dput (D := { D with nx := tz D }) i0 hl h ho hi hz k
/-- d[k] of a dict of numbers -/
def dDict (l : List (Int × Int)) : PyData := .dict (l.map fun p => (.int p.1, .int p.2))
def lookI (l : List (Int × Int)) (i : Int) : Option Int := (l.find? fun p => decide (p.1 = i)).map (·.2)
theorem valV_dk (i : Int) : ∀ l : List (Int × Int), valV (dk l) (Sum.inl i : Key) = (lookI l i).map V.int
  | [] => rfl
  | p :: r => by
    show valV ((Sum.inl p.1, V.int p.2) :: dk r) _ = _
    by_cases e : p.1 = i
    · rw [valV_pos (by show Sum.inl p.1 = _; rw [e])]
      unfold lookI
      rw [List.find?_cons]
      simp [e]
    · rw [valV_neg (by intro z; exact e (Sum.inl.inj z)), valV_dk i r]
      unfold lookI
      rw [List.find?_cons]
      simp [e]
theorem map_inj_pairs {l l' : List (Int × Int)} (h : (l.map fun p => (PyData.int p.1, PyData.int p.2)) = l'.map fun p => (PyData.int p.1, PyData.int p.2)) : l = l' := by
  induction l generalizing l' with
  | nil => cases l' with | nil => rfl | cons a b => simp at h
  | cons a b ih =>
    cases l' with
    | nil => simp at h
    | cons a' b' =>
      obtain ⟨a1, a2⟩ := a
      obtain ⟨a3, a4⟩ := a'
      simp only [List.map_cons, List.cons.injEq, Prod.mk.injEq, PyData.int.injEq] at h
      obtain ⟨⟨h1, h2⟩, h3⟩ := h
      rw [ih h3, h1, h2]
theorem Dt.dict {l : List (Int × Int)} {v : V} (h : Dt H (dDict l) v) : ∃ a, v = .ref a ∧ Rd H a (.dK (dk l)) := by
  obtain ⟨a, l', h1, h2, h3⟩ := h
  rw [map_inj_pairs h3]
  exact ⟨a, h1, h2⟩
theorem ed_dget {l : List (Int × Int)} {i x : Int} {ty td : TE} (h : EvD td σ B (dDict l)) (hi : EvD ty σ B (.int i)) (hx : lookI l i = some x) : EvD (tDGet td ty) σ B (.int x) := fun H1 e Q q =>
  h H1 e _ fun v H2 B2 s hv => (hi.mono s.b).int H2 s.i _ fun H3 e3 => by
    obtain ⟨a, rfl, hr⟩ := hv.dict
    exact ⟨a, .int x, rfl, .inl ⟨dk l, Sum.inl i, rd_ex e3 (rd_ex s.i hr), rfl, by rw [valV_dk, hx]; rfl⟩, q _ H3 B2 (s.grow e3) rfl⟩
end
end Wk
/-! Defs of the text, called by name. -/
namespace Wk
open PySem L2 Evl

def top (i : Nat) : Stmt := PySem.Challenge.pw_wishdeal_k45_whole_none_is_better.main.body.getD i (.Pass ⟨0, 0, 0, 0⟩)

section
variable (P : Program) (w : World) (K : PySem.W.Frag) (mg : Str → Option Value) (base : Heap)
/-- a def stands behind the top -/
def HasFn (x : Str) (st : Stmt) : Prop := ∃ f fd, Fun K x x st f fd ∧ mg x = some (.ref f)
/-- .. keeps a promise -/
def Callable (k : Nat) (x : Str) (ps : List Str) (sp : Sp) : Prop := ∃ f fd, FnOk P w K mg base CX0 k f fd ps sp ∧ mg x = some (.ref f) ∧ PySem.W.keepIn K (.ref f) = true ∧ Binds K fd ps []
/-- a method -/
def HasM (C : Addr) (m qual : Str) (st : Stmt) : Prop := ∃ f fd, Fun K m qual st f fd ∧ Meth K C m f
def CallM (k : Nat) (C : Addr) (m : Str) (ps : List Str) (sp : Sp) : Prop := ∃ f fd, FnOk P w K mg base CX0 k f fd ps sp ∧ Meth K C m f ∧ Binds K fd ps []
/-- a class and its __init__ -/
def HasC (C : Addr) (x qual : Str) (st : Stmt) : Prop := ∃ f fd, Fun K "__init__" qual st f fd ∧ Mk K C f ∧ mg x = some (.ref C)
def CallC (k : Nat) (C : Addr) (x : Str) (ps : List Str) (sp : Sp) : Prop := ∃ f fd, FnOk P w K mg base CX0 k f fd ps sp ∧ Mk K C f ∧ mg x = some (.ref C) ∧ Binds K fd ps []
end
abbrev BindsAs (x qual : Str) (st : Stmt) (ps : List Str) : Prop := ∀ (kV doc pm : Value) (an : Option Addr) (cdv ct : Value) (us : List Value), us.length = ps.length → bindArgs (PySem.W.fnOf x qual (defArgs st) (defBody st) (defScope st) .none kV doc pm an cdv ct) ⟨us, []⟩ = pure (ps.zip us)
abbrev BodyOk (P : Program) (w : World) (K : PySem.W.Frag) (mg : Str → Option Value) (base : Heap) (k : Nat) (qual : Str) (st : Stmt) (N : List Str) (f : Addr) (sp : Sp) : Prop :=
  ∀ (cdv : Value) (A : Around) (outer : List Env) (s : Shared) (H : Hp) (vs : List V) (Q : VK) (E : XK), Room k (A.deeper (PyProof.Rows.envOfC qual (defScope st) s.heap.objs.size f cdv)) → sp vs H Q E →
    ∃ t, PSs (cxOf CX0 P w K mg base N qual (defScope st) f cdv A outer s H E).nox (defBody st) t ∧ t { nx := fun _ H' => Q .non H', rt := Q } (L2.start N vs) H
section
variable {P : Program} {w : World} {K : PySem.W.Frag} {mg : Str → Option Value} {base : Heap} {k : Nat} {x m qual : Str} {C : Addr} {st : Stmt} {N ps : List Str} {sp : Sp}
theorem mkFn (h : HasFn K mg x st) (S : FnScope N ps (defScope st)) (b : BindsAs x x st ps) (len : ∀ vs H Q E, sp vs H Q E → vs.length = ps.length) (body : ∀ f, BodyOk P w K mg base k x st N f sp) : Callable P w K mg base (k + 1) x ps sp := by
  obtain ⟨f, fd, F, g⟩ := h
  exact ⟨f, fd, F.ok S len (body f), g, F.kp, F.binds b⟩
theorem mkM (h : HasM K C m qual st) (S : FnScope N ps (defScope st)) (b : BindsAs m qual st ps) (len : ∀ vs H Q E, sp vs H Q E → vs.length = ps.length) (body : ∀ f, BodyOk P w K mg base k qual st N f sp) : CallM P w K mg base (k + 1) C m ps sp := by
  obtain ⟨f, fd, F, g⟩ := h
  exact ⟨f, fd, F.ok S len (body f), g, F.binds b⟩
theorem mkC (h : HasC K mg C x qual st) (S : FnScope N ps (defScope st)) (b : BindsAs "__init__" qual st ps) (len : ∀ vs H Q E, sp vs H Q E → vs.length = ps.length) (body : ∀ f, BodyOk P w K mg base k qual st N f sp) : CallC P w K mg base (k + 1) C x ps sp := by
  obtain ⟨f, fd, F, M, g⟩ := h
  exact ⟨f, fd, F.ok S len (body f), M, g, F.binds b⟩
end
section
variable {X : Cx} {k : Nat} {x m : Str} {C : Addr} {ps : List Str} {sp : Sp} {p pos apos : Pos} {e o : Expr} {es : List Expr} {ta : TE} {t : TA}
theorem pe_fn (c : Callable X.prog X.w X.K X.mg X.base k x ps sp) (hr : Room k X.A) (hg : Gl X x) (ha : PA X (e :: es) t) (hdb : (x == ("__debug__" : Str)) = false := by decide) (he : starEach (e :: es) X.env = (false, eval e X.env) :: starEach es X.env := by rfl)
    (hpl : (backTo pos (starEach es X.env)).any (·.1) = false := by rfl) : PE X (.Call (.Name x p) (e :: es) [] pos) (tCall sp [] E0 t) := by
  obtain ⟨f, fd, F, g, kp, b⟩ := c
  exact pe_call F hr hg g kp b .nil pass0 ha hdb he hpl
theorem pe_m {pl : Sem Bool} (he : PE X o ta) (c : Cls X.K C) (cm : CallM X.prog X.w X.K X.mg X.base k C m ps sp) (hr : Room k X.A) (ha : PA X (e :: es) t)
    (hst : starEach (e :: es) X.env = (false, eval e X.env) :: starEach es X.env := by rfl) (hpl : (backTo pos (starEach es X.env)).any (·.1) = false := by rfl)
    (ht : eval (.Call (.Attribute o m apos) (e :: es) [] pos) X.env = (do
      let ov ← eval o X.env
      standAt apos.atName
      let (f, first) ← holding [ov] (getMethod ov m pl)
      callWith pos f first (backTo pos (starEach (e :: es) X.env)) (backToKw pos (keywordEach [] X.env))) := by rfl) :
    PE X (.Call (.Attribute o m apos) (e :: es) [] pos) (tMeth C m sp [] E0 ta t) := by
  obtain ⟨f, fd, F, hm, b⟩ := cm
  exact pe_meth he c hm F hr b .nil pass0 ha hst hpl ht
theorem pe_m0 {pl : Sem Bool} (he : PE X o ta) (c : Cls X.K C) (cm : CallM X.prog X.w X.K X.mg X.base k C m ps sp) (hr : Room k X.A)
    (ht : eval (.Call (.Attribute o m apos) [] [] pos) X.env = (do
      let ov ← eval o X.env
      standAt apos.atName
      let (f, first) ← holding [ov] (getMethod ov m pl)
      callWith pos f first (backTo pos (starEach [] X.env)) (backToKw pos (keywordEach [] X.env))) := by rfl) :
    PE X (.Call (.Attribute o m apos) [] [] pos) (tMeth C m sp [] E0 ta tNil) := by
  obtain ⟨f, fd, F, hm, b⟩ := cm
  exact pe_meth0 he c hm F hr b .nil pass0 ht
theorem pe_mk (c : CallC X.prog X.w X.K X.mg X.base k C x ps sp) (hr : Room (k + 1) X.A) (hg : Gl X x) (ha : PA X (e :: es) t) (hdb : (x == ("__debug__" : Str)) = false := by decide) (he : starEach (e :: es) X.env = (false, eval e X.env) :: starEach es X.env := by rfl)
    (hpl : (backTo pos (starEach es X.env)).any (·.1) = false := by rfl) : PE X (.Call (.Name x p) (e :: es) [] pos) (tMake C sp [] E0 t) := by
  obtain ⟨f, fd, F, M, g, b⟩ := c
  exact pe_make M F hr hg g b .nil pass0 ha hdb he hpl
end
/-- builtins by their readings' names -/
theorem call_lenS {X : Cx} : CallR X (.builtin "len") (rLenS X.K) := call_len_seq
theorem call_listS {X : Cx} : CallR X (.type "list") (rListS X.K) := call_list_of
theorem call_max2S {X : Cx} (hc : X.calm = true) : CallR X (.builtin "max") rMax2 := call_max2 hc
theorem lenK {X : Cx} (K : PySem.W.Frag) (h : X.K = K := by rfl) : CallR X (.builtin "len") (rLenS K) := h ▸ call_len_seq
theorem ixLK {X : Cx} (K : PySem.W.Frag) (h : X.K = K := by rfl) : IxR X (rIxL K) := h ▸ ix_list
theorem ixTK {X : Cx} (K : PySem.W.Frag) (h : X.K = K := by rfl) : IxR X (rIxT K) := h ▸ ix_tup
def rIntB : List V → Hp → VK → Prop := fun xs H Q => (∃ i, xs = [.int i] ∧ Q (.int i) H) ∨ ∃ k, xs = [.bl k] ∧ Q (.int (if k then 1 else 0)) H
theorem call_intB {X : Cx} : CallR X (.type "int") rIntB := call_int1
def rSort0 : List V → Hp → VK → Prop := fun xs H Q => ∃ (a : Addr) (kvs : List (Key × V)) (ks : List Int), xs = [.ref a] ∧ Rd H a (.dK kvs) ∧ kvs.map (·.1) = ks.map Sum.inl ∧ ks.length < 64 ∧
  ∀ (ys : List Int) (p : Addr), ys.Perm ks → ys.Pairwise (· ≤ ·) → H p = none → Q (.ref p) (upd H p (.lst (ys.map V.int)))
theorem call_sortD {X : Cx} (hc : X.calm = true) : CallR X (.builtin "sorted") rSort0 := call_sortedDI hc
def rIns : V → List V → Hp → VK → Prop := fun x vs H Q => ∃ (l : Addr) (xs : List V) (i : Int) (y : V), x = .ref l ∧ vs = [.int i, y] ∧ H l = some (.lst xs) ∧ xs.length < sizeLine ∧ 0 ≤ i ∧ i < 2 ^ 63 ∧ Q .non (upd H l (.lst (xs.take i.toNat ++ [y] ++ xs.drop i.toNat)))
theorem mt_ins {X : Cx} : MtR X "list.insert" rIns := mt_insert
section
variable {K : PySem.W.Frag} {σ : L2.St} {B H : Hp} {te ta tb : TE} {d : PyData} {ds : List PyData}
theorem ed_intB {b : Bool} (h : EvD te σ B (.bool b)) : EvD (tCB rIntB (tCons te tNil)) σ B (.int (if b then 1 else 0)) := EvD.of (v := .int (if b then 1 else 0)) (fun H1 e Q q => (h.flat rfl) H1 e _ fun H2 e2 => .inr ⟨b, rfl, q H2 e2⟩) rfl
def dTy : PyData → String
  | .none => "NoneType"
  | .bool _ => "bool"
  | .int _ => "int"
  | .str _ => "str"
  | .list _ => "list"
  | .tuple _ => "tuple"
  | .dict _ => "dict"
theorem Dt.ty {v : V} (h : Dt H d v) : TyX K H v (.type (dTy d)) := by
  cases d with
  | none => cases (show v = _ from h); exact .base .non
  | bool b => cases (show v = _ from h); exact .base (.bl b)
  | int b => cases (show v = _ from h); exact .base (.int b)
  | str b => cases (show v = _ from h); exact .base (.str b)
  | list ds => obtain ⟨a, xs, rfl, e, _⟩ := h; exact .base (.lst e)
  | tuple ds => obtain ⟨a, xs, rfl, e, _⟩ := h; exact .base (.tup e)
  | dict ds =>
    obtain ⟨a, xs, rfl, e, _⟩ := h
    rcases e with e | ⟨o, e⟩
    · exact .base (.dK e)
    · exact .fDict e
/-- isinstance(x, T) -/
theorem ed_isi {n : String} {b : Bool} (h : EvD te σ B d) (hk : PySem.W.kitOne K (.type (dTy d)) (.type n) = some b) : EvD (tCB (rIsi K) (tCons te (tCons (tC (.ty n)) tNil))) σ B (.bool b) := fun H1 e Q q =>
  h H1 e _ fun v H2 B2 s hv => ⟨v, .ty n, .type (dTy d), .type n, b, rfl, .ty n, (hv.mono s.i).ty, hk, q _ H2 B2 s rfl⟩
theorem kt_list {K : PySem.W.Frag} : PySem.W.kitOne K (.type "list") (.type "list") = some true := kit_ty (by decide +kernel)
theorem kt_tuple {K : PySem.W.Frag} : PySem.W.kitOne K (.type "tuple") (.type "tuple") = some true := kit_ty (by decide +kernel)
theorem kt_str {K : PySem.W.Frag} : PySem.W.kitOne K (.type "str") (.type "str") = some true := kit_ty (by decide +kernel)
theorem kt_int {K : PySem.W.Frag} : PySem.W.kitOne K (.type "int") (.type "int") = some true := kit_ty (by decide +kernel)
theorem kt_int_bool {K : PySem.W.Frag} : PySem.W.kitOne K (.type "int") (.type "bool") = some false := kit_ty (by decide +kernel)
/-- xs == ys, flat items -/
theorem ed_eqL {b : Bool} (ha : EvD ta σ B (.list ds)) {es : List PyData} (hb : EvD tb σ B (.list es)) (f1 : ds.all flatD = true) (f2 : es.all flatD = true) (s1 : SeqAt.shaped (.list ds) = true) (s2 : SeqAt.shaped (.list es) = true) (hq : PyData.eqv (.list ds) (.list es) = b) :
    EvD (tOp (rEqD K) ta tb) σ B (.bool b) := fun H1 e Q q => ha H1 e _ fun v H2 B2 s ⟨a, xs, h1, h2, h3⟩ => (hb.mono s.b) H2 s.i _ fun w H3 B3 s3 ⟨c, ys, h4, h5, h6⟩ => by
  have e1 := h3.flat f1
  have e2 := h6.flat f2
  subst e1 e2 h1 h4
  exact ⟨.list ds, .list es, .lst (sq_of (s3.h a _ (s.i a _ h2))) (DtL.dp (H := H3) f1), .lst (sq_of (s3.i c _ h5)) (DtL.dp (H := H3) f2), s1, s2, q _ H3 B3 (s.trans s3) (by rw [hq]; rfl)⟩
theorem ed_neL {b : Bool} (ha : EvD ta σ B (.list ds)) {es : List PyData} (hb : EvD tb σ B (.list es)) (f1 : ds.all flatD = true) (f2 : es.all flatD = true) (s1 : SeqAt.shaped (.list ds) = true) (s2 : SeqAt.shaped (.list es) = true) (hq : (!PyData.eqv (.list ds) (.list es)) = b) :
    EvD (tOp (rNeD K) ta tb) σ B (.bool b) := fun H1 e Q q => ha H1 e _ fun v H2 B2 s ⟨a, xs, h1, h2, h3⟩ => (hb.mono s.b) H2 s.i _ fun w H3 B3 s3 ⟨c, ys, h4, h5, h6⟩ => by
  have e1 := h3.flat f1
  have e2 := h6.flat f2
  subst e1 e2 h1 h4
  exact ⟨.list ds, .list es, .lst (sq_of (s3.h a _ (s.i a _ h2))) (DtL.dp (H := H3) f1), .lst (sq_of (s3.i c _ h5)) (DtL.dp (H := H3) f2), s1, s2, q _ H3 B3 (s.trans s3) (by rw [hq]; rfl)⟩
theorem eqvAll_ints : ∀ ns ms : List Int, PyData.eqvAll (ns.map .int) (ms.map .int) = decide (ns = ms)
  | [], [] => rfl
  | [], _ :: _ => rfl
  | _ :: _, [] => rfl
  | n :: ns, m :: ms => by
    show ((n == m) && PyData.eqvAll (ns.map .int) (ms.map .int)) = _
    rw [eqvAll_ints ns ms]
    by_cases e : n = m
    · subst e; simp
    · simp [e]
theorem eqv_ints (ns ms : List Int) : PyData.eqv (dInts ns) (dInts ms) = decide (ns = ms) := eqvAll_ints ns ms
theorem canLay_ints : ∀ ns : List Int, PyData.canLayAll0 (ns.map .int) = true
  | [] => rfl
  | n :: ns => by
    show (true && PyData.canLayAll0 (ns.map .int)) = true
    rw [canLay_ints ns]; rfl
theorem depth_ints : ∀ ns : List Int, PyData.depthAll (ns.map .int) ≤ 1
  | [] => by decide
  | n :: ns => by
    have := depth_ints ns
    have e : PyData.depthAll ((n :: ns).map .int) = max (PyData.depth (.int n)) (PyData.depthAll (ns.map .int)) := rfl
    rw [e]
    have : PyData.depth (.int n) = 0 := rfl
    omega
theorem shaped_ints (ns : List Int) : SeqAt.shaped (dInts ns) = true := by
  unfold SeqAt.shaped
  rw [show PyData.canLay0 (dInts ns) = true from canLay_ints ns]
  have := depth_ints ns
  have e : PyData.depth (dInts ns) = PyData.depthAll (ns.map .int) + 1 := rfl
  rw [e, decide_eq_true (by omega)]
  rfl
theorem ed_gtL {ns ms : List Int} {b : Bool} (ha : EvD ta σ B (dInts ns)) (hb : EvD tb σ B (dInts ms)) (hl : ns.length = ms.length) (hq : Wd.lx ms ns = b) : EvD (tOp (WkR.rGtL K) ta tb) σ B (.bool b) := fun H1 e Q q =>
  ha H1 e _ fun v H2 B2 s hv => (hb.mono s.b) H2 s.i _ fun w H3 B3 s3 hw => by
    obtain ⟨a, rfl, h2⟩ := hv.ints
    obtain ⟨c, rfl, h5⟩ := hw.ints
    exact ⟨a, c, ns, ms, rfl, rfl, sq_of (s3.h a _ (s.i a _ h2)), sq_of (s3.i c _ h5), hl, q _ H3 B3 (s.trans s3) (by rw [hq]; rfl)⟩
theorem ed_count {dx : PyData} {b : Nat} (ha : EvD ta σ B (.list ds)) (hb : EvD tb σ B dx) (f1 : ds.all flatD = true) (f2 : flatD dx = true) (hq : (ds.map fV).countP (fun z => eqV z (fV dx)) = b) : EvD (tBM K "list" (WkR.rCntF K) ta (tCons tb tNil)) σ B (.int (b : Int)) := fun H1 e Q q =>
  ha H1 e _ fun v H2 B2 s ⟨a, xs, h1, h2, h3⟩ => by
    subst h1
    refine ⟨.inl ⟨rfl, xs, sq_of (s.i a _ h2)⟩, (hb.mono s.b) H2 s.i _ fun w H3 B3 s3 hw => ?_⟩
    have e1 := h3.flat f1
    have e2 := hw.flat f2
    subst e1 e2
    exact ⟨a, _, _, rfl, rfl, sq_of (s3.h a _ (s.i a _ h2)), flatV_fV f2, all_flatV f1, q _ H3 B3 (s.trans s3) (by rw [hq]; rfl)⟩
/-- xs.index(y) -/
theorem ed_index {dx : PyData} {j : Nat} {z : V} (ha : EvD ta σ B (.list ds)) (hb : EvD tb σ B dx) (f1 : ds.all flatD = true) (f2 : flatD dx = true) (hj : (ds.map fV)[j]? = some z) (hz : eqV z (fV dx) = true) (hn : ∀ (m : Nat) (z' : V), m < j → (ds.map fV)[m]? = some z' → eqV z' (fV dx) = false) :
    EvD (tBM K "list" (rIndex K) ta (tCons tb tNil)) σ B (.int (j : Int)) := fun H1 e Q q =>
  ha H1 e _ fun v H2 B2 s ⟨a, xs, h1, h2, h3⟩ => by
    subst h1
    refine ⟨.inl ⟨rfl, xs, sq_of (s.i a _ h2)⟩, (hb.mono s.b) H2 s.i _ fun w H3 B3 s3 hw => ?_⟩
    have e1 := h3.flat f1
    have e2 := hw.flat f2
    subst e1 e2
    exact ⟨a, _, _, j, z, rfl, rfl, sq_of (s3.h a _ (s.i a _ h2)), flatV_fV f2, all_flatV f1, hj, hz, hn, q _ H3 B3 (s.trans s3) rfl⟩
end
end Wk
/-! The text's defs by places; what the walk asks of the text. -/
namespace Wk
open PySem L2 Evl
abbrev s_is_whole : Stmt := top 1
abbrev s_need_row : Stmt := top 11
abbrev s_is_many : Stmt := top 12
abbrev s_is_thing : Stmt := top 13
abbrev s_are_ranks : Stmt := top 14
abbrev s_look_at_wishes : Stmt := top 15
abbrev s_longest : Stmt := top 16
abbrev s_rank_among : Stmt := top 18
abbrev s_counts_of : Stmt := top 19
abbrev s_need_order : Stmt := top 22
abbrev s_height : Stmt := top 23
abbrev s_beside_by : Stmt := top 24
abbrev s_is_order : Stmt := top 26
abbrev s_is_old : Stmt := top 27
abbrev s_are_turns : Stmt := top 28
abbrev s_fault_of : Stmt := top 29
abbrev s_look_at_aim : Stmt := top 30
abbrev s_rank_got : Stmt := top 31
abbrev s_kept_of : Stmt := top 32
abbrev s_score_of : Stmt := top 33
abbrev s_ranks_are_better : Stmt := top 34
abbrev s_is_better : Stmt := top 35
abbrev s_powers_of : Stmt := top 37
abbrev s_Scale_init : Stmt := inClass (top 38) 0
abbrev s_Scale_by_order : Stmt := inClass (top 38) 1
abbrev s_Scale_pick_of : Stmt := inClass (top 38) 2
abbrev s_Scale_of : Stmt := inClass (top 38) 3
abbrev s_worths_of : Stmt := top 39
abbrev s_all_worths : Stmt := top 40
abbrev s_rows_by : Stmt := top 42
abbrev s_left_by : Stmt := top 43
abbrev s_Reach_init : Stmt := inClass (top 44) 0
abbrev s_Reach_to_things : Stmt := inClass (top 44) 1
abbrev s_Reach_to_askers : Stmt := inClass (top 44) 2
abbrev s_Reach_go_on : Stmt := inClass (top 44) 3
abbrev s_Reach_end_by : Stmt := inClass (top 44) 4
abbrev s_Reach_way_to : Stmt := inClass (top 44) 5
abbrev s_best_way : Stmt := top 45
abbrev s_dealt_best : Stmt := top 46
abbrev s_Prices_init : Stmt := inClass (top 48) 0
abbrev s_Prices_rest : Stmt := inClass (top 48) 1
abbrev s_Prices_chain : Stmt := inClass (top 48) 2
abbrev s_Prices_way_by : Stmt := inClass (top 48) 3
abbrev s_Prices_raised_by : Stmt := inClass (top 48) 4
abbrev s_Prices_settle : Stmt := inClass (top 48) 5
abbrev s_Prices_told : Stmt := inClass (top 48) 6
abbrev s_bettered : Stmt := top 49
abbrev s_best_dealing : Stmt := top 50
abbrev s__law_cell_at : Stmt := top 52
abbrev s__law_numbers : Stmt := top 53
abbrev s__law_wishes : Stmt := top 54
abbrev s__law_rank : Stmt := top 55
abbrev s__law_longest : Stmt := top 56
abbrev s__law_wished : Stmt := top 57
abbrev s__law_aim : Stmt := top 58
abbrev s__law_dealt : Stmt := top 59
abbrev s__law_counts : Stmt := top 60
abbrev s__law_is_number : Stmt := top 61
abbrev s__law_is_dealing : Stmt := top 62
abbrev s__law_near : Stmt := top 63
abbrev s__law_key : Stmt := top 64
abbrev s__law_place : Stmt := top 65
abbrev s__law_above : Stmt := top 66
abbrev s_law : Stmt := top 67
structure Txt (K : PySem.W.Frag) (mg : Str → Option Value) (CS CR CP aO : Addr) : Prop where
  f_is_whole : HasFn K mg "is_whole" s_is_whole
  f_need_row : HasFn K mg "need_row" s_need_row
  f_is_many : HasFn K mg "is_many" s_is_many
  f_is_thing : HasFn K mg "is_thing" s_is_thing
  f_are_ranks : HasFn K mg "are_ranks" s_are_ranks
  f_look_at_wishes : HasFn K mg "look_at_wishes" s_look_at_wishes
  f_longest : HasFn K mg "longest" s_longest
  f_rank_among : HasFn K mg "rank_among" s_rank_among
  f_counts_of : HasFn K mg "counts_of" s_counts_of
  f_need_order : HasFn K mg "need_order" s_need_order
  f_height : HasFn K mg "height" s_height
  f_beside_by : HasFn K mg "beside_by" s_beside_by
  f_is_order : HasFn K mg "is_order" s_is_order
  f_is_old : HasFn K mg "is_old" s_is_old
  f_are_turns : HasFn K mg "are_turns" s_are_turns
  f_fault_of : HasFn K mg "fault_of" s_fault_of
  f_look_at_aim : HasFn K mg "look_at_aim" s_look_at_aim
  f_rank_got : HasFn K mg "rank_got" s_rank_got
  f_kept_of : HasFn K mg "kept_of" s_kept_of
  f_score_of : HasFn K mg "score_of" s_score_of
  f_ranks_are_better : HasFn K mg "ranks_are_better" s_ranks_are_better
  f_is_better : HasFn K mg "is_better" s_is_better
  f_powers_of : HasFn K mg "powers_of" s_powers_of
  i_Scale : HasC K mg CS "Scale" "Scale.__init__" s_Scale_init
  m_Scale_by_order : HasM K CS "by_order" "Scale.by_order" s_Scale_by_order
  m_Scale_pick_of : HasM K CS "pick_of" "Scale.pick_of" s_Scale_pick_of
  m_Scale_of : HasM K CS "of" "Scale.of" s_Scale_of
  f_worths_of : HasFn K mg "worths_of" s_worths_of
  f_all_worths : HasFn K mg "all_worths" s_all_worths
  f_rows_by : HasFn K mg "rows_by" s_rows_by
  f_left_by : HasFn K mg "left_by" s_left_by
  i_Reach : HasC K mg CR "Reach" "Reach.__init__" s_Reach_init
  m_Reach_to_things : HasM K CR "to_things" "Reach.to_things" s_Reach_to_things
  m_Reach_to_askers : HasM K CR "to_askers" "Reach.to_askers" s_Reach_to_askers
  m_Reach_go_on : HasM K CR "go_on" "Reach.go_on" s_Reach_go_on
  m_Reach_end_by : HasM K CR "end_by" "Reach.end_by" s_Reach_end_by
  m_Reach_way_to : HasM K CR "way_to" "Reach.way_to" s_Reach_way_to
  f_best_way : HasFn K mg "best_way" s_best_way
  f_dealt_best : HasFn K mg "dealt_best" s_dealt_best
  i_Prices : HasC K mg CP "Prices" "Prices.__init__" s_Prices_init
  m_Prices_rest : HasM K CP "rest" "Prices.rest" s_Prices_rest
  m_Prices_chain : HasM K CP "chain" "Prices.chain" s_Prices_chain
  m_Prices_way_by : HasM K CP "way_by" "Prices.way_by" s_Prices_way_by
  m_Prices_raised_by : HasM K CP "raised_by" "Prices.raised_by" s_Prices_raised_by
  m_Prices_settle : HasM K CP "settle" "Prices.settle" s_Prices_settle
  m_Prices_told : HasM K CP "told" "Prices.told" s_Prices_told
  f_bettered : HasFn K mg "bettered" s_bettered
  f_best_dealing : HasFn K mg "best_dealing" s_best_dealing
  f__law_cell_at : HasFn K mg "_law_cell_at" s__law_cell_at
  f__law_numbers : HasFn K mg "_law_numbers" s__law_numbers
  f__law_wishes : HasFn K mg "_law_wishes" s__law_wishes
  f__law_rank : HasFn K mg "_law_rank" s__law_rank
  f__law_longest : HasFn K mg "_law_longest" s__law_longest
  f__law_wished : HasFn K mg "_law_wished" s__law_wished
  f__law_aim : HasFn K mg "_law_aim" s__law_aim
  f__law_dealt : HasFn K mg "_law_dealt" s__law_dealt
  f__law_counts : HasFn K mg "_law_counts" s__law_counts
  f__law_is_number : HasFn K mg "_law_is_number" s__law_is_number
  f__law_is_dealing : HasFn K mg "_law_is_dealing" s__law_is_dealing
  f__law_near : HasFn K mg "_law_near" s__law_near
  f__law_key : HasFn K mg "_law_key" s__law_key
  f__law_place : HasFn K mg "_law_place" s__law_place
  f__law_above : HasFn K mg "_law_above" s__law_above
  f_law : HasFn K mg "law" s_law
  cls_Scale : Cls K CS
  na_Scale_order : NoAttr K CS "order"
  na_Scale_old : NoAttr K CS "old"
  na_Scale_turns : NoAttr K CS "turns"
  na_Scale_base : NoAttr K CS "base"
  na_Scale_ranks : NoAttr K CS "ranks"
  na_Scale_steps : NoAttr K CS "steps"
  na_Scale_picks : NoAttr K CS "picks"
  cls_Reach : Cls K CR
  na_Reach_rows : NoAttr K CR "rows"
  na_Reach_dealt : NoAttr K CR "dealt"
  na_Reach_start : NoAttr K CR "start"
  na_Reach_freed : NoAttr K CR "freed"
  na_Reach_taken : NoAttr K CR "taken"
  na_Reach_takers : NoAttr K CR "takers"
  cls_Prices : Cls K CP
  na_Prices_rows : NoAttr K CP "rows"
  na_Prices_dealt : NoAttr K CP "dealt"
  na_Prices_left : NoAttr K CP "left"
  na_Prices_prices : NoAttr K CP "prices"
  na_Prices_raisers : NoAttr K CP "raisers"
  b_all : mg "all" = none
  b_bool : mg "bool" = none
  b_enumerate : mg "enumerate" = none
  b_int : mg "int" = none
  b_isinstance : mg "isinstance" = none
  b_len : mg "len" = none
  b_list : mg "list" = none
  b_max : mg "max" = none
  b_range : mg "range" = none
  b_reversed : mg "reversed" = none
  b_sorted : mg "sorted" = none
  b_str : mg "str" = none
  b_sum : mg "sum" = none
  b_tuple : mg "tuple" = none
  b_zip : mg "zip" = none
  k_MOST_THINGS : ∃ t, mg "MOST_THINGS" = some (.int 6 t)
  k_MOST_COPIES : ∃ t, mg "MOST_COPIES" = some (.int 7 t)
  k_MOST_ASKERS : ∃ t, mg "MOST_ASKERS" = some (.int 7 t)
  k_MOST_RANKS : ∃ t, mg "MOST_RANKS" = some (.int 5 t)
  k_ORDERS : ∃ (o : Obj) (its : Array Value) (n : Nat), mg "ORDERS" = some (.ref aO) ∧ K.lookup aO = some o ∧ o.cls = .type "tuple" ∧ o.data = .seq its n ∧ its.size ≤ sizeLine ∧ Vals [.str "firsts", .str "full", .str "lasts"] its.toList
section
variable {X : Cx} {pos : Pos} {CS CR CP aO : Addr}
theorem pe_gint {x : Str} {i : Int} (h : ∃ t, X.mg x = some (.int i t)) (hg : Gl X x) (hd : (x == ("__debug__" : Str)) = false := by decide) : PE X (.Name x pos) (tC (.int i)) := by
  obtain ⟨t, h⟩ := h
  exact pe_glob hg h ⟨t, rfl⟩ hd
theorem Txt.c_MOST_THINGS (T : Txt X.K X.mg CS CR CP aO) (hg : Gl X "MOST_THINGS") : PE X (.Name "MOST_THINGS" pos) (tC (.int 6)) := pe_gint T.k_MOST_THINGS hg
theorem Txt.c_MOST_COPIES (T : Txt X.K X.mg CS CR CP aO) (hg : Gl X "MOST_COPIES") : PE X (.Name "MOST_COPIES" pos) (tC (.int 7)) := pe_gint T.k_MOST_COPIES hg
theorem Txt.c_MOST_ASKERS (T : Txt X.K X.mg CS CR CP aO) (hg : Gl X "MOST_ASKERS") : PE X (.Name "MOST_ASKERS" pos) (tC (.int 7)) := pe_gint T.k_MOST_ASKERS hg
theorem Txt.c_MOST_RANKS (T : Txt X.K X.mg CS CR CP aO) (hg : Gl X "MOST_RANKS") : PE X (.Name "MOST_RANKS" pos) (tC (.int 5)) := pe_gint T.k_MOST_RANKS hg
theorem Txt.c_ORDERS (T : Txt X.K X.mg CS CR CP aO) (hg : Gl X "ORDERS") : PE X (.Name "ORDERS" pos) (tC (.ref aO)) := by
  obtain ⟨o, its, n, h, _⟩ := T.k_ORDERS
  exact pe_glob hg h rfl
theorem Txt.orders {K : PySem.W.Frag} {mg : Str → Option Value} (T : Txt K mg CS CR CP aO) (H : Hp) : SqT K H aO [.str "firsts", .str "full", .str "lasts"] := by
  obtain ⟨o, its, n, _, h1, h2, h3, h4, h5⟩ := T.k_ORDERS
  exact .inr ⟨o, its, n, h1, h2, h3, h4, h5⟩
end
end Wk
/-! Wishes, aims and dealings as data. -/
namespace Wk
open PySem L2 Evl Wd

structure Wish where
  copies : List Nat
  lists : List (List (List Nat))
structure Aim where
  ord : Ord
  old : Option (List (Option Nat))
  turns : List Nat
abbrev Deal := List (Option Nat)
def Ord.str : Ord → Str
  | .firsts => "firsts"
  | .full => "full"
  | .lasts => "lasts"
def dN (n : Nat) : PyData := .int (n : Int)
def dO : Option Nat → PyData
  | none => .none
  | some n => .int (n : Int)
def dNs (l : List Nat) : PyData := .list (l.map dN)
def dRs (rs : List (List Nat)) : PyData := .list (rs.map dNs)
def dLs (ls : List (List (List Nat))) : PyData := .list (ls.map dRs)
def dW (W : Wish) : PyData := .tuple [dNs W.copies, dLs W.lists]
def dDeal (d : Deal) : PyData := .list (d.map dO)
def dOld : Option Deal → PyData
  | none => .none
  | some o => dDeal o
def dAim (A : Aim) : PyData := .tuple [.str (Ord.str A.ord), dOld A.old, dNs A.turns]

/-- the number of the rank in which t stands, 0 where it stands in none -/
def rankIn : List (List Nat) → Nat → Nat
  | [], _ => 0
  | r :: rs, t => if t ∈ r then 1 else if rankIn rs t = 0 then 0 else rankIn rs t + 1
def rankO (rs : List (List Nat)) : Option Nat → Nat
  | none => 0
  | some t => rankIn rs t
def Wish.n (W : Wish) : Nat := W.lists.length
def Wish.m (W : Wish) : Nat := W.copies.length
def Wish.ranks (W : Wish) (a : Nat) : List (List Nat) := W.lists.getD a []
def Wish.longest (W : Wish) : Nat := (W.lists.map List.length).foldl max 0
structure RanksOk (m : Nat) (rs : List (List Nat)) : Prop where
  len : rs.length ≤ 5
  ne : ∀ r, r ∈ rs → r ≠ []
  nd : rs.flatten.Nodup
  lt : ∀ t, t ∈ rs.flatten → t < m
theorem nodup_small : ∀ (m : Nat) (l : List Nat), l.Nodup → (∀ t, t ∈ l → t < m) → l.length ≤ m
  | 0, l, _, h => by
    cases l with
    | nil => exact Nat.le_refl _
    | cons a b => exact absurd (h a List.mem_cons_self) (Nat.not_lt_zero _)
  | m + 1, l, nd, h => by
    have ih := nodup_small m (l.filter fun x => decide (x ≠ m)) (nd.sublist List.filter_sublist) fun t ht => by
      obtain ⟨h1, h2⟩ := List.mem_filter.mp ht
      have := h t h1
      have : t ≠ m := of_decide_eq_true h2
      omega
    have e : l.length = (l.filter fun x => decide (x ≠ m)).length + l.count m := by
      rw [List.count_eq_countP, ← List.countP_eq_length_filter, Nat.add_comm]
      have := List.length_eq_countP_add_countP (fun x => x == m) (l := l)
      rw [this]
      congr 1
      refine List.countP_congr fun x _ => ?_
      simp
    have : l.count m ≤ 1 := List.nodup_iff_count.mp nd m
    omega
structure Wish.Ok (W : Wish) : Prop where
  m1 : 1 ≤ W.copies.length
  m6 : W.copies.length ≤ 6
  c7 : ∀ c, c ∈ W.copies → c ≤ 7
  n1 : 1 ≤ W.lists.length
  n7 : W.lists.length ≤ 7
  rk : ∀ rs, rs ∈ W.lists → RanksOk W.copies.length rs
structure Aim.Ok (W : Wish) (A : Aim) : Prop where
  old : ∀ o, A.old = some o → o.length = W.n ∧ ∀ t, some t ∈ o → t < W.m
  nd : A.turns.Nodup
  lt : ∀ a, a ∈ A.turns → a < W.n
structure DealOk (W : Wish) (d : Deal) : Prop where
  len : d.length = W.n
  wish : ∀ a t, d[a]? = some (some t) → rankIn (W.ranks a) t ≠ 0
  cop : ∀ t c, W.copies[t]? = some c → d.count (some t) ≤ c

/-! ### data of numbers -/
theorem flat_dN (l : List Nat) : (l.map dN).all flatD = true := by simp [List.all_eq_true, flatD, dN]
theorem flat_dO1 (o : Option Nat) : flatD (dO o) = true := by cases o <;> rfl
theorem flat_dO (l : List (Option Nat)) : (l.map dO).all flatD = true := by simp [List.all_eq_true, flat_dO1]
theorem dNs_ints (l : List Nat) : dNs l = dInts (l.map fun n : Nat => (n : Int)) := by unfold dNs dInts; rw [List.map_map]; rfl
theorem atI_map {α : Type} (f : α → PyData) (l : List α) (n : Nat) : atI (l.map f) (n : Int) = (l[n]?).map f := by
  cases h : l[n]? with
  | none =>
    have : l.length ≤ n := List.getElem?_eq_none_iff.mp h
    unfold atI ixN
    rw [if_pos (by omega), if_neg (by rw [List.length_map]; omega)]
    rfl
  | some x => exact atI_nat (by simp [h])
theorem atI_some {α : Type} {f : α → PyData} {l : List α} {n : Nat} {x : α} (h : l[n]? = some x) : atI (l.map f) (n : Int) = some (f x) := by rw [atI_map, h]; rfl
theorem gl_map {α : Type} (f : α → PyData) (l : List α) (x : α) : gl l.length (fun _ => true) (fun i => f (l.getD i x)) = l.map f := by
  rw [gl_all]
  refine List.ext_getElem? fun i => ?_
  rw [List.getElem?_map, List.getElem?_map]
  by_cases h : i < l.length
  · rw [List.getElem?_range h, List.getElem?_eq_getElem h]
    simp [h]
  · rw [List.getElem?_eq_none (by simpa using h), List.getElem?_eq_none (by omega)]
    rfl
theorem mem_inV (t : Nat) : ∀ l : List Nat, inD (dN t) (l.map dN) = decide (t ∈ l)
  | [] => rfl
  | x :: xs => by
    have ih := mem_inV t xs
    show ((x : Int) == (t : Int) || inD (dN t) (xs.map dN)) = _
    rw [ih]
    by_cases e : t = x
    · subst e; simp
    · have : ((x : Int) == (t : Int)) = false := beq_eq_false_iff_ne.mpr fun z => e (by omega)
      rw [this]; simp [e]
theorem mem_inO (o : Option Nat) (l : List Nat) : inD (dO o) (l.map dN) = (match o with | none => false | some t => decide (t ∈ l)) := by
  cases o with
  | none =>
    induction l with
    | nil => rfl
    | cons x xs ih => show (false || inD (dO none) (xs.map dN)) = false; rw [ih]; rfl
  | some t => exact mem_inV t l
theorem fV_dO (o : Option Nat) : fV (dO o) = (match o with | none => V.non | some t => V.int (t : Int)) := by cases o <;> rfl
theorem dO_eq (a b : Option Nat) : decide (fV (dO a) = fV (dO b)) = decide (a = b) := by
  cases a <;> cases b <;> simp [fV, dO] <;> omega
theorem scal_dO (a b : Option Nat) : scal (fV (dO a)) (fV (dO b)) = true := by cases a <;> cases b <;> rfl
theorem isNo_dO (o : Option Nat) : isNo (dO o) = o.isNone := by cases o <;> rfl

theorem rankIn_le : ∀ (rs : List (List Nat)) (t : Nat), rankIn rs t ≤ rs.length
  | [], _ => Nat.le_refl _
  | r :: rs, t => by
    have := rankIn_le rs t
    unfold rankIn
    rw [List.length_cons]
    split
    · omega
    · split <;> omega
theorem RanksOk.small {m : Nat} {rs : List (List Nat)} (h : RanksOk m rs) : rs.flatten.length ≤ m := nodup_small m _ h.nd h.lt
theorem rankIn_ne : ∀ (rs : List (List Nat)) (t : Nat), rankIn rs t ≠ 0 ↔ t ∈ rs.flatten
  | [], _ => by simp [rankIn]
  | r :: rs, t => by
    have := rankIn_ne rs t
    unfold rankIn
    rw [List.flatten_cons, List.mem_append]
    by_cases h : t ∈ r
    · simp [h]
    · simp only [h, if_false, false_or]
      rw [← this]
      split <;> simp_all
theorem rankIn_at : ∀ {rs : List (List Nat)} {t i : Nat} {r : List Nat}, (∀ (j : Nat) (q : List Nat), j < i → rs[j]? = some q → t ∉ q) → rs[i]? = some r → t ∈ r → rankIn rs t = i + 1
  | [], _, _, _, _, h, _ => by simp at h
  | x :: xs, t, 0, r, _, h, ht => by
    have : x = r := Option.some.inj h
    subst this
    unfold rankIn; rw [if_pos ht]
  | x :: xs, t, i + 1, r, hn, h, ht => by
    have h1 : t ∉ x := hn 0 x (by omega) rfl
    have ih := rankIn_at (rs := xs) (t := t) (i := i) (r := r) (fun j q hj hq => hn (j + 1) q (by omega) (by simpa using hq)) (by simpa using h) ht
    unfold rankIn
    rw [if_neg h1, ih, if_neg (by omega)]
theorem rankIn_no {rs : List (List Nat)} {t : Nat} (h : ∀ (j : Nat) (q : List Nat), rs[j]? = some q → t ∉ q) : rankIn rs t = 0 := by
  by_cases e : rankIn rs t = 0
  · exact e
  · obtain ⟨q, hq, ht⟩ := List.mem_flatten.mp ((rankIn_ne rs t).mp e)
    obtain ⟨j, hj⟩ := List.getElem?_of_mem hq
    exact absurd ht (h j q hj)
theorem foldl_max_le : ∀ (l : List Nat) (b : Nat), b ≤ l.foldl max b ∧ ∀ x, x ∈ l → x ≤ l.foldl max b
  | [], b => ⟨Nat.le_refl _, fun _ h => nomatch h⟩
  | y :: ys, b => by
    obtain ⟨h1, h2⟩ := foldl_max_le ys (max b y)
    refine ⟨by show b ≤ ys.foldl max (max b y); omega, fun x hx => ?_⟩
    show x ≤ ys.foldl max (max b y)
    rcases List.mem_cons.mp hx with e | hx
    · omega
    · exact h2 x hx
theorem foldl_max_mem : ∀ (l : List Nat) (b : Nat), l.foldl max b = b ∨ l.foldl max b ∈ l
  | [], b => .inl rfl
  | y :: ys, b => by
    show ys.foldl max (max b y) = b ∨ ys.foldl max (max b y) ∈ y :: ys
    rcases foldl_max_mem ys (max b y) with h | h
    · by_cases e : y ≤ b
      · left; rw [h]; omega
      · right; rw [h, show max b y = y by omega]; exact List.mem_cons_self
    · right; exact List.mem_cons_of_mem _ h
theorem Wish.longest_le (W : Wish) {rs : List (List Nat)} (h : rs ∈ W.lists) : rs.length ≤ W.longest := (foldl_max_le _ 0).2 _ (List.mem_map_of_mem h)
theorem Wish.longest5 {W : Wish} (ok : W.Ok) : W.longest ≤ 5 := by
  rcases foldl_max_mem (W.lists.map List.length) 0 with h | h
  · show (W.lists.map List.length).foldl max 0 ≤ 5; omega
  · obtain ⟨rs, h1, h2⟩ := List.mem_map.mp h
    show (W.lists.map List.length).foldl max 0 ≤ 5
    rw [← h2]; exact (ok.rk rs h1).len
theorem Wish.rank_longest (W : Wish) (a t : Nat) : rankIn (W.ranks a) t ≤ W.longest := by
  unfold Wish.ranks
  rw [List.getD_eq_getElem?_getD]
  cases h : W.lists[a]? with
  | none => show rankIn [] t ≤ _; exact Nat.zero_le _
  | some rs => exact Nat.le_trans (rankIn_le rs t) (W.longest_le (List.mem_of_getElem? h))
theorem Wish.ranks_at {W : Wish} {a : Nat} {rs : List (List Nat)} (h : W.lists[a]? = some rs) : W.ranks a = rs := by
  unfold Wish.ranks
  rw [List.getD_eq_getElem?_getD, h]; rfl
end Wk
namespace Wk
open PySem L2 Evl Wd
section
variable {K : PySem.W.Frag} {σ : L2.St} {B H : Hp} {d d1 d2 d3 d4 d5 : PyData} {vs : List V} {D : Ends} {t u : TT} {tu tw tz : TS}
theorem DtL.one (h : DtL H [d1] vs) : ∃ x, vs = [x] ∧ Dt H d1 x := by
  obtain ⟨x, r, rfl, h1, hr⟩ := h
  cases (show r = [] from hr)
  exact ⟨x, rfl, h1⟩
theorem DtL.two (h : DtL H [d1, d2] vs) : ∃ x y, vs = [x, y] ∧ Dt H d1 x ∧ Dt H d2 y := by
  obtain ⟨x, r, rfl, h1, hr⟩ := h
  obtain ⟨y, rfl, h2⟩ := DtL.one hr
  exact ⟨x, y, rfl, h1, h2⟩
theorem DtL.three (h : DtL H [d1, d2, d3] vs) : ∃ x y z, vs = [x, y, z] ∧ Dt H d1 x ∧ Dt H d2 y ∧ Dt H d3 z := by
  obtain ⟨x, r, rfl, h1, hr⟩ := h
  obtain ⟨y, z, rfl, h2, h3⟩ := DtL.two hr
  exact ⟨x, y, z, rfl, h1, h2, h3⟩
theorem DtL.four (h : DtL H [d1, d2, d3, d4] vs) : ∃ x y z w, vs = [x, y, z, w] ∧ Dt H d1 x ∧ Dt H d2 y ∧ Dt H d3 z ∧ Dt H d4 w := by
  obtain ⟨x, r, rfl, h1, hr⟩ := h
  obtain ⟨y, z, w, rfl, h2, h3, h4⟩ := DtL.three hr
  exact ⟨x, y, z, w, rfl, h1, h2, h3, h4⟩
theorem DtL.five (h : DtL H [d1, d2, d3, d4, d5] vs) : ∃ x y z w q, vs = [x, y, z, w, q] ∧ Dt H d1 x ∧ Dt H d2 y ∧ Dt H d3 z ∧ Dt H d4 w ∧ Dt H d5 q := by
  obtain ⟨x, r, rfl, h1, hr⟩ := h
  obtain ⟨y, z, w, q, rfl, h2, h3, h4, h5⟩ := DtL.four hr
  exact ⟨x, y, z, w, q, rfl, h1, h2, h3, h4, h5⟩
/-- an object of our own, read as data -/
theorem Ex.plus {l : Addr} {o : HO} (i0 : Ex B H) (hl : H l = some o) : Ex (upd B l o) H := fun a u e => by
  by_cases q : a = l
  · subst q; rw [upd_same] at e; cases e; exact hl
  · rw [upd_ne q] at e; exact i0 a u e
/-- if whose way is known -/
theorem s_no {b : Bool} (i0 : Ex B H) (h : EvT t σ B b) (e : b = false) (k : ∀ H1, Ex H H1 → tw D σ H1) : tIfS t tu tw D σ H := s_if (EvT.mono i0 h) (fun z => by rw [e] at z; cases z) fun _ H1 e => k H1 e
theorem s_yes {b : Bool} (i0 : Ex B H) (h : EvT t σ B b) (e : b = true) (k : ∀ H1, Ex H H1 → tu D σ H1) : tIfS t tu tw D σ H := s_if (EvT.mono i0 h) (fun _ H1 e => k H1 e) fun z => by rw [e] at z; cases z
theorem q_no {b : Bool} (i0 : Ex B H) (h : EvT t σ B b) (e : b = false) (k : ∀ H1, Ex H H1 → tw { D with nx := tz D } σ H1) : tSeq (tIfS t tu tw) tz D σ H := s_no (D := { D with nx := tz D }) i0 h e k
theorem q_yes {b : Bool} (i0 : Ex B H) (h : EvT t σ B b) (e : b = true) (k : ∀ H1, Ex H H1 → tu { D with nx := tz D } σ H1) : tSeq (tIfS t tu tw) tz D σ H := s_yes (D := { D with nx := tz D }) i0 h e k
theorem s_ifB {b : Bool} (i0 : Ex B H) (h : EvT t σ B b) (k1 : b = true → ∀ H1, Ex H H1 → tu D σ H1) (k2 : b = false → ∀ H1, Ex H H1 → tw D σ H1) : tIfS t tu tw D σ H := s_if (EvT.mono i0 h) k1 k2
theorem q_ifB {b : Bool} (i0 : Ex B H) (h : EvT t σ B b) (k1 : b = true → ∀ H1, Ex H H1 → tu { D with nx := tz D } σ H1) (k2 : b = false → ∀ H1, Ex H H1 → tw { D with nx := tz D } σ H1) : tSeq (tIfS t tu tw) tz D σ H := s_ifB (D := { D with nx := tz D }) i0 h k1 k2
theorem q_if1 {b : Bool} (i0 : Ex B H) (h : EvT t σ B b) (k1 : b = true → ∀ H1, Ex H H1 → tu { D with nx := tz D } σ H1) (k2 : b = false → ∀ H1, Ex H H1 → tz D σ H1) : tSeq (tIfS t tu tNext) tz D σ H := q_ifB i0 h k1 k2
theorem s_if1 {b : Bool} (i0 : Ex B H) (h : EvT t σ B b) (k1 : b = true → ∀ H1, Ex H H1 → tu D σ H1) (k2 : b = false → ∀ H1, Ex H H1 → D.nx σ H1) : tIfS t tu tNext D σ H := s_ifB i0 h k1 k2
theorem q_skip {b : Bool} (i0 : Ex B H) (h : EvT t σ B b) (e : b = false) (k : ∀ H1, Ex H H1 → tz D σ H1) : tSeq (tIfS t tu tNext) tz D σ H := q_no i0 h e k
/-- a new list that will change -/
theorem q_new {te : TE} {i : Nat} (h : EvL te σ H vs) (k : ∀ p H1, H p = none → Ex H H1 → H1 p = some (.lst vs) → tz D (σ.set i (some (.ref p))) H1) : tSeq (tAsg te (gName i)) tz D σ H := q_asgL h k
end
/-! ### scores -/
def dl (d : Deal) (a : Nat) : Option Nat := d.getD a none
def rkOf (W : Wish) (d : Deal) (a : Nat) : Nat := rankO (W.ranks a) (dl d a)
def countsOf (W : Wish) (d : Deal) : List Int := cnts d.length W.longest (rkOf W d)
theorem dl_at {d : Deal} {a : Nat} {o : Option Nat} (h : d[a]? = some o) : dl d a = o := by unfold dl; rw [List.getD_eq_getElem?_getD, h]; rfl
theorem rkOf_le (W : Wish) (d : Deal) (a : Nat) : rkOf W d a ≤ W.longest := by
  unfold rkOf rankO
  split
  · exact Nat.zero_le _
  · exact W.rank_longest a _
theorem cnts_len (n R : Nat) (rk : Nat → Nat) : (cnts n R rk).length = R + 1 := by unfold cnts; simp
theorem cnts_at (n R : Nat) (rk : Nat → Nat) {j : Nat} (h : j ≤ R) : (cnts n R rk)[j]? = some (cnt n (fun a => some (cix R (rk a))) j) := by
  unfold cnts
  rw [List.getElem?_map, List.getElem?_range (by omega)]; rfl
theorem cnts_zero (R : Nat) (rk : Nat → Nat) : cnts 0 R rk = List.replicate (R + 1) 0 := by
  unfold cnts
  refine List.ext_getElem? fun j => ?_
  rw [List.getElem?_map, List.getElem?_replicate]
  by_cases h : j < R + 1
  · rw [List.getElem?_range h, if_pos h]; rfl
  · rw [List.getElem?_eq_none (by simpa using h), if_neg h]; rfl
theorem cnts_succ (n R : Nat) (rk : Nat → Nat) (h : rk n ≤ R) : cnts (n + 1) R rk = (cnts n R rk).set (cix R (rk n)) (cnt n (fun a => some (cix R (rk a))) (cix R (rk n)) + 1) := by
  refine List.ext_getElem? fun j => ?_
  have hc := cix_le h
  by_cases hj : j ≤ R
  · rw [cnts_at _ _ _ hj, List.getElem?_set, cnts_len]
    by_cases e : cix R (rk n) = j
    · rw [if_pos e, if_pos (by omega)]
      show some (cnt n (fun a => some (cix R (rk a))) j + hit (some (cix R (rk n))) j) = _
      rw [e, hit_same]
    · rw [if_neg e, cnts_at _ _ _ hj]
      show some (cnt n (fun a => some (cix R (rk a))) j + hit (some (cix R (rk n))) j) = _
      rw [hit_ne fun z => e (Option.some.inj z)]
      simp
  · rw [List.getElem?_eq_none (by rw [cnts_len]; omega), List.getElem?_eq_none (by rw [List.length_set, cnts_len]; omega)]
theorem el_rep {K : PySem.W.Frag} {σ : L2.St} {B : Hp} {tx tb : TE} {v : V} {n : Nat} (ha : Ev tx σ B v) (hb : EvD tb σ B (.int (n : Int))) (hl : n ≤ 100000) : EvL (tOp rRep (tLst (tCons tx tNil)) tb) σ B (List.replicate n v) := fun H1 e Q q =>
  ha H1 e _ fun H2 e2 => ⟨by show 1 ≤ sizeLine; decide, fun p hp => hb.int _ ((e.trans e2).trans (Ex.new hp)) _ fun H3 e3 =>
    ⟨p, (n : Int), [v], rfl, rfl, e3 p _ upd_same, by omega, by omega, sz_of (by rw [List.length_singleton, Int.toNat_natCast]; omega), fun p' hp' => by
      rw [flatten_rep1, Int.toNat_natCast]
      exact q p' _ (fresh_back (e2.trans ((Ex.new hp).trans e3)) hp') ((e2.trans ((Ex.new hp).trans e3)).trans (Ex.new hp')) upd_same⟩⟩
theorem Ex.plusB {B H : Hp} {l : Addr} {o : HO} (hb : B l = none) : Ex B (upd B l o) := Ex.new hb
def nV (n : Nat) : V := .int (n : Int)
def oV (o : Option Nat) : V := fV (dO o)
section
variable {H : Hp} {l : List Nat} {o : List (Option Nat)} {v : V}
theorem map_nV (l : List Nat) : (l.map dN).map fV = l.map nV := by rw [List.map_map]; rfl
theorem map_oV (o : List (Option Nat)) : (o.map dO).map fV = o.map oV := by rw [List.map_map]; rfl
theorem dtl_nats : DtL H (l.map dN) (l.map nV) := by rw [← map_nV]; exact DtL.ofFlat (flat_dN l)
theorem dtl_opts : DtL H (o.map dO) (o.map oV) := by rw [← map_oV]; exact DtL.ofFlat (flat_dO o)
theorem Dt.nats (h : Dt H (dNs l) v) : ∃ a, v = .ref a ∧ H a = some (.lst (l.map nV)) := by
  obtain ⟨a, xs, h1, h2, h3⟩ := h
  have := DtL.flat (flat_dN l) h3
  rw [map_nV] at this
  exact ⟨a, h1, by rw [h2, this]⟩
theorem Dt.ofNats {a : Addr} (h : H a = some (.lst (l.map nV))) : Dt H (.list (l.map dN)) (.ref a) := ⟨a, _, rfl, h, dtl_nats⟩
theorem Dt.opts (h : Dt H (dDeal o) v) : ∃ a, v = .ref a ∧ H a = some (.lst (o.map oV)) := by
  obtain ⟨a, xs, h1, h2, h3⟩ := h
  have := DtL.flat (flat_dO o) h3
  rw [map_oV] at this
  exact ⟨a, h1, by rw [h2, this]⟩
theorem Dt.ofOpts {a : Addr} (h : H a = some (.lst (o.map oV))) : Dt H (.list (o.map dO)) (.ref a) := ⟨a, _, rfl, h, dtl_opts⟩
end
end Wk
/-! Dicts and instances of our own. -/
namespace Wk
open PySem L2 Evl Wd
section
variable {K : PySem.W.Frag} {σ : L2.St} {B B' H H' : Hp} {ta tb te td ty : TE} {v : V} {d d1 : PyData} {ds : List PyData} {l : Addr} {kv : List (Key × V)} {D : Ends} {tu tw tz : TS}
theorem ed_din {i : Int} (hi : EvD ty σ B (.int i)) (ho : Ev td σ B (.ref l)) (hr : Rd B l (.dK kv)) : EvD (tDIn ty td) σ B (.bool (valV kv (Sum.inl i : Key)).isSome) := fun H1 e Q q =>
  hi.int H1 e _ fun H2 e2 => ho H2 (e.trans e2) _ fun H3 e3 => ⟨l, _, rfl, .inl ⟨kv, Sum.inl i, rd_ex ((e.trans e2).trans e3) hr, rfl, rfl⟩, q _ H3 B ((Stp.refl e).grow (e2.trans e3)) rfl⟩
theorem ed_dnotin {i : Int} (hi : EvD ty σ B (.int i)) (ho : Ev td σ B (.ref l)) (hr : Rd B l (.dK kv)) : EvD (tDNotIn ty td) σ B (.bool (!(valV kv (Sum.inl i : Key)).isSome)) := fun H1 e Q q =>
  hi.int H1 e _ fun H2 e2 => ho H2 (e.trans e2) _ fun H3 e3 => ⟨l, _, rfl, .inl ⟨kv, Sum.inl i, rd_ex ((e.trans e2).trans e3) hr, rfl, rfl⟩, q _ H3 B ((Stp.refl e).grow (e2.trans e3)) rfl⟩
theorem ed_dinN {o : Option Nat} (hi : EvD ty σ B (dO o)) (ho : Ev td σ B (.ref l)) (hr : Rd B l (.dK kv)) : EvD (tDInN ty td) σ B (.bool (match o with | none => false | some t => (valV kv (Sum.inl (t : Int) : Key)).isSome)) := fun H1 e Q q =>
  (hi.flat (flat_dO1 o)) H1 e _ fun H2 e2 => ho H2 (e.trans e2) _ fun H3 e3 => by
    have S := (Stp.refl e).grow (e2.trans e3)
    have R := rd_ex ((e.trans e2).trans e3) hr
    cases o with
    | none => exact .inr ⟨l, kv, rfl, rfl, R, q _ H3 B S rfl⟩
    | some t => exact .inl ⟨l, _, rfl, .inl ⟨kv, Sum.inl (t : Int), R, rfl, rfl⟩, q _ H3 B S rfl⟩
/-- reading a dict of our own, numbers -/
theorem ed_dgetK {i : Int} (ho : Ev td σ B (.ref l)) (hi : EvD ty σ B (.int i)) (hr : Rd B l (.dK kv)) (hv : valV kv (Sum.inl i : Key) = some v) (hd : Dt B d v) : EvD (tDGet td ty) σ B d := fun H1 e Q q =>
  ho H1 e _ fun H2 e2 => hi.int H2 (e.trans e2) _ fun H3 e3 => ⟨l, v, rfl, .inl ⟨kv, Sum.inl i, rd_ex ((e.trans e2).trans e3) hr, rfl, hv.symm⟩, q _ H3 B ((Stp.refl e).grow (e2.trans e3)) hd⟩
/-- a new dict -/
theorem q_newK {i : Nat} (k : ∀ p, H p = none → tz D (σ.set i (some (.ref p))) (upd H p (.dK []))) : tSeq (tAsg tDNewK (gName i)) tz D σ H := k
theorem q_newK' {i : Nat} (k : ∀ p H1, H p = none → Ex H H1 → H1 p = some (.dK []) → tz D (σ.set i (some (.ref p))) H1) : tSeq (tAsg tDNewK (gName i)) tz D σ H := fun p hp => k p _ hp (Ex.new hp) upd_same
end
section
variable {K : PySem.W.Frag} {σ : L2.St} {B B' H H' : Hp} {ta tb te td ty : TE} {v : V} {d d1 : PyData} {ds : List PyData} {p C dx : Addr} {fs : List (Str × V)} {f m : Str} {D : Ends} {tu tw tz : TS}
/-! ### instances -/
theorem ev_fld (ho : Ev ta σ B (.ref p)) (hp : B p = some (.ins C dx fs)) (c : Cls K C) (n : NoAttr K C f) (hl : fs.lookup f = some v) : Ev (tFld K ta f) σ B v := fun H1 e Q q =>
  ho H1 e _ fun H2 e2 => ⟨p, C, dx, fs, v, rfl, e2 p _ (e p _ hp), c, n, hl, q H2 e2⟩
theorem ed_fld (ho : Ev ta σ B (.ref p)) (hp : B p = some (.ins C dx fs)) (c : Cls K C) (n : NoAttr K C f) (hl : fs.lookup f = some v) (hd : Dt B d v) : EvD (tFld K ta f) σ B d := EvD.of (ev_fld ho hp c n hl) hd
theorem s_fldD (i0 : Ex B H) (hp : H p = some (.ins C dx fs)) (h : EvD te σ B d) (ho : Ev ta σ B (.ref p)) (c : Cls K C) (n : NoAttr K C f) (hl : fs.length < 1000) (k : ∀ v B2 H2, Stp B H B2 H2 → Dt B2 d v → D.nx σ (upd H2 p (.ins C dx (putF f v fs)))) :
    sFld K ta te f D σ H := h H i0 _ fun v H1 B1 s hv => ho H1 (s.b.trans s.i) _ fun H2 e2 => ⟨p, C, dx, fs, rfl, e2 p _ (s.h p _ hp), c, n, hl, k v B1 H2 (s.grow e2) hv⟩
theorem q_fldD (i0 : Ex B H) (hp : H p = some (.ins C dx fs)) (h : EvD te σ B d) (ho : Ev ta σ B (.ref p)) (c : Cls K C) (n : NoAttr K C f) (hl : fs.length < 1000) (k : ∀ v B2 H2, Stp B H B2 H2 → Dt B2 d v → tz D σ (upd H2 p (.ins C dx (putF f v fs)))) :
    tSeq (sFld K ta te f) tz D σ H := s_fldD (D := { D with nx := tz D }) i0 hp h ho c n hl k
/-! ### a base without an instance of our own -/
def minus (B : Hp) (p : Addr) : Hp := fun a => if a = p then none else B a
theorem minus_same : minus B p p = none := if_pos rfl
theorem minus_ne {a : Addr} (h : a ≠ p) : minus B p a = B a := if_neg h
mutual
theorem Dt.minus (hp : B p = some (.ins C dx fs)) : ∀ {d : PyData} {v : V}, Dt B d v → Dt (Wk.minus B p) d v
  | .none, _, h => h
  | .bool _, _, h => h
  | .int _, _, h => h
  | .str _, _, h => h
  | .list ds, _, ⟨b, xs, h1, h2, h3⟩ => ⟨b, xs, h1, by rw [minus_ne (by intro e; subst e; rw [hp] at h2; cases h2)]; exact h2, DtL.minus hp h3⟩
  | .tuple ds, _, ⟨b, xs, h1, h2, h3⟩ => ⟨b, xs, h1, by rw [minus_ne (by intro e; subst e; rw [hp] at h2; cases h2)]; exact h2, DtL.minus hp h3⟩
  | .dict _, _, ⟨b, l, h1, h2, h3⟩ => ⟨b, l, h1, by
      have hne : b ≠ p := by intro e; subst e; rcases h2 with h2 | ⟨o, h2⟩ <;> (rw [hp] at h2; cases h2)
      rcases h2 with h2 | ⟨o, h2⟩
      · exact .inl (by rw [minus_ne hne]; exact h2)
      · exact .inr ⟨o, by rw [minus_ne hne]; exact h2⟩, h3⟩
theorem DtL.minus (hp : B p = some (.ins C dx fs)) : ∀ {ds : List PyData} {xs : List V}, DtL B ds xs → DtL (Wk.minus B p) ds xs
  | [], _, h => h
  | _ :: _, _, ⟨x, r, h1, h2, h3⟩ => ⟨x, r, h1, Dt.minus hp h2, DtL.minus hp h3⟩
end
theorem Stp.minus {B3 H2 : Hp} {o : HO} (s : Stp (upd B p o) H B3 H2) (hb : B p = none) (hH : H p = some o) : Stp B H (Wk.minus B3 p) H2 :=
  ⟨s.h, fun a u e => by
      have hne : a ≠ p := by intro z; subst z; rw [hb] at e; cases e
      rw [minus_ne hne]; exact s.b a u (by rw [upd_ne hne]; exact e), fun a u e => by
      by_cases z : a = p
      · subst z; rw [minus_same] at e; cases e
      · rw [minus_ne z] at e; exact s.i a u e, fun a u e => by
      by_cases z : a = p
      · subst z; rw [minus_same, hb]
      · rw [minus_ne z, s.n a u e, upd_ne z]⟩
/-- a field of our own, what it is made of read from our own fields -/
theorem q_fldP (i0 : Ex B H) (hp : H p = some (.ins C dx fs)) (hb : B p = none) (h : EvD te σ (upd B p (.ins C dx fs)) d) (ho : Ev ta σ B (.ref p)) (c : Cls K C) (n : NoAttr K C f) (hl : fs.length < 1000) (k : ∀ v B2 H2, Stp B H B2 H2 → Dt B2 d v → tz D σ (upd H2 p (.ins C dx (putF f v fs)))) :
    tSeq (sFld K ta te f) tz D σ H := h H (Ex.plus i0 hp) _ fun v H1 B1 s hv => ho H1 (((Ex.new hb).trans s.b).trans s.i) _ fun H2 e2 => ⟨p, C, dx, fs, rfl, e2 p _ (s.h p _ hp), c, n, hl,
      k v (Wk.minus B1 p) H2 ((s.minus hb hp).grow e2) (Dt.minus (s.b p _ upd_same) hv)⟩
theorem s_fldP (i0 : Ex B H) (hp : H p = some (.ins C dx fs)) (hb : B p = none) (h : EvD te σ (upd B p (.ins C dx fs)) d) (ho : Ev ta σ B (.ref p)) (c : Cls K C) (n : NoAttr K C f) (hl : fs.length < 1000) (k : ∀ v B2 H2, Stp B H B2 H2 → Dt B2 d v → D.nx σ (upd H2 p (.ins C dx (putF f v fs)))) :
    sFld K ta te f D σ H := q_fldP (tz := tNext) i0 hp hb h ho c n hl k
end
/-! ### promises of __init__ and of methods -/
/-- an __init__: the instance is new; fin says what stands behind -/
def SpInit {α : Type} (C : Addr) (args : α → List PyData) (pre : α → Prop) (fin : α → Addr → Hp → Hp → Prop) : Sp := fun vs H Q _ => ∃ B H0 a p dx us, vs = .ref p :: us ∧ Ex B H0 ∧ H0 p = none ∧ H0 dx = none ∧ dx ≠ p ∧
  H = upd (upd H0 dx (.own p)) p (.ins C dx []) ∧ DtL B (args a) us ∧ pre a ∧ ∀ H' B', Stp B H0 B' H' → fin a p B' H' → Q .non H'
/-- a method that changes nothing -/
def SpI {α : Type} (self : α → Hp → V → Prop) (args : α → List PyData) (pre : α → Prop) (post : α → PyData → Prop) : Sp := fun vs H Q _ => ∃ B a x us, vs = x :: us ∧ Ex B H ∧ self a B x ∧ DtL B (args a) us ∧ pre a ∧ ∀ v H' B' d, Stp B H B' H' → Dt B' d v → post a d → Q v H'
section
variable {K : PySem.W.Frag} {σ : L2.St} {B H : Hp} {ta : TE} {tr : TA} {d : PyData} {p C dx : Addr} {fs : List (Str × V)} {m : Str} {D : Ends} {tz : TS} {E : XK} {α : Type}
theorem q_make {args : α → List PyData} {pre : α → Prop} {fin : α → Addr → Hp → Hp → Prop} {i : Nat} (a : α) (i0 : Ex B H) (h : EvDA tr σ B (args a)) (hp : pre a) (k : ∀ p B2 H2, Stp B H B2 H2 → H p = none → fin a p B2 H2 → tz D (σ.set i (some (.ref p))) H2) :
    tSeq (tAsg (tMake C (SpInit C args pre fin) [] E tr) (gName i)) tz D σ H := h H i0 _ fun vs H1 B1 s hd x dx h1 h2 hne =>
  ⟨B1, H1, a, x, dx, vs, by rw [List.append_nil], s.i, h1, h2, hne, rfl, hd, hp, fun H2 B2 s2 hf => ⟨rfl, k x B2 H2 (s.trans s2) (fresh_back s.h h1) hf⟩⟩
theorem ep_callI {self : α → Hp → V → Prop} {args : α → List PyData} {pre : α → Prop} {post : α → PyData → Prop} (a : α) (ho : Ev ta σ B (.ref p)) (hp : B p = some (.ins C dx fs)) (hn : fs.lookup m = none) (hs : ∀ B', Ex B B' → self a B' (.ref p)) (h : EvDA tr σ B (args a)) (hpre : pre a) :
    EvP (tMeth C m (SpI self args pre post) [] E ta tr) σ B (post a) := fun H1 e Q q => ho H1 e _ fun H2 e2 => ⟨p, dx, fs, rfl, e2 p _ (e p _ hp), hn, h H2 (e.trans e2) _ fun vs H3 B3 s3 hd =>
  ⟨B3, a, .ref p, vs, by rw [List.append_nil], s3.i, hs B3 s3.b, hd, hpre, fun v H4 B4 d' s4 hv hpost => q v H4 B4 d' (((Stp.refl e).grow e2).trans (s3.trans s4)) hv hpost⟩⟩
theorem ed_callI {self : α → Hp → V → Prop} {args : α → List PyData} {pre : α → Prop} {post : α → PyData → Prop} (a : α) (ho : Ev ta σ B (.ref p)) (hp : B p = some (.ins C dx fs)) (hn : fs.lookup m = none) (hs : ∀ B', Ex B B' → self a B' (.ref p)) (h : EvDA tr σ B (args a)) (hpre : pre a) (hq : ∀ d', post a d' → d' = d) :
    EvD (tMeth C m (SpI self args pre post) [] E ta tr) σ B d := (ep_callI a ho hp hn hs h hpre).one hq
/-- the start of an __init__ -/
theorem init_stp {B H0 : Hp} (i : Ex B H0) (h1 : H0 p = none) (h2 : H0 dx = none) (hne : dx ≠ p) : Stp B H0 B (upd (upd H0 dx (.own p)) p (.ins C dx [])) :=
  ((Stp.refl i).new _ h2).new _ (by rw [upd_ne hne.symm]; exact h1)
end
end Wk
/-! Dicts of naturals; a loop over a locked dict's items; list(d.items()). -/
namespace Wk
open PySem L2 Evl Wd

section
variable {β : Type}
def look (l : List (Nat × β)) (k : Nat) : Option β := (l.find? fun q => decide (q.1 = k)).map (·.2)
def putN (l : List (Nat × β)) (k : Nat) (v : β) : List (Nat × β) := if (l.any fun q => decide (q.1 = k)) = true then l.map (fun q => if q.1 = k then (q.1, v) else q) else l ++ [(k, v)]
def dkN (f : β → V) (l : List (Nat × β)) : List (Key × V) := l.map fun q => ((Sum.inl (q.1 : Int) : Key), f q.2)
def keysN (l : List (Nat × β)) : List Nat := l.map (·.1)
variable {l : List (Nat × β)} {k : Nat} {v : β} {f : β → V}
theorem look_cons (q : Nat × β) (l : List (Nat × β)) (k : Nat) : look (q :: l) k = if q.1 = k then some q.2 else look l k := by
  unfold look
  rw [List.find?_cons]
  by_cases e : q.1 = k <;> simp [e]
theorem valV_dkN (f : β → V) (k : Nat) : ∀ l : List (Nat × β), valV (dkN f l) (Sum.inl (k : Int) : Key) = (look l k).map f
  | [] => rfl
  | q :: r => by
    rw [look_cons]
    show valV ((Sum.inl (q.1 : Int), f q.2) :: dkN f r) _ = _
    by_cases e : q.1 = k
    · rw [valV_pos (by show Sum.inl (q.1 : Int) = _; rw [e]), if_pos e]; rfl
    · rw [valV_neg (by intro z; have z : (q.1 : Int) = k := Sum.inl.inj z; exact e (by omega)), valV_dkN f k r, if_neg e]
theorem any_look (k : Nat) : ∀ l : List (Nat × β), (l.any fun q => decide (q.1 = k)) = (look l k).isSome
  | [] => rfl
  | q :: r => by
    rw [look_cons, List.any_cons, any_look k r]
    by_cases e : q.1 = k <;> simp [e]
theorem dkN_put (f : β → V) (l : List (Nat × β)) (k : Nat) (v : β) : putK (dkN f l) (Sum.inl (k : Int) : Key) (f v) = dkN f (putN l k v) := by
  have e1 : ((dkN f l).any fun kv => decide (kv.1 = (Sum.inl (k : Int) : Key))) = l.any fun q => decide (q.1 = k) := by
    rw [valV_any, valV_dkN, any_look]; simp
  unfold putK putN
  rw [e1]
  split
  · unfold dkN
    rw [List.map_map, List.map_map]
    refine List.map_congr_left fun q _ => ?_
    by_cases e : q.1 = k
    · simp [e]
    · have : ¬ ((Sum.inl (q.1 : Int) : Key) = Sum.inl (k : Int)) := by intro z; have z : (q.1 : Int) = k := Sum.inl.inj z; exact e (by omega)
      simp [e, this]
  · unfold dkN; rw [List.map_append]; rfl
theorem look_map (k j : Nat) (v : β) : ∀ l : List (Nat × β), look (l.map fun q => if q.1 = k then (q.1, v) else q) j = (look l j).map fun x => if j = k then v else x
  | [] => rfl
  | q :: r => by
    rw [List.map_cons, look_cons, look_cons, look_map k j v r]
    by_cases e : q.1 = k
    · rw [if_pos e]
      by_cases e2 : q.1 = j
      · simp [e2, e2.symm.trans e]
      · simp [e2]
    · rw [if_neg e]
      by_cases e2 : q.1 = j
      · have : ¬ j = k := fun z => e (e2.trans z)
        simp [e2, this]
      · simp [e2]
theorem look_append (l m : List (Nat × β)) (j : Nat) : look (l ++ m) j = (look l j).or (look m j) := by
  unfold look
  rw [List.find?_append]
  cases l.find? fun q => decide (q.1 = j) <;> simp
theorem look_put (l : List (Nat × β)) (k : Nat) (v : β) : look (putN l k v) = fset (look l) k (some v) := by
  funext j
  unfold putN fset
  split
  · rename_i h
    rw [any_look] at h
    rw [look_map]
    by_cases e : j = k
    · subst e
      obtain ⟨x, hx⟩ := Option.isSome_iff_exists.mp h
      rw [hx, if_pos rfl, Option.map_some, if_pos rfl]
    · rw [if_neg e]; cases look l j <;> simp [e]
  · rename_i h
    rw [any_look] at h
    rw [look_append, look_cons]
    by_cases e : j = k
    · subst e
      have : look l j = none := by cases q : look l j with | none => rfl | some x => rw [q] at h; simp at h
      rw [this, if_pos rfl, if_pos rfl]; rfl
    · rw [if_neg e, if_neg (Ne.symm e)]
      show (look l j).or none = _
      simp
theorem keys_put (l : List (Nat × β)) (k : Nat) (v : β) : keysN (putN l k v) = if (look l k).isSome then keysN l else keysN l ++ [k] := by
  unfold putN keysN
  rw [any_look]
  split
  · rw [List.map_map]
    refine List.map_congr_left fun q _ => ?_
    by_cases e : q.1 = k <;> simp [e]
  · rw [List.map_append]; rfl
theorem mem_keys : ∀ {l : List (Nat × β)} {k : Nat}, k ∈ keysN l ↔ (look l k).isSome = true
  | [], _ => by simp [keysN, look]
  | q :: r, k => by
    have ih := mem_keys (l := r) (k := k)
    rw [look_cons]
    show k ∈ q.1 :: keysN r ↔ _
    rw [List.mem_cons, ih]
    by_cases e : q.1 = k
    · simp [e]
    · simp [e, Ne.symm e]
theorem nodup_put (h : (keysN l).Nodup) : (keysN (putN l k v)).Nodup := by
  rw [keys_put]
  split
  · exact h
  · rename_i q
    refine List.nodup_append.mpr ⟨h, List.pairwise_singleton _ _, fun x hx y hy => ?_⟩
    obtain rfl : y = k := List.mem_singleton.mp hy
    intro z; subst z
    exact q (mem_keys.mp hx)
theorem look_mem : ∀ {l : List (Nat × β)} {i k : Nat} {v : β}, (keysN l).Nodup → l[i]? = some (k, v) → look l k = some v
  | [], _, _, _, _, h => by simp at h
  | q :: r, 0, k, v, _, h => by
    have h : q = (k, v) := Option.some.inj h
    subst h
    rw [look_cons, if_pos rfl]
  | q :: r, i + 1, k, v, nd, h => by
    have h : r[i]? = some (k, v) := by simpa using h
    obtain ⟨h1, h2⟩ := List.nodup_cons.mp nd
    rw [look_cons, if_neg]
    · exact look_mem h2 h
    · intro z
      exact h1 (List.mem_map.mpr ⟨(k, v), List.mem_of_getElem? h, z.symm⟩)
theorem look_idx : ∀ {l : List (Nat × β)} {k : Nat} {v : β}, look l k = some v → ∃ i : Nat, l[i]? = some (k, v)
  | [], _, _, h => nomatch h
  | q :: r, k, v, h => by
    rw [look_cons] at h
    by_cases e : q.1 = k
    · rw [if_pos e] at h
      refine ⟨0, ?_⟩
      show some q = _
      rw [← Option.some.inj h, ← e]
    · rw [if_neg e] at h
      obtain ⟨i, hi⟩ := look_idx h
      exact ⟨i + 1, by simpa using hi⟩
theorem dkN_len (f : β → V) (l : List (Nat × β)) : (dkN f l).length = l.length := List.length_map ..
theorem keys_len (l : List (Nat × β)) : (keysN l).length = l.length := List.length_map ..
theorem len_keys {b : Nat} (nd : (keysN l).Nodup) (h : ∀ k v, look l k = some v → k < b) : l.length ≤ b := by
  rw [← keys_len]
  refine nodup_small b _ nd fun k hk => ?_
  obtain ⟨v, hv⟩ := Option.isSome_iff_exists.mp (mem_keys.mp hk)
  exact h k v hv
end
section
variable {K : PySem.W.Frag} {σ : L2.St} {B H : Hp} {td : TE} {d : Addr} {kv : List (Key × V)} {D : Ends} {tu tz : TS} {j1 j2 : Nat}
/-- for k, v in d.items(), d locked -/
theorem s_forI (hd : H d = some (.dK kv)) (ht : ∀ od, Ev td σ (upd H d (.frz od (.dK kv))) (.ref d))
    (k : ∀ od H1, Ex (upd H d (.frz od (.dK kv))) H1 → ∃ Pv : Nat → L2.St → Hp → Prop, Pv 0 σ H1 ∧ (∀ i σ' H', Pv i σ' H' → H' d = some (.frz od (.dK kv))) ∧
      (∀ (i : Nat) y v σ' H' H'', kv[i]? = some (y, v) → Pv i σ' H' → Ex H' H'' → tu ⟨Pv (i + 1), fun v H' => H' d = some (.frz od (.dK kv)) ∧ D.rt v (upd H' d (.dK kv)), fun σ' H' => H' d = some (.frz od (.dK kv)) ∧ D.nx σ' (upd H' d (.dK kv)), Pv (i + 1)⟩ ((σ'.set j1 (some (kV y))).set j2 (some v)) H'') ∧
      (∀ σ' H', Pv kv.length σ' H' → D.nx σ' (upd H' d (.dK kv)))) :
    tLock (tFor (iItems td) (gTup K 2 (gCons (gName j1) (gCons (gName j2) gNil))) tu) D σ H := ⟨d, .dK kv, hd, trivial, fun od => ht od _ (Ex.refl _) _ fun H1 e => by
  obtain ⟨Pv, h0, hG, hs, hdn⟩ := k od H1 e
  refine ⟨d, od, kv, rfl, e d _ upd_same, for_it walk_items Pv h0 (fun i σ' H' _ p => hG i σ' H' p) (fun i x σ' H' H'' hi p y => ?_) (fun σ' H' p => ⟨hG _ σ' H' p, hdn σ' H' p⟩)⟩
  obtain ⟨T, x, y, rfl, hT, rfl, e1, e2⟩ := y
  obtain ⟨⟨a, v⟩, hav, rfl⟩ := Option.map_eq_some_iff.mp e1
  have e2 : kv[i]?.map Prod.snd = some y := e2
  rw [hav] at e2
  cases (Option.some.inj e2)
  exact ⟨T, [kV a, v], rfl, st_of upd_same, rfl, _, [v], rfl, v, [], rfl, rfl, hs i a v σ' H' _ hav p (Ex.new hT)⟩⟩
theorem q_forI (hd : H d = some (.dK kv)) (ht : ∀ od, Ev td σ (upd H d (.frz od (.dK kv))) (.ref d))
    (k : ∀ od H1, Ex (upd H d (.frz od (.dK kv))) H1 → ∃ Pv : Nat → L2.St → Hp → Prop, Pv 0 σ H1 ∧ (∀ i σ' H', Pv i σ' H' → H' d = some (.frz od (.dK kv))) ∧
      (∀ (i : Nat) y v σ' H' H'', kv[i]? = some (y, v) → Pv i σ' H' → Ex H' H'' → tu ⟨Pv (i + 1), fun v H' => H' d = some (.frz od (.dK kv)) ∧ D.rt v (upd H' d (.dK kv)), fun σ' H' => H' d = some (.frz od (.dK kv)) ∧ tz D σ' (upd H' d (.dK kv)), Pv (i + 1)⟩ ((σ'.set j1 (some (kV y))).set j2 (some v)) H'') ∧
      (∀ σ' H', Pv kv.length σ' H' → tz D σ' (upd H' d (.dK kv)))) :
    tSeq (tLock (tFor (iItems td) (gTup K 2 (gCons (gName j1) (gCons (gName j2) gNil))) tu)) tz D σ H := s_forI (D := { D with nx := tz D }) hd ht k
/-- some of our own objects are data from now on -/
theorem Stp.gives {B H B' H' : Hp} (s : Stp B H B' H') (P : Addr → Prop) [DecidablePred P] (h : ∀ a, P a → H a = none) (hb : ∀ a, P a → B' a = none) : Stp B H (fun a => if P a then H' a else B' a) H' ∧ Ex B' (fun a => if P a then H' a else B' a) := by
  have e : Ex B' (fun a => if P a then H' a else B' a) := fun a u q => by
    show (if P a then H' a else B' a) = some u
    rw [if_neg fun z => by rw [hb a z] at q; cases q]; exact q
  refine ⟨⟨s.h, s.b.trans e, fun a u q => ?_, fun a u q => ?_⟩, e⟩
  · have q : (if P a then H' a else B' a) = some u := q
    by_cases z : P a
    · rw [if_pos z] at q; exact q
    · rw [if_neg z] at q; exact s.i a u q
  · show (if P a then H' a else B' a) = B a
    rw [if_neg fun z => by rw [h a z] at q; cases q]; exact s.n a u q
theorem DtL.of {H : Hp} : ∀ {ds : List PyData} {xs : List V}, ds.length = xs.length → (∀ (i : Nat) d x, ds[i]? = some d → xs[i]? = some x → Dt H d x) → DtL H ds xs
  | [], [], _, _ => rfl
  | [], _ :: _, h, _ => by simp at h
  | _ :: _, [], h, _ => by simp at h
  | d :: ds, x :: xs, h, q => ⟨x, xs, rfl, q 0 d x rfl rfl, DtL.of (by simpa using h) fun i d' x' h1 h2 => q (i + 1) d' x' (by simpa using h1) (by simpa using h2)⟩
/-- list(d.items()) -/
theorem ed_items {te : TE} {l : List (Nat × Int)} (ho : Ev te σ B (.ref d)) (hd : B d = some (.dK (dkN V.int l))) : EvD (LiI.tListItems te) σ B (.list (l.map fun q => .tuple [dN q.1, .int q.2])) := fun H1 e Q q =>
  ho H1 e _ fun H2 e2 => ⟨d, _, rfl, e2 d _ (e d _ hd), fun H' p ts hk hp hts hpt hpl hpr => by
    have S := (Stp.refl e).grow (e2.trans hk)
    have hn : ∀ a, (a = p ∨ a ∈ ts) → H1 a = none := fun a ha => by
      rcases ha with rfl | ha
      · exact fresh_back e2 hp
      · exact fresh_back e2 (hts a ha)
    obtain ⟨S', eS⟩ := S.gives (fun a => a = p ∨ a ∈ ts) hn fun a ha => fresh_back e (hn a ha)
    have hlen : ts.length = (dkN V.int l).length := Paired.length hpr
    refine q _ H' _ S' ⟨p, ts.map V.ref, rfl, ?_, DtL.of (by rw [List.length_map, List.length_map, hlen, dkN_len]) fun i d' x hi hx => ?_⟩
    · show (if p = p ∨ p ∈ ts then H' p else B p) = _
      rw [if_pos (Or.inl rfl)]; exact hpl
    · rw [List.getElem?_map] at hi hx
      obtain ⟨u, hu, rfl⟩ := Option.map_eq_some_iff.mp hi
      obtain ⟨t, ht, rfl⟩ := Option.map_eq_some_iff.mp hx
      obtain ⟨y, hy, hty⟩ := LiI.paired_get hpr ht
      unfold dkN at hy
      rw [List.getElem?_map, hu] at hy
      cases (Option.some.inj hy)
      refine ⟨t, [nV u.1, .int u.2], rfl, ?_, .cons rfl (.cons rfl .nil)⟩
      show (if t = p ∨ t ∈ ts then H' t else B t) = _
      rw [if_pos (Or.inr (List.mem_of_getElem? ht))]; exact hty⟩
end
end Wk
namespace Wk
open PySem L2 Evl Wd

def sp_is_whole : Sp := SpD (fun ds => ∃ i, ds = [.int i]) (fun _ r => r = .bool true)
def sp_need_row : Sp := SpD (fun ds => ∃ s xs m, ds = [.str s, .list xs, .int m] ∧ 1 ≤ xs.length ∧ (xs.length : Int) ≤ m) (fun _ r => r = .none)
def sp_is_many : Sp := SpD (fun ds => ∃ i, ds = [.int i] ∧ 0 ≤ i ∧ i ≤ 7) (fun _ r => r = .bool true)
def sp_is_thing : Sp := SpD (fun ds => ∃ i m, ds = [.int i, .int m] ∧ 0 ≤ i ∧ i < m) (fun _ r => r = .bool true)
def sp_are_ranks : Sp := SpD (fun ds => ∃ rs m, ds = [dRs rs, .int ((m : Nat) : Int)] ∧ RanksOk m rs ∧ m ≤ 6) (fun _ r => r = .bool true)
section
variable {P : Program} {w : World} {K : PySem.W.Frag} {mg : Str → Option Value} {base : Heap} {CS CR CP aO : Addr}
abbrev n_is_whole : List Str := ["thing"]
theorem sc_is_whole : FnScope n_is_whole ["thing"] (defScope s_is_whole) := ⟨rfl, rfl, rfl, by decide +kernel, rfl, by decide +kernel, by decide +kernel⟩
theorem ok_is_whole (T : Txt K mg CS CR CP aO)  : Callable P w K mg base 1 "is_whole" ["thing"] sp_is_whole := by
  have sc := sc_is_whole
  refine mkFn T.f_is_whole sc (fun _ _ _ _ _ _ us hl => match us, hl with | [_], _ => rfl) (fun vs H Q E h => ?_) (fun f cdv A outer s H vs Q E hr h => ?_)
  · obtain ⟨B, ds, i0, hd, ⟨i, rfl⟩, k⟩ := h; exact hd.length
  refine ⟨_, (pss_one (ps_ret (pe_and (pe_callB (id := "isinstance") call_isi (by rfl) T.b_isinstance (by decide +kernel) (pa_cons (pv 0) (pa_cons (pe_bltn (v := .ty "int") (u := .type "int") (by rfl) T.b_int (by decide +kernel) rfl) pa_nil))) (pe_one (pe_not (pe_callB (id := "isinstance") call_isi (by rfl) T.b_isinstance (by decide +kernel) (pa_cons (pv 0) (pa_cons (pe_bltn (v := .ty "bool") (u := .type "bool") (by rfl) T.b_bool (by decide +kernel) rfl) pa_nil)))))))), ?_⟩
  obtain ⟨B, ds, i0, hd, ⟨i, rfl⟩, k⟩ := h
  obtain ⟨x, rfl, h_thing⟩ := hd.one
  exact s_retD i0 (ed_andV (ed_isi (ed_var rfl h_thing) kt_int) fun _ => ed_notV (ed_isi (ed_var rfl h_thing) kt_int_bool)) fun v B2 H2 s hv => k v H2 B2 _ s hv rfl

abbrev n_need_row : List Str := ["part", "thing", "most"]
theorem sc_need_row : FnScope n_need_row ["part", "thing", "most"] (defScope s_need_row) := ⟨rfl, rfl, rfl, by decide +kernel, rfl, by decide +kernel, by decide +kernel⟩
theorem ok_need_row (T : Txt K mg CS CR CP aO)  : Callable P w K mg base 1 "need_row" ["part", "thing", "most"] sp_need_row := by
  have sc := sc_need_row
  refine mkFn T.f_need_row sc (fun _ _ _ _ _ _ us hl => match us, hl with | [_, _, _], _ => rfl) (fun vs H Q E h => ?_) (fun f cdv A outer s H vs Q E hr h => ?_)
  · obtain ⟨B, ds, i0, hd, ⟨s, xs, m, rfl, _⟩, k⟩ := h; exact hd.length
  refine ⟨_, (pss_one (ps_if (PW.pt (pw_or (pt_not (pt_val (pe_callB (id := "isinstance") call_isi (by rfl) T.b_isinstance (by decide +kernel) (pa_cons (pv 1) (pa_cons (pe_bltn (v := .ty "list") (u := .type "list") (by rfl) T.b_list (by decide +kernel) rfl) pa_nil))))) (pw_or1 (pt_not (pt_chain op_le op_le pe_int (pe_callB (id := "len") call_lenS (by rfl) T.b_len (by decide +kernel) (pa_cons (pv 1) pa_nil)) (pv 2))))))
     (pss_one ps_never)
     pss_nil)), ?_⟩
  obtain ⟨B, ds, i0, hd, ⟨s, xs, m, rfl, h1, h2⟩, k⟩ := h
  obtain ⟨x, y, z, rfl, h_part, h_thing, h_most⟩ := hd.three
  refine s_no i0 (et_or (et_not (et_DB (ed_isi (ed_var rfl h_thing) kt_list))) fun _ => et_not (et_D (ed_chain ed_int (ed_len (ed_var rfl h_thing)) (ed_var rfl h_most)))) ?_ fun H1 e => ?_
  · simp; omega
  · exact k .non H1 B .none ((Stp.refl i0).grow e) rfl rfl

abbrev n_is_many : List Str := ["thing"]
theorem sc_is_many : FnScope n_is_many ["thing"] (defScope s_is_many) := ⟨rfl, rfl, rfl, by decide +kernel, rfl, by decide +kernel, by decide +kernel⟩
theorem ok_is_many (T : Txt K mg CS CR CP aO) (c_is_whole : Callable P w K mg base 1 "is_whole" ["thing"] sp_is_whole) : Callable P w K mg base 2 "is_many" ["thing"] sp_is_many := by
  have sc := sc_is_many
  refine mkFn T.f_is_many sc (fun _ _ _ _ _ _ us hl => match us, hl with | [_], _ => rfl) (fun vs H Q E h => ?_) (fun f cdv A outer s H vs Q E hr h => ?_)
  · obtain ⟨B, ds, i0, hd, ⟨i, rfl, _⟩, k⟩ := h; exact hd.length
  refine ⟨_, (pss_one (ps_ret (pe_and (pe_fn c_is_whole (hr.mono (by decide)) (by rfl) (pa_cons (pv 0) pa_nil)) (pe_one (pe_chain op_le op_le pe_int (pv 0) (T.c_MOST_COPIES (by rfl))))))), ?_⟩
  obtain ⟨B, ds, i0, hd, ⟨i, rfl, h1, h2⟩, k⟩ := h
  obtain ⟨x, rfl, h_thing⟩ := hd.one
  refine s_retD i0 ((ed_andV (ed_call (ea_consD (ed_var rfl h_thing) ea_nilD) ⟨_, rfl⟩ fun _ z => z) fun _ => ed_chain ed_int (ed_var rfl h_thing) ed_int).eq (d2 := .bool true) (by simp [h1, h2])) fun v B2 H2 s hv => k v H2 B2 _ s hv rfl

abbrev n_is_thing : List Str := ["thing", "many"]
theorem sc_is_thing : FnScope n_is_thing ["thing", "many"] (defScope s_is_thing) := ⟨rfl, rfl, rfl, by decide +kernel, rfl, by decide +kernel, by decide +kernel⟩
theorem ok_is_thing (T : Txt K mg CS CR CP aO) (c_is_whole : Callable P w K mg base 1 "is_whole" ["thing"] sp_is_whole) : Callable P w K mg base 2 "is_thing" ["thing", "many"] sp_is_thing := by
  have sc := sc_is_thing
  refine mkFn T.f_is_thing sc (fun _ _ _ _ _ _ us hl => match us, hl with | [_, _], _ => rfl) (fun vs H Q E h => ?_) (fun f cdv A outer s H vs Q E hr h => ?_)
  · obtain ⟨B, ds, i0, hd, ⟨i, m, rfl, _⟩, k⟩ := h; exact hd.length
  refine ⟨_, (pss_one (ps_ret (pe_and (pe_fn c_is_whole (hr.mono (by decide)) (by rfl) (pa_cons (pv 0) pa_nil)) (pe_one (pe_chain op_le op_lt pe_int (pv 0) (pv 1)))))), ?_⟩
  obtain ⟨B, ds, i0, hd, ⟨i, m, rfl, h1, h2⟩, k⟩ := h
  obtain ⟨x, y, rfl, h_thing, h_many⟩ := hd.two
  refine s_retD i0 ((ed_andV (ed_call (ea_consD (ed_var rfl h_thing) ea_nilD) ⟨_, rfl⟩ fun _ z => z) fun _ => ed_chain ed_int (ed_var rfl h_thing) (ed_var rfl h_many)).eq (d2 := .bool true) (by simp [h1, h2])) fun v B2 H2 s hv => k v H2 B2 _ s hv rfl

abbrev n_are_ranks : List Str := ["thing", "many", "seen", "rank", "one"]
theorem sc_are_ranks : FnScope n_are_ranks ["thing", "many"] (defScope s_are_ranks) := ⟨rfl, rfl, rfl, by decide +kernel, rfl, by decide +kernel, by decide +kernel⟩
theorem ok_are_ranks (T : Txt K mg CS CR CP aO) (c_is_thing : Callable P w K mg base 2 "is_thing" ["thing", "many"] sp_is_thing) : Callable P w K mg base 3 "are_ranks" ["thing", "many"] sp_are_ranks := by
  have sc := sc_are_ranks
  refine mkFn T.f_are_ranks sc (fun _ _ _ _ _ _ us hl => match us, hl with | [_, _], _ => rfl) (fun vs H Q E h => ?_) (fun f cdv A outer s H vs Q E hr h => ?_)
  · obtain ⟨B, ds, i0, hd, ⟨rs, m, rfl, _⟩, k⟩ := h; exact hd.length
  refine ⟨_, (pss_cons (ps_if (PW.pt (pw_or (pt_not (pt_val (pe_callB (id := "isinstance") call_isi (by rfl) T.b_isinstance (by decide +kernel) (pa_cons (pv 0) (pa_cons (pe_bltn (v := .ty "list") (u := .type "list") (by rfl) T.b_list (by decide +kernel) rfl) pa_nil))))) (pw_or1 (pt_cmpR op_gt (pe_callB (id := "len") call_lenS (by rfl) T.b_len (by decide +kernel) (pa_cons (pv 0) pa_nil)) (T.c_MOST_RANKS (by rfl)) (by rfl)))))
     (pss_one (ps_ret pe_bl))
     pss_nil)
     (pss_cons (ps_set (i := 2) sc.nd rfl (Or.inl rfl) (pe_lst pa_nil))
     (pss_cons (ps_for PassesOwn.never rfl (pi_list (pv 0)) (pg_name (i := 3) sc.nd rfl (Or.inl rfl))
     (pss_cons (ps_if (PW.pt (pw_or (pt_not (pt_val (pe_callB (id := "isinstance") call_isi (by rfl) T.b_isinstance (by decide +kernel) (pa_cons (pv 3) (pa_cons (pe_bltn (v := .ty "list") (u := .type "list") (by rfl) T.b_list (by decide +kernel) rfl) pa_nil))))) (pw_or1 (pt_cmpR (op_eqD hr.units) (pv 3) (pe_lst pa_nil) (by rfl)))))
     (pss_one (ps_ret pe_bl))
     pss_nil)
     (pss_one (ps_for PassesOwn.never rfl (pi_list (pv 3)) (pg_name (i := 4) sc.nd rfl (Or.inl rfl))
     (pss_cons (ps_if (PW.pt (pw_or (pt_not (pt_val (pe_fn c_is_thing (hr.mono (by decide)) (by rfl) (pa_cons (pv 4) (pa_cons (pv 1) pa_nil))))) (pw_or1 (pt_cmpR op_in_seq (pv 4) (pv 2) (by rfl)))))
     (pss_one (ps_ret pe_bl))
     pss_nil)
     (pss_one (ps_expr (pe_bm PySem.F.plainAttrs_list PySem.F.slot_list_append PySem.F.type_list_append mt_append (pv 2) (pa_cons (pv 4) pa_nil)))))))))
     (pss_one (ps_ret pe_bl))))), ?_⟩
  obtain ⟨B, ds, i0, hd, ⟨rs, m, rfl, ok, m6⟩, k⟩ := h
  obtain ⟨x, y, rfl, h_thing, h_many⟩ := hd.two
  have S0 := Stp.refl i0
  refine q_no i0 (et_or (et_not (et_DB (ed_isi (ed_var rfl h_thing) kt_list))) fun _ => et_D (ed_cmp (ed_len (ed_var rfl h_thing)) ed_int)) ?_ fun H1 e1 => ?_
  · have := ok.len; simp; omega
  have S1 := S0.grow e1
  refine q_new el_new fun l H2 hl e2 hl2 => ?_
  have S2 := S1.grow e2
  have hBl : B l = none := fresh_back S1.i hl
  have hHl : H l = none := fresh_back S1.h hl
  refine q_forL S2.i (ed_var rfl h_thing) fun B3 H3 s3 => ⟨fun i σ' H' => ∃ a b B', σ' = [some x, some y, some (.ref l), a, b] ∧ Stp B H B' H' ∧ Ex B3 B' ∧ B' l = none ∧ H' l = some (.lst (((rs.take i).flatten).map nV)), ⟨none, none, B3, rfl, S2.trans s3, Ex.refl _, s3.free hl2 hBl, s3.h l _ hl2⟩, fun i σ' H' ⟨_, _, B', _, s, e, _⟩ => e.trans s.i, fun i d r σ' H' hi hr p => ?_, fun σ' H' ⟨a, b, B', hσ, s, _⟩ => ?_⟩
  · obtain ⟨a, b, B4, rfl, S3, e34, hB3, hl3⟩ := p
    have hr := hr.mono e34
    rw [List.getElem?_map] at hi
    obtain ⟨rk, hrk, rfl⟩ := Option.map_eq_some_iff.mp hi
    have hmem : rk ∈ rs := List.mem_of_getElem? hrk
    have htk : rs.take (i + 1) = rs.take i ++ [rk] := by rw [List.take_add_one, hrk]; rfl
    refine q_no S3.i (et_or (et_not (et_DB (ed_isi (ed_var rfl hr) kt_list))) fun _ => et_D (ed_eqL (b := false) (ed_var rfl hr) (ed_lst ea_nilD (by decide)) (flat_dN _) rfl (by have := shaped_ints (rk.map fun n : Nat => (n : Int)); rw [← dNs_ints] at this; exact this) rfl (by
      have := ok.ne rk hmem
      cases rk with | nil => exact absurd rfl this | cons q qs => rfl))) rfl fun H4 e4 => ?_
    have S4 := S3.grow e4
    refine s_forL S4.i (ed_var rfl hr) fun B5 H5 s5 => ⟨fun j σ' H' => ∃ b, σ' = [some x, some y, some (.ref l), some r, b] ∧ Stp B H B5 H' ∧ H' l = some (.lst (((rs.take i).flatten ++ rk.take j).map nV)), ⟨b, rfl, S4.trans s5, ?_⟩, fun i σ' H' ⟨_, _, s, _⟩ => s.i, fun j d z σ' H' hj hz p => ?_, fun σ' H' ⟨b, hσ, s, hll⟩ => ?_⟩
    · rw [List.take_zero, List.append_nil]; exact s5.h l _ (e4 l _ hl3)
    · obtain ⟨b, rfl, S5, hl5⟩ := p
      have hB5 : B5 l = none := s5.free (e4 l _ hl3) hB3
      rw [List.getElem?_map] at hj
      obtain ⟨t, ht, rfl⟩ := Option.map_eq_some_iff.mp hj
      have htm : t ∈ rk := List.mem_of_getElem? ht
      have htk2 : rk.take (j + 1) = rk.take j ++ [t] := by rw [List.take_add_one, ht]; rfl
      have hnew : t ∉ (rs.take i).flatten ++ rk.take j := by
        have nd := ok.nd
        have e1 : rs.flatten = ((rs.take i).flatten ++ rk.take j) ++ ([t] ++ (rk.drop (j + 1) ++ (rs.drop (i + 1)).flatten)) := by
          have q1 : rs = rs.take i ++ rk :: rs.drop (i + 1) := by
            conv => lhs; rw [← List.take_append_drop i rs]
            rw [List.drop_eq_getElem_cons (List.getElem?_eq_some_iff.mp hrk).1, (List.getElem?_eq_some_iff.mp hrk).2]
          have q2 : rk = rk.take j ++ t :: rk.drop (j + 1) := by
            conv => lhs; rw [← List.take_append_drop j rk]
            rw [List.drop_eq_getElem_cons (List.getElem?_eq_some_iff.mp ht).1, (List.getElem?_eq_some_iff.mp ht).2]
          conv => lhs; rw [q1, List.flatten_append, List.flatten_cons, q2]
          simp
        rw [e1] at nd
        intro hin
        exact (List.nodup_append.mp nd).2.2 t hin t (by simp) rfl
      have iP := Ex.plus S5.i hl5
      have eP : Ex B5 (upd B5 l (.lst (((rs.take i).flatten ++ rk.take j).map nV))) := Ex.new hB5
      refine q_no iP (et_or (et_not (et_DB (ed_call (ea_consD (ed_var rfl (hz.mono eP)) (ea_consD (ed_var rfl ((h_many.mono S5.b).mono eP)) ea_nilD)) ⟨_, _, rfl, Int.natCast_nonneg _, by have := ok.lt t (List.mem_flatten.mpr ⟨rk, hmem, htm⟩); omega⟩ fun _ z => z))) fun _ => et_D (ed_in (b := false) (ed_var rfl (hz.mono eP)) (ed_var rfl (Dt.ofNats upd_same)) rfl (flat_dN _) (by
        show inD (dN t) _ = false
        rw [mem_inV]; exact decide_eq_false hnew))) rfl fun H6 e6 => ?_
      have S6 := S5.grow e6
      refine s_app S6.i (e6 l _ hl5) (ev_var rfl) (ed_var rfl hz) ?_ fun yv B7 H7 s7 hy => ?_
      · have : (((rs.take i).flatten ++ rk.take j).map nV).length ≤ rs.flatten.length := by
          rw [List.length_map, List.length_append]
          have e1 : rs.flatten = (rs.take i).flatten ++ (rk ++ (rs.drop (i + 1)).flatten) := by
            conv => lhs; rw [← List.take_append_drop i rs, List.flatten_append]
            rw [List.drop_eq_getElem_cons (List.getElem?_eq_some_iff.mp hrk).1, (List.getElem?_eq_some_iff.mp hrk).2, List.flatten_cons]
          have e2 : (rk.take j).length ≤ rk.length := by rw [List.length_take]; omega
          rw [e1, List.length_append, List.length_append]
          omega
        have := ok.small
        omega
      · cases (show yv = _ from hy)
        refine ⟨_, rfl, (S6.grow s7.h).mut _ hHl hB5, ?_⟩
        rw [upd_same, htk2]
        simp [nV]
    · have hB5 : B5 l = none := s5.free (e4 l _ hl3) hB3
      refine ⟨some r, b, B5, hσ, s, e34.trans s5.b, hB5, ?_⟩
      rw [hll, htk, List.length_map, List.take_length, List.flatten_append]
      simp
  · refine s_retD s.i ed_bl fun v B4 H4 s4 hv => k v H4 B4 _ (s.trans s4) hv rfl

end
end Wk
namespace Wk
open PySem L2 Evl Wd

def sp_look_at_wishes : Sp := SpA (fun W : Wish => [dW W]) (fun W => W.Ok) (fun _ r => r = .none)
def sp_longest : Sp := SpA (fun W : Wish => [dW W]) (fun W => W.Ok) (fun W r => r = dN W.longest)
def sp_rank_among : Sp := SpA (fun x : List (List Nat) × Nat => [dRs x.1, dN x.2]) (fun _ => True) (fun x r => r = dN (rankIn x.1 x.2))
def sp_rank_got : Sp := SpA (fun x : List (List Nat) × Option Nat => [dRs x.1, dO x.2]) (fun _ => True) (fun x r => r = dN (rankO x.1 x.2))
def sp__law_rank : Sp := SpA (fun x : Wish × Nat × Nat => [dW x.1, dN x.2.1, dN x.2.2]) (fun x => x.2.1 < x.1.n) (fun x r => r = dN (rankIn (x.1.ranks x.2.1) x.2.2))
section
variable {P : Program} {w : World} {K : PySem.W.Frag} {mg : Str → Option Value} {base : Heap} {CS CR CP aO : Addr}
abbrev n_look_at_wishes : List Str := ["thing", "copies", "lists", "number", "many", "ranks"]
theorem sc_look_at_wishes : FnScope n_look_at_wishes ["thing"] (defScope s_look_at_wishes) := ⟨rfl, rfl, rfl, by decide +kernel, rfl, by decide +kernel, by decide +kernel⟩
theorem ok_look_at_wishes (T : Txt K mg CS CR CP aO) (c_need_row : Callable P w K mg base 1 "need_row" ["part", "thing", "most"] sp_need_row) (c_is_many : Callable P w K mg base 2 "is_many" ["thing"] sp_is_many) (c_are_ranks : Callable P w K mg base 3 "are_ranks" ["thing", "many"] sp_are_ranks) : Callable P w K mg base 4 "look_at_wishes" ["thing"] sp_look_at_wishes := by
  have sc := sc_look_at_wishes
  refine mkFn T.f_look_at_wishes sc (fun _ _ _ _ _ _ us hl => match us, hl with | [_], _ => rfl) (fun vs H Q E h => ?_) (fun f cdv A outer s H vs Q E hr h => ?_)
  · obtain ⟨B, W, i0, hd, _⟩ := h; exact hd.length
  refine ⟨_, (pss_cons (ps_if (PW.pt (pw_or (pt_not (pt_val (pe_callB (id := "isinstance") call_isi (by rfl) T.b_isinstance (by decide +kernel) (pa_cons (pv 0) (pa_cons (pe_bltn (v := .ty "tuple") (u := .type "tuple") (by rfl) T.b_tuple (by decide +kernel) rfl) pa_nil))))) (pw_or1 (pt_cmpR op_ne (pe_callB (id := "len") call_lenS (by rfl) T.b_len (by decide +kernel) (pa_cons (pv 0) pa_nil)) pe_int (by rfl)))))
     (pss_one ps_never)
     pss_nil)
     (pss_cons (ps_asg (pv 0) (pg_tup rfl (pgs_cons (pg_name (i := 1) sc.nd rfl (Or.inl rfl)) (pgs_cons (pg_name (i := 2) sc.nd rfl (Or.inl rfl)) pgs_nil))))
     (pss_cons (ps_expr (pe_fn c_need_row (hr.mono (by decide)) (by rfl) (pa_cons pe_str (pa_cons (pv 1) (pa_cons (T.c_MOST_THINGS (by rfl)) pa_nil)))))
     (pss_cons (ps_for PassesOwn.never rfl (pi_enum (by rfl) T.b_enumerate (pa_cons (pv 1) pa_nil)) (pg_tup rfl (pgs_cons (pg_name (i := 3) sc.nd rfl (Or.inl rfl)) (pgs_cons (pg_name (i := 4) sc.nd rfl (Or.inl rfl)) pgs_nil)))
     (pss_one (ps_if (pt_not (pt_val (pe_fn c_is_many (hr.mono (by decide)) (by rfl) (pa_cons (pv 4) pa_nil))))
     (pss_one ps_never)
     pss_nil)))
     (pss_cons (ps_expr (pe_fn c_need_row (hr.mono (by decide)) (by rfl) (pa_cons pe_str (pa_cons (pv 2) (pa_cons (T.c_MOST_ASKERS (by rfl)) pa_nil)))))
     (pss_one (ps_for PassesOwn.never rfl (pi_enum (by rfl) T.b_enumerate (pa_cons (pv 2) pa_nil)) (pg_tup rfl (pgs_cons (pg_name (i := 3) sc.nd rfl (Or.inl rfl)) (pgs_cons (pg_name (i := 5) sc.nd rfl (Or.inl rfl)) pgs_nil)))
     (pss_one (ps_if (pt_not (pt_val (pe_fn c_are_ranks (hr.mono (by decide)) (by rfl) (pa_cons (pv 5) (pa_cons (pe_callB (id := "len") call_lenS (by rfl) T.b_len (by decide +kernel) (pa_cons (pv 1) pa_nil)) pa_nil)))))
     (pss_one ps_never)
     pss_nil))))))))), ?_⟩
  obtain ⟨B, W, i0, hd, ok, k⟩ := h
  obtain ⟨x, rfl, h_thing⟩ := hd.one
  have S0 := Stp.refl i0
  refine q_no i0 (et_or (et_not (et_DB (ed_isi (ed_var rfl h_thing) kt_tuple))) fun _ => et_D (ed_ne (ed_lenT (ed_var rfl h_thing)) ed_int rfl rfl rfl rfl)) rfl fun H1 e1 => ?_
  have S1 := S0.grow e1
  refine q_asgT2 S1.i (ed_var rfl h_thing) fun v w B2 H2 s2 h_copies h_lists => ?_
  have S2 := S1.trans s2
  refine q_dropD S2.i (ed_call (ea_consD ed_str (ea_consD (ed_var rfl h_copies) (ea_consD ed_int ea_nilD))) ⟨_, _, _, rfl, by rw [List.length_map]; exact ok.m1, by rw [List.length_map]; have := ok.m6; omega⟩ fun _ z => z) fun B3 H3 s3 => ?_
  have S3 := S2.trans s3
  refine q_forE S3.i (ed_var rfl (h_copies.mono s3.b)) fun B4 H4 s4 => ⟨fun i σ' H' => ∃ a b, σ' = [some x, some v, some w, a, b, none] ∧ Stp B H B4 H', ⟨none, none, rfl, S3.trans s4⟩, fun i σ' H' ⟨_, _, _, s⟩ => s.i, fun i d y σ' H' H'' hi hy p e => ?_, fun σ' H' ⟨a, b, hσ, S4⟩ => ?_⟩
  · obtain ⟨a, b, rfl, S4⟩ := p
    rw [List.getElem?_map] at hi
    obtain ⟨c, hc, rfl⟩ := Option.map_eq_some_iff.mp hi
    have S5 := S4.grow e
    refine s_no S5.i (et_not (et_DB (ed_call (ea_consD (ed_var rfl hy) ea_nilD) ⟨_, rfl, Int.natCast_nonneg _, by have := ok.c7 c (List.mem_of_getElem? hc); omega⟩ fun _ z => z))) rfl fun H6 e6 => ?_
    exact ⟨_, _, rfl, S5.grow e6⟩
  · subst hσ
    have h_copies := h_copies.mono (s3.b.trans s4.b)
    have h_lists := h_lists.mono (s3.b.trans s4.b)
    refine q_dropD S4.i (ed_call (ea_consD ed_str (ea_consD (ed_var rfl h_lists) (ea_consD ed_int ea_nilD))) ⟨_, _, _, rfl, by rw [List.length_map]; exact ok.n1, by rw [List.length_map]; have := ok.n7; omega⟩ fun _ z => z) fun B5 H5 s5 => ?_
    have S5 := S4.trans s5
    refine s_forE S5.i (ed_var rfl (h_lists.mono s5.b)) fun B6 H6 s6 => ⟨fun i σ' H' => ∃ a b c, σ' = [some x, some v, some w, a, b, c] ∧ Stp B H B6 H', ⟨a, b, none, rfl, S5.trans s6⟩, fun i σ' H' ⟨_, _, _, _, s⟩ => s.i, fun i d y σ' H' H'' hi hy p e => ?_, fun σ' H' ⟨a, b, c, hσ, S6⟩ => k .non H' B6 .none S6 rfl rfl⟩
    obtain ⟨a, b, c, rfl, S6⟩ := p
    rw [List.getElem?_map] at hi
    obtain ⟨rs, hrs, rfl⟩ := Option.map_eq_some_iff.mp hi
    have S7 := S6.grow e
    refine s_no S7.i (et_not (et_DB (ed_call (ea_consD (ed_var rfl hy) (ea_consD ((ed_len (ed_var rfl (h_copies.mono (s5.b.trans s6.b)))).eq (d2 := .int ((W.copies.length : Nat) : Int)) (by rw [List.length_map])) ea_nilD)) ⟨rs, W.copies.length, rfl, ok.rk rs (List.mem_of_getElem? hrs), ok.m6⟩ fun _ z => z))) rfl fun H8 e8 => ?_
    exact ⟨_, _, _, rfl, S7.grow e8⟩

abbrev n_longest : List Str := ["wishes", "ranks"]
theorem sc_longest : FnScope n_longest ["wishes"] (defScope s_longest) := ⟨rfl, rfl, rfl, by decide +kernel, rfl, by decide +kernel, by decide +kernel⟩
theorem ok_longest (T : Txt K mg CS CR CP aO) (c_look_at_wishes : Callable P w K mg base 4 "look_at_wishes" ["thing"] sp_look_at_wishes) : Callable P w K mg base 5 "longest" ["wishes"] sp_longest := by
  have sc := sc_longest
  refine mkFn T.f_longest sc (fun _ _ _ _ _ _ us hl => match us, hl with | [_], _ => rfl) (fun vs H Q E h => ?_) (fun f cdv A outer s H vs Q E hr h => ?_)
  · obtain ⟨B, W, i0, hd, _⟩ := h; exact hd.length
  refine ⟨_, (pss_cons (ps_expr (pe_fn c_look_at_wishes (hr.mono (by decide)) (by rfl) (pa_cons (pv 0) pa_nil)))
     (pss_one (ps_ret (pe_callB (id := "max") (cr_max rfl) (by rfl) T.b_max (by decide +kernel) (pa_cons (pe_lc (own := [("ranks", 1)]) (g := gName 1) (tt := tYes) rfl sc.nd (pi_list (pe_ix ix_tup (pv 0) pe_int (fun _ _ => rfl))) (blkOk_by (own := [("ranks", 1)]) (N := n_longest) (sc := defScope s_longest) (by decide +kernel)) (fun _ _ _ _ _ => (pg_name (i := 1) sc.nd rfl (Or.inl rfl))) (fun _ _ _ _ _ => pts_nil) (fun _ _ _ _ _ => (pe_callB (id := "len") (lenK K) (by rfl) T.b_len (by decide +kernel) (pa_cons (pv 1) pa_nil)))) pa_nil))))), ?_⟩
  obtain ⟨B, W, i0, hd, ok, k⟩ := h
  obtain ⟨x, rfl, h_wishes⟩ := hd.one
  have S0 := Stp.refl i0
  refine q_dropD i0 (ed_callA W (ea_consD (ed_var rfl h_wishes) ea_nilD) ok fun _ z => z) fun B1 H1 s1 => ?_
  have h_wishes := h_wishes.mono s1.b
  refine s_retD s1.i (ed_max (ns := (W.lists.map List.length).map fun n : Nat => (n : Int)) (m := (W.longest : Int)) (EvD.eq (ed_lcL (f := fun _ => true) (v := fun i => dN ((W.lists.map List.length).getD i 0)) (ds := W.lists.map dRs) (ed_ixT (ed_var rfl h_wishes) ed_int rfl) (by rw [List.length_map]; have := ok.n7; omega) (fun _ => rfl) (fun _ _ _ _ _ _ _ => et_yes) (fun B' e i d y hi _ hy => by
    rw [List.getElem?_map] at hi
    obtain ⟨rs, hrs, rfl⟩ := Option.map_eq_some_iff.mp hi
    refine (ed_len (ed_var rfl hy)).eq ?_
    show PyData.int ((rs.map dNs).length : Nat) = .int _
    simp [hrs])) ?_) (by rw [List.length_map, List.length_map]; exact ok.n1) ?_) fun v B2 H2 s hv => k v H2 B2 _ (s1.trans s) hv rfl
  · have el : (W.lists.map dRs).length = (W.lists.map List.length).length := by rw [List.length_map, List.length_map]
    rw [el, gl_map dN]
    exact dNs_ints _
  intro q hq hle
  obtain ⟨n, hn, rfl⟩ := List.mem_map.mp hq
  have h1 := (foldl_max_le (W.lists.map List.length) 0).2 n hn
  have h2 : W.longest ≤ n := by
    rcases foldl_max_mem (W.lists.map List.length) 0 with h | h
    · have : W.longest = 0 := h
      omega
    · have := hle _ (List.mem_map_of_mem h)
      have e : W.longest = (W.lists.map List.length).foldl max 0 := rfl
      omega
  have e : W.longest = (W.lists.map List.length).foldl max 0 := rfl
  omega

abbrev n_rank_among : List Str := ["ranks", "thing", "number", "rank"]
theorem sc_rank_among : FnScope n_rank_among ["ranks", "thing"] (defScope s_rank_among) := ⟨rfl, rfl, rfl, by decide +kernel, rfl, by decide +kernel, by decide +kernel⟩
theorem ok_rank_among (T : Txt K mg CS CR CP aO)  : Callable P w K mg base 1 "rank_among" ["ranks", "thing"] sp_rank_among := by
  have sc := sc_rank_among
  refine mkFn T.f_rank_among sc (fun _ _ _ _ _ _ us hl => match us, hl with | [_, _], _ => rfl) (fun vs H Q E h => ?_) (fun f cdv A outer s H vs Q E hr h => ?_)
  · obtain ⟨B, W, i0, hd, _⟩ := h; exact hd.length
  refine ⟨_, (pss_cons (ps_for PassesOwn.never rfl (pi_enum (by rfl) T.b_enumerate (pa_cons (pv 0) pa_nil)) (pg_tup rfl (pgs_cons (pg_name (i := 2) sc.nd rfl (Or.inl rfl)) (pgs_cons (pg_name (i := 3) sc.nd rfl (Or.inl rfl)) pgs_nil)))
     (pss_one (ps_if (pt_cmpR op_in_seq (pv 1) (pv 3) (by rfl))
     (pss_one (ps_ret (pe_op op_add (pv 2) pe_int)))
     pss_nil)))
     (pss_one (ps_ret pe_int))), ?_⟩
  obtain ⟨B, ⟨rs, t⟩, i0, hd, _, k⟩ := h
  obtain ⟨x, y, rfl, h_ranks, h_thing⟩ := hd.two
  have S0 := Stp.refl i0
  refine q_forE i0 (ed_var rfl h_ranks) fun B1 H1 s1 => ⟨fun i σ' H' => ∃ a b, σ' = [some x, some y, a, b] ∧ Stp B H B1 H' ∧ ∀ j q, j < i → rs[j]? = some q → t ∉ q, ⟨none, none, rfl, s1, fun _ _ h => by omega⟩, fun i σ' H' ⟨_, _, _, s, _⟩ => s.i, fun i d z σ' H' H'' hi hz p e => ?_, fun σ' H' ⟨a, b, hσ, S, hn⟩ => ?_⟩
  · obtain ⟨a, b, rfl, S, hn⟩ := p
    rw [List.getElem?_map] at hi
    obtain ⟨r, hr, rfl⟩ := Option.map_eq_some_iff.mp hi
    have S2 := S.grow e
    refine s_ifB S2.i (et_D (ed_in (ed_var rfl (h_thing.mono s1.b)) (ed_var rfl hz) rfl (flat_dN _) (b := decide (t ∈ r)) (mem_inV t r))) (fun ht H3 e3 => ?_) (fun ht H3 e3 => ?_)
    · refine s_retD (S2.grow e3).i (ed_opI (ed_var rfl rfl) ed_int) fun v B4 H4 s4 hv => k v H4 B4 _ ((S2.grow e3).trans s4) hv ?_
      show _ = dN (rankIn rs t)
      rw [rankIn_at hn hr (of_decide_eq_true ht)]; rfl
    · refine ⟨_, _, rfl, S2.grow e3, fun j q hj hq => ?_⟩
      rcases Nat.lt_or_eq_of_le (Nat.le_of_lt_succ hj) with h | h
      · exact hn j q h hq
      · subst h; rw [hr] at hq; cases hq; exact of_decide_eq_false ht
  · subst hσ
    refine s_retD S.i ed_int fun v B4 H4 s4 hv => k v H4 B4 _ (S.trans s4) hv ?_
    show _ = dN (rankIn rs t)
    rw [rankIn_no fun j q hq => hn j q (by have := (List.getElem?_eq_some_iff.mp hq).1; rw [List.length_map]; exact this) hq]; rfl

abbrev n_rank_got : List Str := ["ranks", "thing", "number", "row"]
theorem sc_rank_got : FnScope n_rank_got ["ranks", "thing"] (defScope s_rank_got) := ⟨rfl, rfl, rfl, by decide +kernel, rfl, by decide +kernel, by decide +kernel⟩
theorem ok_rank_got (T : Txt K mg CS CR CP aO)  : Callable P w K mg base 1 "rank_got" ["ranks", "thing"] sp_rank_got := by
  have sc := sc_rank_got
  refine mkFn T.f_rank_got sc (fun _ _ _ _ _ _ us hl => match us, hl with | [_, _], _ => rfl) (fun vs H Q E h => ?_) (fun f cdv A outer s H vs Q E hr h => ?_)
  · obtain ⟨B, W, i0, hd, _⟩ := h; exact hd.length
  refine ⟨_, (pss_cons (ps_for PassesOwn.never rfl (pi_enum (by rfl) T.b_enumerate (pa_cons (pv 0) pa_nil)) (pg_tup rfl (pgs_cons (pg_name (i := 2) sc.nd rfl (Or.inl rfl)) (pgs_cons (pg_name (i := 3) sc.nd rfl (Or.inl rfl)) pgs_nil)))
     (pss_one (ps_if (pt_cmpR op_in_seq (pv 1) (pv 3) (by rfl))
     (pss_one (ps_ret (pe_op op_add (pv 2) pe_int)))
     pss_nil)))
     (pss_one (ps_ret pe_int))), ?_⟩
  obtain ⟨B, ⟨rs, o⟩, i0, hd, _, k⟩ := h
  obtain ⟨x, y, rfl, h_ranks, h_thing⟩ := hd.two
  have S0 := Stp.refl i0
  refine q_forE i0 (ed_var rfl h_ranks) fun B1 H1 s1 => ⟨fun i σ' H' => ∃ a b, σ' = [some x, some y, a, b] ∧ Stp B H B1 H' ∧ ∀ j q t, j < i → rs[j]? = some q → o = some t → t ∉ q, ⟨none, none, rfl, s1, fun _ _ _ h => by omega⟩, fun i σ' H' ⟨_, _, _, s, _⟩ => s.i, fun i d z σ' H' H'' hi hz p e => ?_, fun σ' H' ⟨a, b, hσ, S, hn⟩ => ?_⟩
  · obtain ⟨a, b, rfl, S, hn⟩ := p
    rw [List.getElem?_map] at hi
    obtain ⟨r, hr, rfl⟩ := Option.map_eq_some_iff.mp hi
    have S2 := S.grow e
    refine s_ifB S2.i (et_D (ed_in (ed_var rfl (h_thing.mono s1.b)) (ed_var rfl hz) (flat_dO1 _) (flat_dN _) (mem_inO o r))) (fun ht H3 e3 => ?_) (fun ht H3 e3 => ?_)
    · refine s_retD (S2.grow e3).i (ed_opI (ed_var rfl rfl) ed_int) fun v B4 H4 s4 hv => k v H4 B4 _ ((S2.grow e3).trans s4) hv ?_
      cases o with
      | none => cases ht
      | some t =>
        show _ = dN (rankIn rs t)
        rw [rankIn_at (fun j q hj hq => hn j q t hj hq rfl) hr (of_decide_eq_true ht)]; rfl
    · refine ⟨_, _, rfl, S2.grow e3, fun j q t hj hq ho => ?_⟩
      subst ho
      rcases Nat.lt_or_eq_of_le (Nat.le_of_lt_succ hj) with h | h
      · exact hn j q t h hq rfl
      · subst h; rw [hr] at hq; cases hq; exact of_decide_eq_false ht
  · subst hσ
    refine s_retD S.i ed_int fun v B4 H4 s4 hv => k v H4 B4 _ (S.trans s4) hv ?_
    cases o with
    | none => rfl
    | some t =>
      show _ = dN (rankIn rs t)
      rw [rankIn_no fun j q hq => hn j q t (by have := (List.getElem?_eq_some_iff.mp hq).1; rw [List.length_map]; exact this) hq rfl]; rfl

abbrev n__law_rank : List Str := ["_law_wishes_here", "_law_asker", "_law_thing", "_law_k", "_law_row"]
theorem sc__law_rank : FnScope n__law_rank ["_law_wishes_here", "_law_asker", "_law_thing"] (defScope s__law_rank) := ⟨rfl, rfl, rfl, by decide +kernel, rfl, by decide +kernel, by decide +kernel⟩
theorem ok__law_rank (T : Txt K mg CS CR CP aO)  : Callable P w K mg base 1 "_law_rank" ["_law_wishes_here", "_law_asker", "_law_thing"] sp__law_rank := by
  have sc := sc__law_rank
  refine mkFn T.f__law_rank sc (fun _ _ _ _ _ _ us hl => match us, hl with | [_, _, _], _ => rfl) (fun vs H Q E h => ?_) (fun f cdv A outer s H vs Q E hr h => ?_)
  · obtain ⟨B, W, i0, hd, _⟩ := h; exact hd.length
  refine ⟨_, (pss_cons (ps_for PassesOwn.never rfl (pi_enum (by rfl) T.b_enumerate (pa_cons (pe_ix ix_list (pe_ix ix_tup (pv 0) pe_int (fun _ _ => rfl)) (pv 1) (fun _ _ => rfl)) pa_nil)) (pg_tup rfl (pgs_cons (pg_name (i := 3) sc.nd rfl (Or.inl rfl)) (pgs_cons (pg_name (i := 4) sc.nd rfl (Or.inl rfl)) pgs_nil)))
     (pss_one (ps_if (pt_cmpR op_in_seq (pv 2) (pv 4) (by rfl))
     (pss_one (ps_ret (pe_op op_add (pv 3) pe_int)))
     pss_nil)))
     (pss_one (ps_ret pe_int))), ?_⟩
  obtain ⟨B, ⟨W, a0, t⟩, i0, hd, ha, k⟩ := h
  obtain ⟨x, y, z, rfl, h_wishes, h_asker, h_thing⟩ := hd.three
  have S0 := Stp.refl i0
  obtain ⟨rs, hrs⟩ : ∃ rs, W.lists[a0]? = some rs := ⟨_, List.getElem?_eq_getElem ha⟩
  have er := Wish.ranks_at hrs
  refine q_forE i0 (ed_ixL (ed_ixT (ed_var rfl h_wishes) ed_int rfl) (ed_var rfl h_asker) (atI_some hrs)) fun B1 H1 s1 => ⟨fun i σ' H' => ∃ a b, σ' = [some x, some y, some z, a, b] ∧ Stp B H B1 H' ∧ ∀ j q, j < i → rs[j]? = some q → t ∉ q, ⟨none, none, rfl, s1, fun _ _ h => by omega⟩, fun i σ' H' ⟨_, _, _, s, _⟩ => s.i, fun i d z σ' H' H'' hi hz p e => ?_, fun σ' H' ⟨a, b, hσ, S, hn⟩ => ?_⟩
  · obtain ⟨a, b, rfl, S, hn⟩ := p
    rw [List.getElem?_map] at hi
    obtain ⟨r, hr, rfl⟩ := Option.map_eq_some_iff.mp hi
    have S2 := S.grow e
    refine s_ifB S2.i (et_D (ed_in (ed_var rfl (h_thing.mono s1.b)) (ed_var rfl hz) rfl (flat_dN _) (b := decide (t ∈ r)) (mem_inV t r))) (fun ht H3 e3 => ?_) (fun ht H3 e3 => ?_)
    · refine s_retD (S2.grow e3).i (ed_opI (ed_var rfl rfl) ed_int) fun v B4 H4 s4 hv => k v H4 B4 _ ((S2.grow e3).trans s4) hv ?_
      show _ = dN (rankIn (W.ranks a0) t)
      rw [er, rankIn_at hn hr (of_decide_eq_true ht)]; rfl
    · refine ⟨_, _, rfl, S2.grow e3, fun j q hj hq => ?_⟩
      rcases Nat.lt_or_eq_of_le (Nat.le_of_lt_succ hj) with h | h
      · exact hn j q h hq
      · subst h; rw [hr] at hq; cases hq; exact of_decide_eq_false ht
  · subst hσ
    refine s_retD S.i ed_int fun v B4 H4 s4 hv => k v H4 B4 _ (S.trans s4) hv ?_
    show _ = dN (rankIn (W.ranks a0) t)
    rw [er, rankIn_no fun j q hq => hn j q (by have := (List.getElem?_eq_some_iff.mp hq).1; rw [List.length_map]; exact this) hq]; rfl

end
end Wk
namespace Wk
open PySem L2 Evl Wd

def sp_counts_of : Sp := SpA (fun x : Wish × Deal => [dW x.1, dDeal x.2]) (fun x => x.1.Ok ∧ DealOk x.1 x.2) (fun x r => r = dInts (countsOf x.1 x.2))
section
variable {P : Program} {w : World} {K : PySem.W.Frag} {mg : Str → Option Value} {base : Heap} {CS CR CP aO : Addr}
abbrev n_counts_of : List Str := ["wishes", "dealing", "counts", "asker", "one"]
theorem sc_counts_of : FnScope n_counts_of ["wishes", "dealing"] (defScope s_counts_of) := ⟨rfl, rfl, rfl, by decide +kernel, rfl, by decide +kernel, by decide +kernel⟩
theorem ok_counts_of (T : Txt K mg CS CR CP aO) (c_longest : Callable P w K mg base 5 "longest" ["wishes"] sp_longest) (c_rank_among : Callable P w K mg base 1 "rank_among" ["ranks", "thing"] sp_rank_among) : Callable P w K mg base 6 "counts_of" ["wishes", "dealing"] sp_counts_of := by
  have sc := sc_counts_of
  refine mkFn T.f_counts_of sc (fun _ _ _ _ _ _ us hl => match us, hl with | [_, _], _ => rfl) (fun vs H Q E h => ?_) (fun f cdv A outer s H vs Q E hr h => ?_)
  · obtain ⟨B, W, i0, hd, _⟩ := h; exact hd.length
  refine ⟨_, (pss_cons (ps_set (i := 2) sc.nd rfl (Or.inl rfl) (pe_op op_rep (pe_lst (pa_cons pe_int pa_nil)) (pe_op op_add (pe_fn c_longest (hr.mono (by decide)) (by rfl) (pa_cons (pv 0) pa_nil)) pe_int)))
     (pss_cons (ps_for PassesOwn.never rfl (pi_enum (by rfl) T.b_enumerate (pa_cons (pv 1) pa_nil)) (pg_tup rfl (pgs_cons (pg_name (i := 3) sc.nd rfl (Or.inl rfl)) (pgs_cons (pg_name (i := 4) sc.nd rfl (Or.inl rfl)) pgs_nil)))
     (pss_one (ps_if (pt_cmp (pc_isN (pv 4)))
     (pss_one (ps_augS (pv 2) (pe_un un_neg pe_int) WkR.get_list pe_int ip_add set_list))
     (pss_one (ps_augS (pv 2) (pe_op op_sub (pe_fn c_rank_among (hr.mono (by decide)) (by rfl) (pa_cons (pe_ix ix_list (pe_ix ix_tup (pv 0) pe_int (fun _ _ => rfl)) (pv 3) (fun _ _ => rfl)) (pa_cons (pv 4) pa_nil))) pe_int) WkR.get_list pe_int ip_add set_list)))))
     (pss_one (ps_ret (pv 2))))), ?_⟩
  obtain ⟨B, ⟨W, d⟩, i0, hd, ⟨ok, hdl⟩, k⟩ := h
  have ok : W.Ok := ok
  have hdl : DealOk W d := hdl
  obtain ⟨x, y, rfl, h_wishes, h_dealing⟩ := DtL.two (d1 := dW W) (d2 := dDeal d) hd
  have S0 := Stp.refl i0
  have hR := W.longest5 ok
  refine q_new (EvL.mono i0 (el_rep (K := K) (n := W.longest + 1) ev_c ((ed_opI (ed_callA W (ea_consD (ed_var rfl h_wishes) ea_nilD) ok fun _ z => z) ed_int).eq (by rfl)) (by omega))) fun l H1 hl e1 hl1 => ?_
  have S1 := S0.grow e1
  have hBl : B l = none := fresh_back i0 hl
  refine q_forE S1.i (ed_var rfl h_dealing) fun B2 H2 s2 => ⟨fun i σ' H' => ∃ a b, σ' = [some x, some y, some (.ref l), a, b] ∧ Stp B H B2 H' ∧ H' l = some (.lst ((cnts i W.longest (rkOf W d)).map V.int)), ⟨none, none, rfl, S1.trans s2, ?_⟩, fun i σ' H' ⟨_, _, _, s, _⟩ => s.i, fun i q z σ' H' H'' hi hz p e => ?_, fun σ' H' ⟨a, b, hσ, S, hll⟩ => ?_⟩
  · rw [cnts_zero, List.map_replicate]; exact s2.h l _ hl1
  · obtain ⟨a, b, rfl, S, hll⟩ := p
    have hB2 : B2 l = none := s2.free hl1 hBl
    rw [List.getElem?_map] at hi
    obtain ⟨o, ho, rfl⟩ := Option.map_eq_some_iff.mp hi
    have S2 := S.grow e
    have hd1 := dl_at ho
    have hia : i < W.n := by have := (List.getElem?_eq_some_iff.mp ho).1; have := hdl.len; omega
    obtain ⟨rs, hrs⟩ : ∃ rs, W.lists[i]? = some rs := ⟨_, List.getElem?_eq_getElem hia⟩
    have er := Wish.ranks_at hrs
    have hsucc := cnts_succ i W.longest (rkOf W d) (rkOf_le W d i)
    have hlen : ((cnts i W.longest (rkOf W d)).map V.int).length = W.longest + 1 := by rw [List.length_map, cnts_len]
    have hat : ((cnts i W.longest (rkOf W d)).map V.int)[cix W.longest (rkOf W d i)]? = some (.int (cnt i (fun a => some (cix W.longest (rkOf W d a))) (cix W.longest (rkOf W d i)))) := by
      rw [List.getElem?_map, cnts_at _ _ _ (cix_le (rkOf_le W d i))]; rfl
    have hset : ((cnts i W.longest (rkOf W d)).map V.int).set (cix W.longest (rkOf W d i)) (.int (cnt i (fun a => some (cix W.longest (rkOf W d a))) (cix W.longest (rkOf W d i)) + 1)) = (cnts (i + 1) W.longest (rkOf W d)).map V.int := by rw [hsucc, List.map_set]
    refine s_ifB S2.i (et_DB (ed_isN (ed_var rfl hz))) (fun hn H3 e3 => ?_) (fun hn H3 e3 => ?_)
    · have S3 := S2.grow e3
      rw [isNo_dO] at hn
      have ho0 : o = none := by cases o with | none => rfl | some t => cases hn
      have hr0 : rkOf W d i = 0 := by unfold rkOf; rw [hd1, ho0]; rfl
      refine s_augL S3.i (e3 l _ (e l _ hll)) (ev_var rfl) (EvD.of (v := .int (-1)) (ev_un ev_c ru_neg) rfl) ed_int (j := cix W.longest (rkOf W d i)) ?_ hat fun H4 e4 => ?_
      · rw [hlen, hr0]
        unfold ixN cix
        rw [if_neg (by decide), if_pos (by omega), if_pos rfl]
        congr 1
        omega
      · refine ⟨_, _, rfl, (S3.grow e4).mut _ hl hB2, ?_⟩
        rw [hset]; exact upd_same
    · have S3 := S2.grow e3
      rw [isNo_dO] at hn
      obtain ⟨t, rfl⟩ : ∃ t, o = some t := by cases o with | none => cases hn | some t => exact ⟨t, rfl⟩
      have hr1 : rkOf W d i = rankIn (W.ranks i) t := by unfold rkOf; rw [hd1]; rfl
      have hne := hdl.wish i t ho
      have h_wishes := h_wishes.mono s2.b
      refine s_augL S3.i (e3 l _ (e l _ hll)) (ev_var rfl) (ed_opI (ed_callA (rs, t) (ea_consD (ed_ixL (ed_ixT (ed_var rfl h_wishes) ed_int rfl) (ed_var rfl (d := dN i) rfl) (atI_some hrs)) (ea_consD (ed_var rfl hz) ea_nilD)) trivial fun _ z => z) ed_int) ed_int (j := cix W.longest (rkOf W d i)) ?_ hat fun H4 e4 => ?_
      · rw [hlen, hr1, er]
        have := W.rank_longest i t
        rw [er] at this hne
        unfold ixN cix
        show (if 0 ≤ ((rankIn rs t : Nat) : Int) - 1 then (if ((rankIn rs t : Nat) : Int) - 1 < ((W.longest + 1 : Nat) : Int) then some (((rankIn rs t : Nat) : Int) - 1).toNat else none) else _) = _
        rw [if_pos (by omega), if_pos (by omega), if_neg hne]
        congr 1
        omega
      · refine ⟨_, _, rfl, (S3.grow e4).mut _ hl hB2, ?_⟩
        rw [hset]; exact upd_same
  · subst hσ
    have hB2 : B2 l = none := s2.free hl1 hBl
    have hl0 : H l = none := hl
    have S' := S.give (o := .lst ((countsOf W d).map V.int)) hl0 hB2 (by rw [List.length_map] at hll; exact hll)
    refine s_retD S'.i (ed_var rfl (Dt.ofInts upd_same)) fun v B4 H4 s4 hv => k v H4 B4 _ (S'.trans s4) hv rfl

end
end Wk
namespace Wk
open PySem L2 Evl Wd

def sp__law_longest : Sp := SpA (fun W : Wish => [dW W]) (fun W => W.Ok) (fun W r => r = dN W.longest)
def sp__law_counts : Sp := SpA (fun x : Wish × Deal => [dW x.1, dDeal x.2]) (fun x => x.1.Ok ∧ DealOk x.1 x.2) (fun x r => r = dInts (countsOf x.1 x.2))
section
variable {P : Program} {w : World} {K : PySem.W.Frag} {mg : Str → Option Value} {base : Heap} {CS CR CP aO : Addr}
abbrev n__law_longest : List Str := ["_law_wishes_here", "_law_ranks"]
theorem sc__law_longest : FnScope n__law_longest ["_law_wishes_here"] (defScope s__law_longest) := ⟨rfl, rfl, rfl, by decide +kernel, rfl, by decide +kernel, by decide +kernel⟩
theorem ok__law_longest (T : Txt K mg CS CR CP aO)  : Callable P w K mg base 1 "_law_longest" ["_law_wishes_here"] sp__law_longest := by
  have sc := sc__law_longest
  refine mkFn T.f__law_longest sc (fun _ _ _ _ _ _ us hl => match us, hl with | [_], _ => rfl) (fun vs H Q E h => ?_) (fun f cdv A outer s H vs Q E hr h => ?_)
  · obtain ⟨B, W, i0, hd, _⟩ := h; exact hd.length
  refine ⟨_, (pss_one (ps_ret (pe_callB (id := "max") (cr_max rfl) (by rfl) T.b_max (by decide +kernel) (pa_cons (pe_lc (own := [("_law_ranks", 1)]) (g := gName 1) (tt := tYes) rfl sc.nd (pi_list (pe_ix ix_tup (pv 0) pe_int (fun _ _ => rfl))) (blkOk_by (own := [("_law_ranks", 1)]) (N := n__law_longest) (sc := defScope s__law_longest) (by decide +kernel)) (fun _ _ _ _ _ => (pg_name (i := 1) sc.nd rfl (Or.inl rfl))) (fun _ _ _ _ _ => pts_nil) (fun _ _ _ _ _ => (pe_callB (id := "len") (lenK K) (by rfl) T.b_len (by decide +kernel) (pa_cons (pv 1) pa_nil)))) pa_nil)))), ?_⟩
  obtain ⟨B, W, i0, hd, ok, k⟩ := h
  obtain ⟨x, rfl, h_wishes⟩ := hd.one
  have S0 := Stp.refl i0
  refine s_retD i0 (ed_max (ns := (W.lists.map List.length).map fun n : Nat => (n : Int)) (m := (W.longest : Int)) (EvD.eq (ed_lcL (f := fun _ => true) (v := fun i => dN ((W.lists.map List.length).getD i 0)) (ds := W.lists.map dRs) (ed_ixT (ed_var rfl h_wishes) ed_int rfl) (by rw [List.length_map]; have := ok.n7; omega) (fun _ => rfl) (fun _ _ _ _ _ _ _ => et_yes) (fun B' e i d y hi _ hy => by
    rw [List.getElem?_map] at hi
    obtain ⟨rs, hrs, rfl⟩ := Option.map_eq_some_iff.mp hi
    refine (ed_len (ed_var rfl hy)).eq ?_
    show PyData.int ((rs.map dNs).length : Nat) = .int _
    simp [hrs])) ?_) (by rw [List.length_map, List.length_map]; exact ok.n1) ?_) fun v B2 H2 s hv => k v H2 B2 _ s hv rfl
  · have el : (W.lists.map dRs).length = (W.lists.map List.length).length := by rw [List.length_map, List.length_map]
    rw [el, gl_map dN]
    exact dNs_ints _
  intro q hq hle
  obtain ⟨n, hn, rfl⟩ := List.mem_map.mp hq
  have h1 := (foldl_max_le (W.lists.map List.length) 0).2 n hn
  have h2 : W.longest ≤ n := by
    rcases foldl_max_mem (W.lists.map List.length) 0 with h | h
    · have : W.longest = 0 := h
      omega
    · have := hle _ (List.mem_map_of_mem h)
      have e : W.longest = (W.lists.map List.length).foldl max 0 := rfl
      omega
  have e : W.longest = (W.lists.map List.length).foldl max 0 := rfl
  omega

abbrev n__law_counts : List Str := ["_law_wishes_here", "_law_dealing", "_law_counts_here", "_law_asker", "_law_thing"]
theorem sc__law_counts : FnScope n__law_counts ["_law_wishes_here", "_law_dealing"] (defScope s__law_counts) := ⟨rfl, rfl, rfl, by decide +kernel, rfl, by decide +kernel, by decide +kernel⟩
theorem ok__law_counts (T : Txt K mg CS CR CP aO) (c__law_longest : Callable P w K mg base 1 "_law_longest" ["_law_wishes_here"] sp__law_longest) (c__law_rank : Callable P w K mg base 1 "_law_rank" ["_law_wishes_here", "_law_asker", "_law_thing"] sp__law_rank) : Callable P w K mg base 2 "_law_counts" ["_law_wishes_here", "_law_dealing"] sp__law_counts := by
  have sc := sc__law_counts
  refine mkFn T.f__law_counts sc (fun _ _ _ _ _ _ us hl => match us, hl with | [_, _], _ => rfl) (fun vs H Q E h => ?_) (fun f cdv A outer s H vs Q E hr h => ?_)
  · obtain ⟨B, W, i0, hd, _⟩ := h; exact hd.length
  refine ⟨_, (pss_cons (ps_set (i := 2) sc.nd rfl (Or.inl rfl) (pe_op op_rep (pe_lst (pa_cons pe_int pa_nil)) (pe_op op_add (pe_fn c__law_longest (hr.mono (by decide)) (by rfl) (pa_cons (pv 0) pa_nil)) pe_int)))
     (pss_cons (ps_for PassesOwn.never rfl (pi_enum (by rfl) T.b_enumerate (pa_cons (pv 1) pa_nil)) (pg_tup rfl (pgs_cons (pg_name (i := 3) sc.nd rfl (Or.inl rfl)) (pgs_cons (pg_name (i := 4) sc.nd rfl (Or.inl rfl)) pgs_nil)))
     (pss_one (ps_if (pt_cmp (pc_isN (pv 4)))
     (pss_one (ps_augS (pv 2) (pe_un un_neg pe_int) WkR.get_list pe_int ip_add set_list))
     (pss_one (ps_augS (pv 2) (pe_op op_sub (pe_fn c__law_rank (hr.mono (by decide)) (by rfl) (pa_cons (pv 0) (pa_cons (pv 3) (pa_cons (pv 4) pa_nil)))) pe_int) WkR.get_list pe_int ip_add set_list)))))
     (pss_one (ps_ret (pv 2))))), ?_⟩
  obtain ⟨B, ⟨W, d⟩, i0, hd, ⟨ok, hdl⟩, k⟩ := h
  have ok : W.Ok := ok
  have hdl : DealOk W d := hdl
  obtain ⟨x, y, rfl, h_wishes, h_dealing⟩ := DtL.two (d1 := dW W) (d2 := dDeal d) hd
  have S0 := Stp.refl i0
  have hR := W.longest5 ok
  refine q_new (EvL.mono i0 (el_rep (K := K) (n := W.longest + 1) ev_c ((ed_opI (ed_callA W (ea_consD (ed_var rfl h_wishes) ea_nilD) ok fun _ z => z) ed_int).eq (by rfl)) (by omega))) fun l H1 hl e1 hl1 => ?_
  have S1 := S0.grow e1
  have hBl : B l = none := fresh_back i0 hl
  refine q_forE S1.i (ed_var rfl h_dealing) fun B2 H2 s2 => ⟨fun i σ' H' => ∃ a b, σ' = [some x, some y, some (.ref l), a, b] ∧ Stp B H B2 H' ∧ H' l = some (.lst ((cnts i W.longest (rkOf W d)).map V.int)), ⟨none, none, rfl, S1.trans s2, ?_⟩, fun i σ' H' ⟨_, _, _, s, _⟩ => s.i, fun i q z σ' H' H'' hi hz p e => ?_, fun σ' H' ⟨a, b, hσ, S, hll⟩ => ?_⟩
  · rw [cnts_zero, List.map_replicate]; exact s2.h l _ hl1
  · obtain ⟨a, b, rfl, S, hll⟩ := p
    have hB2 : B2 l = none := s2.free hl1 hBl
    rw [List.getElem?_map] at hi
    obtain ⟨o, ho, rfl⟩ := Option.map_eq_some_iff.mp hi
    have S2 := S.grow e
    have hd1 := dl_at ho
    have hia : i < W.n := by have := (List.getElem?_eq_some_iff.mp ho).1; have := hdl.len; omega
    obtain ⟨rs, hrs⟩ : ∃ rs, W.lists[i]? = some rs := ⟨_, List.getElem?_eq_getElem hia⟩
    have er := Wish.ranks_at hrs
    have hsucc := cnts_succ i W.longest (rkOf W d) (rkOf_le W d i)
    have hlen : ((cnts i W.longest (rkOf W d)).map V.int).length = W.longest + 1 := by rw [List.length_map, cnts_len]
    have hat : ((cnts i W.longest (rkOf W d)).map V.int)[cix W.longest (rkOf W d i)]? = some (.int (cnt i (fun a => some (cix W.longest (rkOf W d a))) (cix W.longest (rkOf W d i)))) := by
      rw [List.getElem?_map, cnts_at _ _ _ (cix_le (rkOf_le W d i))]; rfl
    have hset : ((cnts i W.longest (rkOf W d)).map V.int).set (cix W.longest (rkOf W d i)) (.int (cnt i (fun a => some (cix W.longest (rkOf W d a))) (cix W.longest (rkOf W d i)) + 1)) = (cnts (i + 1) W.longest (rkOf W d)).map V.int := by rw [hsucc, List.map_set]
    refine s_ifB S2.i (et_DB (ed_isN (ed_var rfl hz))) (fun hn H3 e3 => ?_) (fun hn H3 e3 => ?_)
    · have S3 := S2.grow e3
      rw [isNo_dO] at hn
      have ho0 : o = none := by cases o with | none => rfl | some t => cases hn
      have hr0 : rkOf W d i = 0 := by unfold rkOf; rw [hd1, ho0]; rfl
      refine s_augL S3.i (e3 l _ (e l _ hll)) (ev_var rfl) (EvD.of (v := .int (-1)) (ev_un ev_c ru_neg) rfl) ed_int (j := cix W.longest (rkOf W d i)) ?_ hat fun H4 e4 => ?_
      · rw [hlen, hr0]
        unfold ixN cix
        rw [if_neg (by decide), if_pos (by omega), if_pos rfl]
        congr 1
        omega
      · refine ⟨_, _, rfl, (S3.grow e4).mut _ hl hB2, ?_⟩
        rw [hset]; exact upd_same
    · have S3 := S2.grow e3
      rw [isNo_dO] at hn
      obtain ⟨t, rfl⟩ : ∃ t, o = some t := by cases o with | none => cases hn | some t => exact ⟨t, rfl⟩
      have hr1 : rkOf W d i = rankIn (W.ranks i) t := by unfold rkOf; rw [hd1]; rfl
      have hne := hdl.wish i t ho
      have h_wishes := h_wishes.mono s2.b
      refine s_augL S3.i (e3 l _ (e l _ hll)) (ev_var rfl) (ed_opI (ed_callA (W, i, t) (ea_consD (ed_var rfl h_wishes) (ea_consD (ed_var rfl (d := dN i) rfl) (ea_consD (ed_var rfl hz) ea_nilD))) hia fun _ z => z) ed_int) ed_int (j := cix W.longest (rkOf W d i)) ?_ hat fun H4 e4 => ?_
      · rw [hlen, hr1]
        have := W.rank_longest i t
        unfold ixN cix
        show (if 0 ≤ ((rankIn (W.ranks i) t : Nat) : Int) - 1 then (if ((rankIn (W.ranks i) t : Nat) : Int) - 1 < ((W.longest + 1 : Nat) : Int) then some (((rankIn (W.ranks i) t : Nat) : Int) - 1).toNat else none) else _) = _
        rw [if_pos (by omega), if_pos (by omega), if_neg hne]
        congr 1
        omega
      · refine ⟨_, _, rfl, (S3.grow e4).mut _ hl hB2, ?_⟩
        rw [hset]; exact upd_same
  · subst hσ
    have hB2 : B2 l = none := s2.free hl1 hBl
    have hl0 : H l = none := hl
    have S' := S.give (o := .lst ((countsOf W d).map V.int)) hl0 hB2 (by rw [List.length_map] at hll; exact hll)
    refine s_retD S'.i (ed_var rfl (Dt.ofInts upd_same)) fun v B4 H4 s4 hv => k v H4 B4 _ (S'.trans s4) hv rfl

end
end Wk
namespace Wk
open PySem L2 Evl Wd
theorem ed_orders {K : PySem.W.Frag} {mg : Str → Option Value} {CS CR CP aO : Addr} {σ : L2.St} {B : Hp} {ta : TE} (T : Txt K mg CS CR CP aO) {o : Ord} (ha : EvD ta σ B (.str (Ord.str o))) : EvD (tOp (rIn K true) ta (tC (.ref aO))) σ B (.bool false) := fun H1 e Q q =>
  ha H1 e _ fun v H2 B2 s hd => by
    cases (show v = _ from hd)
    refine ⟨aO, _, rfl, .inr (T.orders H2), rfl, rfl, ?_⟩
    have e : (V.bl (if true = true then !inV (.str (Ord.str o)) [.str "firsts", .str "full", .str "lasts"] else inV (.str (Ord.str o)) [.str "firsts", .str "full", .str "lasts"])) = .bl false := by
      cases o <;> decide +kernel
    rw [e]
    exact q _ H2 B2 s rfl
theorem atI_last {l : List Int} (h : l ≠ []) : atI (l.map PyData.int) (-1) = some (.int (l.getLastD 0)) := by
  have h1 : 0 < l.length := List.length_pos_iff.mpr h
  unfold atI ixN
  rw [if_neg (by decide), if_pos (by rw [List.length_map]; omega), List.length_map]
  show (l.map PyData.int)[(((l.length : Nat) : Int) + -1).toNat]? = _
  rw [List.getElem?_map, show (((l.length : Nat) : Int) + -1).toNat = l.length - 1 by omega, ← List.getLast?_eq_getElem?, List.getLastD_eq_getLast?]
  cases e : l.getLast? with
  | none => exact absurd (List.getLast?_eq_none_iff.mp e) h
  | some x => rfl
theorem hgt_len (o : Ord) {a b : List Int} (h : a.length = b.length) : (hgt o a).length = (hgt o b).length := by
  cases o
  · exact h
  · show a.length + 1 = b.length + 1; rw [h]
  · show (a.reverse.map _).length = (b.reverse.map _).length; simp [h]
def beside (o : Ord) (a b : List Int) : Str := if hgt o a = hgt o b then "alike" else if lx (hgt o b) (hgt o a) = true then "better" else "worse"

def sp_need_order : Sp := SpA (fun o : Ord => [.str (Ord.str o)]) (fun _ => True) (fun _ r => r = .none)
def sp_height : Sp := SpA (fun x : Ord × List Int => [.str (Ord.str x.1), dInts x.2]) (fun x => x.2 ≠ [] ∧ x.2.length ≤ 6) (fun x r => r = dInts (hgt x.1 x.2))
def sp_beside_by : Sp := SpA (fun x : Ord × List Int × List Int => [.str (Ord.str x.1), dInts x.2.1, dInts x.2.2]) (fun x => x.2.1 ≠ [] ∧ x.2.1.length ≤ 6 ∧ x.2.1.length = x.2.2.length) (fun x r => r = .str (beside x.1 x.2.1 x.2.2))
def sp_is_order : Sp := SpA (fun o : Ord => [.str (Ord.str o)]) (fun _ => True) (fun _ r => r = .bool true)
section
variable {P : Program} {w : World} {K : PySem.W.Frag} {mg : Str → Option Value} {base : Heap} {CS CR CP aO : Addr}
abbrev n_need_order : List Str := ["thing"]
theorem sc_need_order : FnScope n_need_order ["thing"] (defScope s_need_order) := ⟨rfl, rfl, rfl, by decide +kernel, rfl, by decide +kernel, by decide +kernel⟩
theorem ok_need_order (T : Txt K mg CS CR CP aO)  : Callable P w K mg base 1 "need_order" ["thing"] sp_need_order := by
  have sc := sc_need_order
  refine mkFn T.f_need_order sc (fun _ _ _ _ _ _ us hl => match us, hl with | [_], _ => rfl) (fun vs H Q E h => ?_) (fun f cdv A outer s H vs Q E hr h => ?_)
  · obtain ⟨B, W, i0, hd, _⟩ := h; exact hd.length
  refine ⟨_, (pss_one (ps_if (PW.pt (pw_or (pt_not (pt_val (pe_callB (id := "isinstance") call_isi (by rfl) T.b_isinstance (by decide +kernel) (pa_cons (pv 0) (pa_cons (pe_bltn (v := .ty "str") (u := .type "str") (by rfl) T.b_str (by decide +kernel) rfl) pa_nil))))) (pw_or1 (pt_cmpR op_notIn_seq (pv 0) (T.c_ORDERS (by rfl)) (by rfl)))))
     (pss_one ps_never)
     pss_nil)), ?_⟩
  obtain ⟨B, o, i0, hd, _, k⟩ := h
  obtain ⟨x, rfl, h_thing⟩ := hd.one
  refine s_no i0 (et_or (et_not (et_DB (ed_isi (ed_var rfl h_thing) kt_str))) fun _ => et_D (ed_orders T (ed_var rfl h_thing))) rfl fun H1 e => ?_
  exact k .non H1 B .none ((Stp.refl i0).grow e) rfl rfl

abbrev n_height : List Str := ["order", "counts", "many"]
theorem sc_height : FnScope n_height ["order", "counts"] (defScope s_height) := ⟨rfl, rfl, rfl, by decide +kernel, rfl, by decide +kernel, by decide +kernel⟩
theorem ok_height (T : Txt K mg CS CR CP aO)  : Callable P w K mg base 1 "height" ["order", "counts"] sp_height := by
  have sc := sc_height
  refine mkFn T.f_height sc (fun _ _ _ _ _ _ us hl => match us, hl with | [_, _], _ => rfl) (fun vs H Q E h => ?_) (fun f cdv A outer s H vs Q E hr h => ?_)
  · obtain ⟨B, W, i0, hd, _⟩ := h; exact hd.length
  refine ⟨_, (pss_cons (ps_if (pt_cmpR op_eq (pv 0) pe_str (by rfl))
     (pss_one (ps_ret (pe_callTy (T := "list") call_listS (by rfl) T.b_list (by decide +kernel) (pa_cons (pv 1) pa_nil))))
     pss_nil)
     (pss_cons (ps_if (pt_cmpR op_eq (pv 0) pe_str (by rfl))
     (pss_one (ps_ret (pe_op op_cat (pe_lst (pa_cons (pe_op op_sub pe_int (pe_ix ix_list (pv 1) (pe_un un_neg pe_int) (fun _ _ => rfl))) pa_nil)) (pv 1))))
     pss_nil)
     (pss_one (ps_ret (pe_lc (own := [("many", 2)]) (g := gName 2) (tt := tYes) rfl sc.nd (pi_reversed (by rfl) T.b_reversed (pa_cons (pv 1) pa_nil)) (blkOk_by (own := [("many", 2)]) (N := n_height) (sc := defScope s_height) (by decide +kernel)) (fun _ _ _ _ _ => (pg_name (i := 2) sc.nd rfl (Or.inl rfl))) (fun _ _ _ _ _ => pts_nil) (fun _ _ _ _ _ => (pe_op op_sub pe_int (pv 2)))))))), ?_⟩
  obtain ⟨B, ⟨o, l⟩, i0, hd, ⟨hne, h6⟩, k⟩ := h
  have hne : l ≠ [] := hne
  have h6 : l.length ≤ 6 := h6
  obtain ⟨x, y, rfl, h_order, h_counts⟩ := DtL.two (d1 := .str (Ord.str o)) (d2 := dInts l) hd
  have S0 := Stp.refl i0
  have e1 := ed_eq (b := decide (fV (.str (Ord.str o)) = fV (.str "firsts"))) (ed_var (i := 0) rfl h_order) (ed_str (s := "firsts")) rfl rfl rfl rfl (σ := [some x, some y, none])
  have e2 := fun B' (e : Ex B B') => (ed_eq (b := decide (fV (.str (Ord.str o)) = fV (.str "full"))) (ed_var (i := 0) rfl h_order) (ed_str (s := "full")) rfl rfl rfl rfl (σ := [some x, some y, none])).mono e
  cases o with
  | firsts =>
    refine q_yes i0 (et_D e1) (by decide +kernel) fun H1 x1 => ?_
    exact s_retD (S0.grow x1).i (ed_list (ed_var rfl h_counts)) fun v B4 H4 s4 hv => k v H4 B4 _ ((S0.grow x1).trans s4) hv rfl
  | full =>
    refine q_no i0 (et_D e1) (by decide +kernel) fun H1 x1 => ?_
    have S1 := S0.grow x1
    refine q_yes S1.i (et_D (e2 _ (Ex.refl _))) (by decide +kernel) fun H2 x2 => ?_
    have S2 := S1.grow x2
    refine s_retD S2.i (ed_cat (ed_lst (ea_consD (ed_opI ed_int (ed_ixL (ed_var rfl h_counts) (EvD.of (v := .int (-1)) (ev_un ev_c ru_neg) rfl) (atI_last hne))) ea_nilD) (by show 1 ≤ 100000; decide)) (ed_var rfl h_counts) (by rw [List.length_map, List.length_singleton]; omega)) fun v B4 H4 s4 hv => k v H4 B4 _ (S2.trans s4) hv rfl
  | lasts =>
    refine q_no i0 (et_D e1) (by decide +kernel) fun H1 x1 => ?_
    have S1 := S0.grow x1
    refine q_no S1.i (et_D (e2 _ (Ex.refl _))) (by decide +kernel) fun H2 x2 => ?_
    have S2 := S1.grow x2
    refine s_retD S2.i (EvD.eq (ed_lcV (f := fun _ => true) (v := fun i => .int ((l.reverse.map fun x => 0 - x).getD i 0)) (ds := l.map .int) (ed_var rfl h_counts) (by rw [List.length_map]; omega) (fun _ => rfl) (fun _ _ _ _ _ _ _ => et_yes) (fun B' e i d y hi2 hi _ hy => ?_)) ?_) fun v B4 H4 s4 hv => k v H4 B4 _ (S2.trans s4) hv rfl
    · rw [List.length_map, List.getElem?_map] at hi
      obtain ⟨q, hq, rfl⟩ := Option.map_eq_some_iff.mp hi
      refine (ed_opI ed_int (ed_var rfl hy)).eq ?_
      rw [List.length_map] at hi2
      simp only [List.getD_eq_getElem?_getD, List.getElem?_map, List.getElem?_reverse hi2, hq]
      rfl
    · have el : (l.map PyData.int).length = (l.reverse.map fun x : Int => 0 - x).length := by simp
      rw [el, gl_map PyData.int]
      rfl

abbrev n_beside_by : List Str := ["order", "one", "other"]
theorem sc_beside_by : FnScope n_beside_by ["order", "one", "other"] (defScope s_beside_by) := ⟨rfl, rfl, rfl, by decide +kernel, rfl, by decide +kernel, by decide +kernel⟩
theorem ok_beside_by (T : Txt K mg CS CR CP aO) (c_need_order : Callable P w K mg base 1 "need_order" ["thing"] sp_need_order) (c_height : Callable P w K mg base 1 "height" ["order", "counts"] sp_height) : Callable P w K mg base 2 "beside_by" ["order", "one", "other"] sp_beside_by := by
  have sc := sc_beside_by
  refine mkFn T.f_beside_by sc (fun _ _ _ _ _ _ us hl => match us, hl with | [_, _, _], _ => rfl) (fun vs H Q E h => ?_) (fun f cdv A outer s H vs Q E hr h => ?_)
  · obtain ⟨B, W, i0, hd, _⟩ := h; exact hd.length
  refine ⟨_, (pss_cons (ps_expr (pe_fn c_need_order (hr.mono (by decide)) (by rfl) (pa_cons (pv 0) pa_nil)))
     (pss_cons (ps_if (pt_cmpR (op_eqD hr.units) (pe_fn c_height (hr.mono (by decide)) (by rfl) (pa_cons (pv 0) (pa_cons (pv 1) pa_nil))) (pe_fn c_height (hr.mono (by decide)) (by rfl) (pa_cons (pv 0) (pa_cons (pv 2) pa_nil))) (by rfl))
     (pss_one (ps_ret pe_str))
     pss_nil)
     (pss_cons (ps_if (pt_cmpR (WkR.op_gtL hr.units0) (pe_fn c_height (hr.mono (by decide)) (by rfl) (pa_cons (pv 0) (pa_cons (pv 1) pa_nil))) (pe_fn c_height (hr.mono (by decide)) (by rfl) (pa_cons (pv 0) (pa_cons (pv 2) pa_nil))) (by rfl))
     (pss_one (ps_ret pe_str))
     pss_nil)
     (pss_one (ps_ret pe_str))))), ?_⟩
  obtain ⟨B, ⟨o, a, b⟩, i0, hd, ⟨hne, h6, hl⟩, k⟩ := h
  have hne : a ≠ [] := hne
  have h6 : a.length ≤ 6 := h6
  have hl : a.length = b.length := hl
  have hne2 : b ≠ [] := by intro z; rw [z] at hl; exact hne (List.length_eq_zero_iff.mp hl)
  obtain ⟨x, y, z, rfl, h_order, h_one, h_other⟩ := DtL.three (d1 := .str (Ord.str o)) (d2 := dInts a) (d3 := dInts b) hd
  refine q_dropD i0 (ed_callA o (ea_consD (ed_var rfl h_order) ea_nilD) trivial fun _ z => z) fun B1 H1 S1 => ?_
  have h1 : EvD (tCall sp_height [] E0 (tCons (tVar 0) (tCons (tVar 1) tNil))) [some x, some y, some z] B1 (dInts (hgt o a)) := ed_callA (o, a) (ea_consD (ed_var rfl (h_order.mono S1.b)) (ea_consD (ed_var rfl (h_one.mono S1.b)) ea_nilD)) ⟨hne, h6⟩ fun _ z => z
  have h2 : EvD (tCall sp_height [] E0 (tCons (tVar 0) (tCons (tVar 2) tNil))) [some x, some y, some z] B1 (dInts (hgt o b)) := ed_callA (o, b) (ea_consD (ed_var rfl (h_order.mono S1.b)) (ea_consD (ed_var rfl (h_other.mono S1.b)) ea_nilD)) ⟨hne2, by show b.length ≤ 6; omega⟩ fun _ z => z
  refine q_if1 S1.i (et_D (ed_eqL h1 h2 (flat_ints _) (flat_ints _) (shaped_ints _) (shaped_ints _) (eqv_ints _ _))) (fun t H2 e2 => ?_) (fun t H2 e2 => ?_)
  · refine s_retD (S1.grow e2).i ed_str fun v B4 H4 s4 hv => k v H4 B4 _ ((S1.grow e2).trans s4) hv ?_
    show _ = PyData.str (beside o a b)
    unfold beside
    rw [if_pos (of_decide_eq_true t)]
  · have S2 := S1.grow e2
    have t := of_decide_eq_false t
    refine q_if1 S2.i (et_D (ed_gtL h1 h2 (hgt_len o hl) rfl)) (fun t2 H3 e3 => ?_) (fun t2 H3 e3 => ?_)
    · refine s_retD (S2.grow e3).i ed_str fun v B4 H4 s4 hv => k v H4 B4 _ ((S2.grow e3).trans s4) hv ?_
      show _ = PyData.str (beside o a b)
      unfold beside
      rw [if_neg t, if_pos t2]
    · refine s_retD (S2.grow e3).i ed_str fun v B4 H4 s4 hv => k v H4 B4 _ ((S2.grow e3).trans s4) hv ?_
      show _ = PyData.str (beside o a b)
      unfold beside
      rw [if_neg t, if_neg (by rw [t2]; decide)]

abbrev n_is_order : List Str := ["thing"]
theorem sc_is_order : FnScope n_is_order ["thing"] (defScope s_is_order) := ⟨rfl, rfl, rfl, by decide +kernel, rfl, by decide +kernel, by decide +kernel⟩
theorem ok_is_order (T : Txt K mg CS CR CP aO)  : Callable P w K mg base 1 "is_order" ["thing"] sp_is_order := by
  have sc := sc_is_order
  refine mkFn T.f_is_order sc (fun _ _ _ _ _ _ us hl => match us, hl with | [_], _ => rfl) (fun vs H Q E h => ?_) (fun f cdv A outer s H vs Q E hr h => ?_)
  · obtain ⟨B, W, i0, hd, _⟩ := h; exact hd.length
  refine ⟨_, (pss_one (ps_ret (pe_and (pe_callB (id := "isinstance") call_isi (by rfl) T.b_isinstance (by decide +kernel) (pa_cons (pv 0) (pa_cons (pe_bltn (v := .ty "str") (u := .type "str") (by rfl) T.b_str (by decide +kernel) rfl) pa_nil))) (pe_one (pe_cmpR op_in_seq (pv 0) (pe_tup (pa_cons pe_str (pa_cons pe_str (pa_cons pe_str pa_nil)))) (by rfl)))))), ?_⟩
  obtain ⟨B, o, i0, hd, _, k⟩ := h
  obtain ⟨x, rfl, h_thing⟩ := hd.one
  refine s_retD i0 (ed_andV (ed_isi (ed_var rfl h_thing) kt_str) fun _ => ed_inT (b := true) (ed_var rfl h_thing) (ed_tup (ea_consD ed_str (ea_consD ed_str (ea_consD ed_str ea_nilD))) (by decide)) rfl rfl (by cases o <;> decide +kernel)) fun v B4 H4 s4 hv => k v H4 B4 _ s4 hv rfl

end
end Wk
namespace Wk
open PySem L2 Evl Wd
def oldF (o : Option Deal) (a : Nat) : Option Nat := dl (o.getD []) a
def keptOf (o : Option Deal) (d : Deal) : Int := sm d.length fun a => kept (oldF o) a (dl d a)
theorem valV_seen (t : Nat) (v : V) : ∀ l : List Nat, t ∉ l → valV (l.map fun n : Nat => ((Sum.inl (n : Int) : Key), v)) (Sum.inl (t : Int) : Key) = none
  | [], _ => rfl
  | x :: xs, h => by
    rw [List.map_cons, valV_neg (by intro z; have z : ((x : Int)) = t := Sum.inl.inj z; exact h (by rw [show t = x by omega]; exact List.mem_cons_self))]
    exact valV_seen t v xs fun z => h (List.mem_cons_of_mem _ z)

def sp_is_old : Sp := SpA (fun x : Wish × Option Deal => [dW x.1, dOld x.2]) (fun x => ∀ o, x.2 = some o → o.length = x.1.n ∧ ∀ t, some t ∈ o → t < x.1.m) (fun _ r => r = .bool true)
def sp_are_turns : Sp := SpA (fun x : Wish × List Nat => [dW x.1, dNs x.2]) (fun x => x.2.Nodup ∧ (∀ a, a ∈ x.2 → a < x.1.n) ∧ x.1.Ok) (fun _ r => r = .bool true)
def sp_fault_of : Sp := SpA (fun x : Wish × Aim => [dW x.1, dAim x.2]) (fun x => x.1.Ok ∧ x.2.Ok x.1) (fun _ r => r = .none)
def sp_look_at_aim : Sp := SpA (fun x : Wish × Aim => [dW x.1, dAim x.2]) (fun x => x.1.Ok ∧ x.2.Ok x.1) (fun _ r => r = .none)
def sp_kept_of : Sp := SpA (fun x : Option Deal × Deal => [dOld x.1, dDeal x.2]) (fun x => ∀ o, x.1 = some o → o.length = x.2.length) (fun x r => r = .int (keptOf x.1 x.2))
section
variable {P : Program} {w : World} {K : PySem.W.Frag} {mg : Str → Option Value} {base : Heap} {CS CR CP aO : Addr}
abbrev n_is_old : List Str := ["wishes", "thing", "one"]
theorem sc_is_old : FnScope n_is_old ["wishes", "thing"] (defScope s_is_old) := ⟨rfl, rfl, rfl, by decide +kernel, rfl, by decide +kernel, by decide +kernel⟩
theorem ok_is_old (T : Txt K mg CS CR CP aO) (c_is_whole : Callable P w K mg base 1 "is_whole" ["thing"] sp_is_whole) : Callable P w K mg base 2 "is_old" ["wishes", "thing"] sp_is_old := by
  have sc := sc_is_old
  refine mkFn T.f_is_old sc (fun _ _ _ _ _ _ us hl => match us, hl with | [_, _], _ => rfl) (fun vs H Q E h => ?_) (fun f cdv A outer s H vs Q E hr h => ?_)
  · obtain ⟨B, W, i0, hd, _⟩ := h; exact hd.length
  refine ⟨_, (pss_cons (ps_if (pt_cmp (pc_isN (pv 1)))
     (pss_one (ps_ret pe_bl))
     pss_nil)
     (pss_cons (ps_if (PW.pt (pw_or (pt_not (pt_val (pe_callB (id := "isinstance") call_isi (by rfl) T.b_isinstance (by decide +kernel) (pa_cons (pv 1) (pa_cons (pe_bltn (v := .ty "list") (u := .type "list") (by rfl) T.b_list (by decide +kernel) rfl) pa_nil))))) (pw_or1 (pt_cmpR op_ne (pe_callB (id := "len") call_lenS (by rfl) T.b_len (by decide +kernel) (pa_cons (pv 1) pa_nil)) (pe_callB (id := "len") call_lenS (by rfl) T.b_len (by decide +kernel) (pa_cons (pe_ix ix_tup (pv 0) pe_int (fun _ _ => rfl)) pa_nil)) (by rfl)))))
     (pss_one (ps_ret pe_bl))
     pss_nil)
     (pss_cons (ps_for PassesOwn.never rfl (pi_list (pv 1)) (pg_name (i := 2) sc.nd rfl (Or.inl rfl))
     (pss_cons (ps_if (pt_cmp (pc_isN (pv 2)))
     (pss_one ps_continue)
     pss_nil)
     (pss_one (ps_if (PW.pt (pw_or (pt_not (pt_val (pe_fn c_is_whole (hr.mono (by decide)) (by rfl) (pa_cons (pv 2) pa_nil)))) (pw_or (pt_cmpR op_lt (pv 2) pe_int (by rfl)) (pw_or1 (pt_cmpR op_ge (pv 2) (pe_callB (id := "len") call_lenS (by rfl) T.b_len (by decide +kernel) (pa_cons (pe_ix ix_tup (pv 0) pe_int (fun _ _ => rfl)) pa_nil)) (by rfl))))))
     (pss_one (ps_ret pe_bl))
     pss_nil))))
     (pss_one (ps_ret pe_bl))))), ?_⟩
  obtain ⟨B, ⟨W, o⟩, i0, hd, ho, k⟩ := h
  obtain ⟨x, y, rfl, h_wishes, h_thing⟩ := DtL.two (d1 := dW W) (d2 := dOld o) hd
  have S0 := Stp.refl i0
  refine q_if1 i0 (et_DB (ed_isN (ed_var rfl h_thing))) (fun t H1 e1 => ?_) (fun t H1 e1 => ?_)
  · exact s_retD (S0.grow e1).i ed_bl fun v B4 H4 s4 hv => k v H4 B4 _ ((S0.grow e1).trans s4) hv rfl
  · obtain ⟨o, rfl⟩ : ∃ q, o = some q := by cases o with | none => cases t | some q => exact ⟨q, rfl⟩
    obtain ⟨hlen, hlt⟩ := ho o rfl
    have hlen : o.length = W.lists.length := hlen
    have S1 := S0.grow e1
    refine q_skip S1.i (et_or (et_not (et_DB (ed_isi (ed_var rfl h_thing) kt_list))) fun _ => et_D (ed_ne (ed_len (ed_var rfl h_thing)) (ed_len (ed_ixT (ed_var rfl h_wishes) ed_int rfl)) rfl rfl rfl rfl)) ?_ fun H2 e2 => ?_
    · show (!true || !decide (fV (.int ((o.map dO).length : Nat)) = fV (.int ((W.lists.map dRs).length : Nat)))) = false
      rw [List.length_map, List.length_map, hlen]; simp
    have S2 := S1.grow e2
    refine q_forL S2.i (ed_var rfl h_thing) fun B3 H3 s3 => ⟨fun i σ' H' => ∃ a, σ' = [some x, some y, a] ∧ Stp B H B3 H', ⟨none, rfl, S2.trans s3⟩, fun i σ' H' ⟨_, _, s⟩ => s.i, fun i d r σ' H' hi hr p => ?_, fun σ' H' ⟨a, hσ, s⟩ => ?_⟩
    · obtain ⟨a, rfl, s⟩ := p
      rw [List.getElem?_map] at hi
      obtain ⟨u, hu, rfl⟩ := Option.map_eq_some_iff.mp hi
      refine q_if1 s.i (et_DB (ed_isN (ed_var rfl hr))) (fun t H4 e4 => ?_) (fun t H4 e4 => ?_)
      · exact ⟨_, rfl, s.grow e4⟩
      · obtain ⟨u, rfl⟩ : ∃ q, u = some q := by cases u with | none => cases t | some q => exact ⟨q, rfl⟩
        have hu := hlt u (List.mem_of_getElem? hu)
        have hu : u < W.copies.length := hu
        refine s_no (s.grow e4).i (et_or (et_not (et_DB (ed_call (ea_consD (ed_var rfl hr) ea_nilD) ⟨_, rfl⟩ fun _ z => z))) fun _ => et_or (et_D (ed_cmp (ed_var rfl hr) ed_int)) fun _ => et_D (ed_cmp (ed_var rfl hr) (ed_len (ed_ixT (ed_var rfl (h_wishes.mono s3.b)) ed_int rfl)))) ?_ fun H5 e5 => ?_
        · simp
          omega
        · exact ⟨_, rfl, (s.grow e4).grow e5⟩
    · subst hσ
      exact s_retD s.i ed_bl fun v B4 H4 s4 hv => k v H4 B4 _ (s.trans s4) hv rfl

abbrev n_are_turns : List Str := ["wishes", "thing", "seen", "one"]
theorem sc_are_turns : FnScope n_are_turns ["wishes", "thing"] (defScope s_are_turns) := ⟨rfl, rfl, rfl, by decide +kernel, rfl, by decide +kernel, by decide +kernel⟩
theorem ok_are_turns (T : Txt K mg CS CR CP aO) (c_is_whole : Callable P w K mg base 1 "is_whole" ["thing"] sp_is_whole) : Callable P w K mg base 2 "are_turns" ["wishes", "thing"] sp_are_turns := by
  have sc := sc_are_turns
  refine mkFn T.f_are_turns sc (fun _ _ _ _ _ _ us hl => match us, hl with | [_, _], _ => rfl) (fun vs H Q E h => ?_) (fun f cdv A outer s H vs Q E hr h => ?_)
  · obtain ⟨B, W, i0, hd, _⟩ := h; exact hd.length
  have hu := hu_of hr
  refine ⟨_, (pss_cons (ps_if (pt_not (pt_val (pe_callB (id := "isinstance") call_isi (by rfl) T.b_isinstance (by decide +kernel) (pa_cons (pv 1) (pa_cons (pe_bltn (v := .ty "list") (u := .type "list") (by rfl) T.b_list (by decide +kernel) rfl) pa_nil)))))
     (pss_one (ps_ret pe_bl))
     pss_nil)
     (pss_cons (ps_set (i := 2) sc.nd rfl (Or.inl rfl) pe_dnewK)
     (pss_cons (ps_for PassesOwn.never rfl (pi_list (pv 1)) (pg_name (i := 3) sc.nd rfl (Or.inl rfl))
     (pss_cons (ps_if (PW.pt (pw_or (pt_not (pt_val (pe_fn c_is_whole (hr.mono (by decide)) (by rfl) (pa_cons (pv 3) pa_nil)))) (pw_or (pt_cmpR op_lt (pv 3) pe_int (by rfl)) (pw_or1 (pt_cmpR op_ge (pv 3) (pe_callB (id := "len") call_lenS (by rfl) T.b_len (by decide +kernel) (pa_cons (pe_ix ix_tup (pv 0) pe_int (fun _ _ => rfl)) pa_nil)) (by rfl))))))
     (pss_one (ps_ret pe_bl))
     pss_nil)
     (pss_cons (ps_if (pt_cmp (pc_din hu (pv 3) (pv 2)))
     (pss_one (ps_ret pe_bl))
     pss_nil)
     (pss_one (ps_dput hu (pv 2) (pv 3) pe_bl rfl)))))
     (pss_one (ps_ret pe_bl))))), ?_⟩
  obtain ⟨B, ⟨W, ts⟩, i0, hd, ⟨hnd, hlt, ok⟩, k⟩ := h
  have hnd : ts.Nodup := hnd
  have hlt : ∀ a, a ∈ ts → a < W.lists.length := hlt
  have ok : W.Ok := ok
  have hsm : ts.length ≤ 7 := Nat.le_trans (nodup_small _ ts hnd hlt) ok.n7
  obtain ⟨x, y, rfl, h_wishes, h_thing⟩ := DtL.two (d1 := dW W) (d2 := dNs ts) hd
  have S0 := Stp.refl i0
  refine q_skip i0 (et_not (et_DB (ed_isi (ed_var rfl h_thing) kt_list))) rfl fun H1 e1 => ?_
  have S1 := S0.grow e1
  refine q_newK' fun l H2 hl e2 hl2 => ?_
  have S2 := S1.grow e2
  have hBl : B l = none := fresh_back S1.i hl
  have hHl : H l = none := fresh_back S1.h hl
  refine q_forL S2.i (ed_var rfl h_thing) fun B3 H3 s3 => ⟨fun i σ' H' => ∃ a, σ' = [some x, some y, some (.ref l), a] ∧ Stp B H B3 H' ∧ H' l = some (.dK ((ts.take i).map fun n : Nat => ((Sum.inl (n : Int) : Key), .bl true))), ⟨none, rfl, S2.trans s3, s3.h l _ hl2⟩, fun i σ' H' ⟨_, _, s, _⟩ => s.i, fun i d r σ' H' hi hr p => ?_, fun σ' H' ⟨a, hσ, s, _⟩ => ?_⟩
  · obtain ⟨a, rfl, S, hll⟩ := p
    have hB3 : B3 l = none := s3.free hl2 hBl
    rw [List.getElem?_map] at hi
    obtain ⟨t, ht, rfl⟩ := Option.map_eq_some_iff.mp hi
    have htk : ts.take (i + 1) = ts.take i ++ [t] := by rw [List.take_add_one, ht]; rfl
    have hm := hlt t (List.mem_of_getElem? ht)
    have hnew : t ∉ ts.take i := by
      have q2 : ts = ts.take i ++ t :: ts.drop (i + 1) := by
        conv => lhs; rw [← List.take_append_drop i ts]
        rw [List.drop_eq_getElem_cons (List.getElem?_eq_some_iff.mp ht).1, (List.getElem?_eq_some_iff.mp ht).2]
      rw [q2] at hnd
      intro hin
      exact (List.nodup_append.mp hnd).2.2 t hin t (by simp) rfl
    refine q_skip S.i (et_or (et_not (et_DB (ed_call (ea_consD (ed_var rfl hr) ea_nilD) ⟨_, rfl⟩ fun _ z => z))) fun _ => et_or (et_D (ed_cmp (ed_var rfl hr) ed_int)) fun _ => et_D (ed_cmp (ed_var rfl hr) (ed_len (ed_ixT (ed_var rfl (h_wishes.mono s3.b)) ed_int rfl)))) ?_ fun H5 e5 => ?_
    · simp
      omega
    have S5 := S.grow e5
    have hl5 := e5 l _ hll
    have iP := Ex.plus S5.i hl5
    refine q_skip iP (et_DB (ed_din (ed_var rfl (hr.mono (Ex.new hB3))) (ev_var rfl) (.inl upd_same))) (by rw [valV_seen t _ _ hnew]; rfl) fun H6 e6 => ?_
    have S6 := S5.grow e6
    refine s_dput S6.i (e6 l _ hl5) ed_bl (ev_var rfl) (ed_var rfl hr) ?_ fun yv B7 H7 s7 hy => ?_
    · have : (ts.take i).length ≤ ts.length := by rw [List.length_take]; omega
      rw [List.length_map]; omega
    · cases (show yv = _ from hy)
      refine ⟨_, rfl, (S6.grow s7.h).mut _ hHl hB3, ?_⟩
      rw [upd_same, putK_new _ (valV_seen t _ _ hnew), htk, List.map_append]; rfl
  · subst hσ
    exact s_retD s.i ed_bl fun v B4 H4 s4 hv => k v H4 B4 _ (s.trans s4) hv rfl

abbrev n_fault_of : List Str := ["wishes", "thing"]
theorem sc_fault_of : FnScope n_fault_of ["wishes", "thing"] (defScope s_fault_of) := ⟨rfl, rfl, rfl, by decide +kernel, rfl, by decide +kernel, by decide +kernel⟩
theorem ok_fault_of (T : Txt K mg CS CR CP aO) (c_is_order : Callable P w K mg base 1 "is_order" ["thing"] sp_is_order) (c_is_old : Callable P w K mg base 2 "is_old" ["wishes", "thing"] sp_is_old) (c_are_turns : Callable P w K mg base 2 "are_turns" ["wishes", "thing"] sp_are_turns) : Callable P w K mg base 3 "fault_of" ["wishes", "thing"] sp_fault_of := by
  have sc := sc_fault_of
  refine mkFn T.f_fault_of sc (fun _ _ _ _ _ _ us hl => match us, hl with | [_, _], _ => rfl) (fun vs H Q E h => ?_) (fun f cdv A outer s H vs Q E hr h => ?_)
  · obtain ⟨B, W, i0, hd, _⟩ := h; exact hd.length
  refine ⟨_, (pss_cons (ps_if (PW.pt (pw_or (pt_not (pt_val (pe_callB (id := "isinstance") call_isi (by rfl) T.b_isinstance (by decide +kernel) (pa_cons (pv 1) (pa_cons (pe_bltn (v := .ty "tuple") (u := .type "tuple") (by rfl) T.b_tuple (by decide +kernel) rfl) pa_nil))))) (pw_or1 (pt_cmpR op_ne (pe_callB (id := "len") call_lenS (by rfl) T.b_len (by decide +kernel) (pa_cons (pv 1) pa_nil)) pe_int (by rfl)))))
     (pss_one (ps_ret pe_str))
     pss_nil)
     (pss_cons (ps_if (pt_not (pt_val (pe_fn c_is_order (hr.mono (by decide)) (by rfl) (pa_cons (pe_ix ix_tup (pv 1) pe_int (fun _ _ => rfl)) pa_nil))))
     (pss_one (ps_ret pe_str))
     pss_nil)
     (pss_cons (ps_if (pt_not (pt_val (pe_fn c_is_old (hr.mono (by decide)) (by rfl) (pa_cons (pv 0) (pa_cons (pe_ix ix_tup (pv 1) pe_int (fun _ _ => rfl)) pa_nil)))))
     (pss_one (ps_ret pe_str))
     pss_nil)
     (pss_cons (ps_if (pt_not (pt_val (pe_fn c_are_turns (hr.mono (by decide)) (by rfl) (pa_cons (pv 0) (pa_cons (pe_ix ix_tup (pv 1) pe_int (fun _ _ => rfl)) pa_nil)))))
     (pss_one (ps_ret pe_str))
     pss_nil)
     (pss_one (ps_ret pe_non)))))), ?_⟩
  obtain ⟨B, ⟨W, A⟩, i0, hd, ⟨ok, ao⟩, k⟩ := h
  have ok : W.Ok := ok
  have ao : A.Ok W := ao
  obtain ⟨x, y, rfl, h_wishes, h_thing⟩ := DtL.two (d1 := dW W) (d2 := dAim A) hd
  have S0 := Stp.refl i0
  refine q_skip i0 (et_or (et_not (et_DB (ed_isi (ed_var rfl h_thing) kt_tuple))) fun _ => et_D (ed_ne (ed_lenT (ed_var rfl h_thing)) ed_int rfl rfl rfl rfl)) rfl fun H1 e1 => ?_
  have S1 := S0.grow e1
  refine q_skip S1.i (et_not (et_DB (ed_callA A.ord (ea_consD (ed_ixT (ed_var rfl h_thing) ed_int rfl) ea_nilD) trivial fun _ z => z))) rfl fun H2 e2 => ?_
  have S2 := S1.grow e2
  refine q_skip S2.i (et_not (et_DB (ed_callA (W, A.old) (ea_consD (ed_var rfl h_wishes) (ea_consD (ed_ixT (ed_var rfl h_thing) ed_int rfl) ea_nilD)) ao.old fun _ z => z))) rfl fun H3 e3 => ?_
  have S3 := S2.grow e3
  refine q_skip S3.i (et_not (et_DB (ed_callA (W, A.turns) (ea_consD (ed_var rfl h_wishes) (ea_consD (ed_ixT (ed_var rfl h_thing) ed_int rfl) ea_nilD)) ⟨ao.nd, ao.lt, ok⟩ fun _ z => z))) rfl fun H4 e4 => ?_
  exact s_retD (S3.grow e4).i ed_non fun v B4 H4 s4 hv => k v H4 B4 _ ((S3.grow e4).trans s4) hv rfl

abbrev n_look_at_aim : List Str := ["wishes", "thing", "part"]
theorem sc_look_at_aim : FnScope n_look_at_aim ["wishes", "thing"] (defScope s_look_at_aim) := ⟨rfl, rfl, rfl, by decide +kernel, rfl, by decide +kernel, by decide +kernel⟩
theorem ok_look_at_aim (T : Txt K mg CS CR CP aO) (c_look_at_wishes : Callable P w K mg base 4 "look_at_wishes" ["thing"] sp_look_at_wishes) (c_fault_of : Callable P w K mg base 3 "fault_of" ["wishes", "thing"] sp_fault_of) : Callable P w K mg base 5 "look_at_aim" ["wishes", "thing"] sp_look_at_aim := by
  have sc := sc_look_at_aim
  refine mkFn T.f_look_at_aim sc (fun _ _ _ _ _ _ us hl => match us, hl with | [_, _], _ => rfl) (fun vs H Q E h => ?_) (fun f cdv A outer s H vs Q E hr h => ?_)
  · obtain ⟨B, W, i0, hd, _⟩ := h; exact hd.length
  refine ⟨_, (pss_cons (ps_expr (pe_fn c_look_at_wishes (hr.mono (by decide)) (by rfl) (pa_cons (pv 0) pa_nil)))
     (pss_cons (ps_set (i := 2) sc.nd rfl (Or.inl rfl) (pe_fn c_fault_of (hr.mono (by decide)) (by rfl) (pa_cons (pv 0) (pa_cons (pv 1) pa_nil))))
     (pss_one (ps_if (pt_cmp (pc_notN (pv 2)))
     (pss_one ps_never)
     pss_nil)))), ?_⟩
  obtain ⟨B, ⟨W, A⟩, i0, hd, ⟨ok, ao⟩, k⟩ := h
  have ok : W.Ok := ok
  have ao : A.Ok W := ao
  obtain ⟨x, y, rfl, h_wishes, h_thing⟩ := DtL.two (d1 := dW W) (d2 := dAim A) hd
  have S0 := Stp.refl i0
  refine q_dropD i0 (ed_callA W (ea_consD (ed_var rfl h_wishes) ea_nilD) ok fun _ z => z) fun B1 H1 S1 => ?_
  refine q_asgD S1.i (ed_callA (W, A) (ea_consD (ed_var rfl (h_wishes.mono S1.b)) (ea_consD (ed_var rfl (h_thing.mono S1.b)) ea_nilD)) ⟨ok, ao⟩ fun _ z => z) fun u B2 H2 s2 hu => ?_
  have S2 := S1.trans s2
  refine s_no S2.i (et_DB (ed_notN (ed_var rfl hu))) rfl fun H3 e3 => ?_
  exact k .non H3 B2 .none (S2.grow e3) rfl rfl

abbrev n_kept_of : List Str := ["old", "dealing", "many", "had", "thing"]
theorem sc_kept_of : FnScope n_kept_of ["old", "dealing"] (defScope s_kept_of) := ⟨rfl, rfl, rfl, by decide +kernel, rfl, by decide +kernel, by decide +kernel⟩
theorem ok_kept_of (T : Txt K mg CS CR CP aO)  : Callable P w K mg base 1 "kept_of" ["old", "dealing"] sp_kept_of := by
  have sc := sc_kept_of
  refine mkFn T.f_kept_of sc (fun _ _ _ _ _ _ us hl => match us, hl with | [_, _], _ => rfl) (fun vs H Q E h => ?_) (fun f cdv A outer s H vs Q E hr h => ?_)
  · obtain ⟨B, W, i0, hd, _⟩ := h; exact hd.length
  refine ⟨_, (pss_cons (ps_set (i := 2) sc.nd rfl (Or.inl rfl) pe_int)
     (pss_cons (ps_if (pt_cmp (pc_notN (pv 0)))
     (pss_one (ps_for PassesOwn.never rfl (pi_zip (by rfl) T.b_zip (pa_cons (pv 0) (pa_cons (pv 1) pa_nil))) (pg_tup rfl (pgs_cons (pg_name (i := 3) sc.nd rfl (Or.inl rfl)) (pgs_cons (pg_name (i := 4) sc.nd rfl (Or.inl rfl)) pgs_nil)))
     (pss_one (ps_if (PW.pt (pw_and (pt_cmp (pc_notN (pv 4))) (pw_and1 (pt_cmpR op_eq (pv 3) (pv 4) (by rfl)))))
     (pss_one (ps_aug (i := 2) sc.nd rfl (Or.inl rfl) pe_int ip_add))
     pss_nil))))
     pss_nil)
     (pss_one (ps_ret (pv 2))))), ?_⟩
  obtain ⟨B, ⟨o, d⟩, i0, hd, hl, k⟩ := h
  obtain ⟨x, y, rfl, h_old, h_dealing⟩ := DtL.two (d1 := dOld o) (d2 := dDeal d) hd
  have S0 := Stp.refl i0
  refine q_asgD i0 ed_int fun z B1 H1 S1 hz => ?_
  cases (show z = _ from hz)
  refine q_if1 S1.i (et_DB (ed_notN (ed_var rfl (h_old.mono S1.b)))) (fun t H2 e2 => ?_) (fun t H2 e2 => ?_)
  · obtain ⟨o, rfl⟩ : ∃ q, o = some q := by cases o with | none => cases t | some q => exact ⟨q, rfl⟩
    have hl : o.length = d.length := hl o rfl
    have S2 := S1.grow e2
    refine s_forZ S2.i (ed_var rfl (h_old.mono S1.b)) (ed_var rfl (h_dealing.mono S1.b)) (by rw [List.length_map, List.length_map]; exact hl) fun B3 H3 s3 => ⟨fun i σ' H' => ∃ a b, σ' = [some x, some y, some (.int (sm i fun a => kept (oldF (some o)) a (dl d a))), a, b] ∧ Stp B H B3 H', ⟨none, none, rfl, S2.trans s3⟩, fun i σ' H' ⟨_, _, _, s⟩ => s.i, fun i d1 d2 a1 a2 σ' H' H'' h1 h2 q1 q2 p e => ?_, fun σ' H' ⟨a, b, hσ, s⟩ => ?_⟩
    · obtain ⟨a, b, rfl, s⟩ := p
      rw [List.getElem?_map] at h1 h2
      obtain ⟨u, hu, rfl⟩ := Option.map_eq_some_iff.mp h1
      obtain ⟨w, hw, rfl⟩ := Option.map_eq_some_iff.mp h2
      have s4 := s.grow e
      have e1 : oldF (some o) i = u := dl_at hu
      have e2 : dl d i = w := dl_at hw
      have hs : (sm (i + 1) fun a => kept (oldF (some o)) a (dl d a)) = (sm i fun a => kept (oldF (some o)) a (dl d a)) + kept (oldF (some o)) i w := by rw [← e2]; rfl
      refine s_if1 s4.i (et_and (et_DB (ed_notN (ed_var rfl q2))) fun _ => et_D (ed_eq (ed_var rfl q1) (ed_var rfl q2) (flat_dO1 u) (flat_dO1 w) (scal_dO u w) (dO_eq u w))) (fun t H5 e5 => ?_) (fun t H5 e5 => ?_)
      · rw [isNo_dO] at t
        simp only [Bool.and_eq_true, decide_eq_true_eq] at t
        refine s_aug rfl (Ev.mono (s4.grow e5).i (ev_c (H := B3))) fun H6 e6 => ⟨some a1, some a2, ?_, (s4.grow e5).grow e6⟩
        rw [hs]
        have : kept (oldF (some o)) i w = 1 := by
          unfold kept
          cases w with
          | none => simp at t
          | some w => show (if oldF (some o) i = some w then (1 : Int) else 0) = 1; rw [e1, if_pos t.2]
        rw [this]; rfl
      · rw [isNo_dO] at t
        refine ⟨some a1, some a2, ?_, s4.grow e5⟩
        rw [hs]
        have : kept (oldF (some o)) i w = 0 := by
          unfold kept
          cases w with
          | none => rfl
          | some w => show (if oldF (some o) i = some w then (1 : Int) else 0) = 0; rw [e1, if_neg]; intro z; rw [z] at t; simp at t
        rw [this, Int.add_zero]; rfl
    · subst hσ
      refine s_retD s.i (ed_var rfl (show Dt B3 (.int _) (.int _) from rfl)) fun v B4 H4 s4 hv => k v H4 B4 _ (s.trans s4) hv ?_
      rw [List.length_map, hl]; rfl
  · obtain rfl : o = none := by cases o with | none => rfl | some q => cases t
    have S2 := S1.grow e2
    refine s_retD S2.i (ed_var rfl (show Dt B1 (.int 0) (.int 0) from rfl)) fun v B4 H4 s4 hv => k v H4 B4 _ (S2.trans s4) hv ?_
    show PyData.int 0 = .int (keptOf none d)
    have : keptOf none d = 0 := by
      unfold keptOf
      have h0 : ∀ n, (sm n fun a => kept (oldF none) a (dl d a)) = 0 := fun n => by
        induction n with
        | zero => rfl
        | succ n ih =>
          show (sm n fun a => kept (oldF none) a (dl d a)) + kept (oldF none) n (dl d n) = 0
          rw [ih]
          have : kept (oldF none) n (dl d n) = 0 := by
            unfold kept oldF
            split
            · rfl
            · rw [if_neg]; intro z; cases z
          rw [this]; rfl
      exact h0 _
    rw [this]

end
end Wk
namespace Wk
open PySem L2 Evl Wd
def rab : List Nat → List Nat → Bool
  | m :: ms, t :: ts => if m = t then rab ms ts else if m = 0 then false else decide (t = 0) || decide (m < t)
  | _, _ => false
def ranksOf (W : Wish) (A : Aim) (d : Deal) : List Nat := A.turns.map (rkOf W d)
def better (W : Wish) (A : Aim) (d d' : Deal) : Bool := if beside A.ord (countsOf W d) (countsOf W d') = "alike" then (if keptOf A.old d = keptOf A.old d' then rab (ranksOf W A d) (ranksOf W A d') else decide (keptOf A.old d > keptOf A.old d')) else decide (beside A.ord (countsOf W d) (countsOf W d') = "better")
theorem countsOf_len (W : Wish) (d : Deal) : (countsOf W d).length = W.longest + 1 := cnts_len _ _ _

def sp_score_of : Sp := SpA (fun x : Wish × Aim × Deal => [dW x.1, dAim x.2.1, dDeal x.2.2]) (fun x => x.1.Ok ∧ x.2.1.Ok x.1 ∧ DealOk x.1 x.2.2) (fun x r => r = .tuple [dInts (countsOf x.1 x.2.2), .int (keptOf x.2.1.old x.2.2), dNs (ranksOf x.1 x.2.1 x.2.2)])
def sp_ranks_are_better : Sp := SpA (fun x : List Nat × List Nat => [dNs x.1, dNs x.2]) (fun x => x.1.length = x.2.length) (fun x r => r = .bool (rab x.1 x.2))
def sp_is_better : Sp := SpA (fun x : Wish × Aim × Deal × Deal => [dW x.1, dAim x.2.1, dDeal x.2.2.1, dDeal x.2.2.2]) (fun x => x.1.Ok ∧ x.2.1.Ok x.1 ∧ DealOk x.1 x.2.2.1 ∧ DealOk x.1 x.2.2.2) (fun x r => r = .bool (better x.1 x.2.1 x.2.2.1 x.2.2.2))
section
variable {P : Program} {w : World} {K : PySem.W.Frag} {mg : Str → Option Value} {base : Heap} {CS CR CP aO : Addr}
abbrev n_score_of : List Str := ["wishes", "aim", "dealing", "ranks", "asker"]
theorem sc_score_of : FnScope n_score_of ["wishes", "aim", "dealing"] (defScope s_score_of) := ⟨rfl, rfl, rfl, by decide +kernel, rfl, by decide +kernel, by decide +kernel⟩
theorem ok_score_of (T : Txt K mg CS CR CP aO) (c_look_at_aim : Callable P w K mg base 5 "look_at_aim" ["wishes", "thing"] sp_look_at_aim) (c_rank_got : Callable P w K mg base 1 "rank_got" ["ranks", "thing"] sp_rank_got) (c_kept_of : Callable P w K mg base 1 "kept_of" ["old", "dealing"] sp_kept_of) (c_counts_of : Callable P w K mg base 6 "counts_of" ["wishes", "dealing"] sp_counts_of) : Callable P w K mg base 7 "score_of" ["wishes", "aim", "dealing"] sp_score_of := by
  have sc := sc_score_of
  refine mkFn T.f_score_of sc (fun _ _ _ _ _ _ us hl => match us, hl with | [_, _, _], _ => rfl) (fun vs H Q E h => ?_) (fun f cdv A outer s H vs Q E hr h => ?_)
  · obtain ⟨B, W, i0, hd, _⟩ := h; exact hd.length
  refine ⟨_, (pss_cons (ps_expr (pe_fn c_look_at_aim (hr.mono (by decide)) (by rfl) (pa_cons (pv 0) (pa_cons (pv 1) pa_nil))))
     (pss_cons (ps_setLc (i := 3) (own := [("asker", 4)]) (g := gName 4) (tt := tYes) rfl sc.nd rfl rfl (sw_true rfl rfl rfl (by decide +kernel)) (pi_list (pe_ix ix_tup (pv 1) pe_int (fun _ _ => rfl))) (blkOk_by (own := [("asker", 4)]) (N := n_score_of) (sc := defScope s_score_of) (by decide +kernel)) (fun _ _ _ _ _ => (pg_name (i := 4) sc.nd rfl (Or.inl rfl))) (fun _ _ _ _ _ => pts_nil) (fun _ _ _ _ _ => (pe_fn c_rank_got (hr.mono (by decide)) (by rfl) (pa_cons (pe_ix (ixLK K) (pe_ix (ixTK K) (pv 0) pe_int (fun _ _ => rfl)) (pv 4) (fun _ _ => rfl)) (pa_cons (pe_ix (ixLK K) (pv 2) (pv 4) (fun _ _ => rfl)) pa_nil)))))
     (pss_one (ps_ret (pe_tup (pa_cons (pe_fn c_counts_of (hr.mono (by decide)) (by rfl) (pa_cons (pv 0) (pa_cons (pv 2) pa_nil))) (pa_cons (pe_fn c_kept_of (hr.mono (by decide)) (by rfl) (pa_cons (pe_ix ix_tup (pv 1) pe_int (fun _ _ => rfl)) (pa_cons (pv 2) pa_nil))) (pa_cons (pv 3) pa_nil)))))))), ?_⟩
  obtain ⟨B, ⟨W, A, d⟩, i0, hd, ⟨ok, ao, dok⟩, k⟩ := h
  have ok : W.Ok := ok
  have ao : A.Ok W := ao
  have dok : DealOk W d := dok
  obtain ⟨x, y, z, rfl, h_wishes, h_aim, h_dealing⟩ := DtL.three (d1 := dW W) (d2 := dAim A) (d3 := dDeal d) hd
  refine q_dropD i0 (ed_callA (W, A) (ea_consD (ed_var rfl h_wishes) (ea_consD (ed_var rfl h_aim) ea_nilD)) ⟨ok, ao⟩ fun _ z => z) fun B1 H1 S1 => ?_
  have h_wishes := h_wishes.mono S1.b
  have h_aim := h_aim.mono S1.b
  have h_dealing := h_dealing.mono S1.b
  have h7 : A.turns.length ≤ 7 := Nat.le_trans (nodup_small _ _ ao.nd ao.lt) ok.n7
  refine q_asgD S1.i (EvD.eq (d2 := dNs (ranksOf W A d)) (ed_lcL (f := fun _ => true) (v := fun i => dN ((ranksOf W A d).getD i 0)) (ds := A.turns.map dN) (ed_ixT (ed_var rfl h_aim) ed_int rfl) (by rw [List.length_map]; omega) (fun _ => rfl) (fun _ _ _ _ _ _ _ => et_yes) (fun B' e i d1 y hi _ hy => ?_)) ?_) fun v B2 H2 s2 hv => ?_
  · rw [List.getElem?_map] at hi
    obtain ⟨a, ha, rfl⟩ := Option.map_eq_some_iff.mp hi
    have hlt := ao.lt a (List.mem_of_getElem? ha)
    have hlt : a < W.lists.length := hlt
    have hlen : d.length = W.lists.length := dok.len
    obtain ⟨rs, hrs⟩ : ∃ rs, W.lists[a]? = some rs := ⟨_, List.getElem?_eq_getElem hlt⟩
    obtain ⟨o, ho⟩ : ∃ o, d[a]? = some o := ⟨_, List.getElem?_eq_getElem (by omega)⟩
    refine ed_callA (rs, o) (ea_consD (ed_ixL (ed_ixT (ed_var rfl (h_wishes.mono e)) ed_int rfl) (ed_var rfl hy) (atI_some hrs)) (ea_consD (ed_ixL (ed_var rfl (h_dealing.mono e)) (ed_var rfl hy) (atI_some ho)) ea_nilD)) trivial fun q hq => hq.trans ?_
    show dN (rankO rs o) = dN ((ranksOf W A d).getD i 0)
    have : (ranksOf W A d).getD i 0 = rkOf W d a := by
      unfold ranksOf
      rw [List.getD_eq_getElem?_getD, List.getElem?_map, ha]; rfl
    rw [this]
    unfold rkOf
    rw [Wish.ranks_at hrs, dl_at ho]
  · have el : (A.turns.map dN).length = (ranksOf W A d).length := by unfold ranksOf; rw [List.length_map, List.length_map]
    rw [el, gl_map dN]; rfl
  · have S2 := S1.trans s2
    refine s_retD S2.i (ed_tup (ea_consD (ed_callA (W, d) (ea_consD (ed_var rfl (h_wishes.mono s2.b)) (ea_consD (ed_var rfl (h_dealing.mono s2.b)) ea_nilD)) ⟨ok, dok⟩ fun _ z => z) (ea_consD (ed_callA (A.old, d) (ea_consD (ed_ixT (ed_var rfl (h_aim.mono s2.b)) ed_int rfl) (ea_consD (ed_var rfl (h_dealing.mono s2.b)) ea_nilD)) (fun o ho => by rw [(ao.old o ho).1]; exact dok.len.symm) fun _ z => z) (ea_consD (ed_var rfl hv) ea_nilD))) (by show 3 ≤ 100000; decide)) fun v B4 H4 s4 hv => k v H4 B4 _ (S2.trans s4) hv rfl

abbrev n_ranks_are_better : List Str := ["mine", "theirs", "here", "there"]
theorem sc_ranks_are_better : FnScope n_ranks_are_better ["mine", "theirs"] (defScope s_ranks_are_better) := ⟨rfl, rfl, rfl, by decide +kernel, rfl, by decide +kernel, by decide +kernel⟩
theorem ok_ranks_are_better (T : Txt K mg CS CR CP aO)  : Callable P w K mg base 1 "ranks_are_better" ["mine", "theirs"] sp_ranks_are_better := by
  have sc := sc_ranks_are_better
  refine mkFn T.f_ranks_are_better sc (fun _ _ _ _ _ _ us hl => match us, hl with | [_, _], _ => rfl) (fun vs H Q E h => ?_) (fun f cdv A outer s H vs Q E hr h => ?_)
  · obtain ⟨B, W, i0, hd, _⟩ := h; exact hd.length
  refine ⟨_, (pss_cons (ps_for PassesOwn.never rfl (pi_zip (by rfl) T.b_zip (pa_cons (pv 0) (pa_cons (pv 1) pa_nil))) (pg_tup rfl (pgs_cons (pg_name (i := 2) sc.nd rfl (Or.inl rfl)) (pgs_cons (pg_name (i := 3) sc.nd rfl (Or.inl rfl)) pgs_nil)))
     (pss_cons (ps_if (pt_cmpR op_eq (pv 2) (pv 3) (by rfl))
     (pss_one ps_continue)
     pss_nil)
     (pss_cons (ps_if (pt_cmpR op_eq (pv 2) pe_int (by rfl))
     (pss_one (ps_ret pe_bl))
     pss_nil)
     (pss_one (ps_ret (pe_or (pe_cmpR op_eq (pv 3) pe_int (by rfl)) (pe_one (pe_cmpR op_lt (pv 2) (pv 3) (by rfl)))))))))
     (pss_one (ps_ret pe_bl))), ?_⟩
  obtain ⟨B, ⟨m, t⟩, i0, hd, hl, k⟩ := h
  have hl : m.length = t.length := hl
  obtain ⟨x, y, rfl, h_mine, h_theirs⟩ := DtL.two (d1 := dNs m) (d2 := dNs t) hd
  refine q_forZ i0 (ed_var rfl h_mine) (ed_var rfl h_theirs) (by rw [List.length_map, List.length_map]; exact hl) fun B3 H3 s3 => ⟨fun i σ' H' => ∃ a b, σ' = [some x, some y, a, b] ∧ Stp B H B3 H' ∧ rab m t = rab (m.drop i) (t.drop i), ⟨none, none, rfl, s3, rfl⟩, fun i σ' H' ⟨_, _, _, s, _⟩ => s.i, fun i d1 d2 a1 a2 σ' H' H'' h1 h2 q1 q2 p e => ?_, fun σ' H' ⟨a, b, hσ, s, hr⟩ => ?_⟩
  · obtain ⟨a, b, rfl, s, hr⟩ := p
    rw [List.getElem?_map] at h1 h2
    obtain ⟨u, hu, rfl⟩ := Option.map_eq_some_iff.mp h1
    obtain ⟨w, hw, rfl⟩ := Option.map_eq_some_iff.mp h2
    have e1 : m.drop i = u :: m.drop (i + 1) := by rw [List.drop_eq_getElem_cons (List.getElem?_eq_some_iff.mp hu).1, (List.getElem?_eq_some_iff.mp hu).2]
    have e2 : t.drop i = w :: t.drop (i + 1) := by rw [List.drop_eq_getElem_cons (List.getElem?_eq_some_iff.mp hw).1, (List.getElem?_eq_some_iff.mp hw).2]
    rw [e1, e2] at hr
    have hr : rab m t = if u = w then rab (m.drop (i + 1)) (t.drop (i + 1)) else if u = 0 then false else decide (w = 0) || decide (u < w) := hr
    have S4 := s.grow e
    have dd : ∀ a b : Nat, decide (fV (dN a) = fV (dN b)) = decide (a = b) := fun a b => (dO_eq (some a) (some b)).trans (by simp)
    refine q_if1 S4.i (et_D (ed_eq (ed_var rfl q1) (ed_var rfl q2) rfl rfl rfl (dd u w))) (fun z H5 e5 => ?_) (fun z H5 e5 => ?_)
    · rw [if_pos (of_decide_eq_true z)] at hr
      exact ⟨_, _, rfl, S4.grow e5, hr⟩
    · rw [if_neg (of_decide_eq_false z)] at hr
      have S5 := S4.grow e5
      refine q_if1 S5.i (et_D (ed_eq (ed_var rfl q1) (ed_int (i := 0)) rfl rfl rfl (dd u 0))) (fun z H6 e6 => ?_) (fun z H6 e6 => ?_)
      · rw [if_pos (of_decide_eq_true z)] at hr
        exact s_retD (S5.grow e6).i ed_bl fun v B4 H4 s4 hv => k v H4 B4 _ ((S5.grow e6).trans s4) hv (by show _ = PyData.bool (rab m t); rw [hr])
      · rw [if_neg (of_decide_eq_false z)] at hr
        refine s_retD (S5.grow e6).i (ed_orV (ed_eq (ed_var rfl q2) (ed_int (i := 0)) rfl rfl rfl (dd w 0)) fun _ => ed_cmp (ed_var rfl q1) (ed_var rfl q2)) fun v B4 H4 s4 hv => k v H4 B4 _ ((S5.grow e6).trans s4) hv ?_
        show PyData.bool _ = .bool (rab m t)
        rw [hr]; simp
  · subst hσ
    refine s_retD s.i ed_bl fun v B4 H4 s4 hv => k v H4 B4 _ (s.trans s4) hv ?_
    show _ = PyData.bool (rab m t)
    rw [hr, List.length_map, List.drop_length]
    rfl

abbrev n_is_better : List Str := ["wishes", "aim", "one", "other", "counts", "kept", "ranks", "other_counts", "other_kept", "other_ranks", "beside"]
theorem sc_is_better : FnScope n_is_better ["wishes", "aim", "one", "other"] (defScope s_is_better) := ⟨rfl, rfl, rfl, by decide +kernel, rfl, by decide +kernel, by decide +kernel⟩
theorem ok_is_better (T : Txt K mg CS CR CP aO) (c_score_of : Callable P w K mg base 7 "score_of" ["wishes", "aim", "dealing"] sp_score_of) (c_beside_by : Callable P w K mg base 2 "beside_by" ["order", "one", "other"] sp_beside_by) (c_ranks_are_better : Callable P w K mg base 1 "ranks_are_better" ["mine", "theirs"] sp_ranks_are_better) : Callable P w K mg base 8 "is_better" ["wishes", "aim", "one", "other"] sp_is_better := by
  have sc := sc_is_better
  refine mkFn T.f_is_better sc (fun _ _ _ _ _ _ us hl => match us, hl with | [_, _, _, _], _ => rfl) (fun vs H Q E h => ?_) (fun f cdv A outer s H vs Q E hr h => ?_)
  · obtain ⟨B, W, i0, hd, _⟩ := h; exact hd.length
  refine ⟨_, (pss_cons (ps_asg (pe_fn c_score_of (hr.mono (by decide)) (by rfl) (pa_cons (pv 0) (pa_cons (pv 1) (pa_cons (pv 2) pa_nil)))) (pg_tup rfl (pgs_cons (pg_name (i := 4) sc.nd rfl (Or.inl rfl)) (pgs_cons (pg_name (i := 5) sc.nd rfl (Or.inl rfl)) (pgs_cons (pg_name (i := 6) sc.nd rfl (Or.inl rfl)) pgs_nil)))))
     (pss_cons (ps_asg (pe_fn c_score_of (hr.mono (by decide)) (by rfl) (pa_cons (pv 0) (pa_cons (pv 1) (pa_cons (pv 3) pa_nil)))) (pg_tup rfl (pgs_cons (pg_name (i := 7) sc.nd rfl (Or.inl rfl)) (pgs_cons (pg_name (i := 8) sc.nd rfl (Or.inl rfl)) (pgs_cons (pg_name (i := 9) sc.nd rfl (Or.inl rfl)) pgs_nil)))))
     (pss_cons (ps_set (i := 10) sc.nd rfl (Or.inl rfl) (pe_fn c_beside_by (hr.mono (by decide)) (by rfl) (pa_cons (pe_ix ix_tup (pv 1) pe_int (fun _ _ => rfl)) (pa_cons (pv 4) (pa_cons (pv 7) pa_nil)))))
     (pss_cons (ps_if (pt_cmpR op_ne (pv 10) pe_str (by rfl))
     (pss_one (ps_ret (pe_cmpR op_eq (pv 10) pe_str (by rfl))))
     pss_nil)
     (pss_cons (ps_if (pt_cmpR op_ne (pv 5) (pv 8) (by rfl))
     (pss_one (ps_ret (pe_cmpR op_gt (pv 5) (pv 8) (by rfl))))
     pss_nil)
     (pss_one (ps_ret (pe_fn c_ranks_are_better (hr.mono (by decide)) (by rfl) (pa_cons (pv 6) (pa_cons (pv 9) pa_nil)))))))))), ?_⟩
  obtain ⟨B, ⟨W, A, d, d'⟩, i0, hd, ⟨ok, ao, dok, dok'⟩, k⟩ := h
  have ok : W.Ok := ok
  have ao : A.Ok W := ao
  have dok : DealOk W d := dok
  have dok' : DealOk W d' := dok'
  obtain ⟨x, y, z, w, rfl, h_wishes, h_aim, h_one, h_other⟩ := DtL.four (d1 := dW W) (d2 := dAim A) (d3 := dDeal d) (d4 := dDeal d') hd
  refine q_asgT3 i0 (ed_callA (W, A, d) (ea_consD (ed_var rfl h_wishes) (ea_consD (ed_var rfl h_aim) (ea_consD (ed_var rfl h_one) ea_nilD))) ⟨ok, ao, dok⟩ fun _ z => z) fun c1 k1 r1 B1 H1 S1 hc1 hk1 hr1 => ?_
  cases (show k1 = _ from hk1)
  refine q_asgT3 S1.i (ed_callA (W, A, d') (ea_consD (ed_var rfl (h_wishes.mono S1.b)) (ea_consD (ed_var rfl (h_aim.mono S1.b)) (ea_consD (ed_var rfl (h_other.mono S1.b)) ea_nilD))) ⟨ok, ao, dok'⟩ fun _ z => z) fun c2 k2 r2 B2 H2 s2 hc2 hk2 hr2 => ?_
  cases (show k2 = _ from hk2)
  have S2 := S1.trans s2
  have hl5 := W.longest5 ok
  have l1 := countsOf_len W d
  have l2 := countsOf_len W d'
  refine q_asgD S2.i (ed_callA (A.ord, countsOf W d, countsOf W d') (ea_consD (ed_ixT (ed_var rfl (h_aim.mono S2.b)) ed_int rfl) (ea_consD (ed_var rfl (hc1.mono s2.b)) (ea_consD (ed_var rfl hc2) ea_nilD))) ⟨by intro z; have z : countsOf W d = [] := z; rw [z] at l1; simp at l1, by show (countsOf W d).length ≤ 6; omega, by show (countsOf W d).length = (countsOf W d').length; omega⟩ fun _ z => z) fun b B3 H3 s3 hb => ?_
  cases (show b = .str (beside A.ord (countsOf W d) (countsOf W d')) from hb)
  have S3 := S2.trans s3
  have hbt : better W A d d' = if beside A.ord (countsOf W d) (countsOf W d') = "alike" then (if keptOf A.old d = keptOf A.old d' then rab (ranksOf W A d) (ranksOf W A d') else decide (keptOf A.old d > keptOf A.old d')) else decide (beside A.ord (countsOf W d) (countsOf W d') = "better") := rfl
  have ds : ∀ a b : Str, decide (fV (.str a) = fV (.str b)) = decide (a = b) := fun a b => by simp [fV]
  have di : ∀ a b : Int, (!decide (fV (.int a) = fV (.int b))) = !decide (a = b) := fun a b => by simp [fV]
  have hb3 : Dt B3 (.str (beside A.ord (countsOf W d) (countsOf W d'))) (.str (beside A.ord (countsOf W d) (countsOf W d'))) := rfl
  refine q_if1 S3.i (et_D (ed_ne (ed_var rfl hb3) (ed_str (s := "alike")) rfl rfl rfl (by rw [ds]))) (fun z H4 e4 => ?_) (fun z H4 e4 => ?_)
  · have z : ¬ beside A.ord (countsOf W d) (countsOf W d') = "alike" := by simpa using z
    rw [if_neg z] at hbt
    have S4 := S3.grow e4
    refine s_retD S4.i (ed_eq (ed_var rfl hb3) (ed_str (s := "better")) rfl rfl rfl (ds _ _)) fun v B5 H5 s5 hv => k v H5 B5 _ (S4.trans s5) hv ?_
    show _ = PyData.bool (better W A d d')
    rw [hbt]
  · have z : beside A.ord (countsOf W d) (countsOf W d') = "alike" := by simpa using z
    rw [if_pos z] at hbt
    have S4 := S3.grow e4
    have hk1 : Dt B3 (.int (keptOf A.old d)) (.int (keptOf A.old d)) := rfl
    have hk2 : Dt B3 (.int (keptOf A.old d')) (.int (keptOf A.old d')) := rfl
    refine q_if1 S4.i (et_D (ed_ne (ed_var rfl hk1) (ed_var rfl hk2) rfl rfl rfl (di _ _))) (fun z H5 e5 => ?_) (fun z H5 e5 => ?_)
    · have z : ¬ keptOf A.old d = keptOf A.old d' := by simpa using z
      rw [if_neg z] at hbt
      have S5 := S4.grow e5
      refine s_retD S5.i (ed_cmp (ed_var rfl hk1) (ed_var rfl hk2)) fun v B6 H6 s6 hv => k v H6 B6 _ (S5.trans s6) hv ?_
      show _ = PyData.bool (better W A d d')
      rw [hbt]
    · have z : keptOf A.old d = keptOf A.old d' := by simpa using z
      rw [if_pos z] at hbt
      have S5 := S4.grow e5
      refine s_retD S5.i (ed_callA (ranksOf W A d, ranksOf W A d') (ea_consD (ed_var rfl ((hr1.mono s2.b).mono s3.b)) (ea_consD (ed_var rfl (hr2.mono s3.b)) ea_nilD)) (by show (ranksOf W A d).length = (ranksOf W A d').length; unfold ranksOf; simp) fun _ z => z) fun v B6 H6 s6 hv => k v H6 B6 _ (S5.trans s6) hv ?_
      show _ = PyData.bool (better W A d d')
      rw [hbt]

end
end Wk
namespace Wk
open PySem L2 Evl Wd
def pows (b : Int) (n : Nat) : List Int := (List.range (n + 1)).map fun j => b ^ j
theorem pows_len (b : Int) (n : Nat) : (pows b n).length = n + 1 := by unfold pows; simp
theorem pows_at (b : Int) {n j : Nat} (h : j ≤ n) : (pows b n)[j]? = some (b ^ j) := by
  unfold pows
  rw [List.getElem?_map, List.getElem?_range (by omega)]; rfl
theorem pows_last (b : Int) (n : Nat) : (pows b n).getLastD 0 = b ^ n := by
  rw [List.getLastD_eq_getLast?, List.getLast?_eq_getElem?, pows_len, Nat.add_sub_cancel, pows_at b (Nat.le_refl n)]; rfl
theorem pows_succ (b : Int) (n : Nat) : pows b (n + 1) = pows b n ++ [b ^ n * b] := by
  unfold pows
  rw [List.range_succ, List.map_append, ← Int.pow_succ]; rfl
theorem pows_ne (b : Int) (n : Nat) : pows b n ≠ [] := by intro z; have := pows_len b n; rw [z] at this; simp at this
/-- the fields of a scale -/
def scFs (W : Wish) (A : Aim) (vo vt vs vp : V) : List (Str × V) := [("order", .str (Ord.str A.ord)), ("old", vo), ("turns", vt), ("base", .int ((W.n : Int) + 1)), ("ranks", .int (W.longest : Int)), ("steps", vs), ("picks", vp)]
def IsScale (CS : Addr) (x : Wish × Aim) (B : Hp) (v : V) : Prop := ∃ p dx vo vt vs vp, v = .ref p ∧ B p = some (.ins CS dx (scFs x.1 x.2 vo vt vs vp)) ∧ Dt B (dOld x.2.old) vo ∧ Dt B (dNs x.2.turns) vt ∧ Dt B (dInts (pows ((x.1.n : Int) + 1) x.1.longest)) vs ∧ Dt B (dInts (pows ((x.1.longest : Int) + 1) x.2.turns.length)) vp
theorem IsScale.mono {CS : Addr} {x : Wish × Aim} {B B' : Hp} {v : V} (h : IsScale CS x B v) (e : Ex B B') : IsScale CS x B' v := by
  obtain ⟨p, dx, vo, vt, vs, vp, h1, h2, h3, h4, h5, h6⟩ := h
  exact ⟨p, dx, vo, vt, vs, vp, h1, e p _ h2, h3.mono e, h4.mono e, h5.mono e, h6.mono e⟩
theorem Aim.Ok.t7 {W : Wish} {A : Aim} (ao : A.Ok W) (ok : W.Ok) : A.turns.length ≤ 7 := Nat.le_trans (nodup_small _ _ ao.nd ao.lt) ok.n7
def scOk (x : Wish × Aim) : Prop := x.1.Ok ∧ x.2.Ok x.1
theorem pow_small : ∀ {R k : Nat}, R ≤ 5 → k ≤ 7 → 0 ≤ ((R : Int) + 1) ^ k ∧ ((R : Int) + 1) ^ k ≤ 279936 := fun {R k} h1 h2 => by
  have : ∀ (R : Fin 6) (k : Fin 8), 0 ≤ ((R.val : Int) + 1) ^ k.val ∧ ((R.val : Int) + 1) ^ k.val ≤ 279936 := by decide +kernel
  exact this ⟨R, by omega⟩ ⟨k, by omega⟩
def wtOf (W : Wish) (A : Aim) (a t : Nat) : Int := wone A.ord W.n W.longest (oldF A.old) A.turns a (rankIn (W.ranks a) t) t

def sp_powers_of : Sp := SpA (fun x : Nat × Nat => [.int ((x.1 : Int) + 1), dN x.2]) (fun x => x.1 ≤ 7 ∧ x.2 ≤ 7) (fun x r => r = dInts (pows ((x.1 : Int) + 1) x.2))
def sp_Scale_init (CS CR CP : Addr) : Sp := SpInit CS (fun x : Wish × Aim => [dW x.1, dAim x.2]) scOk (fun x p B' _ => IsScale CS x B' (.ref p))
def sp_Scale_by_order (CS CR CP : Addr) : Sp := SpI (fun (x : (Wish × Aim) × Nat) => IsScale CS x.1) (fun x => [dN x.2]) (fun x => scOk x.1 ∧ 1 ≤ x.2 ∧ x.2 ≤ x.1.1.longest) (fun x r => r = .int (byo x.1.2.ord ((x.1.1.n : Int) + 1) x.1.1.longest x.2))
section
variable {P : Program} {w : World} {K : PySem.W.Frag} {mg : Str → Option Value} {base : Heap} {CS CR CP aO : Addr}
abbrev n_powers_of : List Str := ["base", "most", "found", "k"]
theorem sc_powers_of : FnScope n_powers_of ["base", "most"] (defScope s_powers_of) := ⟨rfl, rfl, rfl, by decide +kernel, rfl, by decide +kernel, by decide +kernel⟩
theorem ok_powers_of (T : Txt K mg CS CR CP aO)  : Callable P w K mg base 1 "powers_of" ["base", "most"] sp_powers_of := by
  have sc := sc_powers_of
  refine mkFn T.f_powers_of sc (fun _ _ _ _ _ _ us hl => match us, hl with | [_, _], _ => rfl) (fun vs H Q E h => ?_) (fun f cdv A outer s H vs Q E hr h => ?_)
  · obtain ⟨B, W, i0, hd, _⟩ := h; exact hd.length
  refine ⟨_, (pss_cons (ps_set (i := 2) sc.nd rfl (Or.inl rfl) (pe_lst (pa_cons pe_int pa_nil)))
     (pss_cons (ps_for PassesOwn.never rfl (pi_range1 (by rfl) T.b_range (pa_cons (pv 1) pa_nil)) (pg_name (i := 3) sc.nd rfl (Or.inl rfl))
     (pss_one (ps_expr (pe_bm PySem.F.plainAttrs_list PySem.F.slot_list_append PySem.F.type_list_append mt_append (pv 2) (pa_cons (pe_op op_mul (pe_ix ix_list (pv 2) (pe_un un_neg pe_int) (fun _ _ => rfl)) (pv 0)) pa_nil)))))
     (pss_one (ps_ret (pv 2))))), ?_⟩
  obtain ⟨B, ⟨b, n⟩, i0, hd, ⟨hb7, hn7⟩, k⟩ := h
  have hb7 : b ≤ 7 := hb7
  have hn7 : n ≤ 7 := hn7
  obtain ⟨x, y, rfl, h_base, h_most⟩ := DtL.two (d1 := .int ((b : Int) + 1)) (d2 := dN n) hd
  have S0 := Stp.refl i0
  refine q_new (EvL.mono i0 (el_lst (ea_cons ev_c ea_nil) (by decide))) fun l H1 hl e1 hl1 => ?_
  have S1 := S0.grow e1
  have hBl : B l = none := fresh_back i0 hl
  refine q_forR S1.i (ed_var rfl h_most) (by omega) fun B2 H2 s2 => ⟨fun i σ' H' => ∃ a, σ' = [some x, some y, some (.ref l), a] ∧ Stp B H B2 H' ∧ H' l = some (.lst ((pows ((b : Int) + 1) i).map V.int)), ⟨none, rfl, S1.trans s2, s2.h l _ hl1⟩, fun i σ' H' hi p => ?_, fun σ' H' ⟨a, hσ, S, hll⟩ => ?_⟩
  · obtain ⟨a, rfl, S, hll⟩ := p
    have hB2 : B2 l = none := s2.free hl1 hBl
    have iP := Ex.plus S.i hll
    refine s_app iP hll (ev_var rfl) (ed_opC (ed_ixL (ed_var rfl (Dt.ofInts upd_same)) (EvD.of (v := .int (-1)) (ev_un ev_c ru_neg) rfl) (atI_last (pows_ne _ _))) (ed_var rfl (h_base.mono (s2.b.trans (Ex.new hB2)))) (Or.inr ⟨by omega, by omega⟩)) (by rw [List.length_map, pows_len]; omega) fun yv B7 H7 s7 hy => ?_
    cases (show yv = _ from hy)
    refine ⟨_, rfl, (S.grow s7.h).mut _ hl hB2, ?_⟩
    rw [upd_same, pows_last, pows_succ, List.map_append]; rfl
  · subst hσ
    have hB2 : B2 l = none := s2.free hl1 hBl
    have S' := S.give (o := .lst ((pows ((b : Int) + 1) n).map V.int)) hl hB2 hll
    exact s_retD S'.i (ed_var rfl (Dt.ofInts upd_same)) fun v B4 H4 s4 hv => k v H4 B4 _ (S'.trans s4) hv rfl

abbrev n_Scale_init : List Str := ["self", "wishes", "aim"]
theorem sc_Scale_init : FnScope n_Scale_init ["self", "wishes", "aim"] (defScope s_Scale_init) := ⟨rfl, rfl, rfl, by decide +kernel, rfl, by decide +kernel, by decide +kernel⟩
theorem ok_Scale_init (T : Txt K mg CS CR CP aO) (c_longest : Callable P w K mg base 5 "longest" ["wishes"] sp_longest) (c_powers_of : Callable P w K mg base 1 "powers_of" ["base", "most"] sp_powers_of) : CallC P w K mg base 6 CS "Scale" ["self", "wishes", "aim"] (sp_Scale_init CS CR CP) := by
  have sc := sc_Scale_init
  refine mkC T.i_Scale sc (fun _ _ _ _ _ _ us hl => match us, hl with | [_, _, _], _ => rfl) (fun vs H Q E h => ?_) (fun f cdv A outer s H vs Q E hr h => ?_)
  · obtain ⟨B, H0, a, p, dx, us, rfl, _, _, _, _, _, hd, _⟩ := h; rw [List.length_cons, hd.length]; rfl
  refine ⟨_, (pss_cons (ps_fld (pv 0) (pe_ix ix_tup (pv 2) pe_int (fun _ _ => rfl)) rfl)
     (pss_cons (ps_fld (pv 0) (pe_ix ix_tup (pv 2) pe_int (fun _ _ => rfl)) rfl)
     (pss_cons (ps_fld (pv 0) (pe_callTy (T := "list") call_listS (by rfl) T.b_list (by decide +kernel) (pa_cons (pe_ix ix_tup (pv 2) pe_int (fun _ _ => rfl)) pa_nil)) rfl)
     (pss_cons (ps_fld (pv 0) (pe_op op_add (pe_callB (id := "len") call_lenS (by rfl) T.b_len (by decide +kernel) (pa_cons (pe_ix ix_tup (pv 1) pe_int (fun _ _ => rfl)) pa_nil)) pe_int) rfl)
     (pss_cons (ps_fld (pv 0) (pe_fn c_longest (hr.mono (by decide)) (by rfl) (pa_cons (pv 1) pa_nil)) rfl)
     (pss_cons (ps_fld (pv 0) (pe_fn c_powers_of (hr.mono (by decide)) (by rfl) (pa_cons (pe_fld (pv 0) rfl) (pa_cons (pe_fld (pv 0) rfl) pa_nil))) rfl)
     (pss_one (ps_fld (pv 0) (pe_fn c_powers_of (hr.mono (by decide)) (by rfl) (pa_cons (pe_op op_add (pe_fld (pv 0) rfl) pe_int) (pa_cons (pe_callB (id := "len") call_lenS (by rfl) T.b_len (by decide +kernel) (pa_cons (pe_fld (pv 0) rfl) pa_nil)) pa_nil))) rfl)))))))), ?_⟩
  obtain ⟨B, H0, ⟨W, A⟩, p, dx, us, rfl, i0, hp0, hdx0, hne, rfl, hd, ⟨ok, ao⟩, k⟩ := h
  have ok : W.Ok := ok
  have ao : A.Ok W := ao
  obtain ⟨x, y, rfl, h_wishes, h_aim⟩ := DtL.two (d1 := dW W) (d2 := dAim A) hd
  have S0 : Stp B H0 B _ := init_stp i0 hp0 hdx0 hne (C := CS)
  have hB0 : B p = none := fresh_back i0 hp0
  have hl5 := W.longest5 ok
  have h7 := ao.t7 ok
  have hn7 : W.lists.length ≤ 7 := ok.n7
  have CC := T.cls_Scale
  refine q_fldD S0.i upd_same (ed_ixT (ed_var rfl h_aim) ed_int rfl) (ev_var rfl) CC T.na_Scale_order (by decide) fun v1 B1 H1 s1 hv1 => ?_
  cases (show v1 = _ from hv1)
  have S1 := (S0.trans s1).mut (.ins CS dx (putF "order" (.str (Ord.str A.ord)) [])) hp0 (s1.free upd_same hB0)
  have hB1 : B1 p = none := s1.free upd_same hB0
  refine q_fldD S1.i upd_same (ed_ixT (ed_var rfl (h_aim.mono S1.b)) ed_int rfl) (ev_var rfl) CC T.na_Scale_old (show 1 < 1000 by decide) fun vo B2 H2 s2 hvo => ?_
  have S2 := (S1.trans s2).mut (.ins CS dx (putF "old" vo (putF "order" (.str (Ord.str A.ord)) []))) hp0 (s2.free upd_same hB1)
  have hB2 : B2 p = none := s2.free upd_same hB1
  refine q_fldD S2.i upd_same (ed_list (ed_ixT (ed_var rfl (h_aim.mono S2.b)) ed_int rfl)) (ev_var rfl) CC T.na_Scale_turns (show 2 < 1000 by decide) fun vt B3 H3 s3 hvt => ?_
  have S3 := (S2.trans s3).mut (.ins CS dx (putF "turns" vt (putF "old" vo (putF "order" (.str (Ord.str A.ord)) [])))) hp0 (s3.free upd_same hB2)
  have hB3 : B3 p = none := s3.free upd_same hB2
  refine q_fldD S3.i upd_same ((ed_opI (ed_len (ed_ixT (ed_var rfl (h_wishes.mono S3.b)) ed_int rfl)) ed_int).eq (d2 := .int ((W.n : Int) + 1)) (by rw [List.length_map]; rfl)) (ev_var rfl) CC T.na_Scale_base (show 3 < 1000 by decide) fun v4 B4 H4 s4 hv4 => ?_
  cases (show v4 = _ from hv4)
  have S4 := (S3.trans s4).mut (.ins CS dx (putF "base" (.int ((W.n : Int) + 1)) (putF "turns" vt (putF "old" vo (putF "order" (.str (Ord.str A.ord)) []))))) hp0 (s4.free upd_same hB3)
  have hB4 : B4 p = none := s4.free upd_same hB3
  refine q_fldD S4.i upd_same (ed_callA W (ea_consD (ed_var rfl (h_wishes.mono S4.b)) ea_nilD) ok fun _ z => z) (ev_var rfl) CC T.na_Scale_ranks (show 4 < 1000 by decide) fun v5 B5 H5 s5 hv5 => ?_
  cases (show v5 = _ from hv5)
  have S5 := (S4.trans s5).mut (.ins CS dx (putF "ranks" (.int (W.longest : Int)) (putF "base" (.int ((W.n : Int) + 1)) (putF "turns" vt (putF "old" vo (putF "order" (.str (Ord.str A.ord)) [])))))) hp0 (s5.free upd_same hB4)
  have hB5 : B5 p = none := s5.free upd_same hB4
  refine q_fldP S5.i upd_same hB5 (ed_callA (W.n, W.longest) (ea_consD (ed_fld (v := .int ((W.n : Int) + 1)) (ev_var rfl) upd_same CC T.na_Scale_base (by rfl) rfl) (ea_consD (ed_fld (v := .int (W.longest : Int)) (ev_var rfl) upd_same CC T.na_Scale_ranks (by rfl) rfl) ea_nilD)) ⟨hn7, by show W.longest ≤ 7; omega⟩ fun _ z => z) (ev_var rfl) CC T.na_Scale_steps (show 5 < 1000 by decide) fun vs B6 H6 s6 hvs => ?_
  have S6 := (S5.trans s6).mut (.ins CS dx (putF "steps" vs (putF "ranks" (.int (W.longest : Int)) (putF "base" (.int ((W.n : Int) + 1)) (putF "turns" vt (putF "old" vo (putF "order" (.str (Ord.str A.ord)) []))))))) hp0 (s6.free upd_same hB5)
  have hB6 : B6 p = none := s6.free upd_same hB5
  have et : Ex B3 B6 := (s4.b.trans s5.b).trans s6.b
  refine s_fldP S6.i upd_same hB6 (ed_callA (W.longest, A.turns.length) (ea_consD (ed_opI (ed_fld (v := .int (W.longest : Int)) (ev_var rfl) upd_same CC T.na_Scale_ranks (by rfl) rfl) ed_int) (ea_consD ((ed_len (ed_fld (ev_var rfl) upd_same CC T.na_Scale_turns (by rfl) ((hvt.mono et).mono (Ex.new hB6)))).eq (d2 := dN A.turns.length) (by rw [List.length_map]; rfl)) ea_nilD)) ⟨by show W.longest ≤ 7; omega, h7⟩ fun _ z => z) (ev_var rfl) CC T.na_Scale_picks (show 6 < 1000 by decide) fun vp B7 H7 s7 hvp => ?_
  have hB7 : B7 p = none := s7.free upd_same hB6
  have S7 := ((S6.trans s7).mut (.ins CS dx (putF "picks" vp (putF "steps" vs (putF "ranks" (.int (W.longest : Int)) (putF "base" (.int ((W.n : Int) + 1)) (putF "turns" vt (putF "old" vo (putF "order" (.str (Ord.str A.ord)) [])))))))) hp0 hB7).give hp0 hB7 upd_same
  have eN := Ex.new (o := .ins CS dx (putF "picks" vp (putF "steps" vs (putF "ranks" (.int (W.longest : Int)) (putF "base" (.int ((W.n : Int) + 1)) (putF "turns" vt (putF "old" vo (putF "order" (.str (Ord.str A.ord)) [])))))))) hB7
  have e6 := s7.b.trans eN
  have e5 := s6.b.trans e6
  have e3 := (s4.b.trans s5.b).trans e5
  refine k _ _ S7 ⟨p, dx, vo, vt, vs, vp, rfl, upd_same, hvo.mono (s3.b.trans e3), hvt.mono e3, hvs.mono e6, hvp.mono eN⟩

abbrev n_Scale_by_order : List Str := ["self", "rank", "plain"]
theorem sc_Scale_by_order : FnScope n_Scale_by_order ["self", "rank"] (defScope s_Scale_by_order) := ⟨rfl, rfl, rfl, by decide +kernel, rfl, by decide +kernel, by decide +kernel⟩
theorem ok_Scale_by_order (T : Txt K mg CS CR CP aO)  : CallM P w K mg base 1 CS "by_order" ["self", "rank"] (sp_Scale_by_order CS CR CP) := by
  have sc := sc_Scale_by_order
  refine mkM T.m_Scale_by_order sc (fun _ _ _ _ _ _ us hl => match us, hl with | [_, _], _ => rfl) (fun vs H Q E h => ?_) (fun f cdv A outer s H vs Q E hr h => ?_)
  · obtain ⟨B, a, x, us, rfl, i0, hs, hd, _⟩ := h; rw [List.length_cons, hd.length]; rfl
  refine ⟨_, (pss_cons (ps_if (pt_cmpR op_eq (pe_fld (pv 0) rfl) pe_str (by rfl))
     (pss_one (ps_ret (pe_op op_sub (pe_ix ix_list (pe_fld (pv 0) rfl) (pe_fld (pv 0) rfl) (fun _ _ => rfl)) (pe_ix ix_list (pe_fld (pv 0) rfl) (pe_op op_sub (pv 1) pe_int) (fun _ _ => rfl)))))
     pss_nil)
     (pss_cons (ps_set (i := 2) sc.nd rfl (Or.inl rfl) (pe_ix ix_list (pe_fld (pv 0) rfl) (pe_op op_sub (pe_fld (pv 0) rfl) (pv 1)) (fun _ _ => rfl)))
     (pss_cons (ps_if (pt_cmpR op_eq (pe_fld (pv 0) rfl) pe_str (by rfl))
     (pss_one (ps_ret (pe_op op_add (pv 2) (pe_ix ix_list (pe_fld (pv 0) rfl) (pe_fld (pv 0) rfl) (fun _ _ => rfl)))))
     pss_nil)
     (pss_one (ps_ret (pv 2)))))), ?_⟩
  obtain ⟨B, ⟨⟨W, A⟩, r⟩, x, us, rfl, i0, hs, hd, ⟨⟨ok, ao⟩, hr1, hr2⟩, k⟩ := h
  have hr1 : 1 ≤ r := hr1
  have hr2 : r ≤ W.longest := hr2
  obtain ⟨y, rfl, h_rank⟩ := hd.one
  obtain ⟨p, dx, vo, vt, vs, vp, rfl, hp, ho, ht, hst, hpk⟩ := hs
  have CC := T.cls_Scale
  have S0 := Stp.refl i0
  have f_order : ∀ {z : Option V}, EvD (tFld K (tVar 0) "order") [some (.ref p), some y, z] B (.str (Ord.str A.ord)) := fun {z} => ed_fld (ev_var rfl) hp CC T.na_Scale_order (by rfl) rfl
  have f_ranks : ∀ {z : Option V}, EvD (tFld K (tVar 0) "ranks") [some (.ref p), some y, z] B (.int (W.longest : Int)) := fun {z} => ed_fld (v := .int (W.longest : Int)) (ev_var rfl) hp CC T.na_Scale_ranks (by rfl) rfl
  have f_steps : ∀ {z : Option V}, EvD (tFld K (tVar 0) "steps") [some (.ref p), some y, z] B (dInts (pows ((W.n : Int) + 1) W.longest)) := fun {z} => ed_fld (ev_var rfl) hp CC T.na_Scale_steps (by rfl) hst
  have v_rank : ∀ {z : Option V}, EvD (tVar 1) [some (.ref p), some y, z] B (.int (r : Int)) := fun {z} => ed_var rfl h_rank
  have ds : ∀ a b : Str, decide (fV (.str a) = fV (.str b)) = decide (a = b) := fun a b => by simp [fV]
  have at' : ∀ j : Nat, j ≤ W.longest → ∀ i : Int, i = (j : Int) → atI ((pows ((W.n : Int) + 1) W.longest).map PyData.int) i = some (PyData.int (((W.n : Int) + 1) ^ j)) := fun j hj i hi => by
    subst hi; exact atI_some (pows_at _ hj)
  generalize hord : A.ord = o at *
  cases o with
  | firsts =>
    refine q_skip i0 (et_D (ed_eq f_order (ed_str (s := "lasts")) rfl rfl rfl rfl)) (by decide +kernel) fun H1 e1 => ?_
    have S1 := S0.grow e1
    refine q_asgD S1.i (ed_ixL f_steps (ed_opI f_ranks v_rank) (at' (W.longest - r) (by omega) _ (by omega))) fun v B2 H2 s2 hv => ?_
    cases (show v = _ from hv)
    have S2 := S1.trans s2
    refine q_skip S2.i (et_D ((ed_eq f_order (ed_str (s := "full")) rfl rfl rfl rfl).mono s2.b)) (by decide +kernel) fun H3 e3 => ?_
    have S3 := S2.grow e3
    refine s_retD S3.i (ed_var rfl (show Dt B2 (.int _) (.int _) from rfl)) fun v B4 H4 s4 hv => k v H4 B4 _ (S3.trans s4) hv ?_
    show _ = PyData.int (byo A.ord _ _ _); rw [hord]; rfl
  | full =>
    refine q_skip i0 (et_D (ed_eq f_order (ed_str (s := "lasts")) rfl rfl rfl rfl)) (by decide +kernel) fun H1 e1 => ?_
    have S1 := S0.grow e1
    refine q_asgD S1.i (ed_ixL f_steps (ed_opI f_ranks v_rank) (at' (W.longest - r) (by omega) _ (by omega))) fun v B2 H2 s2 hv => ?_
    cases (show v = _ from hv)
    have S2 := S1.trans s2
    refine q_yes S2.i (et_D ((ed_eq f_order (ed_str (s := "full")) rfl rfl rfl rfl).mono s2.b)) (by decide +kernel) fun H3 e3 => ?_
    have S3 := S2.grow e3
    refine s_retD S3.i (ed_opI (ed_var rfl (show Dt B2 (.int _) (.int _) from rfl)) (EvD.mono s2.b (ed_ixL f_steps f_ranks (at' W.longest (by omega) _ rfl)))) fun v B4 H4 s4 hv => k v H4 B4 _ (S3.trans s4) hv ?_
    show _ = PyData.int (byo A.ord _ _ _); rw [hord]; rfl
  | lasts =>
    refine q_yes i0 (et_D (ed_eq f_order (ed_str (s := "lasts")) rfl rfl rfl rfl)) (by decide +kernel) fun H1 e1 => ?_
    have S1 := S0.grow e1
    refine s_retD S1.i (ed_opI (ed_ixL f_steps f_ranks (at' W.longest (by omega) _ rfl)) (ed_ixL f_steps (ed_opI v_rank ed_int) (at' (r - 1) (by omega) _ (by omega)))) fun v B4 H4 s4 hv => k v H4 B4 _ (S1.trans s4) hv ?_
    show _ = PyData.int (byo A.ord _ _ _); rw [hord]; rfl

end
end Wk
namespace Wk
open PySem L2 Evl Wd
theorem ed_callF {σ : L2.St} {B : Hp} {ta : TE} {tr : TA} {d : PyData} {p : Addr} {E : XK} {α : Type} {self : α → Hp → V → Prop} {args : α → List PyData} {pre : α → Prop} {post : α → PyData → Prop} (a : α) (ho : Ev ta σ B (.ref p)) (hs : ∀ B', Ex B B' → self a B' (.ref p)) (h : EvDA tr σ B (args a)) (hpre : pre a) (hq : ∀ d', post a d' → d' = d) :
    EvD (tCall (SpI self args pre post) [] E (tCons ta tr)) σ B d := fun H1 e Q q => ho H1 e _ fun H2 e2 => h H2 (e.trans e2) _ fun vs H3 B3 s3 hd =>
  ⟨B3, a, .ref p, vs, by rw [List.append_nil], s3.i, hs B3 s3.b, hd, hpre, fun v H4 B4 d' s4 hv hpost => q v H4 B4 (((Stp.refl e).grow e2).trans (s3.trans s4)) (by rw [← hq d' hpost]; exact hv)⟩

def sp_Scale_pick_of (CS CR CP : Addr) : Sp := SpI (fun (x : (Wish × Aim) × Nat × Nat) => IsScale CS x.1) (fun x => [dN x.2.1, dN x.2.2]) (fun x => scOk x.1 ∧ 1 ≤ x.2.2 ∧ x.2.2 ≤ x.1.1.longest) (fun x r => r = .int (pick x.1.1.longest x.1.2.turns x.2.1 x.2.2))
def sp_Scale_of (CS CR CP : Addr) : Sp := SpI (fun (x : (Wish × Aim) × Nat × Nat × Nat) => IsScale CS x.1) (fun x => [dN x.2.1, dN x.2.2.1, dN x.2.2.2]) (fun x => scOk x.1 ∧ x.2.1 < x.1.1.n ∧ 1 ≤ x.2.2.2 ∧ x.2.2.2 ≤ x.1.1.longest) (fun x r => r = .int (wone x.1.2.ord x.1.1.n x.1.1.longest (oldF x.1.2.old) x.1.2.turns x.2.1 x.2.2.2 x.2.2.1))
section
variable {P : Program} {w : World} {K : PySem.W.Frag} {mg : Str → Option Value} {base : Heap} {CS CR CP aO : Addr}
abbrev n_Scale_pick_of : List Str := ["self", "asker", "rank", "behind"]
theorem sc_Scale_pick_of : FnScope n_Scale_pick_of ["self", "asker", "rank"] (defScope s_Scale_pick_of) := ⟨rfl, rfl, rfl, by decide +kernel, rfl, by decide +kernel, by decide +kernel⟩
theorem ok_Scale_pick_of (T : Txt K mg CS CR CP aO)  : CallM P w K mg base 1 CS "pick_of" ["self", "asker", "rank"] (sp_Scale_pick_of CS CR CP) := by
  have sc := sc_Scale_pick_of
  refine mkM T.m_Scale_pick_of sc (fun _ _ _ _ _ _ us hl => match us, hl with | [_, _, _], _ => rfl) (fun vs H Q E h => ?_) (fun f cdv A outer s H vs Q E hr h => ?_)
  · obtain ⟨B, a, x, us, rfl, i0, hs, hd, _⟩ := h; rw [List.length_cons, hd.length]; rfl
  refine ⟨_, (pss_cons (ps_if (pt_cmpR op_notIn_seq (pv 1) (pe_fld (pv 0) rfl) (by rfl))
     (pss_one (ps_ret pe_int))
     pss_nil)
     (pss_cons (ps_set (i := 3) sc.nd rfl (Or.inl rfl) (pe_op op_sub (pe_op op_sub (pe_callB (id := "len") call_lenS (by rfl) T.b_len (by decide +kernel) (pa_cons (pe_fld (pv 0) rfl) pa_nil)) pe_int) (pe_bm PySem.F.plainAttrs_list PySem.F.slot_list_index PySem.F.type_list_index mt_index (pe_fld (pv 0) rfl) (pa_cons (pv 1) pa_nil))))
     (pss_one (ps_ret (pe_op op_mul (pe_op op_sub (pe_op op_add (pe_fld (pv 0) rfl) pe_int) (pv 2)) (pe_ix ix_list (pe_fld (pv 0) rfl) (pv 3) (fun _ _ => rfl))))))), ?_⟩
  obtain ⟨B, ⟨⟨W, A⟩, a, r⟩, x, us, rfl, i0, hs, hd, ⟨⟨ok, ao⟩, hr1, hr2⟩, k⟩ := h
  have ok : W.Ok := ok
  have ao : A.Ok W := ao
  have hr1 : 1 ≤ r := hr1
  have hr2 : r ≤ W.longest := hr2
  have hl5 := W.longest5 ok
  obtain ⟨y, z, rfl, h_asker, h_rank⟩ := DtL.two (d1 := dN a) (d2 := dN r) hd
  obtain ⟨p, dx, vo, vt, vs, vp, rfl, hp, ho, ht, hst, hpk⟩ := hs
  have CC := T.cls_Scale
  have S0 := Stp.refl i0
  have f_turns : ∀ {q : Option V}, EvD (tFld K (tVar 0) "turns") [some (.ref p), some y, some z, q] B (dNs A.turns) := fun {q} => ed_fld (ev_var rfl) hp CC T.na_Scale_turns (by rfl) ht
  have f_ranks : ∀ {q : Option V}, EvD (tFld K (tVar 0) "ranks") [some (.ref p), some y, some z, q] B (.int (W.longest : Int)) := fun {q} => ed_fld (v := .int (W.longest : Int)) (ev_var rfl) hp CC T.na_Scale_ranks (by rfl) rfl
  have f_picks : ∀ {q : Option V}, EvD (tFld K (tVar 0) "picks") [some (.ref p), some y, some z, q] B (dInts (pows ((W.longest : Int) + 1) A.turns.length)) := fun {q} => ed_fld (ev_var rfl) hp CC T.na_Scale_picks (by rfl) hpk
  refine q_if1 i0 (et_D (ed_in (b := !decide (a ∈ A.turns)) (ed_var rfl h_asker) f_turns rfl (flat_dN _) (by rw [if_pos rfl]; exact congrArg _ (mem_inV a A.turns)))) (fun t H1 e1 => ?_) (fun t H1 e1 => ?_)
  · have t : a ∉ A.turns := by simpa using t
    refine s_retD (S0.grow e1).i ed_int fun v B4 H4 s4 hv => k v H4 B4 _ ((S0.grow e1).trans s4) hv ?_
    show _ = PyData.int (pick W.longest A.turns a r)
    unfold pick; rw [if_neg t]
  · have t : a ∈ A.turns := by simpa using t
    have S1 := S0.grow e1
    have hlt := List.idxOf_lt_length_of_mem t
    have hat : A.turns[A.turns.idxOf a]? = some a := by rw [List.getElem?_eq_getElem hlt, List.getElem_idxOf]
    refine q_asgD S1.i ((ed_opI (ed_opI (ed_len f_turns) ed_int) (ed_index (j := A.turns.idxOf a) (z := nV a) f_turns (ed_var rfl h_asker) (flat_dN _) rfl ?_ ?_ ?_)).eq (d2 := dN (A.turns.length - 1 - A.turns.idxOf a)) ?_) fun v B2 H2 s2 hv => ?_
    · rw [map_nV, List.getElem?_map, hat]; rfl
    · exact beq_iff_eq.mpr rfl
    · intro m z' hm hz
      rw [map_nV, List.getElem?_map] at hz
      obtain ⟨b, hb, rfl⟩ := Option.map_eq_some_iff.mp hz
      have hne : b ≠ a := by
        have h1 := List.not_of_lt_findIdx (p := (· == a)) (xs := A.turns) (i := m) hm
        rw [(List.getElem?_eq_some_iff.mp hb).2] at h1
        intro z; subst z; simp at h1
      show ((b : Int) == (a : Int)) = false
      exact beq_eq_false_iff_ne.mpr fun z => hne (by omega)
    · rw [List.length_map]
      show PyData.int _ = .int _
      congr 1
      omega
    · cases (show v = .int _ from hv)
      have S2 := S1.trans s2
      refine s_retD S2.i (EvD.mono s2.b (ed_opC (ed_opI (ed_opI f_ranks ed_int) (ed_var rfl h_rank)) (ed_ixL f_picks (ed_var rfl (d := dN (A.turns.length - 1 - A.turns.idxOf a)) rfl) (atI_some (pows_at _ (by omega)))) (Or.inl ⟨by omega, by omega⟩))) fun v B4 H4 s4 hv => k v H4 B4 _ (S2.trans s4) hv ?_
      show _ = PyData.int (pick W.longest A.turns a r)
      unfold pick; rw [if_pos t]

abbrev n_Scale_of : List Str := ["self", "asker", "thing", "rank", "worth"]
theorem sc_Scale_of : FnScope n_Scale_of ["self", "asker", "thing", "rank"] (defScope s_Scale_of) := ⟨rfl, rfl, rfl, by decide +kernel, rfl, by decide +kernel, by decide +kernel⟩
theorem ok_Scale_of (T : Txt K mg CS CR CP aO) (c_Scale_by_order : CallM P w K mg base 1 CS "by_order" ["self", "rank"] (sp_Scale_by_order CS CR CP)) (c_Scale_pick_of : CallM P w K mg base 1 CS "pick_of" ["self", "asker", "rank"] (sp_Scale_pick_of CS CR CP)) : CallM P w K mg base 2 CS "of" ["self", "asker", "thing", "rank"] (sp_Scale_of CS CR CP) := by
  have sc := sc_Scale_of
  refine mkM T.m_Scale_of sc (fun _ _ _ _ _ _ us hl => match us, hl with | [_, _, _, _], _ => rfl) (fun vs H Q E h => ?_) (fun f cdv A outer s H vs Q E hr h => ?_)
  · obtain ⟨B, a, x, us, rfl, i0, hs, hd, _⟩ := h; rw [List.length_cons, hd.length]; rfl
  refine ⟨_, (pss_cons (ps_set (i := 4) sc.nd rfl (Or.inl rfl) (pe_op op_mul (pe_m (pv 0) T.cls_Scale c_Scale_by_order (hr.mono (by decide)) (pa_cons (pv 3) pa_nil)) (pe_fld (pv 0) rfl)))
     (pss_cons (ps_if (PW.pt (pw_and (pt_cmp (pc_notN (pe_fld (pv 0) rfl))) (pw_and1 (pt_cmpR op_eq (pe_ix ix_list (pe_fld (pv 0) rfl) (pv 1) (fun _ _ => rfl)) (pv 2) (by rfl)))))
     (pss_one (ps_aug (i := 4) sc.nd rfl (Or.inl rfl) pe_int ip_add))
     pss_nil)
     (pss_one (ps_ret (pe_op op_add (pe_op op_mul (pv 4) (pe_ix ix_list (pe_fld (pv 0) rfl) (pe_un un_neg pe_int) (fun _ _ => rfl))) (pe_m (pv 0) T.cls_Scale c_Scale_pick_of (hr.mono (by decide)) (pa_cons (pv 1) (pa_cons (pv 3) pa_nil)))))))), ?_⟩
  obtain ⟨B, ⟨⟨W, A⟩, a, t, r⟩, x, us, rfl, i0, hs, hd, ⟨⟨ok, ao⟩, ha, hr1, hr2⟩, k⟩ := h
  have ok : W.Ok := ok
  have ao : A.Ok W := ao
  have ha : a < W.n := ha
  have hr1 : 1 ≤ r := hr1
  have hr2 : r ≤ W.longest := hr2
  have hl5 := W.longest5 ok
  have h7 := ao.t7 ok
  have hn7 : W.n ≤ 7 := ok.n7
  obtain ⟨y, z, w, rfl, h_asker, h_thing, h_rank⟩ := DtL.three (d1 := dN a) (d2 := dN t) (d3 := dN r) hd
  have hs0 := hs
  obtain ⟨p, dx, vo, vt, vs, vp, rfl, hp, ho, ht, hst, hpk⟩ := hs
  have CC := T.cls_Scale
  have S0 := Stp.refl i0
  have f_old : ∀ {q : Option V}, EvD (tFld K (tVar 0) "old") [some (.ref p), some y, some z, some w, q] B (dOld A.old) := fun {q} => ed_fld (ev_var rfl) hp CC T.na_Scale_old (by rfl) ho
  have f_base : ∀ {q : Option V}, EvD (tFld K (tVar 0) "base") [some (.ref p), some y, some z, some w, q] B (.int ((W.n : Int) + 1)) := fun {q} => ed_fld (v := .int ((W.n : Int) + 1)) (ev_var rfl) hp CC T.na_Scale_base (by rfl) rfl
  have f_picks : ∀ {q : Option V}, EvD (tFld K (tVar 0) "picks") [some (.ref p), some y, some z, some w, q] B (dInts (pows ((W.longest : Int) + 1) A.turns.length)) := fun {q} => ed_fld (ev_var rfl) hp CC T.na_Scale_picks (by rfl) hpk
  refine q_asgD i0 (ed_opC (ed_callI ((W, A), r) (ev_var rfl) hp (by rfl) (fun _ e => hs0.mono e) (ea_consD (ed_var rfl h_rank) ea_nilD) ⟨⟨ok, ao⟩, hr1, hr2⟩ fun _ z => z) f_base (Or.inr ⟨by omega, by omega⟩)) fun v B1 H1 S1 hv => ?_
  cases (show v = .int (byo A.ord ((W.n : Int) + 1) W.longest r * ((W.n : Int) + 1)) from hv)
  have kr := kept_nonneg (oldF A.old) a (some t)
  have last : ∀ q : Int, EvP (tOp (rI0 fun i j => .int (i + j)) (tOp (rI CMul fun i j => .int (i * j)) (tVar 4) (tOp (rIxL K) (tFld K (tVar 0) "picks") (tUn (rU fun i => .int (-i)) (tC (.int 1))))) (tMeth CS "pick_of" (sp_Scale_pick_of CS CR CP) [] E0 (tVar 0) (tCons (tVar 1) (tCons (tVar 3) tNil)))) [some (.ref p), some y, some z, some w, some (.int q)] B (fun d => d = .int (q * ((W.longest : Int) + 1) ^ A.turns.length + pick W.longest A.turns a r)) := fun q =>
    EvD.p (ed_opI (ed_opC (ed_var rfl (show Dt B (.int q) (.int q) from rfl)) ((ed_ixL f_picks (EvD.of (v := .int (-1)) (ev_un ev_c ru_neg) rfl) (atI_last (pows_ne _ _))).eq (d2 := .int (((W.longest : Int) + 1) ^ A.turns.length)) (by rw [pows_last])) (Or.inr (by have := pow_small hl5 h7; exact ⟨by omega, by omega⟩))) (ed_callI ((W, A), a, r) (ev_var rfl) hp (by rfl) (fun _ e => hs0.mono e) (ea_consD (ed_var rfl h_asker) (ea_consD (ed_var rfl h_rank) ea_nilD)) ⟨⟨ok, ao⟩, hr1, hr2⟩ fun _ z => z)) rfl
  have fin : ∀ (q : Int) B5 H5, Stp B H B5 H5 → q = byo A.ord ((W.n : Int) + 1) W.longest r * ((W.n : Int) + 1) + kept (oldF A.old) a (some t) → tRet (tOp (rI0 fun i j => .int (i + j)) (tOp (rI CMul fun i j => .int (i * j)) (tVar 4) (tOp (rIxL K) (tFld K (tVar 0) "picks") (tUn (rU fun i => .int (-i)) (tC (.int 1))))) (tMeth CS "pick_of" (sp_Scale_pick_of CS CR CP) [] E0 (tVar 0) (tCons (tVar 1) (tCons (tVar 3) tNil)))) { nx := fun _ H' => Q .non H', rt := Q } [some (.ref p), some y, some z, some w, some (.int q)] H5 := fun q B5 H5 S5 hq => (EvP.mono S5.b (last q)) H5 S5.i _ fun v H6 B6 d s6 hv hd => by
    refine k v H6 B6 d (S5.trans s6) hv ?_
    show d = PyData.int (wone A.ord W.n W.longest (oldF A.old) A.turns a r t)
    rw [hd, hq]; rfl
  refine q_ifB S1.i (EvT.mono S1.b (et_and (et_DB (ed_notN f_old)) fun hz => et_D (b := decide (oldF A.old a = some t)) ?_)) (fun z H2 e2 => ?_) (fun z H2 e2 => ?_)
  · obtain ⟨o, hoo⟩ : ∃ o, A.old = some o := by
      cases q : A.old with
      | none => rw [q] at hz; cases hz
      | some o => exact ⟨o, rfl⟩
    have hol := (ao.old o hoo).1
    have hu : o[a]? = some (oldF A.old a) := by
      rw [hoo]
      unfold oldF dl
      rw [List.getD_eq_getElem?_getD]
      show o[a]? = some ((o[a]?).getD none)
      rw [List.getElem?_eq_getElem (by omega)]; rfl
    have f2 : EvD (tFld K (tVar 0) "old") [some (.ref p), some y, some z, some w, some (.int (byo A.ord ((W.n : Int) + 1) W.longest r * ((W.n : Int) + 1)))] B (.list (o.map dO)) := f_old.eq (by rw [hoo]; rfl)
    refine ed_eq (d1 := dO (oldF A.old a)) (d2 := dO (some t)) (ed_ixL f2 (ed_var rfl h_asker) (atI_some hu)) (ed_var rfl h_thing) (flat_dO1 _) (flat_dO1 _) (scal_dO _ _) (dO_eq _ _)
  · have hz : kept (oldF A.old) a (some t) = 1 := by
      show (if oldF A.old a = some t then (1 : Int) else 0) = 1
      simp only [Bool.and_eq_true, decide_eq_true_eq] at z
      rw [if_pos z.2]
    refine s_aug rfl (Ev.mono (S1.grow e2).i (ev_c (H := B1))) fun H3 e3 => ?_
    exact fin _ B1 H3 ((S1.grow e2).grow e3) (by rw [hz])
  · have hz : kept (oldF A.old) a (some t) = 0 := by
      show (if oldF A.old a = some t then (1 : Int) else 0) = 0
      refine if_neg fun q => ?_
      rw [q] at z
      cases ho : A.old with
      | none => rw [ho] at q; cases q
      | some o => rw [ho] at z; simp [isNo, dOld, dDeal] at z
    exact fin _ B1 H2 (S1.grow e2) (by rw [hz, Int.add_zero])

end
end Wk
namespace Wk
open PySem L2 Evl Wd
theorem nodup_pre {rs : List (List Nat)} {i j t : Nat} {row : List Nat} (nd : rs.flatten.Nodup) (hi : rs[i]? = some row) (hj : row[j]? = some t) : t ∉ (rs.take i).flatten ++ row.take j := by
  have e1 : rs.flatten = ((rs.take i).flatten ++ row.take j) ++ ([t] ++ (row.drop (j + 1) ++ (rs.drop (i + 1)).flatten)) := by
    have q1 : rs = rs.take i ++ row :: rs.drop (i + 1) := by
      conv => lhs; rw [← List.take_append_drop i rs]
      rw [List.drop_eq_getElem_cons (List.getElem?_eq_some_iff.mp hi).1, (List.getElem?_eq_some_iff.mp hi).2]
    have q2 : row = row.take j ++ t :: row.drop (j + 1) := by
      conv => lhs; rw [← List.take_append_drop j row]
      rw [List.drop_eq_getElem_cons (List.getElem?_eq_some_iff.mp hj).1, (List.getElem?_eq_some_iff.mp hj).2]
    conv => lhs; rw [q1, List.flatten_append, List.flatten_cons, q2]
    simp
  rw [e1] at nd
  intro hin
  exact (List.nodup_append.mp nd).2.2 t hin t (by simp) rfl
theorem pre_len {rs : List (List Nat)} {i j : Nat} {row : List Nat} (hi : rs[i]? = some row) : ((rs.take i).flatten ++ row.take j).length ≤ rs.flatten.length := by
  have e1 : rs.flatten = (rs.take i).flatten ++ (row ++ (rs.drop (i + 1)).flatten) := by
    conv => lhs; rw [← List.take_append_drop i rs, List.flatten_append]
    rw [List.drop_eq_getElem_cons (List.getElem?_eq_some_iff.mp hi).1, (List.getElem?_eq_some_iff.mp hi).2, List.flatten_cons]
  have e2 : (row.take j).length ≤ row.length := by rw [List.length_take]; omega
  rw [e1, List.length_append, List.length_append, List.length_append]
  omega
theorem lookI_map (g : Nat → Int) (t : Nat) : ∀ l : List Nat, lookI (l.map fun t : Nat => ((t : Int), g t)) (t : Int) = if t ∈ l then some (g t) else none
  | [] => rfl
  | x :: xs => by
    unfold lookI
    rw [List.map_cons, List.find?_cons]
    by_cases e : x = t
    · subst e; simp
    · have : decide (((x : Int)) = (t : Int)) = false := decide_eq_false (by omega)
      rw [this]
      show lookI _ _ = _
      rw [lookI_map g t xs]
      have : (t ∈ x :: xs) ↔ t ∈ xs := by simp [Ne.symm e]
      by_cases h : t ∈ xs
      · rw [if_pos h, if_pos (this.mpr h)]
      · rw [if_neg h, if_neg fun z => h (this.mp z)]
theorem dk_snoc {g : Nat → Int} {t : Nat} {l : List Nat} (h : t ∉ l) : putK (dk (l.map fun t : Nat => ((t : Int), g t))) (Sum.inl (t : Int) : Key) (.int (g t)) = dk ((l ++ [t]).map fun t : Nat => ((t : Int), g t)) := by
  rw [putK_new _ (by rw [valV_dk, lookI_map, if_neg h]; rfl)]
  unfold dk
  simp
theorem dk_len (l : List (Int × Int)) : (dk l).length = l.length := by unfold dk; simp
theorem Dt.ofDict {H : Hp} {l : List (Int × Int)} {a : Addr} (h : H a = some (.dK (dk l))) : Dt H (dDict l) (.ref a) := ⟨a, l, rfl, .inl h, rfl⟩

def sp_worths_of (CS CR CP : Addr) : Sp := SpI (fun (x : (Wish × Aim) × Nat) => IsScale CS x.1) (fun x => [dN x.2, dRs (x.1.1.ranks x.2)]) (fun x => scOk x.1 ∧ x.2 < x.1.1.n) (fun x r => r = dDict ((x.1.1.ranks x.2).flatten.map fun t : Nat => ((t : Int), wtOf x.1.1 x.1.2 x.2 t)))
section
variable {P : Program} {w : World} {K : PySem.W.Frag} {mg : Str → Option Value} {base : Heap} {CS CR CP aO : Addr}
abbrev n_worths_of : List Str := ["scale", "asker", "ranks", "found", "k", "row", "thing"]
theorem sc_worths_of : FnScope n_worths_of ["scale", "asker", "ranks"] (defScope s_worths_of) := ⟨rfl, rfl, rfl, by decide +kernel, rfl, by decide +kernel, by decide +kernel⟩
theorem ok_worths_of (T : Txt K mg CS CR CP aO) (c_Scale_of : CallM P w K mg base 2 CS "of" ["self", "asker", "thing", "rank"] (sp_Scale_of CS CR CP)) : Callable P w K mg base 3 "worths_of" ["scale", "asker", "ranks"] (sp_worths_of CS CR CP) := by
  have sc := sc_worths_of
  refine mkFn T.f_worths_of sc (fun _ _ _ _ _ _ us hl => match us, hl with | [_, _, _], _ => rfl) (fun vs H Q E h => ?_) (fun f cdv A outer s H vs Q E hr h => ?_)
  · obtain ⟨B, a, x, us, rfl, i0, hs, hd, _⟩ := h; rw [List.length_cons, hd.length]; rfl
  have hu := hu_of hr
  refine ⟨_, (pss_cons (ps_set (i := 3) sc.nd rfl (Or.inl rfl) pe_dnewK)
     (pss_cons (ps_for PassesOwn.never rfl (pi_enum (by rfl) T.b_enumerate (pa_cons (pv 2) pa_nil)) (pg_tup rfl (pgs_cons (pg_name (i := 4) sc.nd rfl (Or.inl rfl)) (pgs_cons (pg_name (i := 5) sc.nd rfl (Or.inl rfl)) pgs_nil)))
     (pss_one (ps_for PassesOwn.never rfl (pi_list (pv 5)) (pg_name (i := 6) sc.nd rfl (Or.inl rfl))
     (pss_one (ps_dput hu (pv 3) (pv 6) (pe_m (pv 0) T.cls_Scale c_Scale_of (hr.mono (by decide)) (pa_cons (pv 1) (pa_cons (pv 6) (pa_cons (pe_op op_add (pv 4) pe_int) pa_nil)))) rfl)))))
     (pss_one (ps_ret (pv 3))))), ?_⟩
  obtain ⟨B, ⟨⟨W, A⟩, a⟩, x, us, rfl, i0, hs, hd, ⟨⟨ok, ao⟩, ha⟩, k⟩ := h
  have ok : W.Ok := ok
  have ao : A.Ok W := ao
  have ha : a < W.n := ha
  obtain ⟨rs, hrs⟩ : ∃ rs, W.lists[a]? = some rs := ⟨_, List.getElem?_eq_getElem ha⟩
  have er := Wish.ranks_at hrs
  have rok := ok.rk rs (List.mem_of_getElem? hrs)
  have hm6 := ok.m6
  have hsm := rok.small
  have hlong := W.longest_le (List.mem_of_getElem? hrs)
  obtain ⟨y, z, rfl, h_asker, h_ranks⟩ := DtL.two (d1 := dN a) (d2 := dRs (W.ranks a)) hd
  rw [er] at h_ranks
  have S0 := Stp.refl i0
  have hs0 := hs
  obtain ⟨p, dx, vo, vt, vs, vp, rfl, hp, ho, ht, hst, hpk⟩ := hs
  refine q_newK' fun l H1 hl e1 hl1 => ?_
  have S1 := S0.grow e1
  have hBl : B l = none := fresh_back i0 hl
  refine q_forE S1.i (ed_var rfl h_ranks) fun B2 H2 s2 => ⟨fun i σ' H' => ∃ a1 a2 a3 B', σ' = [some (.ref p), some y, some z, some (.ref l), a1, a2, a3] ∧ Stp B H B' H' ∧ Ex B2 B' ∧ B' l = none ∧ H' l = some (.dK (dk (((rs.take i).flatten).map fun t : Nat => ((t : Int), wtOf W A a t)))), ⟨none, none, none, B2, rfl, S1.trans s2, Ex.refl _, s2.free hl1 hBl, s2.h l _ hl1⟩, fun i σ' H' ⟨_, _, _, B', _, s, e, _⟩ => e.trans s.i, fun i d r σ' H' H'' hi hr q e => ?_, fun σ' H' ⟨a1, a2, a3, B', hσ, S, _, hBl', hll⟩ => ?_⟩
  · obtain ⟨a1, a2, a3, B4, rfl, S, e24, hB4, hll⟩ := q
    rw [List.getElem?_map] at hi
    obtain ⟨row, hrow, rfl⟩ := Option.map_eq_some_iff.mp hi
    have hr := hr.mono e24
    have S4 := S.grow e
    have htk : rs.take (i + 1) = rs.take i ++ [row] := by rw [List.take_add_one, hrow]; rfl
    have hil : i < rs.length := (List.getElem?_eq_some_iff.mp hrow).1
    refine s_forL S4.i (ed_var rfl hr) fun B5 H5 s5 => ⟨fun j σ' H' => ∃ a3, σ' = [some (.ref p), some y, some z, some (.ref l), some (.int (i : Int)), some r, a3] ∧ Stp B H B5 H' ∧ H' l = some (.dK (dk (((rs.take i).flatten ++ row.take j).map fun t : Nat => ((t : Int), wtOf W A a t)))), ⟨a3, rfl, S4.trans s5, ?_⟩, fun j σ' H' ⟨_, _, s, _⟩ => s.i, fun j d w σ' H' hj hw q => ?_, fun σ' H' ⟨a3, hσ, S7, hl7⟩ => ?_⟩
    · rw [List.take_zero, List.append_nil]; exact s5.h l _ (e l _ hll)
    · obtain ⟨a3, rfl, S6, hl6⟩ := q
      have hB5 : B5 l = none := s5.free (e l _ hll) hB4
      rw [List.getElem?_map] at hj
      obtain ⟨t, ht, rfl⟩ := Option.map_eq_some_iff.mp hj
      have hnew := nodup_pre rok.nd hrow ht
      have hlen := pre_len (j := j) hrow
      have htk2 : row.take (j + 1) = row.take j ++ [t] := by rw [List.take_add_one, ht]; rfl
      have hrk : rankIn rs t = i + 1 := rankIn_at (fun j' q' hj' hq' hin => hnew (List.mem_append.mpr (Or.inl (List.mem_flatten.mpr ⟨q', by
        have : (rs.take i)[j']? = some q' := by rw [List.getElem?_take_of_lt hj', hq']
        exact List.mem_of_getElem? this, hin⟩)))) hrow (List.mem_of_getElem? ht)
      have hBB : Ex B B5 := S6.b
      refine s_dput S6.i hl6 ((ed_callI (((W, A), a, t, i + 1) : (Wish × Aim) × Nat × Nat × Nat) (ev_var rfl) (hBB p _ hp) (by rfl) (fun _ e => (hs0.mono hBB).mono e) (ea_consD (ed_var rfl (h_asker.mono hBB)) (ea_consD (ed_var rfl hw) (ea_consD ((ed_opI (i := (i : Int)) (ed_var rfl rfl) ed_int).eq (d2 := dN (i + 1)) rfl) ea_nilD))) ⟨⟨ok, ao⟩, ha, by show 1 ≤ i + 1; omega, by show i + 1 ≤ W.longest; omega⟩ fun _ z => z).eq (d2 := .int (wtOf W A a t)) (by unfold wtOf; rw [er, hrk])) (ev_var rfl) (ed_var rfl hw) (by rw [dk_len, List.length_map]; omega) fun yv B7 H7 s7 hy => ?_
      cases (show yv = _ from hy)
      refine ⟨_, rfl, (S6.grow s7.h).mut _ hl hB5, ?_⟩
      rw [upd_same, dk_snoc hnew, htk2, List.append_assoc]
    · have hB5 : B5 l = none := s5.free (e l _ hll) hB4
      refine ⟨some (.int (i : Int)), some r, a3, B5, hσ, S7, e24.trans s5.b, hB5, ?_⟩
      rw [hl7, htk, List.length_map, List.take_length, List.flatten_append]
      simp
  · subst hσ
    rw [List.length_map, List.take_length] at hll
    have S' := S.give hl hBl' hll
    refine s_retD S'.i (ed_var rfl (Dt.ofDict upd_same)) fun v B4 H4 s4 hv => k v H4 B4 _ (S'.trans s4) hv ?_
    show _ = dDict ((W.ranks a).flatten.map fun t : Nat => ((t : Int), wtOf W A a t))
    rw [er]

end
end Wk
namespace Wk
open PySem L2 Evl Wd
/-- the things that an asker wishes, in order -/
def wished (W : Wish) (a : Nat) : List Nat := (List.range W.m).filter fun t => decide (t ∈ (W.ranks a).flatten)
theorem mem_wished {W : Wish} {a t : Nat} (ok : W.Ok) : t ∈ wished W a ↔ t ∈ (W.ranks a).flatten := by
  unfold wished
  rw [List.mem_filter, List.mem_range, decide_eq_true_eq]
  refine ⟨fun h => h.2, fun h => ⟨?_, h⟩⟩
  cases e : W.lists[a]? with
  | none =>
    unfold Wish.ranks at h
    rw [List.getD_eq_getElem?_getD, e] at h
    simp at h
  | some rs =>
    rw [Wish.ranks_at e] at h
    exact (ok.rk rs (List.mem_of_getElem? e)).lt t h
theorem wished_nd (W : Wish) (a : Nat) : (wished W a).Nodup := List.nodup_range.sublist List.filter_sublist
theorem wished_lt {W : Wish} {a t : Nat} (h : t ∈ wished W a) : t < W.m := List.mem_range.mp (List.mem_filter.mp h).1
theorem wished_len (W : Wish) (a : Nat) : (wished W a).length ≤ W.m := by
  have := List.length_filter_le (fun t => decide (t ∈ (W.ranks a).flatten)) (List.range W.m)
  rw [List.length_range] at this
  exact this
theorem wished_sorted (W : Wish) (a : Nat) : ((wished W a).map fun t : Nat => (t : Int)).Pairwise (· ≤ ·) := by
  rw [List.pairwise_map]
  have h : (wished W a).Pairwise (· < ·) := (List.pairwise_lt_range (n := W.m)).sublist List.filter_sublist
  exact h.imp fun h => by omega
theorem wished_perm {W : Wish} {a : Nat} (ok : W.Ok) (ha : a < W.n) : (wished W a).Perm (W.ranks a).flatten := by
  obtain ⟨rs, hrs⟩ : ∃ rs, W.lists[a]? = some rs := ⟨_, List.getElem?_eq_getElem ha⟩
  refine (List.perm_ext_iff_of_nodup (wished_nd W a) ?_).mpr fun t => mem_wished ok
  rw [Wish.ranks_at hrs]
  exact (ok.rk rs (List.mem_of_getElem? hrs)).nd
theorem dk_fst (l : List (Int × Int)) : (dk l).map (·.1) = (l.map (·.1)).map (Sum.inl : Int → Key) := by unfold dk; rw [List.map_map, List.map_map]; rfl
theorem ed_sortD {σ : L2.St} {B : Hp} {te : TE} {l : List (Int × Int)} {ms : List Int} (ha : EvD te σ B (dDict l)) (hl : l.length < 64) (hp : ms.Perm (l.map (·.1))) (hs : ms.Pairwise (· ≤ ·)) : EvD (tCB rSort0 (tCons te tNil)) σ B (dInts ms) := fun H1 e Q q =>
  ha H1 e _ fun v H2 B2 s hd => by
    obtain ⟨a, rfl, h2⟩ := hd.dict
    refine ⟨a, dk l, l.map (·.1), rfl, rd_ex s.i h2, dk_fst l, by rw [List.length_map]; exact hl, fun ys p hp' hs' hn => ?_⟩
    have e3 : ys = ms := List.Perm.eq_of_pairwise (fun a b _ _ h1 h2 => Int.le_antisymm h1 h2) hs' hs (hp'.trans hp.symm)
    subst e3
    exact q _ _ _ (s.put _ hn) (Dt.ofInts upd_same)
/-- xs.extend(ys) -/
theorem s_ext {K : PySem.W.Frag} {σ : L2.St} {B H : Hp} {ta te : TE} {D : Ends} {l : Addr} {xs : List V} {ds : List PyData} (i0 : Ex B H) (hl : H l = some (.lst xs)) (ho : Ev ta σ B (.ref l)) (h : EvD te σ B (.list ds)) (hz : xs.length + ds.length ≤ 100000) (k : ∀ zs B2 H2, Stp B H B2 H2 → DtL B2 ds zs → D.nx σ (upd H2 l (.lst (xs ++ zs)))) :
    tDrop (tBM K "list" rExtend ta (tCons te tNil)) D σ H := ho H i0 _ fun H1 e1 =>
  ⟨Or.inl ⟨rfl, xs, sq_of (e1 l _ hl)⟩, h H1 (i0.trans e1) _ fun y H2 B2 s ⟨b, zs, hy, hb, hd⟩ => ⟨l, b, xs, zs, rfl, by rw [hy], s.h l _ (e1 l _ hl), s.i b _ hb, sz_of (by rw [hd.length]; exact hz), k zs B2 H2 ⟨e1.trans s.h, s.b, s.i, fun a o q => s.n a o (e1 a o q)⟩ hd⟩⟩
def item (W : Wish) (A : Aim) (a t : Nat) : PyData := .tuple [dN a, dN t, .int (wtOf W A a t)]
def pairs (W : Wish) (i : Nat) : List (Nat × Nat) := ((List.range i).map fun a => (wished W a).map fun t => (a, t)).flatten
theorem pairs_succ (W : Wish) (i : Nat) : pairs W (i + 1) = pairs W i ++ (wished W i).map fun t => (i, t) := by
  unfold pairs
  rw [List.range_succ, List.map_append, List.flatten_append]
  simp
theorem pairs_len (W : Wish) : ∀ i : Nat, (pairs W i).length ≤ i * W.m
  | 0 => by simp [pairs]
  | i + 1 => by
    have := pairs_len W i
    have h2 := wished_len W i
    rw [pairs_succ, List.length_append, List.length_map, Nat.add_mul]
    omega

def sp_all_worths : Sp := SpA (fun x : Wish × Aim => [dW x.1, dAim x.2]) scOk (fun x r => r = .list ((pairs x.1 x.1.n).map fun q => item x.1 x.2 q.1 q.2))
section
variable {P : Program} {w : World} {K : PySem.W.Frag} {mg : Str → Option Value} {base : Heap} {CS CR CP aO : Addr}
abbrev n_all_worths : List Str := ["wishes", "aim", "scale", "found", "asker", "ranks", "worths", "thing"]
theorem sc_all_worths : FnScope n_all_worths ["wishes", "aim"] (defScope s_all_worths) := ⟨rfl, rfl, rfl, by decide +kernel, rfl, by decide +kernel, by decide +kernel⟩
theorem ok_all_worths (T : Txt K mg CS CR CP aO) (c_look_at_aim : Callable P w K mg base 5 "look_at_aim" ["wishes", "thing"] sp_look_at_aim) (c_Scale_init : CallC P w K mg base 6 CS "Scale" ["self", "wishes", "aim"] (sp_Scale_init CS CR CP)) (c_worths_of : Callable P w K mg base 3 "worths_of" ["scale", "asker", "ranks"] (sp_worths_of CS CR CP)) : Callable P w K mg base 8 "all_worths" ["wishes", "aim"] sp_all_worths := by
  have sc := sc_all_worths
  refine mkFn T.f_all_worths sc (fun _ _ _ _ _ _ us hl => match us, hl with | [_, _], _ => rfl) (fun vs H Q E h => ?_) (fun f cdv A outer s H vs Q E hr h => ?_)
  · obtain ⟨B, W, i0, hd, _⟩ := h; exact hd.length
  have hu := hu_of hr
  refine ⟨_, (pss_cons (ps_expr (pe_fn c_look_at_aim (hr.mono (by decide)) (by rfl) (pa_cons (pv 0) (pa_cons (pv 1) pa_nil))))
     (pss_cons (ps_set (i := 2) sc.nd rfl (Or.inl rfl) (pe_mk c_Scale_init (hr.mono (by decide)) (by rfl) (pa_cons (pv 0) (pa_cons (pv 1) pa_nil))))
     (pss_cons (ps_set (i := 3) sc.nd rfl (Or.inl rfl) (pe_lst pa_nil))
     (pss_cons (ps_for PassesOwn.never rfl (pi_enum (by rfl) T.b_enumerate (pa_cons (pe_ix ix_tup (pv 0) pe_int (fun _ _ => rfl)) pa_nil)) (pg_tup rfl (pgs_cons (pg_name (i := 4) sc.nd rfl (Or.inr rfl)) (pgs_cons (pg_name (i := 5) sc.nd rfl (Or.inl rfl)) pgs_nil)))
     (pss_cons (ps_set (i := 6) sc.nd rfl (Or.inr rfl) (pe_fn c_worths_of (hr.mono (by decide)) (by rfl) (pa_cons (pv 2) (pa_cons (pv 4) (pa_cons (pv 5) pa_nil)))))
     (pss_one (ps_expr (pe_bm PySem.F.plainAttrs_list PySem.F.slot_list_extend PySem.F.type_list_extend mt_extend (pv 3) (pa_cons (pe_lc (own := [("thing", 7)]) (g := gName 7) (tt := tYes) rfl sc.nd (pi_list (pe_callB (id := "sorted") (call_sortD rfl) (by rfl) T.b_sorted (by decide +kernel) (pa_cons (pv 6) pa_nil))) (blkOk_by (own := [("thing", 7)]) (N := n_all_worths) (sc := defScope s_all_worths) (by decide +kernel)) (fun _ _ _ _ _ => (pg_name (i := 7) sc.nd rfl (Or.inl rfl))) (fun _ _ _ _ _ => pts_nil) (fun _ _ _ _ _ => (pe_tup (pa_cons (pv 4) (pa_cons (pv 7) (pa_cons (pe_dget hu (pv 6) (pv 7) (fun _ _ => rfl)) pa_nil)))))) pa_nil))))))
     (pss_one (ps_ret (pv 3))))))), ?_⟩
  obtain ⟨B, ⟨W, A⟩, i0, hd, ⟨ok, ao⟩, k⟩ := h
  have ok : W.Ok := ok
  have ao : A.Ok W := ao
  have hn7 : W.lists.length ≤ 7 := ok.n7
  have hm6 : W.copies.length ≤ 6 := ok.m6
  obtain ⟨x, y, rfl, h_wishes, h_aim⟩ := DtL.two (d1 := dW W) (d2 := dAim A) hd
  refine q_dropD i0 (ed_callA (W, A) (ea_consD (ed_var rfl h_wishes) (ea_consD (ed_var rfl h_aim) ea_nilD)) ⟨ok, ao⟩ fun _ z => z) fun B1 H1 S1 => ?_
  have h_wishes := h_wishes.mono S1.b
  refine q_make (W, A) S1.i (ea_consD (ed_var rfl h_wishes) (ea_consD (ed_var rfl (h_aim.mono S1.b)) ea_nilD)) ⟨ok, ao⟩ fun p B2 H2 s2 hp hsc => ?_
  have S2 := S1.trans s2
  have h_wishes := h_wishes.mono s2.b
  refine q_new (EvL.mono S2.i el_new) fun l H3 hl e3 hl3 => ?_
  have S3 := S2.grow e3
  have hHl : H l = none := fresh_back S2.h hl
  have hBl : B2 l = none := fresh_back S2.i hl
  refine q_forE S3.i (ed_ixT (ed_var rfl h_wishes) ed_int rfl) fun B4 H4 s4 => ⟨fun i σ' H' => ∃ a1 a2 a3 B' xs, σ' = [some x, some y, some (.ref p), some (.ref l), a1, a2, a3, none] ∧ Stp B H B' H' ∧ Ex B4 B' ∧ B' l = none ∧ H' l = some (.lst xs) ∧ DtL B' ((pairs W i).map fun q => item W A q.1 q.2) xs,
    ⟨none, none, none, B4, [], rfl, S3.trans s4, Ex.refl _, s4.free hl3 hBl, s4.h l _ hl3, rfl⟩, fun i σ' H' ⟨_, _, _, B', _, _, s, e, _⟩ => e.trans s.i, fun i d r σ' H' H'' hi hr q e => ?_, fun σ' H' ⟨a1, a2, a3, B', xs, hσ, S, e4, hBl', hll, hxs⟩ => ?_⟩
  · obtain ⟨a1, a2, a3, B5, xs, rfl, S, e45, hB5, hll, hxs⟩ := q
    rw [List.getElem?_map] at hi
    obtain ⟨rs, hrs, rfl⟩ := Option.map_eq_some_iff.mp hi
    have hil : i < W.n := (List.getElem?_eq_some_iff.mp hrs).1
    have er := Wish.ranks_at hrs
    have S5 := S.grow e
    have rok := ok.rk rs (List.mem_of_getElem? hrs)
    have hsm := rok.small
    refine q_asgD S5.i (ed_callF ((W, A), i) (ev_var rfl) (fun B' e' => ((hsc.mono s4.b).mono e45).mono e') (ea_consD (ed_var (d := dN i) rfl rfl) (ea_consD (ed_var rfl ((hr.mono e45).mono (Ex.refl _))) ea_nilD |> fun z => by rw [← er] at z; exact z)) ⟨⟨ok, ao⟩, hil⟩ fun _ z => z) fun wv B6 H6 s6 hw => ?_
    have S6 := S5.trans s6
    have hll6 := s6.h l _ (e l _ hll)
    have hB6 : B6 l = none := s6.free (e l _ hll) hB5
    have hw : Dt B6 (dDict ((W.ranks i).flatten.map fun t : Nat => ((t : Int), wtOf W A i t))) wv := hw
    have hfl : (W.ranks i).flatten.length ≤ 6 := by rw [er]; omega
    refine s_ext S6.i hll6 (ev_var rfl) (EvD.eq (d2 := .list ((wished W i).map fun t => item W A i t)) (ed_lcL (f := fun _ => true) (v := fun j => item W A i ((wished W i).getD j 0)) (ds := (wished W i).map dN) ((ed_sortD (ms := (wished W i).map fun t : Nat => (t : Int)) (ed_var rfl hw) (by rw [List.length_map]; omega) (by rw [List.map_map]; exact (wished_perm ok hil).map _) (wished_sorted W i)).eq (dNs_ints _).symm) (by rw [List.length_map]; have := wished_len W i; have : W.m ≤ 6 := hm6; omega) (fun _ => rfl) (fun _ _ _ _ _ _ _ => et_yes) (fun B' e' j d1 q hj _ hq => ?_)) ?_) ?_ fun zs B7 H7 s7 hzs => ?_
    · rw [List.getElem?_map] at hj
      obtain ⟨t, ht, rfl⟩ := Option.map_eq_some_iff.mp hj
      have hmem : t ∈ (W.ranks i).flatten := (mem_wished ok).mp (List.mem_of_getElem? ht)
      have hg : (wished W i).getD j 0 = t := by rw [List.getD_eq_getElem?_getD, ht]; rfl
      refine (ed_tup (ea_consD (ed_var (d := dN i) rfl rfl) (ea_consD (ed_var rfl hq) (ea_consD (ed_dget (ed_var rfl (hw.mono e')) (ed_var rfl hq) (by rw [lookI_map, if_pos hmem])) ea_nilD))) (by show 3 ≤ 100000; decide)).eq ?_
      rw [hg]; rfl
    · have el : ((wished W i).map dN).length = (wished W i).length := List.length_map ..
      rw [el, gl_map (fun t => item W A i t)]
    · have := pairs_len W i
      have := wished_len W i
      have hm : i * W.m ≤ 7 * 6 := Nat.mul_le_mul (by have : W.n ≤ 7 := hn7; omega) hm6
      have : W.m ≤ 6 := hm6
      rw [hxs.length, List.length_map, List.length_map]; omega
    · have hB7 : B7 l = none := s7.free hll6 hB6
      refine ⟨some (.int (i : Int)), some r, some wv, B7, xs ++ zs, rfl, (S6.trans s7).mut _ hHl hB7, (e45.trans s6.b).trans s7.b, hB7, upd_same, ?_⟩
      rw [pairs_succ, List.map_append]
      refine ((hxs.mono s6.b).mono s7.b).append ?_
      rw [List.map_map]
      exact hzs
  · subst hσ
    have S' := S.give hHl hBl' hll
    have hxs' : DtL B' ((pairs W W.n).map fun q => item W A q.1 q.2) xs := by
      rw [List.length_map] at hxs; exact hxs
    exact s_retD S'.i (ed_var rfl (show Dt (upd B' l (.lst xs)) (.list ((pairs W W.n).map fun q => item W A q.1 q.2)) (.ref l) from ⟨l, xs, rfl, upd_same, hxs'.mono (Ex.new hBl')⟩)) fun v B4 H4 s4 hv => k v H4 B4 _ (S'.trans s4) hv rfl

end
end Wk
namespace Wk
open PySem L2 Evl Wd
/-- [{} for x in xs] -/
theorem q_lcK {K : PySem.W.Frag} {σ : L2.St} {B H : Hp} {tl : TE} {D : Ends} {tz : TS} {ds : List PyData} {i j : Nat} {vs : List Nat} (i0 : Ex B H) (h : EvD tl σ B (.list ds)) (hz : ds.length ≤ 40000) (hw : ∀ x, wipe ((wipe σ vs).set j (some x)) vs = wipe σ vs)
    (k : ∀ p (as : List Addr) B2 H2, Stp B H B2 H2 → H p = none → as.length = ds.length → as.Nodup → p ∉ as → (∀ a, a ∈ as → H a = none ∧ B2 a = none ∧ H2 a = some (.dK [])) → B2 p = none → H2 p = some (.lst (as.map V.ref)) → tz D (σ.set i (some (.ref p))) H2) :
    tSeq (tAsg (tLc (iList K tl) (gName j) tYes tDNewK vs) (gName i)) tz D σ H := h H i0 _ fun v H1 B1 s ⟨a, xs, hv, hx, hd⟩ =>
  ⟨a, hv, ⟨xs, sq_of (s.i a _ hx)⟩, fun Dl hD => by
    refine lc_it walk_list (fun i H' => ∃ as : List Addr, Stp B1 H1 B1 H' ∧ H' Dl = some (.lst (as.map V.ref)) ∧ as.length = i ∧ as.Nodup ∧ Dl ∉ as ∧ ∀ a, a ∈ as → H1 a = none ∧ H' a = some (.dK []))
      ⟨[], (Stp.refl s.i).new _ hD, upd_same, rfl, List.nodup_nil, List.not_mem_nil, fun _ z => absurd z List.not_mem_nil⟩ (fun i H' _ ⟨as, s', _⟩ => sq_of (s'.i a _ hx)) (fun i x H' H'' hi q y => ?_) (fun H' ⟨as, s', hl, h1, h2, h3, h4⟩ => ?_)
    · obtain ⟨as, s', hl, h1, h2, h3, h4⟩ := q
      obtain ⟨rfl, hy⟩ := y
      refine ⟨hw x, ?_⟩
      dsimp only [tYes]
      rw [if_pos rfl]
      intro b hb
      refine ⟨as.map V.ref, by rw [upd_ne (by intro z; subst z; rw [hl] at hb; cases hb)]; exact hl, sz_lt (by rw [List.length_map, h1]; rw [hd.length] at hi; omega), as ++ [b], ?_, ?_, by rw [List.length_append, h1]; rfl, ?_, ?_, ?_⟩
      · exact (s'.new _ hb).mut _ hD (fresh_back s.i hD)
      · rw [upd_same, List.map_append]; rfl
      · refine List.nodup_append.mpr ⟨h2, List.pairwise_singleton _ _, fun x hx y hy => ?_⟩
        obtain rfl : y = b := List.mem_singleton.mp hy
        intro z; subst z
        rw [(h4 x hx).2] at hb; cases hb
      · intro z
        rcases List.mem_append.mp z with z | z
        · exact h3 z
        · obtain rfl : Dl = b := List.mem_singleton.mp z
          rw [hl] at hb; cases hb
      · intro c hc
        have hcD : c ≠ Dl := by
          intro z; subst z
          rcases List.mem_append.mp hc with z | z
          · exact h3 z
          · obtain rfl : c = b := List.mem_singleton.mp z
            rw [hl] at hb; cases hb
        rw [upd_ne hcD]
        rcases List.mem_append.mp hc with z | z
        · refine ⟨(h4 c z).1, ?_⟩
          rw [upd_ne (by intro y; subst y; rw [(h4 c z).2] at hb; cases hb)]
          exact (h4 c z).2
        · obtain rfl : c = b := List.mem_singleton.mp z
          exact ⟨fresh_back s'.h hb, upd_same⟩
    · refine k Dl as B1 H' (s.trans s') (fresh_back s.h hD) (by rw [h1, hd.length]) h2 h3 (fun b hb => ⟨fresh_back s.h (h4 b hb).1, fresh_back s.i (h4 b hb).1, (h4 b hb).2⟩) (fresh_back s.i hD) hl⟩
theorem mem_pairs {W : Wish} {i : Nat} {q : Nat × Nat} : q ∈ pairs W i ↔ q.1 < i ∧ q.2 ∈ wished W q.1 := by
  obtain ⟨a, t⟩ := q
  unfold pairs
  simp only [List.mem_flatten, List.mem_map, List.mem_range]
  constructor
  · rintro ⟨l, ⟨b, hb, rfl⟩, hq⟩
    obtain ⟨u, hu, e⟩ := List.mem_map.mp hq
    cases e
    exact ⟨hb, hu⟩
  · rintro ⟨h1, h2⟩
    exact ⟨_, ⟨a, h1, rfl⟩, List.mem_map.mpr ⟨t, h2, rfl⟩⟩
theorem pairs_nd (W : Wish) : ∀ i, (pairs W i).Nodup
  | 0 => List.nodup_nil
  | i + 1 => by
    rw [pairs_succ]
    refine List.nodup_append.mpr ⟨pairs_nd W i, ?_, fun x hx y hy => ?_⟩
    · exact List.pairwise_map.mpr ((wished_nd W i).imp fun h z => h (Prod.mk.inj z).2)
    · obtain ⟨t, _, rfl⟩ := List.mem_map.mp hy
      have := (mem_pairs.mp hx).1
      intro z; subst z; exact Nat.lt_irrefl _ this
/-- what stands in row k behind i pairs -/
def conT (l : List (Nat × Nat)) (k : Nat) : List Nat := (l.filter fun q => decide (q.1 = k)).map (·.2)
theorem conT_append (l m : List (Nat × Nat)) (k : Nat) : conT (l ++ m) k = conT l k ++ conT m k := by unfold conT; rw [List.filter_append, List.map_append]
theorem conT_row (i k : Nat) (ts : List Nat) : conT (ts.map fun t => (i, t)) k = if i = k then ts else [] := by
  unfold conT
  induction ts with
  | nil => split <;> rfl
  | cons t ts ih =>
    rw [List.map_cons, List.filter_cons]
    by_cases e : i = k
    · rw [if_pos (decide_eq_true e), List.map_cons, ih, if_pos e, if_pos e]
    · rw [if_neg (by simpa using e), ih, if_neg e, if_neg e]
theorem conT_pairs (W : Wish) (k : Nat) : ∀ i, conT (pairs W i) k = if k < i then wished W k else []
  | 0 => rfl
  | i + 1 => by
    rw [pairs_succ, conT_append, conT_pairs W k i, conT_row]
    by_cases h : k < i
    · rw [if_pos h, if_neg (by omega), if_pos (by omega), List.append_nil]
    · rw [if_neg h]
      by_cases e : i = k
      · rw [if_pos e, if_pos (by omega), e]; rfl
      · rw [if_neg e, if_neg (by omega)]; rfl
theorem mem_conT {l : List (Nat × Nat)} {k t : Nat} : t ∈ conT l k ↔ (k, t) ∈ l := by
  unfold conT
  rw [List.mem_map]
  constructor
  · rintro ⟨⟨a, u⟩, h, rfl⟩
    obtain ⟨h1, h2⟩ := List.mem_filter.mp h
    have : a = k := of_decide_eq_true h2
    subst this; exact h1
  · intro h
    exact ⟨(k, t), List.mem_filter.mpr ⟨h, decide_eq_true rfl⟩, rfl⟩
theorem q_forL3 {K : PySem.W.Frag} {σ : L2.St} {B H : Hp} {te : TE} {D : Ends} {tu tz : TS} {ds : List PyData} {j1 j2 j3 : Nat} (i0 : Ex B H) (h : EvD te σ B (.list ds)) (k : ∀ B1 H1, Stp B H B1 H1 → ∃ Pv : Nat → L2.St → Hp → Prop, Pv 0 σ H1 ∧ (∀ i σ' H', Pv i σ' H' → Ex B1 H') ∧
      (∀ i, i < ds.length → ∃ d1 d2 d3, ds[i]? = some (.tuple [d1, d2, d3]) ∧ ∀ x y z σ' H', Dt B1 d1 x → Dt B1 d2 y → Dt B1 d3 z → Pv i σ' H' → tu { D with nx := Pv (i + 1), ct := Pv (i + 1), bk := tz D } (((σ'.set j1 (some x)).set j2 (some y)).set j3 (some z)) H') ∧
      (∀ σ' H', Pv ds.length σ' H' → tz D σ' H')) :
    tSeq (tFor (iList K te) (gTup K 3 (gCons (gName j1) (gCons (gName j2) (gCons (gName j3) gNil)))) tu) tz D σ H := s_forL3 (D := { D with nx := tz D }) i0 h k
/-- what is left behind i askers -/
def leftA (c : List Nat) (d : Deal) (i : Nat) : List Int := (List.range c.length).map fun t => ((c.getD t 0 : Nat) : Int) - cnt i (dl d) t
theorem leftA_len (c : List Nat) (d : Deal) (i : Nat) : (leftA c d i).length = c.length := by unfold leftA; simp
theorem leftA_at (c : List Nat) (d : Deal) (i : Nat) {t : Nat} (h : t < c.length) : (leftA c d i)[t]? = some (((c.getD t 0 : Nat) : Int) - cnt i (dl d) t) := by
  unfold leftA
  rw [List.getElem?_map, List.getElem?_range h]; rfl
theorem leftA_zero (c : List Nat) (d : Deal) : leftA c d 0 = c.map fun n : Nat => (n : Int) := by
  refine List.ext_getElem? fun t => ?_
  by_cases h : t < c.length
  · rw [leftA_at c d 0 h, List.getElem?_map, List.getElem?_eq_getElem h]
    show some (((c.getD t 0 : Nat) : Int) - 0) = _
    rw [List.getD_eq_getElem?_getD, List.getElem?_eq_getElem h]; simp
  · rw [List.getElem?_eq_none (by rw [leftA_len]; omega), List.getElem?_eq_none (by rw [List.length_map]; omega)]
theorem leftA_none (c : List Nat) (d : Deal) {i : Nat} (h : dl d i = none) : leftA c d (i + 1) = leftA c d i := by
  unfold leftA
  refine List.map_congr_left fun t _ => ?_
  show _ - (cnt i (dl d) t + hit (dl d i) t) = _
  rw [h, hit_none, Int.add_zero]
theorem leftA_some (c : List Nat) (d : Deal) {i u : Nat} (h : dl d i = some u) (hu : u < c.length) : leftA c d (i + 1) = (leftA c d i).set u (((c.getD u 0 : Nat) : Int) - cnt i (dl d) u - 1) := by
  refine List.ext_getElem? fun t => ?_
  by_cases ht : t < c.length
  · rw [leftA_at c d _ ht, List.getElem?_set, leftA_len]
    by_cases e : u = t
    · subst e
      rw [if_pos rfl, if_pos hu]
      show some (_ - (cnt i (dl d) u + hit (dl d i) u)) = _
      rw [h, hit_same, Int.sub_sub]
    · rw [if_neg e, leftA_at c d _ ht]
      show some (_ - (cnt i (dl d) t + hit (dl d i) t)) = _
      rw [h, hit_ne fun z => e (Option.some.inj z), Int.add_zero]
  · rw [List.getElem?_eq_none (by rw [leftA_len]; omega), List.getElem?_eq_none (by rw [List.length_set, leftA_len]; omega)]
def rowD (W : Wish) (A : Aim) (a : Nat) : List (Int × Int) := (wished W a).map fun t : Nat => ((t : Int), wtOf W A a t)
def dRows (W : Wish) (A : Aim) : PyData := .list ((List.range W.n).map fun a => dDict (rowD W A a))
/-- the rows, not locked -/
def RowsAt (W : Wish) (A : Aim) (B : Hp) (v : V) : Prop := ∃ (q : Addr) (as : List Addr), v = .ref q ∧ B q = some (.lst (as.map V.ref)) ∧ as.length = W.n ∧ ∀ (a : Nat) r, as[a]? = some r → B r = some (.dK (dk (rowD W A a)))
theorem RowsAt.mono {W : Wish} {A : Aim} {B B' : Hp} {v : V} (h : RowsAt W A B v) (e : Ex B B') : RowsAt W A B' v := by
  obtain ⟨q, as, h1, h2, h3, h4⟩ := h
  exact ⟨q, as, h1, e q _ h2, h3, fun a r hr => e r _ (h4 a r hr)⟩
theorem RowsAt.dt {W : Wish} {A : Aim} {B : Hp} {v : V} (h : RowsAt W A B v) : Dt B (dRows W A) v := by
  obtain ⟨q, as, h1, h2, h3, h4⟩ := h
  refine ⟨q, as.map V.ref, h1, h2, DtL.of (by simp [h3]) fun i d x hi hx => ?_⟩
  rw [List.getElem?_map] at hi hx
  obtain ⟨c, hc, rfl⟩ := Option.map_eq_some_iff.mp hx
  obtain ⟨j, hj, rfl⟩ := Option.map_eq_some_iff.mp hi
  have hij : j = i := by
    have hl := (List.getElem?_eq_some_iff.mp hj).1
    rw [List.length_range] at hl
    rw [List.getElem?_range hl] at hj
    exact (Option.some.inj hj).symm
  subst hij
  exact Dt.ofDict (h4 _ c hc)
theorem rowD_len (W : Wish) (A : Aim) (a : Nat) : (rowD W A a).length ≤ W.m := by unfold rowD; rw [List.length_map]; exact wished_len W a

def sp_rows_by : Sp := fun vs H Q _ => ∃ (B : Hp) (x : Wish × Aim), Ex B H ∧ DtL B [dW x.1, dAim x.2] vs ∧ scOk x ∧ ∀ v H' B', Stp B H B' H' → RowsAt x.1 x.2 B' v → Q v H'
def sp_left_by : Sp := SpA (fun x : List Nat × Deal => [dNs x.1, dDeal x.2]) (fun x => ∀ t, some t ∈ x.2 → t < x.1.length) (fun x r => r = dInts (leftA x.1 x.2 x.2.length))
section
variable {P : Program} {w : World} {K : PySem.W.Frag} {mg : Str → Option Value} {base : Heap} {CS CR CP aO : Addr}
abbrev n_rows_by : List Str := ["wishes", "aim", "worths", "rows", "asker", "thing", "worth", "ranks"]
theorem sc_rows_by : FnScope n_rows_by ["wishes", "aim"] (defScope s_rows_by) := ⟨rfl, rfl, rfl, by decide +kernel, rfl, by decide +kernel, by decide +kernel⟩
theorem ok_rows_by (T : Txt K mg CS CR CP aO) (c_all_worths : Callable P w K mg base 8 "all_worths" ["wishes", "aim"] sp_all_worths) : Callable P w K mg base 9 "rows_by" ["wishes", "aim"] sp_rows_by := by
  have sc := sc_rows_by
  refine mkFn T.f_rows_by sc (fun _ _ _ _ _ _ us hl => match us, hl with | [_, _], _ => rfl) (fun vs H Q E h => ?_) (fun f cdv A outer s H vs Q E hr h => ?_)
  · obtain ⟨B, W, i0, hd, _⟩ := h; exact hd.length
  have hu := hu_of hr
  refine ⟨_, (pss_cons (ps_set (i := 2) sc.nd rfl (Or.inl rfl) (pe_fn c_all_worths (hr.mono (by decide)) (by rfl) (pa_cons (pv 0) (pa_cons (pv 1) pa_nil))))
     (pss_cons (ps_setLc (i := 3) (own := [("ranks", 7)]) (g := gName 7) (tt := tYes) rfl sc.nd rfl rfl (sw_true rfl rfl rfl (by decide +kernel)) (pi_list (pe_ix ix_tup (pv 0) pe_int (fun _ _ => rfl))) (blkOk_by (own := [("ranks", 7)]) (N := n_rows_by) (sc := defScope s_rows_by) (by decide +kernel)) (fun _ _ _ _ _ => (pg_name (i := 7) sc.nd rfl (Or.inl rfl))) (fun _ _ _ _ _ => pts_nil) (fun _ _ _ _ _ => pe_dnewK))
     (pss_cons (ps_for PassesOwn.never rfl (pi_list (pv 2)) (pg_tup rfl (pgs_cons (pg_name (i := 4) sc.nd rfl (Or.inl rfl)) (pgs_cons (pg_name (i := 5) sc.nd rfl (Or.inl rfl)) (pgs_cons (pg_name (i := 6) sc.nd rfl (Or.inl rfl)) pgs_nil))))
     (pss_one (ps_dput hu (pe_ix ix_list (pv 3) (pv 4) (fun _ _ => rfl)) (pv 5) (pv 6) rfl)))
     (pss_one (ps_ret (pv 3)))))), ?_⟩
  obtain ⟨B, ⟨W, A⟩, i0, hd, ⟨ok, ao⟩, k⟩ := h
  have ok : W.Ok := ok
  have ao : A.Ok W := ao
  have hn7 : W.lists.length ≤ 7 := ok.n7
  have hm6 : W.copies.length ≤ 6 := ok.m6
  obtain ⟨x, y, rfl, h_wishes, h_aim⟩ := DtL.two (d1 := dW W) (d2 := dAim A) hd
  refine q_asgD i0 (ed_callA (W, A) (ea_consD (ed_var rfl h_wishes) (ea_consD (ed_var rfl h_aim) ea_nilD)) ⟨ok, ao⟩ fun _ z => z) fun wv B1 H1 S1 hw => ?_
  refine q_lcK S1.i (ed_ixT (ed_var rfl (h_wishes.mono S1.b)) ed_int rfl) (by rw [List.length_map]; omega) (fun _ => rfl) fun p as B2 H2 s2 hp hal hand hpa has hB2 hpl => ?_
  have hal : as.length = W.n := by rw [hal, List.length_map]; rfl
  have S2 := S1.trans s2
  have hw2 := hw.mono s2.b
  have hHp : H p = none := fresh_back S1.h hp
  have hHa : ∀ a, a ∈ as → H a = none := fun a ha => fresh_back S1.h (has a ha).1
  refine q_forL3 S2.i (ed_var rfl hw2) fun B3 H3 s3 => ⟨fun i σ' H' => ∃ a1 a2 a3, σ' = [some x, some y, some wv, some (.ref p), a1, a2, a3, none] ∧ Stp B H B3 H' ∧ H' p = some (.lst (as.map V.ref)) ∧ ∀ (k : Nat) a, as[k]? = some a → H' a = some (.dK (dk ((conT ((pairs W W.n).take i) k).map fun t : Nat => ((t : Int), wtOf W A k t)))),
    ⟨none, none, none, rfl, S2.trans s3, s3.h p _ hpl, fun k a ha => s3.h a _ (has a (List.mem_of_getElem? ha)).2.2⟩, fun i σ' H' ⟨_, _, _, _, s, _⟩ => s.i, fun i hi => ?_, fun σ' H' ⟨a1, a2, a3, hσ, S, hll, hcs⟩ => ?_⟩
  · rw [List.length_map] at hi
    obtain ⟨⟨a, t⟩, hat⟩ : ∃ q, (pairs W W.n)[i]? = some q := ⟨_, List.getElem?_eq_getElem hi⟩
    refine ⟨dN a, dN t, .int (wtOf W A a t), by rw [List.getElem?_map, hat]; rfl, fun va vt vw σ' H' ha ht hv q => ?_⟩
    cases (show va = nV a from ha)
    cases (show vt = nV t from ht)
    cases (show vw = .int (wtOf W A a t) from hv)
    obtain ⟨a1, a2, a3, rfl, S, hll, hcs⟩ := q
    have hB3 : B3 p = none := s3.free hpl hB2
    have hm := mem_pairs.mp (List.mem_of_getElem? hat)
    have ham : a < W.n := hm.1
    obtain ⟨b, hb⟩ : ∃ b, as[a]? = some b := ⟨_, List.getElem?_eq_getElem (by omega)⟩
    have hbm := List.mem_of_getElem? hb
    have hbp : p ≠ b := fun z => hpa (z ▸ hbm)
    have hBb : B3 b = none := s3.free (has b hbm).2.2 (has b hbm).2.1
    have hc := hcs a b hb
    have htk : (pairs W W.n).take (i + 1) = (pairs W W.n).take i ++ [(a, t)] := by rw [List.take_add_one, hat]; rfl
    have hnew : (a, t) ∉ (pairs W W.n).take i := by
      have nd := pairs_nd W W.n
      have q2 : pairs W W.n = (pairs W W.n).take i ++ (a, t) :: (pairs W W.n).drop (i + 1) := by
        conv => lhs; rw [← List.take_append_drop i (pairs W W.n)]
        rw [List.drop_eq_getElem_cons (List.getElem?_eq_some_iff.mp hat).1, (List.getElem?_eq_some_iff.mp hat).2]
      rw [q2] at nd
      intro hin
      exact (List.nodup_append.mp nd).2.2 (a, t) hin (a, t) (by simp) rfl
    have hnc : t ∉ conT ((pairs W W.n).take i) a := fun z => hnew (mem_conT.mp z)
    have iP := Ex.plus S.i hll
    have hpl' := pairs_len W W.n
    refine s_dput iP hc (ed_var (d := .int (wtOf W A a t)) rfl rfl) (ev_op (x := .ref p) (y := .int (a : Int)) (ev_var rfl) (ev_var rfl) (rv_ixL (sq_of upd_same) (atI_nat (by rw [List.getElem?_map, hb]; rfl)))) (ed_var (d := dN t) rfl rfl) ?_ fun yv B7 H7 s7 hy => ?_
    · rw [dk_len, List.length_map]
      have h1 : (conT ((pairs W W.n).take i) a).length ≤ ((pairs W W.n).take i).length := by
        unfold conT; rw [List.length_map]; exact List.length_filter_le _ _
      have h2 : ((pairs W W.n).take i).length ≤ (pairs W W.n).length := by rw [List.length_take]; omega
      have h3 : W.n * W.m ≤ 7 * 6 := Nat.mul_le_mul hn7 hm6
      omega
    · cases (show yv = _ from hy)
      have hsucc : ∀ k', conT ((pairs W W.n).take (i + 1)) k' = conT ((pairs W W.n).take i) k' ++ if a = k' then [t] else [] := fun k' => by
        rw [htk, conT_append]; congr 1; exact conT_row a k' [t]
      refine ⟨_, _, _, rfl, (S.grow s7.h).mut _ (hHa b hbm) hBb, by rw [upd_ne hbp]; exact s7.h p _ hll, fun k' c hk => ?_⟩
      by_cases e : c = b
      · subst e
        have : k' = a := by
          have i1 := (List.getElem?_eq_some_iff.mp hk).1
          have i2 := (List.getElem?_eq_some_iff.mp hb).1
          exact (List.getElem?_inj i1 hand).mp (hk.trans hb.symm)
        subst this
        rw [upd_same, hsucc, if_pos rfl, dk_snoc hnc]
      · have : a ≠ k' := by intro z; subst z; rw [hb] at hk; exact e (Option.some.inj hk).symm
        rw [upd_ne e, hsucc, if_neg this, List.append_nil]
        exact s7.h c _ (hcs k' c hk)
  · subst hσ
    have hfull : ∀ (k : Nat) a, as[k]? = some a → H' a = some (.dK (dk (rowD W A k))) := fun k a ha => by
      have := hcs k a ha
      rw [List.length_map, List.take_length, conT_pairs, if_pos (show k < W.n by have := (List.getElem?_eq_some_iff.mp ha).1; omega)] at this
      exact this
    have hB3p : B3 p = none := s3.free hpl hB2
    obtain ⟨S', eS⟩ := S.gives (fun a => a = p ∨ a ∈ as) (fun a ha => by rcases ha with rfl | ha; exact hHp; exact hHa a ha) (fun a ha => by rcases ha with rfl | ha; exact hB3p; exact s3.free (has a ha).2.2 (has a ha).2.1)
    refine s_ret (Ev.mono S'.i (ev_var rfl)) fun H4 e4 => k _ H4 _ (S'.grow e4) ⟨p, as, rfl, ?_, hal, fun a c hc => ?_⟩
    · show (if p = p ∨ p ∈ as then H' p else B3 p) = _
      rw [if_pos (Or.inl rfl)]; exact hll
    · show (if c = p ∨ c ∈ as then H' c else B3 c) = _
      rw [if_pos (Or.inr (List.mem_of_getElem? hc))]
      exact hfull _ c hc

abbrev n_left_by : List Str := ["copies", "dealt", "left", "thing"]
theorem sc_left_by : FnScope n_left_by ["copies", "dealt"] (defScope s_left_by) := ⟨rfl, rfl, rfl, by decide +kernel, rfl, by decide +kernel, by decide +kernel⟩
theorem ok_left_by (T : Txt K mg CS CR CP aO)  : Callable P w K mg base 1 "left_by" ["copies", "dealt"] sp_left_by := by
  have sc := sc_left_by
  refine mkFn T.f_left_by sc (fun _ _ _ _ _ _ us hl => match us, hl with | [_, _], _ => rfl) (fun vs H Q E h => ?_) (fun f cdv A outer s H vs Q E hr h => ?_)
  · obtain ⟨B, W, i0, hd, _⟩ := h; exact hd.length
  refine ⟨_, (pss_cons (ps_set (i := 2) sc.nd rfl (Or.inl rfl) (pe_callTy (T := "list") call_listS (by rfl) T.b_list (by decide +kernel) (pa_cons (pv 0) pa_nil)))
     (pss_cons (ps_for PassesOwn.never rfl (pi_list (pv 1)) (pg_name (i := 3) sc.nd rfl (Or.inl rfl))
     (pss_one (ps_if (pt_cmp (pc_notN (pv 3)))
     (pss_one (ps_augS (pv 2) (pv 3) WkR.get_list pe_int ip_sub set_list))
     pss_nil)))
     (pss_one (ps_ret (pv 2))))), ?_⟩
  obtain ⟨B, ⟨c, d⟩, i0, hd, hlt, k⟩ := h
  obtain ⟨x, y, rfl, h_copies, h_dealt⟩ := DtL.two (d1 := dNs c) (d2 := dDeal d) hd
  have hlt : ∀ t, some t ∈ d → t < c.length := hlt
  have S0 := Stp.refl i0
  have hc0 := h_copies
  obtain ⟨q, rfl, hq⟩ := hc0.nats
  refine q_new (EvL.mono i0 (el_list (ev_var rfl) (sq_of hq))) fun l H1 hl e1 hl1 => ?_
  have S1 := S0.grow e1
  have hBl : B l = none := fresh_back i0 hl
  refine q_forL S1.i (ed_var rfl h_dealt) fun B2 H2 s2 => ⟨fun i σ' H' => ∃ a, σ' = [some (.ref q), some y, some (.ref l), a] ∧ Stp B H B2 H' ∧ H' l = some (.lst ((leftA c d i).map V.int)), ⟨none, rfl, S1.trans s2, ?_⟩, fun i σ' H' ⟨_, _, s, _⟩ => s.i, fun i u z σ' H' hi hz p => ?_, fun σ' H' ⟨a, hσ, S, hll⟩ => ?_⟩
  · rw [leftA_zero, List.map_map]; exact s2.h l _ hl1
  · obtain ⟨a, rfl, S, hll⟩ := p
    have hB2 : B2 l = none := s2.free hl1 hBl
    rw [List.getElem?_map] at hi
    obtain ⟨o, ho, rfl⟩ := Option.map_eq_some_iff.mp hi
    have hd1 := dl_at ho
    refine s_if1 S.i (et_DB (ed_notN (ed_var rfl hz))) (fun hn H3 e3 => ?_) (fun hn H3 e3 => ?_)
    · have S3 := S.grow e3
      rw [isNo_dO] at hn
      obtain ⟨t, rfl⟩ : ∃ t, o = some t := by cases o with | none => cases hn | some t => exact ⟨t, rfl⟩
      have ht := hlt t (List.mem_of_getElem? ho)
      refine s_augL S3.i (e3 l _ hll) (ev_var rfl) (ed_var rfl hz) ed_int (j := t) (a := ((c.getD t 0 : Nat) : Int) - cnt i (dl d) t) (by rw [List.length_map, leftA_len]; exact ixN_nat ht) (by rw [List.getElem?_map, leftA_at c d i ht]; rfl) fun H4 e4 => ?_
      refine ⟨_, rfl, (S3.grow e4).mut _ hl hB2, ?_⟩
      rw [upd_same, leftA_some c d hd1 ht, List.map_set]
    · have S3 := S.grow e3
      rw [isNo_dO] at hn
      have : o = none := by cases o with | none => rfl | some t => cases hn
      subst this
      exact ⟨_, rfl, S3, by rw [leftA_none c d hd1]; exact e3 l _ hll⟩
  · subst hσ
    have hB2 : B2 l = none := s2.free hl1 hBl
    rw [List.length_map] at hll
    have S' := S.give hl hB2 hll
    exact s_retD S'.i (ed_var rfl (Dt.ofInts upd_same)) fun v B4 H4 s4 hv => k v H4 B4 _ (S'.trans s4) hv rfl

end
end Wk
namespace Wk
open PySem L2 Evl Wd
theorem q_forL2 {K : PySem.W.Frag} {σ : L2.St} {B H : Hp} {te : TE} {D : Ends} {tu tz : TS} {ds : List PyData} {j1 j2 : Nat} (i0 : Ex B H) (h : EvD te σ B (.list ds)) (k : ∀ B1 H1, Stp B H B1 H1 → ∃ Pv : Nat → L2.St → Hp → Prop, Pv 0 σ H1 ∧ (∀ i σ' H', Pv i σ' H' → Ex B1 H') ∧
      (∀ i, i < ds.length → ∃ d1 d2, ds[i]? = some (.tuple [d1, d2]) ∧ ∀ x y σ' H', Dt B1 d1 x → Dt B1 d2 y → Pv i σ' H' → tu { D with nx := Pv (i + 1), ct := Pv (i + 1), bk := tz D } ((σ'.set j1 (some x)).set j2 (some y)) H') ∧ (∀ σ' H', Pv ds.length σ' H' → tz D σ' H')) :
    tSeq (tFor (iList K te) (gTup K 2 (gCons (gName j1) (gCons (gName j2) gNil))) tu) tz D σ H := s_forL2 (D := { D with nx := tz D }) i0 h k
def capW (W : Wish) (t : Nat) : Int := ((W.copies.getD t 0 : Nat) : Int)
def wtF (W : Wish) (A : Aim) (a t : Nat) : Option Int := if t ∈ wished W a then some (wtOf W A a t) else none
theorem lookI_row (W : Wish) (A : Aim) (a t : Nat) : lookI (rowD W A a) (t : Int) = wtF W A a t := lookI_map (fun t => wtOf W A a t) t (wished W a)
theorem dk_rowD {W : Wish} {A : Aim} {a i : Nat} {y : Key} {v : V} (h : (dk (rowD W A a))[i]? = some (y, v)) : ∃ t : Nat, (wished W a)[i]? = some t ∧ y = Sum.inl (t : Int) ∧ v = .int (wtOf W A a t) ∧ wtF W A a t = some (wtOf W A a t) ∧ t < W.m := by
  unfold dk rowD at h
  rw [List.map_map, List.getElem?_map] at h
  obtain ⟨t, ht, e⟩ := Option.map_eq_some_iff.mp h
  cases e
  exact ⟨t, ht, rfl, rfl, if_pos (List.mem_of_getElem? ht), wished_lt (List.mem_of_getElem? ht)⟩
theorem wtF_idx {W : Wish} {A : Aim} {a t : Nat} {v : Int} (h : wtF W A a t = some v) : v = wtOf W A a t ∧ t < W.m ∧ ∃ i : Nat, (wished W a)[i]? = some t := by
  unfold wtF at h
  split at h
  · rename_i hm
    exact ⟨(Option.some.inj h).symm, wished_lt hm, List.getElem?_of_mem hm⟩
  · cases h
structure RX where
  W : Wish
  A : Aim
  d : Deal
  s : Nat
  u : Nat → Int
  q : Nat → Int
  M : Int
  p : Addr
  dx : Addr
  lf : Addr
  lt : Addr
  lk : Addr
  vr : V
  vd : V
  B : Hp
  Hm : Hp
def rcFs (X : RX) : List (Str × V) := [("rows", X.vr), ("dealt", X.vd), ("start", .int (X.s : Int)), ("freed", .ref X.lf), ("taken", .ref X.lt), ("takers", .ref X.lk)]
structure RX.Ok (CR : Addr) (X : RX) : Prop where
  ok : X.W.Ok
  ao : X.A.Ok X.W
  len : X.d.length = X.W.n
  sn : X.s < X.W.n
  dual : Dual (wtF X.W X.A) X.W.m (capW X.W) X.s (dl X.d) X.u X.q
  fe : Feas (wtF X.W X.A) X.W.m (capW X.W) X.s (dl X.d)
  m0 : 0 ≤ X.M
  wm : ∀ a t v, wtF X.W X.A a t = some v → 0 ≤ v ∧ v ≤ X.M
  self : X.B X.p = some (.ins CR X.dx (rcFs X))
  rows : RowsAt X.W X.A X.B X.vr
  dealt : Dt X.B (dDeal X.d) X.vd
  bm : Ex X.B X.Hm
  hf : X.Hm X.lf = none
  ht : X.Hm X.lt = none
  hk : X.Hm X.lk = none
  ft : X.lf ≠ X.lt
  fk : X.lf ≠ X.lk
  tk : X.lt ≠ X.lk
structure RX.St (X : RX) (lF lT : List (Nat × Int)) (lP : List (Nat × Nat)) (H : Hp) : Prop where
  f : H X.lf = some (.dK (dkN V.int lF))
  t : H X.lt = some (.dK (dkN V.int lT))
  k : H X.lk = some (.dK (dkN nV lP))
  inv : RInv (wtF X.W X.A) X.W.m X.s (dl X.d) (look lF) (look lT) (look lP)
  low : Low X.W.m X.M (look lF) (look lT)
  nf : (keysN lF).Nodup
  nt : (keysN lT).Nodup
  nk : (keysN lP).Nodup
theorem RX.St.mono {X : RX} {lF lT : List (Nat × Int)} {lP : List (Nat × Nat)} {H H' : Hp} (h : X.St lF lT lP H) (e : Ex H H') : X.St lF lT lP H' := ⟨e _ _ h.f, e _ _ h.t, e _ _ h.k, h.inv, h.low, h.nf, h.nt, h.nk⟩
theorem RX.St.upd {X : RX} {lF lT : List (Nat × Int)} {lP : List (Nat × Nat)} {H : Hp} (h : X.St lF lT lP H) {r : Addr} {o : HO} (h1 : X.lf ≠ r) (h2 : X.lt ≠ r) (h3 : X.lk ≠ r) : X.St lF lT lP (upd H r o) :=
  ⟨by rw [upd_ne h1]; exact h.f, by rw [upd_ne h2]; exact h.t, by rw [upd_ne h3]; exact h.k, h.inv, h.low, h.nf, h.nt, h.nk⟩
def RX.gap (X : RX) (lT : List (Nat × Int)) : Int := Wd.gap X.W.m X.M X.M X.q (look lT)
def RX.Fix (X : RX) (lF lT : List (Nat × Int)) : Prop := Fixed (wtF X.W X.A) (dl X.d) (look lF) (look lT)
def RX.Syn (X : RX) (lF lT : List (Nat × Int)) : Prop := Sync (wtF X.W X.A) X.s (dl X.d) (look lF) (look lT)
theorem RX.St.tm {X : RX} {lF lT : List (Nat × Int)} {lP : List (Nat × Nat)} {H : Hp} (h : X.St lF lT lP H) {t : Nat} {x : Int} (hx : look lT t = some x) : t < X.W.m := (h.inv.taken t x hx).1
theorem RX.St.lenT {X : RX} {lF lT : List (Nat × Int)} {lP : List (Nat × Nat)} {H : Hp} (h : X.St lF lT lP H) : lT.length ≤ X.W.m := len_keys h.nt fun _ _ hx => h.tm hx
theorem RX.St.lenP {X : RX} {lF lT : List (Nat × Int)} {lP : List (Nat × Nat)} {H : Hp} (h : X.St lF lT lP H) : lP.length ≤ X.W.m := len_keys h.nk fun t a ha => by
  cases e : look lT t with
  | none => have := h.inv.nons t e; rw [this] at ha; cases ha
  | some x => exact h.tm e
theorem RX.St.lenF {X : RX} {lF lT : List (Nat × Int)} {lP : List (Nat × Nat)} {H : Hp} (h : X.St lF lT lP H) : lF.length ≤ X.s + 1 := len_keys h.nf fun a g hg => Nat.lt_succ_of_le (h.inv.asker hg)
/-- one thing reached better -/
theorem RX.St.relax {CR : Addr} {X : RX} (o : X.Ok CR) {lF lT : List (Nat × Int)} {lP : List (Nat × Nat)} {H : Hp} (h : X.St lF lT lP H) {a t : Nat} {g v : Int} (hF : look lF a = some g) (hw : wtF X.W X.A a t = some v) (hne : dl X.d a ≠ some t) (hb : ∀ x, look lT t = some x → x < g + v) :
    X.St lF (putN lT t (g + v)) (putN lP t a) (L2.upd (L2.upd H X.lt (.dK (dkN V.int (putN lT t (g + v))))) X.lk (.dK (dkN nV (putN lP t a)))) ∧ X.gap (putN lT t (g + v)) < X.gap lT := by
  have htm := (wtF_idx hw).2.1
  have hv := o.wm a t v hw
  refine ⟨⟨?_, ?_, ?_, ?_, ?_, h.nf, nodup_put h.nt, nodup_put h.nk⟩, ?_⟩
  · rw [upd_ne o.fk, upd_ne o.ft]; exact h.f
  · rw [upd_ne o.tk]; exact upd_same
  · exact upd_same
  · rw [look_put, look_put]; exact h.inv.relax o.dual o.fe hF hw htm hne hb
  · rw [look_put]; exact h.low.relax o.m0 hF hv.1 htm hb
  · unfold RX.gap; rw [look_put]; exact gap_relax o.m0 h.low hF hv.1 htm hb
theorem RX.St.gap0 {CR : Addr} {X : RX} (o : X.Ok CR) {lF lT : List (Nat × Int)} {lP : List (Nat × Nat)} {H : Hp} (h : X.St lF lT lP H) : 0 ≤ X.gap lT :=
  gap_nonneg o.m0 o.m0 o.dual.p0 (h.inv.bound o.dual o.fe fun t v hw => by have := o.wm X.s t v hw; have := o.dual.p0 t; omega)

def sp_Reach_to_things (CS CR CP : Addr) : Sp := fun vs H Q _ => ∃ (X : RX) (lF lT : List (Nat × Int)) (lP : List (Nat × Nat)), vs = [.ref X.p] ∧ X.Ok CR ∧ Ex X.Hm H ∧ X.St lF lT lP H ∧ ∀ more lT' lP' H', Ex X.Hm H' → X.St lF lT' lP' H' → (more = false → lT' = lT ∧ X.Fix lF lT) → (more = true → X.gap lT' < X.gap lT) → Q (.bl more) H'
section
variable {P : Program} {w : World} {K : PySem.W.Frag} {mg : Str → Option Value} {base : Heap} {CS CR CP aO : Addr}
abbrev n_Reach_to_things : List Str := ["self", "more", "asker", "gain", "thing", "worth"]
theorem sc_Reach_to_things : FnScope n_Reach_to_things ["self"] (defScope s_Reach_to_things) := ⟨rfl, rfl, rfl, by decide +kernel, rfl, by decide +kernel, by decide +kernel⟩
theorem ok_Reach_to_things (T : Txt K mg CS CR CP aO)  : CallM P w K mg base 1 CR "to_things" ["self"] (sp_Reach_to_things CS CR CP) := by
  have sc := sc_Reach_to_things
  refine mkM T.m_Reach_to_things sc (fun _ _ _ _ _ _ us hl => match us, hl with | [_], _ => rfl) (fun vs H Q E h => ?_) (fun f cdv A outer s H vs Q E hr h => ?_)
  · obtain ⟨X, lF, lT, lP, rfl, _⟩ := h; rfl
  have hu := hu_of hr
  refine ⟨_, (pss_cons (ps_set (i := 1) sc.nd rfl (Or.inl rfl) pe_bl)
     (pss_cons (ps_for PassesOwn.never rfl (pi_list (LiI.pe_listItems rfl (pe_fld (pv 0) rfl) (by rfl) T.b_list (by decide +kernel))) (pg_tup rfl (pgs_cons (pg_name (i := 2) sc.nd rfl (Or.inl rfl)) (pgs_cons (pg_name (i := 3) sc.nd rfl (Or.inl rfl)) pgs_nil)))
     (pss_one (ps_lock (ps_for PassesOwn.never rfl (pi_items (pe_ix ix_list (pe_fld (pv 0) rfl) (pv 2) (fun _ _ => rfl))) (pg_tup rfl (pgs_cons (pg_name (i := 4) sc.nd rfl (Or.inl rfl)) (pgs_cons (pg_name (i := 5) sc.nd rfl (Or.inl rfl)) pgs_nil)))
     (pss_cons (ps_if (pt_cmpR op_eq (pv 4) (pe_ix ix_list (pe_fld (pv 0) rfl) (pv 2) (fun _ _ => rfl)) (by rfl))
     (pss_one ps_continue)
     pss_nil)
     (pss_one (ps_if (PW.pt (pw_or (pt_cmp (pc_dnotin hu (pv 4) (pe_fld (pv 0) rfl))) (pw_or1 (pt_cmpR op_gt (pe_op op_add (pv 3) (pv 5)) (pe_dget hu (pe_fld (pv 0) rfl) (pv 4) (fun _ _ => rfl)) (by rfl)))))
     (pss_cons (ps_dput hu (pe_fld (pv 0) rfl) (pv 4) (pe_op op_add (pv 3) (pv 5)) rfl)
     (pss_cons (ps_dput hu (pe_fld (pv 0) rfl) (pv 4) (pv 2) rfl)
     (pss_one (ps_set (i := 1) sc.nd rfl (Or.inl rfl) pe_bl))))
     pss_nil)))))))
     (pss_one (ps_ret (pv 1))))), ?_⟩
  obtain ⟨X, lF, lT0, lP0, rfl, o, em, st0, k⟩ := h
  have CC := T.cls_Reach
  have hn7 : X.W.n ≤ 7 := o.ok.n7
  have hm6 : X.W.m ≤ 6 := o.ok.m6
  refine q_asgD (Ex.refl H) ed_bl fun v B1 H1 S1 hv => ?_
  cases (show v = .bl false from hv)
  have em1 : Ex X.Hm H1 := em.trans S1.h
  have st1 := st0.mono S1.h
  -- the base with what is freed
  have iF : Ex (upd X.Hm X.lf (.dK (dkN V.int lF))) H1 := Ex.plus em1 st1.f
  have eF : Ex X.Hm (upd X.Hm X.lf (.dK (dkN V.int lF))) := Ex.new o.hf
  have eB := o.bm.trans eF
  have hself : (upd X.Hm X.lf (.dK (dkN V.int lF))) X.p = some (.ins CR X.dx (rcFs X)) := eB _ _ o.self
  refine q_forL2 iF (ed_items (ev_fld (ev_var rfl) hself CC T.na_Reach_freed (by rfl)) upd_same) fun B2 H2 s2 => ⟨fun i σ' H' => ∃ more lT lP a2 a3 a4 a5, σ' = [some (.ref X.p), some (.bl more), a2, a3, a4, a5] ∧ Ex B2 H' ∧ X.St lF lT lP H' ∧ (more = true → X.gap lT < X.gap lT0) ∧
      (more = false → lT = lT0 ∧ ∀ (j : Nat) a g, j < i → lF[j]? = some (a, g) → ∀ t v, wtF X.W X.A a t = some v → dl X.d a ≠ some t → ∃ x, look lT t = some x ∧ g + v ≤ x),
    ⟨false, lT0, lP0, none, none, none, none, rfl, s2.i, st1.mono s2.h, (fun z => by cases z), fun _ => ⟨rfl, fun j a g hj => by omega⟩⟩, fun i σ' H' ⟨_, _, _, _, _, _, _, _, e, _⟩ => e, fun i hi => ?_, fun σ' H' ⟨more, lT, lP, a2, a3, a4, a5, hσ, e2, st, hg, hfx⟩ => ?_⟩
  · rw [List.length_map] at hi
    obtain ⟨⟨a, g⟩, hag⟩ : ∃ q, lF[i]? = some q := ⟨_, List.getElem?_eq_getElem hi⟩
    refine ⟨dN a, .int g, by rw [List.getElem?_map, hag]; rfl, fun va vg σ' H' ha hgv ⟨more, lT, lP, a2, a3, a4, a5, hσ, e2, st, hg, hfx⟩ => ?_⟩
    subst hσ
    cases (show va = nV a from ha)
    cases (show vg = .int g from hgv)
    have hFa : look lF a = some g := look_mem st.nf hag
    have has : a ≤ X.s := st.inv.asker hFa
    have hsn := o.sn
    have eB2 : Ex X.B B2 := eB.trans s2.b
    obtain ⟨qr, as, hvr, hqr, hal, hrow⟩ := id o.rows
    obtain ⟨r, hr⟩ : ∃ r, as[a]? = some r := ⟨_, List.getElem?_eq_getElem (by omega)⟩
    have hBr := hrow a r hr
    have hB2r := eB2 r _ hBr
    have nlf : X.lf ≠ r := fun z => by have := o.bm r _ hBr; rw [← z, o.hf] at this; cases this
    have nlt : X.lt ≠ r := fun z => by have := o.bm r _ hBr; rw [← z, o.ht] at this; cases this
    have nlk : X.lk ≠ r := fun z => by have := o.bm r _ hBr; rw [← z, o.hk] at this; cases this
    have npr : X.p ≠ r := fun z => by have := o.self; rw [z, hBr] at this; cases this
    have nqr : qr ≠ r := fun z => by rw [z, hBr] at hqr; cases hqr
    obtain ⟨oa, hoa⟩ : ∃ x, X.d[a]? = some x := ⟨_, List.getElem?_eq_getElem (by have := o.len; omega)⟩
    have hda := dl_at hoa
    refine s_forI (e2 r _ hB2r) (fun od => ev_op (x := .ref qr) (y := .int (a : Int)) (ev_fld (ev_var rfl) (by rw [upd_ne npr]; exact e2 _ _ (eB2 _ _ o.self)) CC T.na_Reach_rows (by show some X.vr = _; rw [hvr])) (ev_var rfl) (rv_ixL (sq_of (by rw [upd_ne nqr]; exact e2 _ _ (eB2 _ _ hqr))) (atI_nat (by rw [List.getElem?_map, hr]; rfl)))) fun od H3 e3 => ?_
    have eLk : Ex (upd B2 r (.frz od (.dK (dk (rowD X.W X.A a))))) (upd H' r (.frz od (.dK (dk (rowD X.W X.A a))))) := fun c w hc => by
      by_cases z : c = r
      · subst z; rw [upd_same] at hc ⊢; exact hc
      · rw [upd_ne z] at hc ⊢; exact e2 c w hc
    refine ⟨fun j σ' H4 => ∃ more lT lP a4 a5, σ' = [some (.ref X.p), some (.bl more), some (nV a), some (.int g), a4, a5] ∧ Ex (upd B2 r (.frz od (.dK (dk (rowD X.W X.A a))))) H4 ∧ X.St lF lT lP H4 ∧ (more = true → X.gap lT < X.gap lT0) ∧
        (more = false → lT = lT0 ∧ (∀ (j : Nat) a g, j < i → lF[j]? = some (a, g) → ∀ t v, wtF X.W X.A a t = some v → dl X.d a ≠ some t → ∃ x, look lT t = some x ∧ g + v ≤ x) ∧
          ∀ (j' : Nat) t v, j' < j → (wished X.W a)[j']? = some t → wtF X.W X.A a t = some v → dl X.d a ≠ some t → ∃ x, look lT t = some x ∧ g + v ≤ x),
      ⟨more, lT, lP, a4, a5, rfl, eLk.trans e3, (st.upd nlf nlt nlk).mono e3, hg, fun z => ⟨(hfx z).1, (hfx z).2, fun j' t v hj => by omega⟩⟩, fun j σ' H4 ⟨_, _, _, _, _, _, e, _⟩ => e r _ upd_same, fun j y v σ' H4 H5 hy ⟨more, lT, lP, a4, a5, hσ, e4, st, hg, hfx⟩ e5 => ?_, fun σ' H4 ⟨more, lT, lP, a4, a5, hσ, e4, st, hg, hfx⟩ => ?_⟩
    · subst hσ
      obtain ⟨t, hwj, rfl, rfl, hwt, htm⟩ := dk_rowD hy
      have e45 := e4.trans e5
      have st5 := st.mono e5
      have hself5 : H5 X.p = some (.ins CR X.dx (rcFs X)) := e45 _ _ (by rw [upd_ne npr]; exact eB2 _ _ o.self)
      have hdeal5 : Dt H5 (dDeal X.d) X.vd := (Dt.lock (o := od) hB2r (o.dealt.mono eB2)).mono e45
      refine q_if1 (Ex.refl H5) (et_D (ed_eq (d1 := dO (some t)) (d2 := dO oa) (ed_var rfl rfl) (ed_ixL (ed_fld (ev_var rfl) hself5 CC T.na_Reach_dealt (by rfl) hdeal5) (ed_var (d := dN a) rfl rfl) (atI_some hoa)) (flat_dO1 _) (flat_dO1 _) (scal_dO _ _) (dO_eq _ _))) (fun z H6 e6 => ?_) (fun z H6 e6 => ?_)
      · have z := of_decide_eq_true z
        refine ⟨more, lT, lP, _, _, rfl, e45.trans e6, st5.mono e6, hg, fun w => ⟨(hfx w).1, (hfx w).2.1, fun j' t' v' hj ht' hw' hne => ?_⟩⟩
        rcases Nat.lt_or_eq_of_le (Nat.le_of_lt_succ hj) with h1 | h1
        · exact (hfx w).2.2 j' t' v' h1 ht' hw' hne
        · subst h1; rw [hwj] at ht'; cases ht'
          exact absurd (hda.trans z.symm) hne
      · have z := of_decide_eq_false z
        have hne : dl X.d a ≠ some t := by rw [hda]; exact fun q => z q.symm
        have st6 := st5.mono e6
        have hself6 := e6 _ _ hself5
        have fT : ∀ {q1 q2 q3 q4 q5 : Option V}, Ev (tFld K (tVar 0) "taken") [some (.ref X.p), q1, q2, q3, q4, q5] H6 (.ref X.lt) := fun {_ _ _ _ _} => ev_fld (ev_var rfl) hself6 CC T.na_Reach_taken (by rfl)
        refine s_if1 (b := !(look lT t).isSome || decide (g + wtOf X.W X.A a t > (look lT t).getD 0)) (Ex.refl H6) (et_or (et_DB ((ed_dnotin (i := (t : Int)) (ed_var rfl rfl) fT (.inl st6.t)).eq (by rw [valV_dkN]; simp))) fun hq => et_D (ed_cmp (ed_opI (ed_var (d := .int g) rfl rfl) (ed_var (d := .int (wtOf X.W X.A a t)) rfl rfl)) (ed_dgetK (i := (t : Int)) (v := .int ((look lT t).getD 0)) (d := .int ((look lT t).getD 0)) fT (ed_var rfl rfl) (.inl st6.t) ?_ rfl))) (fun z H7 e7 => ?_) (fun z H7 e7 => ?_)
        · rw [valV_dkN]
          cases q : look lT t with
          | none => rw [q] at hq; cases hq
          | some x => rfl
        · have hb : ∀ x, look lT t = some x → x < g + wtOf X.W X.A a t := fun x hx => by
            rw [hx] at z
            simpa using z
          have st7 := st6.mono e7
          have hself7 := e7 _ _ hself6
          obtain ⟨st8, hgap⟩ := st7.relax o hFa hwt hne hb
          have lT6 := st7.lenT
          have lP6 := st7.lenP
          refine q_dput (Ex.refl H7) st7.t (d := .int (g + wtOf X.W X.A a t)) (ed_opI (ed_var (d := .int g) rfl rfl) (ed_var (d := .int (wtOf X.W X.A a t)) rfl rfl)) (ev_fld (ev_var rfl) hself7 CC T.na_Reach_taken (by rfl)) (ed_var (d := dN t) rfl rfl) (by rw [dkN_len]; omega) fun y8 B8 H8 S8 hy8 => ?_
          cases (show y8 = _ from hy8)
          rw [dkN_put]
          have hself8 : (upd H8 X.lt (.dK (dkN V.int (putN lT t (g + wtOf X.W X.A a t))))) X.p = some (.ins CR X.dx (rcFs X)) := by
            rw [upd_ne (fun z => by have := o.bm _ _ o.self; rw [z, o.ht] at this; cases this)]
            exact S8.h _ _ hself7
          refine q_dput (Ex.refl _) (kv := dkN nV lP) (by rw [upd_ne (Ne.symm o.tk)]; exact S8.h _ _ st7.k) (d := dN a) (ed_var rfl rfl) (ev_fld (ev_var rfl) hself8 CC T.na_Reach_takers (by rfl)) (ed_var (d := dN t) rfl rfl) (by rw [dkN_len]; omega) fun y9 B9 H9 S9 hy9 => ?_
          cases (show y9 = nV a from hy9)
          rw [dkN_put]
          refine s_asgD (Ex.refl _) ed_bl fun v10 B10 H10 S10 hv10 => ?_
          cases (show v10 = .bl true from hv10)
          have e8 : Ex (upd B2 r (.frz od (.dK (dk (rowD X.W X.A a))))) H8 := ((e45.trans e6).trans e7).trans S8.h
          have hBlt : (upd B2 r (.frz od (.dK (dk (rowD X.W X.A a))))) X.lt = none := by
            rw [upd_ne nlt]; exact s2.free st1.t (by rw [upd_ne (Ne.symm o.ft)]; exact o.ht)
          have hBlk : (upd B2 r (.frz od (.dK (dk (rowD X.W X.A a))))) X.lk = none := by
            rw [upd_ne nlk]; exact s2.free st1.k (by rw [upd_ne (Ne.symm o.fk)]; exact o.hk)
          have st9 := (st8).mono (Ex.refl _)
          have stF : X.St lF (putN lT t (g + wtOf X.W X.A a t)) (putN lP t a) (upd H9 X.lk (.dK (dkN nV (putN lP t a)))) :=
            ⟨by rw [upd_ne o.fk]; exact S9.h _ _ (by rw [upd_ne o.ft]; exact S8.h _ _ st7.f), by rw [upd_ne o.tk]; exact S9.h _ _ upd_same, upd_same, st8.inv, st8.low, st8.nf, st8.nt, st8.nk⟩
          refine ⟨true, _, _, _, _, rfl, (Ex.mut (((Ex.mut e8 hBlt).trans S9.h)) hBlk).trans S10.h, stF.mono S10.h, fun _ => ?_, fun z => by cases z⟩
          cases more with
          | true => exact Int.lt_trans hgap (hg rfl)
          | false => have := (hfx rfl).1; rw [← this]; exact hgap
        · refine ⟨more, lT, lP, _, _, rfl, (e45.trans e6).trans e7, st6.mono e7, hg, fun w => ⟨(hfx w).1, (hfx w).2.1, fun j' t' v' hj ht' hw' hne => ?_⟩⟩
          rcases Nat.lt_or_eq_of_le (Nat.le_of_lt_succ hj) with h1 | h1
          · exact (hfx w).2.2 j' t' v' h1 ht' hw' hne
          · subst h1; rw [hwj] at ht'; cases ht'
            rw [hwt] at hw'; cases hw'
            cases q : look lT t with
            | none => rw [q] at z; simp at z
            | some x => rw [q] at z; refine ⟨x, rfl, ?_⟩; simpa using z
    · subst hσ
      refine ⟨more, lT, lP, _, _, _, _, rfl, Ex.unlock hB2r e4, st.upd nlf nlt nlk, hg, fun w => ⟨(hfx w).1, fun j a' g' hj hag' t v hw hne => ?_⟩⟩
      rcases Nat.lt_or_eq_of_le (Nat.le_of_lt_succ hj) with h1 | h1
      · exact (hfx w).2.1 j a' g' h1 hag' t v hw hne
      · subst h1; rw [hag] at hag'; cases hag'
        obtain ⟨_, _, jj, hjj⟩ := wtF_idx hw
        refine (hfx w).2.2 jj t v ?_ hjj hw hne
        rw [dk_len]
        unfold rowD
        rw [List.length_map]
        exact (List.getElem?_eq_some_iff.mp hjj).1
  · subst hσ
    have eM : Ex X.Hm H' := (eF.trans s2.b).trans e2
    refine s_ret (ev_var (H := H') rfl) fun H5 e5 => k more lT lP H5 (eM.trans e5) (st.mono e5) (fun z => ⟨(hfx z).1, fun a g hF t v hw hne => ?_⟩) hg
    obtain ⟨j, hj⟩ := look_idx hF
    rw [← (hfx z).1]
    exact (hfx z).2 j a g (by rw [List.length_map]; exact (List.getElem?_eq_some_iff.mp hj).1) hj t v hw hne

end
end Wk
namespace Wk
open PySem L2 Evl Wd
/-- a new search: what stands behind __init__ -/
theorem q_fldV {K : PySem.W.Frag} {σ : L2.St} {H : Hp} {ta te : TE} {v : V} {p C dx : Addr} {fs : List (Str × V)} {f : Str} {D : Ends} {tz : TS} (hp : H p = some (.ins C dx fs)) (h : Ev te σ H v) (ho : Ev ta σ H (.ref p)) (c : Cls K C) (n : NoAttr K C f) (hl : fs.length < 1000)
    (k : ∀ H2, Ex H H2 → tz D σ (upd H2 p (.ins C dx (putF f v fs)))) : tSeq (sFld K ta te f) tz D σ H := h H (Ex.refl H) _ fun H1 e => ho H1 e _ fun H2 e2 => ⟨p, C, dx, fs, rfl, e2 p _ (e p _ hp), c, n, hl, k H2 (e.trans e2)⟩
def inOF {β : Type} (l : List (Nat × β)) : Option Nat → Bool
  | none => false
  | some t => (look l t).isSome
theorem ed_dinNN {β : Type} {σ : L2.St} {B : Hp} {td ty : TE} {l : Addr} {fl : β → V} {ls : List (Nat × β)} {o : Option Nat} (hi : EvD ty σ B (dO o)) (ho : Ev td σ B (.ref l)) (hr : Rd B l (.dK (dkN fl ls))) : EvD (tDInN ty td) σ B (.bool (inOF ls o)) :=
  (ed_dinN hi ho hr).eq (by
    cases o with
    | none => rfl
    | some t =>
      show PyData.bool (valV (dkN fl ls) (Sum.inl (t : Int) : Key)).isSome = .bool (look ls t).isSome
      rw [valV_dkN]; simp)

def sp_Reach_init (CS CR CP : Addr) : Sp := fun vs H Q _ => ∃ (H0 : Hp) (p dx : Addr) (vr vd : V) (s : Nat), vs = [.ref p, vr, vd, .int (s : Int)] ∧ H0 p = none ∧ H0 dx = none ∧ dx ≠ p ∧ H = upd (upd H0 dx (.own p)) p (.ins CR dx []) ∧
    ∀ H' lf lt lk, H' p = some (.ins CR dx [("rows", vr), ("dealt", vd), ("start", .int (s : Int)), ("freed", .ref lf), ("taken", .ref lt), ("takers", .ref lk)]) → Ex H0 H' → H0 lf = none → H0 lt = none → H0 lk = none → lf ≠ lt → lf ≠ lk → lt ≠ lk →
      H' lf = some (.dK (dkN V.int [(s, 0)])) → H' lt = some (.dK []) → H' lk = some (.dK []) → Q .non H'
def sp_Reach_to_askers (CS CR CP : Addr) : Sp := fun vs H Q _ => ∃ (X : RX) (lF lT : List (Nat × Int)) (lP : List (Nat × Nat)), vs = [.ref X.p] ∧ X.Ok CR ∧ Ex X.Hm H ∧ X.St lF lT lP H ∧ ∀ lF' H', Ex X.Hm H' → X.St lF' lT lP H' → X.Syn lF' lT → Q .non H'
def sp_Reach_go_on (CS CR CP : Addr) : Sp := fun vs H Q _ => ∃ (X : RX) (lF lT : List (Nat × Int)) (lP : List (Nat × Nat)), vs = [.ref X.p] ∧ X.Ok CR ∧ Ex X.Hm H ∧ X.St lF lT lP H ∧ X.Syn lF lT ∧ ∀ lF' lT' lP' H', Ex X.Hm H' → X.St lF' lT' lP' H' → X.Syn lF' lT' → X.Fix lF' lT' → Q .non H'
section
variable {P : Program} {w : World} {K : PySem.W.Frag} {mg : Str → Option Value} {base : Heap} {CS CR CP aO : Addr}
abbrev n_Reach_init : List Str := ["self", "rows", "dealt", "start"]
theorem sc_Reach_init : FnScope n_Reach_init ["self", "rows", "dealt", "start"] (defScope s_Reach_init) := ⟨rfl, rfl, rfl, by decide +kernel, rfl, by decide +kernel, by decide +kernel⟩
theorem ok_Reach_init (T : Txt K mg CS CR CP aO)  : CallC P w K mg base 1 CR "Reach" ["self", "rows", "dealt", "start"] (sp_Reach_init CS CR CP) := by
  have sc := sc_Reach_init
  refine mkC T.i_Reach sc (fun _ _ _ _ _ _ us hl => match us, hl with | [_, _, _, _], _ => rfl) (fun vs H Q E h => ?_) (fun f cdv A outer s H vs Q E hr h => ?_)
  · obtain ⟨H0, p, dx, vr, vd, s, rfl, _⟩ := h; rfl
  refine ⟨_, (pss_cons (ps_fld (pv 0) (pv 1) rfl)
     (pss_cons (ps_fld (pv 0) (pv 2) rfl)
     (pss_cons (ps_fld (pv 0) (pv 3) rfl)
     (pss_cons (ps_fld (pv 0) (pe_disp (pps_cons (pv 3) pe_int pps_nil) (by rfl) (by rfl) (fun z => by cases z) (by decide)) rfl)
     (pss_cons (ps_fld (pv 0) pe_dnewK rfl)
     (pss_one (ps_fld (pv 0) pe_dnewK rfl))))))), ?_⟩
  obtain ⟨H0, p, dx, vr, vd, s, rfl, hp0, hdx0, hne, rfl, k⟩ := h
  have CC := T.cls_Reach
  have e0 : Ex H0 (upd (upd H0 dx (.own p)) p (.ins CR dx [])) := Ex.mut (Ex.new hdx0) hp0
  refine q_fldV upd_same (ev_var rfl) (ev_var rfl) CC T.na_Reach_rows (by decide) fun H1 e1 => ?_
  have x1 := Ex.mut (o := .ins CR dx (putF "rows" vr [])) (e0.trans e1) hp0
  refine q_fldV upd_same (ev_var rfl) (ev_var rfl) CC T.na_Reach_dealt (show 1 < 1000 by decide) fun H2 e2 => ?_
  have x2 := Ex.mut (o := .ins CR dx (putF "dealt" vd (putF "rows" vr []))) (x1.trans e2) hp0
  refine q_fldV upd_same (ev_var rfl) (ev_var rfl) CC T.na_Reach_start (show 2 < 1000 by decide) fun H3 e3 => ?_
  have x3 := Ex.mut (o := .ins CR dx (putF "start" (.int (s : Int)) (putF "dealt" vd (putF "rows" vr [])))) (x2.trans e3) hp0
  refine fun lf hlf => ⟨.int (s : Int), rfl, upd_same, [(Sum.inl (s : Int), .int 0)], rfl, (show 1 ≤ 15 by decide), .ref p, rfl, p, CR, dx, [("rows", vr), ("dealt", vd), ("start", .int (s : Int))], rfl, ?_, CC, T.na_Reach_freed, (show 3 < 1000 by decide), ?_⟩
  · have npf : p ≠ lf := fun z => by rw [← z, upd_same] at hlf; cases hlf
    rw [upd_ne npf, upd_ne npf]; exact upd_same
  have npf : p ≠ lf := fun z => by rw [← z, upd_same] at hlf; cases hlf
  have x4 := Ex.mut (Ex.mut (Ex.mut (o := .dK []) x3 (fresh_back x3 hlf)) (o := .dK (mergeK [] [((Sum.inl (s : Int) : Key), V.int 0)])) (fresh_back x3 hlf)) (p := p) (o := .ins CR dx (putF "freed" (.ref lf) (putF "start" (.int (s : Int)) (putF "dealt" vd (putF "rows" vr []))))) hp0
  refine fun lt hlt => ⟨.ref p, rfl, p, CR, dx, [("rows", vr), ("dealt", vd), ("start", .int (s : Int)), ("freed", .ref lf)], rfl, ?_, CC, T.na_Reach_taken, (show 4 < 1000 by decide), ?_⟩
  · have npt : p ≠ lt := fun z => by rw [← z, upd_same] at hlt; cases hlt
    rw [upd_ne npt]; exact upd_same
  have npt : p ≠ lt := fun z => by rw [← z, upd_same] at hlt; cases hlt
  have nft : lf ≠ lt := fun z => by rw [← z, upd_ne (Ne.symm npf), upd_same] at hlt; cases hlt
  have x5 := Ex.mut (Ex.mut (o := .dK []) x4 (fresh_back x4 hlt)) (p := p) (o := .ins CR dx (putF "taken" (.ref lt) (putF "freed" (.ref lf) (putF "start" (.int (s : Int)) (putF "dealt" vd (putF "rows" vr [])))))) hp0
  refine fun lk hlk => ⟨.ref p, rfl, p, CR, dx, [("rows", vr), ("dealt", vd), ("start", .int (s : Int)), ("freed", .ref lf), ("taken", .ref lt)], rfl, ?_, CC, T.na_Reach_takers, (show 5 < 1000 by decide), ?_⟩
  · have npk : p ≠ lk := fun z => by rw [← z, upd_same] at hlk; cases hlk
    rw [upd_ne npk]; exact upd_same
  have npk : p ≠ lk := fun z => by rw [← z, upd_same] at hlk; cases hlk
  have nfk : lf ≠ lk := fun z => by rw [← z, upd_ne (Ne.symm npf), upd_ne nft, upd_ne (Ne.symm npf), upd_same] at hlk; cases hlk
  have ntk : lt ≠ lk := fun z => by rw [← z, upd_ne (Ne.symm npt), upd_same] at hlk; cases hlk
  have x6 := Ex.mut (Ex.mut (o := .dK []) x5 (fresh_back x5 hlk)) (p := p) (o := .ins CR dx (putF "takers" (.ref lk) (putF "taken" (.ref lt) (putF "freed" (.ref lf) (putF "start" (.int (s : Int)) (putF "dealt" vd (putF "rows" vr []))))))) hp0
  refine k _ lf lt lk upd_same x6 (fresh_back x3 hlf) (fresh_back x4 hlt) (fresh_back x5 hlk) nft nfk ntk ?_ ?_ ?_
  · rw [upd_ne (Ne.symm npf), upd_ne nfk, upd_ne (Ne.symm npf), upd_ne nft, upd_ne (Ne.symm npf), upd_same]; rfl
  · rw [upd_ne (Ne.symm npt), upd_ne ntk, upd_ne (Ne.symm npt), upd_same]
  · rw [upd_ne (Ne.symm npk), upd_same]

abbrev n_Reach_to_askers : List Str := ["self", "asker", "thing"]
theorem sc_Reach_to_askers : FnScope n_Reach_to_askers ["self"] (defScope s_Reach_to_askers) := ⟨rfl, rfl, rfl, by decide +kernel, rfl, by decide +kernel, by decide +kernel⟩
theorem ok_Reach_to_askers (T : Txt K mg CS CR CP aO)  : CallM P w K mg base 1 CR "to_askers" ["self"] (sp_Reach_to_askers CS CR CP) := by
  have sc := sc_Reach_to_askers
  refine mkM T.m_Reach_to_askers sc (fun _ _ _ _ _ _ us hl => match us, hl with | [_], _ => rfl) (fun vs H Q E h => ?_) (fun f cdv A outer s H vs Q E hr h => ?_)
  · obtain ⟨X, lF, lT, lP, rfl, _⟩ := h; rfl
  have hu := hu_of hr
  refine ⟨_, (pss_one (ps_for PassesOwn.never rfl (pi_enum (by rfl) T.b_enumerate (pa_cons (pe_fld (pv 0) rfl) pa_nil)) (pg_tup rfl (pgs_cons (pg_name (i := 1) sc.nd rfl (Or.inl rfl)) (pgs_cons (pg_name (i := 2) sc.nd rfl (Or.inl rfl)) pgs_nil)))
     (pss_one (ps_if (pt_cmp (pc_dinN hu (pv 2) (pe_fld (pv 0) rfl)))
     (pss_one (ps_dput hu (pe_fld (pv 0) rfl) (pv 1) (pe_op op_sub (pe_dget hu (pe_fld (pv 0) rfl) (pv 2) (fun _ _ => rfl)) (pe_dget hu (pe_ix ix_list (pe_fld (pv 0) rfl) (pv 1) (fun _ _ => rfl)) (pv 2) (fun _ _ => rfl))) rfl))
     pss_nil)))), ?_⟩
  obtain ⟨X, lF0, lT, lP, rfl, o, em, st0, k⟩ := h
  have CC := T.cls_Reach
  have hn7 : X.W.n ≤ 7 := o.ok.n7
  have hsn := o.sn
  have hlen := o.len
  refine s_forE em (ed_fld (ev_var rfl) (o.bm _ _ o.self) CC T.na_Reach_dealt (by rfl) (o.dealt.mono o.bm)) fun B2 H2 s2 => ⟨fun i σ' H' => ∃ lF a1 a2, σ' = [some (.ref X.p), a1, a2] ∧ Ex B2 H' ∧ X.St lF lT lP H' ∧ ∀ (a t : Nat) (x v : Int), a < i → dl X.d a = some t → look lT t = some x → wtF X.W X.A a t = some v → look lF a = some (x - v),
    ⟨lF0, none, none, rfl, s2.i, st0.mono s2.h, fun a _ _ _ h => by omega⟩, fun i σ' H' ⟨_, _, _, _, e, _⟩ => e, fun i d r σ' H' H'' hi hr ⟨lF, a1, a2, hσ, e2, st, hsy⟩ e3 => ?_, fun σ' H' ⟨lF, a1, a2, hσ, e2, st, hsy⟩ => ?_⟩
  · subst hσ
    rw [List.getElem?_map] at hi
    obtain ⟨oa, hoa, rfl⟩ := Option.map_eq_some_iff.mp hi
    have hda := dl_at hoa
    have hin : i < X.W.n := by have := (List.getElem?_eq_some_iff.mp hoa).1; omega
    have e4 := e2.trans e3
    have st4 := st.mono e3
    have hself : H'' X.p = some (.ins CR X.dx (rcFs X)) := e4 _ _ (s2.b _ _ (o.bm _ _ o.self))
    have hr := hr.mono e4
    refine s_if1 (Ex.refl H'') (et_DB (ed_dinNN (o := oa) (ed_var rfl hr) (ev_fld (ev_var rfl) hself CC T.na_Reach_taken (by rfl)) (.inl st4.t))) (fun z H5 e5 => ?_) (fun z H5 e5 => ?_)
    · cases oa with
      | none => cases z
      | some t =>
        obtain ⟨x, hx⟩ := Option.isSome_iff_exists.mp z
        have his : i < X.s := by
          refine Nat.lt_of_not_le fun h => ?_
          have := o.fe.out i h
          rw [hda] at this; cases this
        obtain ⟨_, hv⟩ := o.fe.wish i his t hda
        obtain ⟨v, hw⟩ := Option.isSome_iff_exists.mp hv
        have st5 := st4.mono e5
        have hself5 := e5 _ _ hself
        have e6 := e4.trans e5
        have eB := (o.bm.trans s2.b).trans e6
        refine s_dput (Ex.refl H5) st5.f (d := .int (x - v)) (ed_opI (ed_dgetK (i := (t : Int)) (v := .int x) (d := .int x) (ev_fld (ev_var rfl) hself5 CC T.na_Reach_taken (by rfl)) (ed_var (d := dN t) rfl (hr.mono e5)) (.inl st5.t) (by rw [valV_dkN, hx]; rfl) rfl) (ed_dget (i := (t : Int)) (ed_ixL (ds := (List.range X.W.n).map fun a => dDict (rowD X.W X.A a)) (ed_fld (ev_var rfl) hself5 CC T.na_Reach_rows (by rfl) ((o.rows.mono eB).dt)) (ed_var (d := dN i) rfl rfl) (atI_nat (v := dDict (rowD X.W X.A i)) (by rw [List.getElem?_map, List.getElem?_range hin]; rfl))) (ed_var (d := dN t) rfl (hr.mono e5)) (by rw [lookI_row]; exact hw))) (ev_fld (ev_var rfl) hself5 CC T.na_Reach_freed (by rfl)) (ed_var (d := dN i) rfl rfl) (by rw [dkN_len]; have := st5.lenF; omega) fun y7 B7 H7 S7 hy7 => ?_
        cases (show y7 = _ from hy7)
        rw [dkN_put]
        have hBlf : B2 X.lf = none := s2.free st0.f o.hf
        have hput := look_put lF i (x - v)
        refine ⟨putN lF i (x - v), _, _, rfl, Ex.mut (e6.trans S7.h) hBlf, ⟨upd_same, by rw [upd_ne (Ne.symm o.ft)]; exact S7.h _ _ st5.t, by rw [upd_ne (Ne.symm o.fk)]; exact S7.h _ _ st5.k, by rw [hput]; exact st5.inv.free his hda hx hw, by rw [hput]; exact st5.low.free hx (o.wm i t v hw).2, nodup_put st5.nf, st5.nt, st5.nk⟩, fun b t' x' v' hb hd' hx' hw' => ?_⟩
        rw [hput]
        rcases Nat.lt_or_eq_of_le (Nat.le_of_lt_succ hb) with h1 | h1
        · rw [fset_ne (by omega)]; exact hsy b t' x' v' h1 hd' hx' hw'
        · subst h1
          rw [hda] at hd'; cases hd'
          rw [hx] at hx'; cases hx'
          rw [hw] at hw'; cases hw'
          rw [fset_same]
    · refine ⟨lF, _, _, rfl, e4.trans e5, st4.mono e5, fun b t' x' v' hb hd' hx' hw' => ?_⟩
      rcases Nat.lt_or_eq_of_le (Nat.le_of_lt_succ hb) with h1 | h1
      · exact hsy b t' x' v' h1 hd' hx' hw'
      · subst h1
        rw [hda] at hd'
        subst hd'
        have z : (look lT t').isSome = false := z
        rw [hx'] at z; cases z
  · subst hσ
    refine k lF H' (s2.b.trans e2) st fun a t x v ha hd hx hw => hsy a t x v (by rw [List.length_map]; omega) hd hx hw

abbrev n_Reach_go_on : List Str := ["self"]
theorem sc_Reach_go_on : FnScope n_Reach_go_on ["self"] (defScope s_Reach_go_on) := ⟨rfl, rfl, rfl, by decide +kernel, rfl, by decide +kernel, by decide +kernel⟩
theorem ok_Reach_go_on (T : Txt K mg CS CR CP aO) (c_Reach_to_things : CallM P w K mg base 1 CR "to_things" ["self"] (sp_Reach_to_things CS CR CP)) (c_Reach_to_askers : CallM P w K mg base 1 CR "to_askers" ["self"] (sp_Reach_to_askers CS CR CP)) : CallM P w K mg base 2 CR "go_on" ["self"] (sp_Reach_go_on CS CR CP) := by
  have sc := sc_Reach_go_on
  refine mkM T.m_Reach_go_on sc (fun _ _ _ _ _ _ us hl => match us, hl with | [_], _ => rfl) (fun vs H Q E h => ?_) (fun f cdv A outer s H vs Q E hr h => ?_)
  · obtain ⟨X, lF, lT, lP, rfl, _⟩ := h; rfl
  refine ⟨_, (pss_one (ps_while PassesOwn.never (pt_val (pe_m0 (pv 0) T.cls_Reach c_Reach_to_things (hr.mono (by decide))))
     (pss_one (ps_expr (pe_m0 (pv 0) T.cls_Reach c_Reach_to_askers (hr.mono (by decide))))))), ?_⟩
  obtain ⟨X, lF0, lT0, lP0, rfl, o, em0, st0, sy0, k⟩ := h
  refine ⟨fun m σ' H' => σ' = [some (.ref X.p)] ∧ ∃ lF lT lP, Ex X.Hm H' ∧ X.St lF lT lP H' ∧ X.Syn lF lT ∧ m = (X.gap lT).toNat, ⟨_, rfl, lF0, lT0, lP0, em0, st0, sy0, rfl⟩, ?_⟩
  rintro m σ' H' ⟨rfl, lF, lT, lP, em, st, sy, rfl⟩
  have hself := (o.bm.trans em) _ _ o.self
  refine ⟨.ref X.p, rfl, X.p, X.dx, rcFs X, rfl, hself, by rfl, X, lF, lT, lP, rfl, o, em, st, fun more lT' lP' H2 em2 st2 hf hg => ⟨more, rfl, ?_⟩⟩
  cases more with
  | false =>
    obtain ⟨rfl, fx⟩ := hf rfl
    exact iteF (k lF lT' lP' H2 em2 st2 sy fx)
  | true =>
    have hgap := hg rfl
    refine iteT ⟨fun σ3 H3 => σ3 = [some (.ref X.p)] ∧ ∃ lF lP, Ex X.Hm H3 ∧ X.St lF lT' lP H3 ∧ X.Syn lF lT', fun σ3 H3 ⟨hσ, lF3, lP3, em3, st3, sy3⟩ => ⟨_, ?_, hσ, lF3, lT', lP3, em3, st3, sy3, rfl⟩, ?_⟩
    · have g1 := st2.gap0 o
      have g2 := st.gap0 o
      omega
    · exact ⟨.ref X.p, rfl, X.p, X.dx, rcFs X, rfl, (o.bm.trans em2) _ _ o.self, by rfl, X, lF, lT', lP', rfl, o, em2, st2, fun lF4 H4 em4 st4 sy4 => ⟨rfl, lF4, lP', em4, st4, sy4⟩⟩

end
end Wk
namespace Wk
open PySem L2 Evl Wd
theorem dkN_get {β : Type} {f : β → V} {l : List (Nat × β)} {i : Nat} {y : Key} {v : V} (h : (dkN f l)[i]? = some (y, v)) : ∃ k x, l[i]? = some (k, x) ∧ y = Sum.inl (k : Int) ∧ v = f x := by
  unfold dkN at h
  rw [List.getElem?_map] at h
  obtain ⟨⟨k, x⟩, hk, e⟩ := Option.map_eq_some_iff.mp h
  cases e
  exact ⟨k, x, hk, rfl, rfl⟩
def EndV (H : Hp) : Option (Nat × Option Nat) → V → Prop
  | none, v => v = .non
  | some q, v => ∃ r, v = .ref r ∧ H r = some (.tup [nV q.1, oV q.2])
theorem EndV.mono {H H' : Hp} {e : Option (Nat × Option Nat)} {v : V} (x : Ex H H') (h : EndV H e v) : EndV H' e v := by
  cases e with
  | none => exact h
  | some q => obtain ⟨r, h1, h2⟩ := h; exact ⟨r, h1, x r _ h2⟩
theorem EndV.upd {H : Hp} {e : Option (Nat × Option Nat)} {v : V} {a : Addr} {o : Obj} {u w : HO} (hu : H a = some (.frz o u)) (h : EndV H e v) : EndV (L2.upd H a w) e v := by
  cases e with
  | none => exact h
  | some q => obtain ⟨r, h1, h2⟩ := h; exact ⟨r, h1, by rw [upd_ne (by intro z; subst z; rw [hu] at h2; cases h2)]; exact h2⟩
def leftF (X : RX) (t : Nat) : Int := capW X.W t - cnt X.d.length (dl X.d) t
def EOk (lF lT : List (Nat × Int)) (lP : List (Nat × Nat)) (left : Nat → Int) : Option (Nat × Option Nat) → Int → Prop
  | none, g => g = 0
  | some (a, none), g => look lF a = some g ∧ 0 < g
  | some (a, some t), g => look lT t = some g ∧ look lP t = some a ∧ 0 < left t
theorem RX.Ok.pf {CR : Addr} {X : RX} (o : X.Ok CR) : X.p ≠ X.lf := fun z => by have := o.bm _ _ o.self; rw [z, o.hf] at this; cases this
theorem RX.Ok.pt {CR : Addr} {X : RX} (o : X.Ok CR) : X.p ≠ X.lt := fun z => by have := o.bm _ _ o.self; rw [z, o.ht] at this; cases this
theorem RX.Ok.pk {CR : Addr} {X : RX} (o : X.Ok CR) : X.p ≠ X.lk := fun z => by have := o.bm _ _ o.self; rw [z, o.hk] at this; cases this
def dStep (q : Nat × Option Nat) : PyData := .tuple [dN q.1, dO q.2]
def dWay (way : List (Nat × Option Nat)) : PyData := .list (way.map dStep)
theorem atI_zero {α : Type} (x : α) (xs : List α) : atI (x :: xs) 0 = some x := atI_nat (j := 0) rfl
/-- xs.insert(0, a tuple) -/
theorem s_insU {K : PySem.W.Frag} {σ : L2.St} {H : Hp} {ta te : TE} {D : Ends} {l : Addr} {xs ys : List V} (hl : H l = some (.lst xs)) (ho : Ev ta σ H (.ref l)) (h : EvU te σ H ys) (hz : xs.length < 100000) (k : ∀ p H1, H p = none → Ex H H1 → H1 p = some (.tup ys) → D.nx σ (upd H1 l (.lst (.ref p :: xs)))) :
    tDrop (tBM K "list" rIns ta (tCons (tC (.int 0)) (tCons te tNil))) D σ H := ho H (Ex.refl H) _ fun H1 e1 =>
  ⟨Or.inl ⟨rfl, xs, sq_of (e1 l _ hl)⟩, h H1 e1 _ fun p H2 hp e2 hl2 => ⟨l, xs, 0, .ref p, rfl, rfl, e2 l _ (e1 l _ hl), sz_lt hz, by decide, by decide, by
    have e : (xs.take (0 : Int).toNat ++ [V.ref p] ++ xs.drop (0 : Int).toNat) = .ref p :: xs := by simp
    rw [e]
    exact k p H2 (fresh_back e1 hp) (e1.trans e2) hl2⟩⟩

def sp_Reach_end_by (CS CR CP : Addr) : Sp := fun vs H Q _ => ∃ (X : RX) (lF lT : List (Nat × Int)) (lP : List (Nat × Nat)) (vl : V), vs = [.ref X.p, vl] ∧ X.Ok CR ∧ Ex X.Hm H ∧ X.St lF lT lP H ∧ Dt H (dInts (leftA X.W.copies X.d X.d.length)) vl ∧
    ∀ v H' e g, Ex H H' → EndV H' e v → (∀ r, v = .ref r → H r = none) → 0 ≤ g → (∀ a y, look lF a = some y → y ≤ g) → (∀ t x, look lT t = some x → 0 < leftF X t → x ≤ g) → EOk lF lT lP (leftF X) e g → Q v H'
def sp_Reach_way_to (CS CR CP : Addr) : Sp := fun vs H Q _ => ∃ (X : RX) (lF lT : List (Nat × Int)) (lP : List (Nat × Nat)) (e : Nat × Option Nat) (ve : V) (g : Int) (n : Nat) (Bx : Hp), vs = [.ref X.p, ve] ∧ X.Ok CR ∧ Ex X.Hm H ∧ X.St lF lT lP H ∧ Ex Bx H ∧ Dt Bx (dStep e) ve ∧ WInv (wtF X.W X.A) X.W.m (capW X.W) X.s (dl X.d) (look lF) (look lP) g e.1 [e] n ∧
    ∀ v H' B' way n', Stp Bx H B' H' → Dt B' (dWay way) v → WInv (wtF X.W X.A) X.W.m (capW X.W) X.s (dl X.d) (look lF) (look lP) g X.s way n' → Q v H'
section
variable {P : Program} {w : World} {K : PySem.W.Frag} {mg : Str → Option Value} {base : Heap} {CS CR CP aO : Addr}
abbrev n_Reach_end_by : List Str := ["self", "left", "most", "end", "asker", "gain", "thing"]
theorem sc_Reach_end_by : FnScope n_Reach_end_by ["self", "left"] (defScope s_Reach_end_by) := ⟨rfl, rfl, rfl, by decide +kernel, rfl, by decide +kernel, by decide +kernel⟩
theorem ok_Reach_end_by (T : Txt K mg CS CR CP aO)  : CallM P w K mg base 1 CR "end_by" ["self", "left"] (sp_Reach_end_by CS CR CP) := by
  have sc := sc_Reach_end_by
  refine mkM T.m_Reach_end_by sc (fun _ _ _ _ _ _ us hl => match us, hl with | [_, _], _ => rfl) (fun vs H Q E h => ?_) (fun f cdv A outer s H vs Q E hr h => ?_)
  · obtain ⟨X, lF, lT, lP, vl, rfl, _⟩ := h; rfl
  have hu := hu_of hr
  refine ⟨_, (pss_cons (ps_set (i := 2) sc.nd rfl (Or.inl rfl) pe_int)
     (pss_cons (ps_set (i := 3) sc.nd rfl (Or.inl rfl) pe_non)
     (pss_cons (ps_lock (ps_for PassesOwn.never rfl (pi_items (pe_fld (pv 0) rfl)) (pg_tup rfl (pgs_cons (pg_name (i := 4) sc.nd rfl (Or.inl rfl)) (pgs_cons (pg_name (i := 5) sc.nd rfl (Or.inl rfl)) pgs_nil)))
     (pss_one (ps_if (pt_cmpR op_gt (pv 5) (pv 2) (by rfl))
     (pss_cons (ps_set (i := 2) sc.nd rfl (Or.inl rfl) (pv 5))
     (pss_one (ps_set (i := 3) sc.nd rfl (Or.inl rfl) (pe_tup (pa_cons (pv 4) (pa_cons pe_non pa_nil))))))
     pss_nil))))
     (pss_cons (ps_lock (ps_for PassesOwn.never rfl (pi_items (pe_fld (pv 0) rfl)) (pg_tup rfl (pgs_cons (pg_name (i := 6) sc.nd rfl (Or.inl rfl)) (pgs_cons (pg_name (i := 5) sc.nd rfl (Or.inl rfl)) pgs_nil)))
     (pss_one (ps_if (PW.pt (pw_and (pt_cmpR op_gt (pe_ix ix_list (pv 1) (pv 6) (fun _ _ => rfl)) pe_int (by rfl)) (pw_and1 (pt_cmpR op_gt (pv 5) (pv 2) (by rfl)))))
     (pss_cons (ps_set (i := 2) sc.nd rfl (Or.inl rfl) (pv 5))
     (pss_one (ps_set (i := 3) sc.nd rfl (Or.inl rfl) (pe_tup (pa_cons (pe_dget hu (pe_fld (pv 0) rfl) (pv 6) (fun _ _ => rfl)) (pa_cons (pv 6) pa_nil))))))
     pss_nil))))
     (pss_one (ps_ret (pv 3))))))), ?_⟩
  obtain ⟨X, lF, lT, lP, vl, rfl, o, em, st, hleft, k⟩ := h
  have CC := T.cls_Reach
  refine q_asgD (Ex.refl H) ed_int fun v B1 H1 S1 hv => ?_
  cases (show v = .int 0 from hv)
  refine q_asgD (Ex.refl H1) ed_non fun v B2 H2 S2 hv => ?_
  cases (show v = .non from hv)
  have x2 := S1.h.trans S2.h
  have st2 := st.mono x2
  have hself2 := x2 _ _ (em _ _ (o.bm _ _ o.self))
  refine q_forI st2.f (fun od => ev_fld (ev_var rfl) (by rw [upd_ne o.pf]; exact hself2) CC T.na_Reach_freed (by rfl)) fun od H3 e3 => ⟨fun i σ' H' => ∃ g e ve a4 a5, σ' = [some (.ref X.p), some vl, some (.int g), some ve, a4, a5, none] ∧ Ex (upd H2 X.lf (.frz od (.dK (dkN V.int lF)))) H' ∧ EndV H' e ve ∧ (∀ r, ve = .ref r → H r = none) ∧ 0 ≤ g ∧
      (∀ (j : Nat) a y, j < i → lF[j]? = some (a, y) → y ≤ g) ∧ EOk lF [] [] (fun _ => 0) e g, ⟨0, none, .non, none, none, rfl, e3, rfl, (fun r z => by cases z), Int.le_refl _, fun j a y h => by omega, rfl⟩, fun i σ' H' ⟨_, _, _, _, _, _, e, _⟩ => e _ _ upd_same, fun i y v σ' H' H'' hy ⟨g, e, ve, a4, a5, hσ, e4, hev, hfr, hg, hle, hok⟩ e5 => ?_, fun σ' H' ⟨g, e, ve, a4, a5, hσ, e4, hev, hfr, hg, hle, hok⟩ => ?_⟩
  · subst hσ
    obtain ⟨a, x, hax, rfl, rfl⟩ := dkN_get hy
    refine s_if1 (Ex.refl H'') (et_D (ed_cmp (ed_var (d := .int x) rfl rfl) (ed_var (d := .int g) rfl rfl))) (fun z H6 e6 => ?_) (fun z H6 e6 => ?_)
    · have z : g < x := of_decide_eq_true z
      refine q_asg (ev_var rfl) fun H7 e7 => s_asgU (eu_tup (ea_cons (ev_var rfl) (ea_cons ev_c ea_nil)) (by show 2 ≤ 100000; decide)) fun p H8 hp e8 hl8 => ?_
      refine ⟨x, some (a, none), .ref p, _, _, rfl, (((e4.trans e5).trans e6).trans e7).trans e8, ⟨p, rfl, hl8⟩, (fun r z => by
        cases z
        have hp2 := fresh_back (((e4.trans e5).trans e6).trans e7) hp
        have hne : p ≠ X.lf := fun z => by subst z; rw [upd_same] at hp2; cases hp2
        rw [upd_ne hne] at hp2
        exact fresh_back x2 hp2), by omega, fun j a' y' hj hy' => ?_, look_mem st.nf hax, by omega⟩
      rcases Nat.lt_or_eq_of_le (Nat.le_of_lt_succ hj) with h1 | h1
      · have := hle j a' y' h1 hy'; omega
      · subst h1; rw [hax] at hy'; cases hy'; exact Int.le_refl _
    · have z : ¬ g < x := of_decide_eq_false z
      refine ⟨g, e, ve, _, _, rfl, (e4.trans e5).trans e6, hev.mono (e5.trans e6), hfr, hg, fun j a' y' hj hy' => ?_, hok⟩
      rcases Nat.lt_or_eq_of_le (Nat.le_of_lt_succ hj) with h1 | h1
      · exact hle j a' y' h1 hy'
      · subst h1; rw [hax] at hy'; cases hy'; omega
  · subst hσ
    have hfrz := e4 _ _ upd_same
    have x3 : Ex H2 (upd H' X.lf (.dK (dkN V.int lF))) := Ex.unlock st2.f e4
    have x03 := x2.trans x3
    have st3 := st2.mono x3
    have hself3 := x3 _ _ hself2
    have hF : ∀ a y, look lF a = some y → y ≤ g := fun a y hy => by
      obtain ⟨j, hj⟩ := look_idx hy
      exact hle j a y (by rw [dkN_len]; exact (List.getElem?_eq_some_iff.mp hj).1) hj
    have hev3 := hev.upd (w := .dK (dkN V.int lF)) hfrz
    have hok3 : EOk lF lT lP (leftF X) e g := by
      cases e with
      | none => exact hok
      | some q =>
        obtain ⟨a, o'⟩ := q
        cases o' with
        | none => exact hok
        | some t => have h : look ([] : List (Nat × Int)) t = some g := hok.1; cases h
    have hleft3 := hleft.mono x03
    refine q_forI st3.t (fun od => ev_fld (ev_var rfl) (by rw [upd_ne o.pt]; exact hself3) CC T.na_Reach_taken (by rfl)) fun od H5 e5 => ⟨fun i σ' H6 => ∃ g e ve a4 a5 a6, σ' = [some (.ref X.p), some vl, some (.int g), some ve, a4, a5, a6] ∧ Ex (upd (upd H' X.lf (.dK (dkN V.int lF))) X.lt (.frz od (.dK (dkN V.int lT)))) H6 ∧ EndV H6 e ve ∧ (∀ r, ve = .ref r → H r = none) ∧ 0 ≤ g ∧ (∀ a y, look lF a = some y → y ≤ g) ∧
        (∀ (j : Nat) t x, j < i → lT[j]? = some (t, x) → 0 < leftF X t → x ≤ g) ∧ EOk lF lT lP (leftF X) e g, ⟨g, e, ve, a4, a5, none, rfl, e5, ?_, hfr, hg, hF, fun j a y h => by omega, hok3⟩, fun i σ' H' ⟨_, _, _, _, _, _, _, e, _⟩ => e _ _ upd_same, fun i y v σ' H6 H7 hy ⟨g, e, ve, a4, a5, a6, hσ, e6, hev, hfr, hg, hF, hle, hok⟩ e7 => ?_, fun σ' H6 ⟨g, e, ve, a4, a5, a6, hσ, e6, hev, hfr, hg, hF, hle, hok⟩ => ?_⟩
    · refine EndV.mono e5 ?_
      cases e with
      | none => exact hev3
      | some q => obtain ⟨r, h1, h2⟩ := hev3; exact ⟨r, h1, by rw [upd_ne (by intro z; subst z; rw [st3.t] at h2; cases h2)]; exact h2⟩
    · subst hσ
      obtain ⟨t, x, htx, rfl, rfl⟩ := dkN_get hy
      have hTt := look_mem st.nt htx
      obtain ⟨htm, a, y', v', hP, _⟩ := st.inv.taken t x hTt
      have e67 := e6.trans e7
      have hleft7 : Dt H7 (dInts (leftA X.W.copies X.d X.d.length)) vl := (Dt.lock (o := od) st3.t hleft3).mono e67
      refine s_if1 (Ex.refl H7) (et_and (et_D (ed_cmp (ed_ixL (ed_var rfl hleft7) (ed_var (d := dN t) rfl rfl) (atI_some (leftA_at X.W.copies X.d X.d.length htm))) ed_int)) fun _ => et_D (ed_cmp (ed_var (d := .int x) rfl rfl) (ed_var (d := .int g) rfl rfl))) (fun z H8 e8 => ?_) (fun z H8 e8 => ?_)
      · simp only [Bool.and_eq_true, decide_eq_true_eq] at z
        have hl : 0 < leftF X t := z.1
        have hgx : g < x := z.2
        have hself8 : H8 X.p = some (.ins CR X.dx (rcFs X)) := (e67.trans e8) _ _ (by rw [upd_ne o.pt]; exact hself3)
        have hk8 : H8 X.lk = some (.dK (dkN nV lP)) := (e67.trans e8) _ _ (by rw [upd_ne (Ne.symm o.tk)]; exact st3.k)
        refine q_asg (ev_var rfl) fun H9 e9 => s_asgU (eu_tup (ea_cons (x := nV a) (ed_dgetK (i := (t : Int)) (v := nV a) (d := dN a) (ev_fld (ev_var rfl) (e9 _ _ hself8) CC T.na_Reach_takers (by rfl)) (ed_var (d := dN t) rfl rfl) (.inl (e9 _ _ hk8)) (by rw [valV_dkN, hP]; rfl) rfl).int (ea_cons (ev_var rfl) ea_nil)) (by show 2 ≤ 100000; decide)) fun p H10 hp e10 hl10 => ?_
        refine ⟨x, some (a, some t), .ref p, _, _, _, rfl, ((e67.trans e8).trans e9).trans e10, ⟨p, rfl, hl10⟩, (fun r z => by
          cases z
          have hp2 := fresh_back ((e67.trans e8).trans e9) hp
          have hne : p ≠ X.lt := fun z => by subst z; rw [upd_same] at hp2; cases hp2
          rw [upd_ne hne] at hp2
          exact fresh_back x03 hp2), by omega, fun b y hy => by have := hF b y hy; omega, fun j t' x' hj hy' hl' => ?_, hTt, hP, hl⟩
        rcases Nat.lt_or_eq_of_le (Nat.le_of_lt_succ hj) with h1 | h1
        · have := hle j t' x' h1 hy' hl'; omega
        · subst h1; rw [htx] at hy'; cases hy'; exact Int.le_refl _
      · refine ⟨g, e, ve, _, _, _, rfl, e67.trans e8, hev.mono (e7.trans e8), hfr, hg, hF, fun j t' x' hj hy' hl' => ?_, hok⟩
        rcases Nat.lt_or_eq_of_le (Nat.le_of_lt_succ hj) with h1 | h1
        · exact hle j t' x' h1 hy' hl'
        · subst h1; rw [htx] at hy'; cases hy'
          have hl2 : 0 < capW X.W t - cnt X.d.length (dl X.d) t := hl'
          refine Int.not_lt.mp fun hlt => ?_
          have z1 : decide (((X.W.copies.getD t 0 : Nat) : Int) - cnt X.d.length (dl X.d) t > 0) = true := decide_eq_true hl2
          rw [z1, decide_eq_true hlt] at z
          cases z
    · subst hσ
      have hfrz2 := e6 _ _ upd_same
      have x4 := x03.trans (Ex.unlock st3.t e6)
      refine s_ret (ev_var (H := upd H6 X.lt (.dK (dkN V.int lT))) rfl) fun H8 e8 => k ve H8 e g (x4.trans e8) ((hev.upd hfrz2).mono e8) hfr hg hF (fun t x hx hl => ?_) hok
      obtain ⟨j, hj⟩ := look_idx hx
      exact hle j t x (by rw [dkN_len]; exact (List.getElem?_eq_some_iff.mp hj).1) hj hl

abbrev n_Reach_way_to : List Str := ["self", "end", "way", "thing"]
theorem sc_Reach_way_to : FnScope n_Reach_way_to ["self", "end"] (defScope s_Reach_way_to) := ⟨rfl, rfl, rfl, by decide +kernel, rfl, by decide +kernel, by decide +kernel⟩
theorem ok_Reach_way_to (T : Txt K mg CS CR CP aO)  : CallM P w K mg base 1 CR "way_to" ["self", "end"] (sp_Reach_way_to CS CR CP) := by
  have sc := sc_Reach_way_to
  refine mkM T.m_Reach_way_to sc (fun _ _ _ _ _ _ us hl => match us, hl with | [_, _], _ => rfl) (fun vs H Q E h => ?_) (fun f cdv A outer s H vs Q E hr h => ?_)
  · obtain ⟨X, lF, lT, lP, e, ve, g, n, Bx, rfl, _⟩ := h; rfl
  have hu := hu_of hr
  refine ⟨_, (pss_cons (ps_set (i := 2) sc.nd rfl (Or.inl rfl) (pe_lst (pa_cons (pv 1) pa_nil)))
     (pss_cons (ps_while PassesOwn.never (pt_cmpR op_ne (pe_ix ix_tup (pe_ix ix_list (pv 2) pe_int (fun _ _ => rfl)) pe_int (fun _ _ => rfl)) (pe_fld (pv 0) rfl) (by rfl))
     (pss_cons (ps_set (i := 3) sc.nd rfl (Or.inl rfl) (pe_ix ix_list (pe_fld (pv 0) rfl) (pe_ix ix_tup (pe_ix ix_list (pv 2) pe_int (fun _ _ => rfl)) pe_int (fun _ _ => rfl)) (fun _ _ => rfl)))
     (pss_one (ps_expr (pe_bm PySem.F.plainAttrs_list PySem.F.slot_list_insert PySem.F.type_list_insert mt_ins (pv 2) (pa_cons pe_int (pa_cons (pe_tup (pa_cons (pe_dget hu (pe_fld (pv 0) rfl) (pv 3) (fun _ _ => rfl)) (pa_cons (pv 3) pa_nil))) pa_nil)))))))
     (pss_one (ps_ret (pv 2))))), ?_⟩
  obtain ⟨X, lF, lT, lP, e, ve, g, n, Bx, rfl, o, em, st, ex, hve, wi, k⟩ := h
  have CC := T.cls_Reach
  have hn7 : X.W.n ≤ 7 := o.ok.n7
  have hsn := o.sn
  have hlen := o.len
  refine q_new (el_lst (ea_cons (ev_var rfl) ea_nil) (by show 1 ≤ 100000; decide)) fun l H1 hl e1 hl1 => ?_
  have S1 := (Stp.refl ex).grow e1
  have hBl : Bx l = none := fresh_back ex hl
  refine q_while (fun m σ' H' => ∃ way xs h a3 B', σ' = [some (.ref X.p), some ve, some (.ref l), a3] ∧ Stp Bx H B' H' ∧ B' l = none ∧ H' l = some (.lst xs) ∧ DtL B' (way.map dStep) xs ∧ (way.map (·.1)).Nodup ∧ WInv (wtF X.W X.A) X.W.m (capW X.W) X.s (dl X.d) (look lF) (look lP) g h way m) n
    ⟨[e], [ve], e.1, none, Bx, rfl, S1, hBl, hl1, .cons hve .nil, List.pairwise_singleton _ _, wi⟩ fun m σ' H' ⟨way, xs, h, a3, B', hσ, S, hBl', hll, hxs, hnd, wi⟩ => ?_
  subst hσ
  obtain ⟨oh, rest, hway⟩ := wi.head
  have em' := em.trans S.h
  have st' := st.mono S.h
  have hself := (o.bm.trans em') _ _ o.self
  have hw1 : ∀ H2, Ex H' H2 → Dt H2 (.list (dStep (h, oh) :: rest.map dStep)) (.ref l) := fun H2 e2 => ⟨l, xs, rfl, e2 l _ hll, by
    rw [hway] at hxs
    exact (hxs.mono S.i).mono e2⟩
  have head : ∀ {q : Option V} H2, Ex H' H2 → EvD (tOp (rIxT K) (tOp (rIxL K) (tVar 2) (tC (.int 0))) (tC (.int 0))) [some (.ref X.p), some ve, some (.ref l), q] H2 (dN h) := fun {q} H2 e2 => ed_ixT (ds := [dN h, dO oh]) (ed_ixL (d := dStep (h, oh)) (ed_var rfl (hw1 H2 e2)) ed_int (atI_zero _ _)) ed_int rfl
  have dd : ∀ a b : Nat, (!decide (fV (dN a) = fV (dN b))) = !decide (a = b) := fun a b => by simp [fV, dN]; omega
  refine ⟨!decide (h = X.s), et_D (ed_ne (head H' (Ex.refl _)) (ed_fld (d := dN X.s) (v := .int (X.s : Int)) (ev_var rfl) hself CC T.na_Reach_start (by rfl) rfl) rfl rfl rfl (dd h X.s)), fun z H2 e2 => ?_, fun z H2 e2 => ?_⟩
  · have hs : h ≠ X.s := by simpa using z
    obtain ⟨t, a, n', hdh, htm, hP, hlt, hnot, wi'⟩ := wi.step st.inv o.fe hs
    have hhs : h ≤ X.s := (wi.le (h, oh) (by rw [hway]; exact List.mem_cons_self)).1
    have hoh : X.d[h]? = some (some t) := by
      have hh : h < X.d.length := by omega
      have : dl X.d h = some t := hdh
      unfold dl at this
      rw [List.getD_eq_getElem?_getD, List.getElem?_eq_getElem hh] at this
      rw [List.getElem?_eq_getElem hh]
      exact congrArg some this
    have hwl : xs.length ≤ 7 := by
      rw [hxs.length, List.length_map, ← List.length_map (f := (·.1)) (as := way)]
      refine nodup_small 7 _ hnd fun x hx => ?_
      obtain ⟨q, hq, rfl⟩ := List.mem_map.mp hx
      have := (wi.le q hq).1
      omega
    refine ⟨fun σ' H' => ∃ way xs h a3 B', σ' = [some (.ref X.p), some ve, some (.ref l), a3] ∧ Stp Bx H B' H' ∧ B' l = none ∧ H' l = some (.lst xs) ∧ DtL B' (way.map dStep) xs ∧ (way.map (·.1)).Nodup ∧ WInv (wtF X.W X.A) X.W.m (capW X.W) X.s (dl X.d) (look lF) (look lP) g h way n', fun σ2 H2 hh => ⟨n', hlt, hh⟩, ?_⟩
    refine q_asgD (d := dN t) (Ex.refl H2) (ed_ixL (ed_fld (ev_var rfl) (e2 _ _ hself) CC T.na_Reach_dealt (by rfl) (((o.dealt.mono o.bm).mono em').mono e2)) (head H2 e2) (atI_some hoh)) fun v B3 H3 S3 hv => ?_
    cases (show v = nV t from hv)
    have e3 := e2.trans S3.h
    refine s_insU (e3 l _ hll) (ev_var rfl) (eu_tup (ea_cons (x := nV a) (ed_dgetK (i := (t : Int)) (v := nV a) (d := dN a) (ev_fld (ev_var rfl) (e3 _ _ hself) CC T.na_Reach_takers (by rfl)) (ed_var (d := dN t) rfl rfl) (.inl (e3 _ _ st'.k)) (by rw [valV_dkN, hP]; rfl) rfl).int (ea_cons (ev_var rfl) ea_nil)) (by show 2 ≤ 100000; decide)) (by omega) fun p H4 hp e4 hl4 => ?_
    have e34 := e3.trans e4
    have hp' := fresh_back e3 hp
    have S4 := (S.grow e34).give (fresh_back S.h hp') (fresh_back S.i hp') hl4
    have hpl : l ≠ p := fun z => by subst z; rw [e3 _ _ hll] at hp; cases hp
    refine ⟨(a, some t) :: way, .ref p :: xs, a, _, _, rfl, S4.mut _ hl (by rw [upd_ne hpl]; exact hBl'), by rw [upd_ne hpl]; exact hBl', upd_same, ?_, ?_, wi'⟩
    · exact .cons ⟨p, [nV a, nV t], rfl, upd_same, .cons rfl (.cons rfl .nil)⟩ (hxs.mono (Ex.new (fresh_back S.i hp')))
    · exact List.nodup_cons.mpr ⟨hnot, hnd⟩
  · have hs : h = X.s := by simpa using z
    subst hs
    have S' := (S.grow e2).give hl hBl' (e2 l _ hll)
    exact s_retD S'.i (ed_var (d := dWay way) rfl ⟨l, xs, rfl, upd_same, hxs.mono (Ex.new hBl')⟩) fun v B4 H4 s4 hv => k v H4 B4 way m (S'.trans s4) hv wi

end
end Wk
namespace Wk
open PySem L2 Evl Wd
theorem sm_term {n k : Nat} {f : Nat → Int} (h : ∀ i, i < n → 0 ≤ f i) (hk : k < n) : f k ≤ sm n f := by
  have h1 : sm n (fun i => if i = k then f k else 0) ≤ sm n f := sm_le fun i hi => by
    by_cases e : i = k
    · subst e; rw [if_pos rfl]; exact Int.le_refl _
    · rw [if_neg e]; exact h i hi
  rw [sm_at hk] at h1
  exact h1
theorem byo_nonneg (o : Ord) {B : Int} (hB : 1 ≤ B) {R r : Nat} (h1 : 1 ≤ r) (h2 : r ≤ R) : 0 ≤ byo o B R r := by
  have pos : ∀ i : Nat, 0 < B ^ i := fun i => Int.pow_pos (by omega)
  cases o with
  | firsts => exact Int.le_of_lt (pos _)
  | full => show 0 ≤ B ^ (R - r) + B ^ R; have := pos (R - r); have := pos R; omega
  | lasts =>
    show 0 ≤ B ^ R - B ^ (r - 1)
    obtain ⟨k, rfl⟩ : ∃ k, R = r - 1 + k := ⟨R - (r - 1), by omega⟩
    rw [Int.pow_add]
    have m : B ^ (r - 1) * 1 ≤ B ^ (r - 1) * B ^ k := Int.mul_le_mul_of_nonneg_left (by have := pos k; omega) (Int.le_of_lt (pos _))
    omega
theorem wt_rank {W : Wish} {a t : Nat} (h : t ∈ wished W a) : 1 ≤ rankIn (W.ranks a) t ∧ rankIn (W.ranks a) t ≤ W.longest := by
  have h1 := (List.mem_filter.mp h).2
  have h2 := (rankIn_ne (W.ranks a) t).mpr (of_decide_eq_true h1)
  exact ⟨by omega, W.rank_longest a t⟩
theorem wt_nonneg {W : Wish} {A : Aim} {a t : Nat} {v : Int} (h : wtF W A a t = some v) : 0 ≤ v := by
  obtain ⟨rfl, _, j, hj⟩ := wtF_idx h
  obtain ⟨h1, h2⟩ := wt_rank (List.mem_of_getElem? hj)
  unfold wtOf wone pack
  have q1 := byo_nonneg A.ord (B := (W.n : Int) + 1) (by omega) h1 h2
  have q2 := kept_nonneg (oldF A.old) a (some t)
  have hP : ∀ k : Nat, 0 ≤ ((W.longest : Int) + 1) ^ k := fun k => Int.pow_nonneg (by omega)
  have q3 : 0 ≤ pick W.longest A.turns a (rankIn (W.ranks a) t) := by
    unfold pick
    split
    · exact Int.mul_nonneg (by omega) (hP _)
    · exact Int.le_refl _
  have q4 := Int.mul_nonneg q1 (show 0 ≤ (W.n : Int) + 1 by omega)
  have q5 := Int.mul_nonneg (Int.add_nonneg q4 q2) (hP A.turns.length)
  omega
theorem wished_out {W : Wish} {a : Nat} (h : W.n ≤ a) : wished W a = [] := by
  have e : W.ranks a = [] := by
    unfold Wish.ranks
    rw [List.getD_eq_getElem?_getD, List.getElem?_eq_none h]; rfl
  unfold wished
  rw [e]
  exact List.filter_eq_nil_iff.mpr fun t _ => by simp
theorem wt_bound (W : Wish) (A : Aim) : ∃ M : Int, 0 ≤ M ∧ ∀ a t v, wtF W A a t = some v → 0 ≤ v ∧ v ≤ M := by
  have h0 : ∀ a t, 0 ≤ (wtF W A a t).getD 0 := fun a t => by
    cases e : wtF W A a t with
    | none => exact Int.le_refl _
    | some v => exact wt_nonneg e
  refine ⟨sm W.n fun a => sm W.m fun t => (wtF W A a t).getD 0, sm_nonneg fun a _ => sm_nonneg fun t _ => h0 a t, fun a t v h => ⟨wt_nonneg h, ?_⟩⟩
  obtain ⟨_, ht, j, hj⟩ := wtF_idx h
  have ha : a < W.n := by
    refine Nat.lt_of_not_le fun z => ?_
    rw [wished_out z] at hj; simp at hj
  have h1 := sm_term (n := W.m) (k := t) (f := fun t => (wtF W A a t).getD 0) (fun i _ => h0 a i) ht
  have h2 := sm_term (n := W.n) (k := a) (f := fun a => sm W.m fun t => (wtF W A a t).getD 0) (fun i _ => sm_nonneg fun t _ => h0 i t) ha
  have e : (wtF W A a t).getD 0 = v := by rw [h]; rfl
  have h1 : (wtF W A a t).getD 0 ≤ _ := h1
  rw [e] at h1
  exact Int.le_trans h1 h2
theorem cnt_out {d : Nat → Option Nat} {s : Nat} (h : ∀ a, s ≤ a → d a = none) (t : Nat) : ∀ n, s ≤ n → cnt n d t = cnt s d t := by
  intro n hn
  obtain ⟨k, rfl⟩ : ∃ k, n = s + k := ⟨n - s, by omega⟩
  clear hn
  induction k with
  | zero => rfl
  | succ k ih =>
    show cnt (s + k) d t + hit (d (s + k)) t = _
    rw [ih, h _ (by omega), hit_none, Int.add_zero]
theorem isNo_step (q : Nat × Option Nat) : isNo (dStep q) = false := rfl
theorem EndV.dt {H : Hp} {q : Nat × Option Nat} {r : Addr} (h : H r = some (.tup [nV q.1, oV q.2])) : Dt H (dStep q) (.ref r) := ⟨r, _, rfl, h, .cons rfl (.cons (Dt.ofFlat (flat_dO1 _)) .nil)⟩
def WayOk (W : Wish) (A : Aim) (d : Deal) (s : Nat) (way : List (Nat × Option Nat)) : Prop := (∀ q, q ∈ way → q.1 ≤ s ∧ ∀ t, q.2 = some t → t < W.m) ∧ Feas (wtF W A) W.m (capW W) (s + 1) (appl (dl d) way) ∧ ∃ u q, Dual (wtF W A) W.m (capW W) (s + 1) (appl (dl d) way) u q
def Best (W : Wish) (A : Aim) (d : Deal) : Prop := d.length = W.n ∧ Feas (wtF W A) W.m (capW W) W.n (dl d) ∧ ∃ u q, Dual (wtF W A) W.m (capW W) W.n (dl d) u q
def setAll : Deal → List (Nat × Option Nat) → Deal
  | d, [] => d
  | d, q :: r => setAll (d.set q.1 q.2) r
theorem setAll_len : ∀ (way : List (Nat × Option Nat)) (d : Deal), (setAll d way).length = d.length
  | [], _ => rfl
  | q :: r, d => by show (setAll (d.set q.1 q.2) r).length = _; rw [setAll_len r, List.length_set]
theorem setAll_snoc : ∀ (way : List (Nat × Option Nat)) (d : Deal) (q : Nat × Option Nat), setAll d (way ++ [q]) = (setAll d way).set q.1 q.2
  | [], _, _ => rfl
  | p :: r, d, q => setAll_snoc r (d.set p.1 p.2) q
theorem dl_set {d : Deal} {a : Nat} {o : Option Nat} (h : a < d.length) : dl (d.set a o) = fset (dl d) a o := by
  funext i
  show (d.set a o).getD i none = if i = a then o else d.getD i none
  rw [List.getD_eq_getElem?_getD, List.getD_eq_getElem?_getD, List.getElem?_set]
  by_cases e : i = a
  · subst e; rw [if_pos rfl, if_pos h, if_pos rfl]; rfl
  · rw [if_neg (Ne.symm e), if_neg e]
theorem dl_setAll : ∀ (way : List (Nat × Option Nat)) (d : Deal), (∀ q, q ∈ way → q.1 < d.length) → dl (setAll d way) = appl (dl d) way
  | [], _, _ => rfl
  | p :: r, d, h => by
    have h1 := h p List.mem_cons_self
    show dl (setAll (d.set p.1 p.2) r) = appl (fset (dl d) p.1 p.2) r
    rw [dl_setAll r _ fun q hq => by rw [List.length_set]; exact h q (List.mem_cons_of_mem _ hq), dl_set h1]
/-- the way's list is not the dealing's -/
theorem way_minus {B : Hp} {ld : Addr} {d : Deal} {way : List (Nat × Option Nat)} {v : V} (hd : d ≠ []) (hl : B ld = some (.lst (d.map oV))) (h : Dt B (dWay way) v) : Dt (Wk.minus B ld) (dWay way) v := by
  obtain ⟨q, xs, rfl, hq, hx⟩ := h
  have hne : q ≠ ld := by
    intro z; subst z
    rw [hl] at hq
    have hq : d.map oV = xs := by injection hq with hq; injection hq
    subst hq
    cases way with
    | nil =>
      have : d.map oV = [] := hx
      exact hd (List.map_eq_nil_iff.mp this)
    | cons w ws =>
      obtain ⟨x, r, e, ⟨a, ys, hxr, _⟩, _⟩ := hx
      cases d with
      | nil => exact hd rfl
      | cons o os =>
        rw [List.map_cons] at e
        have e1 : oV o = x := (List.cons.inj e).1
        rw [hxr] at e1
        cases o <;> cases e1
  refine ⟨q, xs, rfl, by rw [minus_ne hne]; exact hq, ?_⟩
  clear hq hne
  induction way generalizing xs with
  | nil => exact hx
  | cons w ws ih =>
    obtain ⟨x, r, rfl, ⟨a, ys, hxr, ha, hys⟩, hr⟩ := hx
    have hne : a ≠ ld := by intro z; subst z; rw [hl] at ha; cases ha
    refine ⟨x, r, rfl, ⟨a, ys, hxr, by rw [minus_ne hne]; exact ha, ?_⟩, ih r hr⟩
    have f : [dN w.1, dO w.2].all flatD = true := by rw [List.all_cons, List.all_cons, flat_dO1]; rfl
    rw [DtL.flat f hys]
    exact DtL.ofFlat f
theorem best0 (W : Wish) (A : Aim) : Feas (wtF W A) W.m (capW W) 0 (dl (List.replicate W.n none)) ∧ ∃ u q, Dual (wtF W A) W.m (capW W) 0 (dl (List.replicate W.n none)) u q := by
  have hd : ∀ a, dl (List.replicate W.n none) a = none := fun a => by
    unfold dl
    rw [List.getD_eq_getElem?_getD, List.getElem?_replicate]
    split <;> rfl
  refine ⟨⟨fun a ha => absurd ha (Nat.not_lt_zero _), fun t ht => ?_, fun a _ => hd a⟩, fun _ => 0, fun _ => 0, ⟨fun _ => Int.le_refl _, fun _ => Int.le_refl _, fun a ha => absurd ha (Nat.not_lt_zero _), ?_⟩⟩
  · show (0 : Int) ≤ capW W t
    unfold capW; omega
  · show (0 : Int) + sm W.m (fun t => capW W t * 0) = 0
    rw [sm_congr (g := fun _ => 0) fun i _ => by simp, sm_zero]; rfl
theorem q_asg0 {σ : L2.St} {H : Hp} {te : TE} {D : Ends} {tz : TS} {i : Nat} (h : te σ H fun v H1 => tz D (σ.set i (some v)) H1) : tSeq (tAsg te (gName i)) tz D σ H := h
theorem call0 {σ : L2.St} {H : Hp} {ta : TA} {sp : Sp} {dvs : List V} {E : XK} {Q : VK} (h : ta σ H fun vs H1 => sp (vs ++ dvs) H1 Q E) : tCall sp dvs E ta σ H Q := h
/-- for x, y in what a call gives -/
theorem s_forL2P {K : PySem.W.Frag} {σ : L2.St} {H : Hp} {te : TE} {D : Ends} {tu : TS} {P : Hp → Hp → List PyData → Prop} {j1 j2 : Nat} (h : ∀ Q : VK, (∀ v H2 B2 ds, Ex B2 H2 → Dt B2 (.list ds) v → P B2 H2 ds → Q v H2) → te σ H Q) (k : ∀ B1 H1 ds, Ex B1 H1 → P B1 H1 ds → ∃ Pv : Nat → L2.St → Hp → Prop, Pv 0 σ H1 ∧ (∀ i σ' H', Pv i σ' H' → Ex B1 H') ∧
      (∀ i, i < ds.length → ∃ d1 d2, ds[i]? = some (.tuple [d1, d2]) ∧ ∀ x y σ' H', Dt B1 d1 x → Dt B1 d2 y → Pv i σ' H' → tu { D with nx := Pv (i + 1), ct := Pv (i + 1), bk := D.nx } ((σ'.set j1 (some x)).set j2 (some y)) H') ∧ (∀ σ' H', Pv ds.length σ' H' → D.nx σ' H')) :
    tFor (iList K te) (gTup K 2 (gCons (gName j1) (gCons (gName j2) gNil))) tu D σ H := h _ fun v H1 B1 ds i1 ⟨a, xs, hv, hx, hd⟩ hP => by
  obtain ⟨Pv, h0, hB, hs, hdn⟩ := k B1 H1 ds i1 hP
  refine ⟨a, hv, ⟨xs, sq_of (i1 a _ hx)⟩, for_it walk_list Pv h0 (fun i σ' H' _ p => sq_of (hB i σ' H' p a _ hx)) (fun i x σ' H' H'' hi p y => ?_) (fun σ' H' p => ?_)⟩
  · obtain ⟨rfl, hy⟩ := y
    obtain ⟨d, e1, e2⟩ := hd.get' hy
    obtain ⟨d1, d2, e3, hs⟩ := hs i (by rw [← hd.length]; exact hi)
    rw [e1] at e3; cases e3
    obtain ⟨b, ys, rfl, hb, z1, r1, rfl, q1, z2, r2, rfl, q2, hr⟩ := e2
    cases (show r2 = [] from hr)
    exact ⟨b, [z1, z2], rfl, st_of (hB i σ' H'' p b _ hb), rfl, z1, [z2], rfl, z2, [], rfl, rfl, hs z1 z2 σ' H'' q1 q2 p⟩
  · exact hdn σ' H' (by rw [← hd.length]; exact p)

def sp_best_way : Sp := fun vs H Q _ => ∃ (B : Hp) (W : Wish) (A : Aim) (d : Deal) (s : Nat) (u q : Nat → Int) (vr vc vd : V), vs = [vr, vc, vd, .int (s : Int)] ∧ Ex B H ∧ RowsAt W A B vr ∧ Dt B (dNs W.copies) vc ∧ Dt B (dDeal d) vd ∧ scOk (W, A) ∧ d.length = W.n ∧ s < W.n ∧
    Dual (wtF W A) W.m (capW W) s (dl d) u q ∧ Feas (wtF W A) W.m (capW W) s (dl d) ∧ ∀ v H' B' way, Stp B H B' H' → Dt B' (dWay way) v → WayOk W A d s way → Q v H'
def sp_dealt_best : Sp := SpA (fun x : Wish × Aim => [dW x.1, dAim x.2]) scOk (fun x r => ∃ d : Deal, r = dDeal d ∧ Best x.1 x.2 d)
section
variable {P : Program} {w : World} {K : PySem.W.Frag} {mg : Str → Option Value} {base : Heap} {CS CR CP aO : Addr}
abbrev n_best_way : List Str := ["rows", "copies", "dealt", "start", "reach", "end"]
theorem sc_best_way : FnScope n_best_way ["rows", "copies", "dealt", "start"] (defScope s_best_way) := ⟨rfl, rfl, rfl, by decide +kernel, rfl, by decide +kernel, by decide +kernel⟩
theorem ok_best_way (T : Txt K mg CS CR CP aO) (c_Reach_init : CallC P w K mg base 1 CR "Reach" ["self", "rows", "dealt", "start"] (sp_Reach_init CS CR CP)) (c_Reach_go_on : CallM P w K mg base 2 CR "go_on" ["self"] (sp_Reach_go_on CS CR CP)) (c_Reach_end_by : CallM P w K mg base 1 CR "end_by" ["self", "left"] (sp_Reach_end_by CS CR CP)) (c_left_by : Callable P w K mg base 1 "left_by" ["copies", "dealt"] sp_left_by) (c_Reach_way_to : CallM P w K mg base 1 CR "way_to" ["self", "end"] (sp_Reach_way_to CS CR CP)) : Callable P w K mg base 3 "best_way" ["rows", "copies", "dealt", "start"] sp_best_way := by
  have sc := sc_best_way
  refine mkFn T.f_best_way sc (fun _ _ _ _ _ _ us hl => match us, hl with | [_, _, _, _], _ => rfl) (fun vs H Q E h => ?_) (fun f cdv A outer s H vs Q E hr h => ?_)
  · obtain ⟨B, W, A, d, s, u, q, vr, vc, vd, rfl, _⟩ := h; rfl
  refine ⟨_, (pss_cons (ps_set (i := 4) sc.nd rfl (Or.inl rfl) (pe_mk c_Reach_init (hr.mono (by decide)) (by rfl) (pa_cons (pv 0) (pa_cons (pv 2) (pa_cons (pv 3) pa_nil)))))
     (pss_cons (ps_expr (pe_m0 (pv 4) T.cls_Reach c_Reach_go_on (hr.mono (by decide))))
     (pss_cons (ps_set (i := 5) sc.nd rfl (Or.inl rfl) (pe_m (pv 4) T.cls_Reach c_Reach_end_by (hr.mono (by decide)) (pa_cons (pe_fn c_left_by (hr.mono (by decide)) (by rfl) (pa_cons (pv 1) (pa_cons (pv 2) pa_nil))) pa_nil)))
     (pss_cons (ps_if (pt_cmp (pc_isN (pv 5)))
     (pss_one (ps_ret (pe_lst pa_nil)))
     pss_nil)
     (pss_one (ps_ret (pe_m (pv 4) T.cls_Reach c_Reach_way_to (hr.mono (by decide)) (pa_cons (pv 5) pa_nil)))))))), ?_⟩
  obtain ⟨B, W, A, d, s, u, q, vr, vc, vd, rfl, i0, hrows, hcop, hdeal, ⟨ok, ao⟩, hlen, hsn, du, fe, k⟩ := h
  have ok : W.Ok := ok
  have ao : A.Ok W := ao
  have CC := T.cls_Reach
  obtain ⟨M, m0, wm⟩ := wt_bound W A
  have hlm : ∀ t, some t ∈ d → t < W.copies.length := fun t ht => by
    obtain ⟨a, ha⟩ := List.getElem?_of_mem ht
    have hd := dl_at ha
    have has : a < s := by
      refine Nat.lt_of_not_le fun z => ?_
      rw [fe.out a z] at hd; cases hd
    exact (fe.wish a has t hd).1
  refine ⟨vr, rfl, vd, rfl, .int (s : Int), rfl, fun p dx hp hdx hne => ⟨H, p, dx, vr, vd, s, rfl, hp, hdx, hne, rfl, fun H1 lf lt lk hself ex hf ht hk nft nfk ntk h1f h1t h1k => ⟨rfl, ?_⟩⟩⟩
  have npf : p ≠ lf := fun z => by rw [z, h1f] at hself; cases hself
  have npt : p ≠ lt := fun z => by rw [z, h1t] at hself; cases hself
  have npk : p ≠ lk := fun z => by rw [z, h1k] at hself; cases hself
  have hBp : B p = none := fresh_back i0 hp
  let X : RX := { W := W, A := A, d := d, s := s, u := u, q := q, M := M, p := p, dx := dx, lf := lf, lt := lt, lk := lk, vr := vr, vd := vd, B := upd B p (.ins CR dx [("rows", vr), ("dealt", vd), ("start", .int (s : Int)), ("freed", .ref lf), ("taken", .ref lt), ("takers", .ref lk)]), Hm := fun a => if a = lf ∨ a = lt ∨ a = lk then none else H1 a }
  have eHm : Ex H X.Hm := fun a o h => by
    show (if a = lf ∨ a = lt ∨ a = lk then none else H1 a) = some o
    rw [if_neg, ex a o h]
    rintro (rfl | rfl | rfl)
    · rw [hf] at h; cases h
    · rw [ht] at h; cases h
    · rw [hk] at h; cases h
  have eXB : Ex B X.B := Ex.new hBp
  have o : X.Ok CR := {
    ok := ok, ao := ao, len := hlen, sn := hsn, dual := du, fe := fe, m0 := m0, wm := wm
    self := upd_same
    rows := hrows.mono eXB
    dealt := hdeal.mono eXB
    bm := fun a o h => by
      by_cases z : a = p
      · subst z
        rw [show X.B = upd B a _ from rfl, upd_same] at h
        cases h
        show (if a = lf ∨ a = lt ∨ a = lk then none else H1 a) = _
        rw [if_neg (by rintro (z | z | z); exact npf z; exact npt z; exact npk z)]
        exact hself
      · have h : upd B p _ a = some o := h
        rw [upd_ne z] at h
        exact eHm a o (i0 a o h)
    hf := if_pos (Or.inl rfl)
    ht := if_pos (Or.inr (Or.inl rfl))
    hk := if_pos (Or.inr (Or.inr rfl))
    ft := nft, fk := nfk, tk := ntk }
  have em1 : Ex X.Hm H1 := fun a o h => by
    have h : (if a = lf ∨ a = lt ∨ a = lk then none else H1 a) = some o := h
    split at h
    · cases h
    · exact h
  have l0 : look [(s, (0 : Int))] s = some 0 := by rw [look_cons, if_pos rfl]
  have l1 : ∀ a, a ≠ s → look [(s, (0 : Int))] a = none := fun a ha => by rw [look_cons, if_neg (Ne.symm ha)]; rfl
  have st1 : X.St [(s, 0)] [] [] H1 := ⟨h1f, h1t, h1k, RInv.init _ l0 l1, Low.init m0 l0 l1, List.pairwise_singleton _ _, List.nodup_nil, List.nodup_nil⟩
  have sy1 : X.Syn [(s, 0)] [] := fun a t x v _ _ h _ => nomatch h
  -- go_on
  refine ⟨.ref p, rfl, p, dx, rcFs X, rfl, hself, by rfl, X, [(s, 0)], [], [], rfl, o, em1, st1, sy1, fun lF lT lP H2 em2 st2 sy2 fx2 => ?_⟩
  have e02 : Ex H H2 := eHm.trans em2
  have hself2 : H2 p = some (.ins CR dx (rcFs X)) := em2 _ _ (o.bm _ _ o.self)
  -- end_by
  refine ⟨.ref p, rfl, p, dx, rcFs X, rfl, hself2, by rfl, ?_⟩
  refine (ed_callA (W.copies, d) (ea_consD (ed_var rfl hcop) (ea_consD (ed_var rfl hdeal) ea_nilD)) hlm fun _ z => z : EvD _ _ B (dInts (leftA W.copies d d.length))) H2 (i0.trans e02) _ fun vl H3 B3 S3 hl => ?_
  have em3 := em2.trans S3.h
  have st3 := st2.mono S3.h
  refine ⟨X, lF, lT, lP, vl, rfl, o, em3, st3, hl.mono S3.i, fun v H4 e g ex4 hev hfr hg hF hT hok => ?_⟩
  have em4 := em3.trans ex4
  have st4 := st3.mono ex4
  have e04 : Ex H H4 := (e02.trans S3.h).trans ex4
  have S4 : Stp B H B H4 := (Stp.refl i0).grow e04
  have hcl : ∀ t, leftF X t = capW W t - cnt s (dl d) t := fun t => by
    unfold leftF
    rw [cnt_out fe.out t d.length (by omega)]
  have hT' : ∀ t x, look lT t = some x → cnt s (dl d) t < capW W t → x ≤ g := fun t x h1 h2 => hT t x h1 (by rw [hcl]; omega)
  cases e with
  | none =>
    cases (show v = .non from hev)
    have hg0 : g = 0 := hok
    refine q_yes (b := true) (Ex.refl H4) (et_DB (ed_isN (d := .none) (ed_var rfl rfl))) rfl fun H5 e5 => ?_
    have S5 := S4.grow e5
    have f' : Feas (wtF W A) W.m (capW W) (s + 1) (appl (dl d) []) := feas_next fe
    refine s_retD S5.i (ed_lst (ds := []) ea_nilD (by decide)) fun v H6 B6 s6 hv => k v B6 H6 [] (S5.trans s6) hv ⟨(fun q hq => absurd hq List.not_mem_nil), f', stage st4.inv du fe fx2 sy2 hg hF hT' f' ?_⟩
    show wsum (wtF W A) s (dl d) + g ≤ wsum (wtF W A) (s + 1) (dl d)
    rw [wsum_next fe, hg0]; omega
  | some e =>
    obtain ⟨r, rfl, hr⟩ := hev
    refine q_no (b := false) (Ex.refl H4) (et_DB (ed_isN (d := dStep e) (ed_var rfl (EndV.dt hr)))) rfl fun H5 e5 => ?_
    have S5 := S4.grow e5
    have hHr : H r = none := fresh_back (e02.trans S3.h) (hfr r rfl)
    have S6 := S5.give hHr (fresh_back i0 hHr) (e5 r _ hr)
    have st5 := st4.mono e5
    have wi : ∃ n, WInv (wtF W A) W.m (capW W) s (dl d) (look lF) (look lP) g e.1 [e] n := by
      obtain ⟨a, o'⟩ := e
      cases o' with
      | none => exact WInv.bare st5.inv fe hok.1 hok.2
      | some t => exact WInv.thing st5.inv fe hok.2.1 hok.1 (show cnt s (dl d) t < capW W t by have := hok.2.2; rw [hcl] at this; omega)
    obtain ⟨n, wi⟩ := wi
    refine ⟨.ref p, rfl, p, dx, rcFs X, rfl, (em4.trans e5) _ _ (o.bm _ _ o.self), by rfl, .ref r, rfl, X, lF, lT, lP, e, .ref r, g, n, _, rfl, o, em4.trans e5, st5, S6.i, EndV.dt upd_same, wi, fun v H7 B7 way n' S7 hv wi' => k v H7 B7 way (S6.trans S7) hv ⟨wi'.le, wi'.feas, stage st5.inv du fe fx2 sy2 hg hF hT' wi'.feas (wi'.more st5.inv fe)⟩⟩

abbrev n_dealt_best : List Str := ["wishes", "aim", "rows", "dealt", "asker", "one", "thing", "row"]
theorem sc_dealt_best : FnScope n_dealt_best ["wishes", "aim"] (defScope s_dealt_best) := ⟨rfl, rfl, rfl, by decide +kernel, rfl, by decide +kernel, by decide +kernel⟩
theorem ok_dealt_best (T : Txt K mg CS CR CP aO) (c_rows_by : Callable P w K mg base 9 "rows_by" ["wishes", "aim"] sp_rows_by) (c_best_way : Callable P w K mg base 3 "best_way" ["rows", "copies", "dealt", "start"] sp_best_way) : Callable P w K mg base 10 "dealt_best" ["wishes", "aim"] sp_dealt_best := by
  have sc := sc_dealt_best
  refine mkFn T.f_dealt_best sc (fun _ _ _ _ _ _ us hl => match us, hl with | [_, _], _ => rfl) (fun vs H Q E h => ?_) (fun f cdv A outer s H vs Q E hr h => ?_)
  · obtain ⟨B, W, i0, hd, _⟩ := h; exact hd.length
  refine ⟨_, (pss_cons (ps_set (i := 2) sc.nd rfl (Or.inl rfl) (pe_fn c_rows_by (hr.mono (by decide)) (by rfl) (pa_cons (pv 0) (pa_cons (pv 1) pa_nil))))
     (pss_cons (ps_setLc (i := 3) (own := [("row", 7)]) (g := gName 7) (tt := tYes) rfl sc.nd rfl rfl (sw_true rfl rfl rfl (by decide +kernel)) (pi_list (pv 2)) (blkOk_by (own := [("row", 7)]) (N := n_dealt_best) (sc := defScope s_dealt_best) (by decide +kernel)) (fun _ _ _ _ _ => (pg_name (i := 7) sc.nd rfl (Or.inl rfl))) (fun _ _ _ _ _ => pts_nil) (fun _ _ _ _ _ => pe_non))
     (pss_cons (ps_for PassesOwn.never rfl (pi_range1 (by rfl) T.b_range (pa_cons (pe_callB (id := "len") call_lenS (by rfl) T.b_len (by decide +kernel) (pa_cons (pv 2) pa_nil)) pa_nil)) (pg_name (i := 4) sc.nd rfl (Or.inl rfl))
     (pss_one (ps_for PassesOwn.never rfl (pi_list (pe_fn c_best_way (hr.mono (by decide)) (by rfl) (pa_cons (pv 2) (pa_cons (pe_ix ix_tup (pv 0) pe_int (fun _ _ => rfl)) (pa_cons (pv 3) (pa_cons (pv 4) pa_nil)))))) (pg_tup rfl (pgs_cons (pg_name (i := 5) sc.nd rfl (Or.inl rfl)) (pgs_cons (pg_name (i := 6) sc.nd rfl (Or.inl rfl)) pgs_nil)))
     (pss_one (ps_asg (pv 6) (pg_sub (pv 3) (pv 5) set_list))))))
     (pss_one (ps_ret (pv 3)))))), ?_⟩
  obtain ⟨B, ⟨W, A⟩, i0, hd, ⟨ok, ao⟩, k⟩ := h
  have ok : W.Ok := ok
  have ao : A.Ok W := ao
  have hn7 : W.lists.length ≤ 7 := ok.n7
  have hn1 : 1 ≤ W.lists.length := ok.n1
  obtain ⟨x, y, rfl, h_wishes, h_aim⟩ := DtL.two (d1 := dW W) (d2 := dAim A) hd
  have hA : EvDA (tCons (tVar 0) (tCons (tVar 1) tNil)) [some x, some y, none, none, none, none, none, none] B [dW W, dAim A] := ea_consD (ed_var rfl h_wishes) (ea_consD (ed_var rfl h_aim) ea_nilD)
  refine q_asg0 (call0 (hA H i0 _ fun vs H1 B1 S1 hvs => ?_))
  refine ⟨B1, (W, A), S1.i, by rw [List.append_nil]; exact hvs, ⟨ok, ao⟩, fun vr H2 B2 s2 hrows => ?_⟩
  have S2 := S1.trans s2
  have hrows : RowsAt W A B2 vr := hrows
  obtain ⟨qr, as, rfl, hqr, hal, hrow⟩ := id hrows
  refine q_new (EvL.mono S2.i (el_lcL (fun _ => true) (fun _ => .non) (ev_var (v := .ref qr) rfl) (sq_of hqr) (by rw [List.length_map, hal]; show W.lists.length ≤ 40000; omega) (fun _ => rfl) (fun _ _ _ _ _ => et_yes) (fun _ _ _ _ _ _ => ev_c))) fun ld H3 hl e3 hl3 => ?_
  have S3 := S2.grow e3
  have hHl : H ld = none := fresh_back S2.h hl
  have hBl : B2 ld = none := fresh_back S2.i hl
  have hg : given (as.map V.ref).length (fun _ => true) (fun _ => V.non) = ((List.replicate W.n (none : Option Nat)).map oV) := by
    unfold given
    rw [List.length_map, hal, List.filter_eq_self.mpr fun _ _ => rfl, List.map_replicate]
    refine List.eq_replicate_iff.mpr ⟨by simp, fun b hb => ?_⟩
    obtain ⟨_, _, rfl⟩ := List.mem_map.mp hb
    rfl
  rw [hg] at hl3
  obtain ⟨hf0, hd0⟩ := best0 W A
  refine q_forR (n := W.n) S3.i ((ed_len (ds := (List.range W.n).map fun a => dDict (rowD W A a)) (ed_var rfl hrows.dt)).eq (by rw [List.length_map, List.length_range])) (by show W.lists.length ≤ 100000; omega) fun B4 H4 s4 => ⟨fun i σ' H' => ∃ d a4 a5 a6 B', σ' = [some x, some y, some (.ref qr), some (.ref ld), a4, a5, a6, none] ∧ Stp B H B' H' ∧ Ex B4 B' ∧ B' ld = none ∧ H' ld = some (.lst (d.map oV)) ∧ d.length = W.n ∧ Feas (wtF W A) W.m (capW W) i (dl d) ∧ ∃ u q, Dual (wtF W A) W.m (capW W) i (dl d) u q,
    ⟨List.replicate W.n none, none, none, none, B4, rfl, S3.trans s4, Ex.refl _, s4.free hl3 hBl, s4.h _ _ hl3, List.length_replicate .., hf0, hd0⟩, fun i σ' H' hi ⟨d, a4, a5, a6, B5, hσ, S, e45, hB5, hll, hlen, fe, u, q, du⟩ => ?_, fun σ' H' ⟨d, a4, a5, a6, B5, hσ, S, e45, hB5, hll, hlen, fe, du⟩ => ?_⟩
  · subst hσ
    have e25 : Ex B2 B5 := s4.b.trans e45
    have eB := S2.b.trans e25
    have iP := Ex.plus S.i hll
    have eP : Ex B5 (upd B5 ld (.lst (d.map oV))) := Ex.new hB5
    have hdne : d ≠ [] := by intro z; rw [z] at hlen; have : W.n = 0 := hlen.symm; have : W.lists.length = 0 := this; omega
    refine s_forL2P (P := fun B6 H6 ds => ∃ way, ds = way.map dStep ∧ Stp B H B6 H6 ∧ Ex B5 B6 ∧ B6 ld = none ∧ H6 ld = some (.lst (d.map oV)) ∧ WayOk W A d i way) (fun Q' kq => ?_) fun B6 H6 ds i6 ⟨way, hds, S6, e56, hB6, hl6, hway⟩ => ?_
    · obtain ⟨vc, hvc, hdc⟩ := (eb_ixT (K := K) (ds := [dNs W.copies, dLs W.lists]) (eb_var (i := 0) (σ := [some x, some y, some (.ref qr), some (.ref ld), some (.int (i : Int)), a5, a6, none]) rfl (h_wishes.mono eB)) ed_int rfl : EvB (tOp (rIxT K) (tVar 0) (tC (.int 0))) [some x, some y, some (.ref qr), some (.ref ld), some (.int (i : Int)), a5, a6, none] B5 (dNs W.copies))
      refine ⟨.ref qr, rfl, hvc H' S.i _ fun H6 e6 => ⟨.ref ld, rfl, .int (i : Int), rfl, upd B5 ld (.lst (d.map oV)), W, A, d, i, u, q, .ref qr, vc, .ref ld, rfl, iP.trans e6, (hrows.mono e25).mono eP, hdc.mono eP, Dt.ofOpts upd_same, ⟨ok, ao⟩, hlen, hi, du, fe, fun v H7 B7 way S7 hv hway => ?_⟩⟩
      have hB7 := S7.b ld _ upd_same
      have S7' : Stp B5 H6 (Wk.minus B7 ld) H7 := S7.minus hB5 (e6 _ _ hll)
      exact kq v H7 (Wk.minus B7 ld) _ S7'.i (way_minus hdne hB7 hv) ⟨way, rfl, (S.grow e6).trans S7', S7'.b, minus_same, S7'.h _ _ (e6 _ _ hll), hway⟩
    · subst hds
      refine ⟨fun j σ' H' => ∃ a5 a6, σ' = [some x, some y, some (.ref qr), some (.ref ld), some (.int (i : Int)), a5, a6, none] ∧ Stp B H B6 H' ∧ H' ld = some (.lst ((setAll d (way.take j)).map oV)), ⟨a5, a6, rfl, S6, hl6⟩, fun j σ' H' ⟨_, _, _, s, _⟩ => s.i, fun j hj => ?_, fun σ' H' ⟨a5, a6, hσ, S8, hl8⟩ => ?_⟩
      · rw [List.length_map] at hj
        obtain ⟨⟨b, o⟩, hbo⟩ : ∃ q, way[j]? = some q := ⟨_, List.getElem?_eq_getElem hj⟩
        refine ⟨dN b, dO o, by rw [List.getElem?_map, hbo]; rfl, fun vb vo σ' H' hb ho ⟨a5, a6, hσ, S8, hl8⟩ => ?_⟩
        subst hσ
        cases (show vb = nV b from hb)
        cases ho.flat (flat_dO1 o)
        have hbi := (hway.1 (b, o) (List.mem_of_getElem? hbo)).1
        have hbi : b ≤ i := hbi
        have hsl : (setAll d (way.take j)).length = W.n := by rw [setAll_len, hlen]
        refine s_setL (Ex.refl H') hl8 (ed_var (d := dO o) rfl (Dt.ofFlat (flat_dO1 o))) (ev_var rfl) (ed_var (d := dN b) rfl rfl) (by rw [List.length_map, hsl]; omega) fun vy B9 H9 S9 hy => ?_
        cases hy.flat (flat_dO1 o)
        refine ⟨_, _, rfl, (S8.grow S9.h).mut _ hHl hB6, ?_⟩
        rw [upd_same, List.take_add_one, hbo]
        show _ = some (HO.lst ((setAll d (way.take j ++ [(b, o)])).map oV))
        rw [setAll_snoc, List.map_set]; rfl
      · subst hσ
        rw [List.length_map, List.take_length] at hl8
        have hap : dl (setAll d way) = appl (dl d) way := dl_setAll way d fun q hq => by have := (hway.1 q hq).1; omega
        exact ⟨setAll d way, _, _, _, B6, rfl, S8, e45.trans e56, hB6, hl8, by rw [setAll_len, hlen], by rw [hap]; exact hway.2.1, by rw [hap]; exact hway.2.2⟩
  · subst hσ
    have S' := S.give hHl hB5 hll
    exact s_retD S'.i (ed_var (d := dDeal d) rfl (Dt.ofOpts upd_same)) fun v B4 H4 s4 hv => k v H4 B4 _ (S'.trans s4) hv ⟨d, rfl, hlen, fe, du⟩

end
end Wk
namespace Wk
open PySem L2 Evl Wd
structure PX where
  W : Wish
  A : Aim
  d : Deal
  u : Nat → Int
  q : Nat → Int
  p : Addr
  dx : Addr
  lp : Addr
  lr : Addr
  vr : V
  vd : V
  vl : V
  B : Hp
  Hm : Hp
def pcFs (X : PX) : List (Str × V) := [("rows", X.vr), ("dealt", X.vd), ("left", X.vl), ("prices", .ref X.lp), ("raisers", .ref X.lr)]
def pf (pr : List Int) (t : Nat) : Int := pr.getD t 0
theorem pf_at {pr : List Int} {t : Nat} (h : t < pr.length) : pr[t]? = some (pf pr t) := by
  unfold pf
  rw [List.getD_eq_getElem?_getD, List.getElem?_eq_getElem h]; rfl
theorem dl_at' {d : Deal} {t : Nat} (h : t < d.length) : d[t]? = some (dl d t) := by
  unfold dl
  rw [List.getD_eq_getElem?_getD, List.getElem?_eq_getElem h]; rfl
theorem pf_set {pr : List Int} {t : Nat} {x : Int} (h : t < pr.length) : pf (pr.set t x) = fset (pf pr) t x := by
  funext i
  show (pr.set t x).getD i 0 = if i = t then x else pr.getD i 0
  rw [List.getD_eq_getElem?_getD, List.getD_eq_getElem?_getD, List.getElem?_set]
  by_cases e : i = t
  · subst e; rw [if_pos rfl, if_pos h, if_pos rfl]; rfl
  · rw [if_neg (Ne.symm e), if_neg e]
structure PX.Good (X : PX) : Prop where
  ok : X.W.Ok
  ao : X.A.Ok X.W
  len : X.d.length = X.W.n
  dual : Dual (wtF X.W X.A) X.W.m (capW X.W) X.W.n (dl X.d) X.u X.q
  fe : Feas (wtF X.W X.A) X.W.m (capW X.W) X.W.n (dl X.d)
/-- what the methods read -/
structure PX.Rd (CP : Addr) (X : PX) (H : Hp) : Prop where
  self : H X.p = some (.ins CP X.dx (pcFs X))
  rows : Dt H (dRows X.W X.A) X.vr
  dealt : Dt H (dDeal X.d) X.vd
  left : Dt H (dInts (leftA X.W.copies X.d X.d.length)) X.vl
theorem PX.Rd.mono {CP : Addr} {X : PX} {H H' : Hp} (h : X.Rd CP H) (e : Ex H H') : X.Rd CP H' := ⟨e _ _ h.self, h.rows.mono e, h.dealt.mono e, h.left.mono e⟩
structure PX.St (X : PX) (pr : List Int) (ra : Deal) (H : Hp) : Prop where
  p : H X.lp = some (.lst (pr.map V.int))
  r : H X.lr = some (.lst (ra.map oV))
  np : pr.length = X.W.m
  nr : ra.length = X.W.m
  inv : PInv (wtF X.W X.A) X.W.m X.W.n (dl X.d) X.q (pf pr) (dl ra)
theorem PX.St.mono {X : PX} {pr : List Int} {ra : Deal} {H H' : Hp} (h : X.St pr ra H) (e : Ex H H') : X.St pr ra H' := ⟨e _ _ h.p, e _ _ h.r, h.np, h.nr, h.inv⟩
theorem q_fldL {K : PySem.W.Frag} {σ : L2.St} {H : Hp} {ta te : TE} {xs : List V} {p C dx : Addr} {fs : List (Str × V)} {f : Str} {D : Ends} {tz : TS} (hp : H p = some (.ins C dx fs)) (h : EvL te σ H xs) (ho : Ev ta σ H (.ref p)) (c : Cls K C) (n : NoAttr K C f) (hl : fs.length < 1000)
    (k : ∀ l H2, H l = none → Ex H H2 → H2 l = some (.lst xs) → tz D σ (upd H2 p (.ins C dx (putF f (.ref l) fs)))) : tSeq (sFld K ta te f) tz D σ H := h H (Ex.refl H) _ fun l H1 hl0 e hll => ho H1 e _ fun H2 e2 => ⟨p, C, dx, fs, rfl, e2 p _ (e p _ hp), c, n, hl, k l H2 hl0 (e.trans e2) (e2 _ _ hll)⟩
theorem s_fldL {K : PySem.W.Frag} {σ : L2.St} {H : Hp} {ta te : TE} {xs : List V} {p C dx : Addr} {fs : List (Str × V)} {f : Str} {D : Ends} (hp : H p = some (.ins C dx fs)) (h : EvL te σ H xs) (ho : Ev ta σ H (.ref p)) (c : Cls K C) (n : NoAttr K C f) (hl : fs.length < 1000)
    (k : ∀ l H2, H l = none → Ex H H2 → H2 l = some (.lst xs) → D.nx σ (upd H2 p (.ins C dx (putF f (.ref l) fs)))) : sFld K ta te f D σ H := q_fldL (tz := tNext) hp h ho c n hl k
theorem given_const (n : Nat) (x : V) : given n (fun _ => true) (fun _ => x) = List.replicate n x := by
  unfold given
  rw [List.filter_eq_self.mpr fun _ _ => rfl]
  refine List.eq_replicate_iff.mpr ⟨by simp, fun b hb => ?_⟩
  obtain ⟨_, _, rfl⟩ := List.mem_map.mp hb
  rfl
theorem dep_small {nx : Nat → Option Nat} {m : Nat} (h : ∀ x y, nx x = some y → y < m) {n t : Nat} (hd : Dep nx n t) (ht : t < m) : n + 1 ≤ m := by
  have key : ∀ n t, Dep nx n t → t < m → ∃ l : List Nat, l.length = n + 1 ∧ l.Nodup ∧ (∀ x, x ∈ l → x < m) ∧ ∀ x, x ∈ l → ∃ k, k ≤ n ∧ Dep nx k x := by
    intro n
    induction n with
    | zero =>
      intro t hd ht
      refine ⟨[t], rfl, List.pairwise_singleton _ _, fun x hx => ?_, fun x hx => ?_⟩
      · rw [List.mem_singleton.mp hx]; exact ht
      · rw [List.mem_singleton.mp hx]; exact ⟨0, Nat.le_refl _, hd⟩
    | succ n ih =>
      intro t hd ht
      obtain ⟨t', e, hd'⟩ := id hd
      obtain ⟨l, h1, h2, h3, h4⟩ := ih t' hd' (h t t' e)
      refine ⟨t :: l, by rw [List.length_cons, h1], List.nodup_cons.mpr ⟨fun z => ?_, h2⟩, fun x hx => ?_, fun x hx => ?_⟩
      · obtain ⟨k, hk, hdk⟩ := h4 t z
        have := Dep.uniq hd hdk
        omega
      · rcases List.mem_cons.mp hx with rfl | hx
        · exact ht
        · exact h3 x hx
      · rcases List.mem_cons.mp hx with rfl | hx
        · exact ⟨n + 1, Nat.le_refl _, hd⟩
        · obtain ⟨k, hk, hdk⟩ := h4 x hx; exact ⟨k, by omega, hdk⟩
  obtain ⟨l, h1, h2, h3, _⟩ := key n t hd ht
  rw [← h1]
  exact nodup_small m l h2 h3
theorem q_insU {K : PySem.W.Frag} {σ : L2.St} {H : Hp} {ta te : TE} {D : Ends} {tz : TS} {l : Addr} {xs ys : List V} (hl : H l = some (.lst xs)) (ho : Ev ta σ H (.ref l)) (h : EvU te σ H ys) (hz : xs.length < 100000) (k : ∀ p H1, H p = none → Ex H H1 → H1 p = some (.tup ys) → tz D σ (upd H1 l (.lst (.ref p :: xs)))) :
    tSeq (tDrop (tBM K "list" rIns ta (tCons (tC (.int 0)) (tCons te tNil)))) tz D σ H := s_insU (D := { D with nx := tz D }) hl ho h hz k

def sp_Prices_init (CS CR CP : Addr) : Sp := fun vs H Q _ => ∃ (H0 B : Hp) (p dx : Addr) (vr vc vd : V) (W : Wish) (d : Deal), vs = [.ref p, vr, vc, vd] ∧ Ex B H0 ∧ H0 p = none ∧ H0 dx = none ∧ dx ≠ p ∧ H = upd (upd H0 dx (.own p)) p (.ins CP dx []) ∧ Dt B (dNs W.copies) vc ∧ Dt B (dDeal d) vd ∧ (∀ t, some t ∈ d → t < W.copies.length) ∧ W.copies.length ≤ 6 ∧
    ∀ H' B' vd' vl lp lr, Stp B H0 B' H' → H' p = some (.ins CP dx [("rows", vr), ("dealt", vd'), ("left", vl), ("prices", .ref lp), ("raisers", .ref lr)]) → Dt B' (dDeal d) vd' → Dt B' (dInts (leftA W.copies d d.length)) vl → H0 lp = none → B' lp = none → H0 lr = none → B' lr = none → lp ≠ lr → B' p = none →
      H' lp = some (.lst (List.replicate W.m (.int 0))) → H' lr = some (.lst (List.replicate W.m .non)) → Q .non H'
def sp_Prices_rest (CS CR CP : Addr) : Sp := fun vs H Q _ => ∃ (X : PX) (pr : List Int) (a : Nat), vs = [.ref X.p, .int (a : Int)] ∧ X.Good ∧ a < X.W.n ∧ X.Rd CP H ∧ H X.lp = some (.lst (pr.map V.int)) ∧ pr.length = X.W.m ∧ ∀ H', Ex H H' → Q (.int (rst (wtF X.W X.A) (dl X.d) (pf pr) a)) H'
def sp_Prices_chain (CS CR CP : Addr) : Sp := fun vs H Q _ => ∃ (X : PX) (pr : List Int) (ra : Deal) (t : Nat), vs = [.ref X.p, .int (t : Int)] ∧ X.Good ∧ t < X.W.m ∧ X.Rd CP H ∧ X.St pr ra H ∧ (dl ra t).isSome = true ∧ ∀ v H' B' steps, Stp H H B' H' → Dt B' (dWay steps) v → (∃ a0 o0 r, steps = (a0, o0) :: r ∧ a0 < X.W.n ∧ dl X.d a0 ≠ some t) → Q v H'
section
variable {P : Program} {w : World} {K : PySem.W.Frag} {mg : Str → Option Value} {base : Heap} {CS CR CP aO : Addr}
abbrev n_Prices_init : List Str := ["self", "rows", "copies", "dealt", "many"]
theorem sc_Prices_init : FnScope n_Prices_init ["self", "rows", "copies", "dealt"] (defScope s_Prices_init) := ⟨rfl, rfl, rfl, by decide +kernel, rfl, by decide +kernel, by decide +kernel⟩
theorem ok_Prices_init (T : Txt K mg CS CR CP aO) (c_left_by : Callable P w K mg base 1 "left_by" ["copies", "dealt"] sp_left_by) : CallC P w K mg base 2 CP "Prices" ["self", "rows", "copies", "dealt"] (sp_Prices_init CS CR CP) := by
  have sc := sc_Prices_init
  refine mkC T.i_Prices sc (fun _ _ _ _ _ _ us hl => match us, hl with | [_, _, _, _], _ => rfl) (fun vs H Q E h => ?_) (fun f cdv A outer s H vs Q E hr h => ?_)
  · obtain ⟨H0, B, p, dx, vr, vc, vd, W, d, rfl, _⟩ := h; rfl
  refine ⟨_, (pss_cons (ps_fld (pv 0) (pv 1) rfl)
     (pss_cons (ps_fld (pv 0) (pe_callTy (T := "list") call_listS (by rfl) T.b_list (by decide +kernel) (pa_cons (pv 3) pa_nil)) rfl)
     (pss_cons (ps_fld (pv 0) (pe_fn c_left_by (hr.mono (by decide)) (by rfl) (pa_cons (pv 2) (pa_cons (pv 3) pa_nil))) rfl)
     (pss_cons (ps_fld (pv 0) (pe_lc (own := [("many", 4)]) (g := gName 4) (tt := tYes) rfl sc.nd (pi_list (pv 2)) (blkOk_by (own := [("many", 4)]) (N := n_Prices_init) (sc := defScope s_Prices_init) (by decide +kernel)) (fun _ _ _ _ _ => (pg_name (i := 4) sc.nd rfl (Or.inl rfl))) (fun _ _ _ _ _ => pts_nil) (fun _ _ _ _ _ => pe_int)) rfl)
     (pss_one (ps_fld (pv 0) (pe_lc (own := [("many", 4)]) (g := gName 4) (tt := tYes) rfl sc.nd (pi_list (pv 2)) (blkOk_by (own := [("many", 4)]) (N := n_Prices_init) (sc := defScope s_Prices_init) (by decide +kernel)) (fun _ _ _ _ _ => (pg_name (i := 4) sc.nd rfl (Or.inl rfl))) (fun _ _ _ _ _ => pts_nil) (fun _ _ _ _ _ => pe_non)) rfl)))))), ?_⟩
  obtain ⟨H0, B, p, dx, vr, vc, vd, W, d, rfl, i0, hp0, hdx0, hne, rfl, hcop, hdeal, hlt, hm6, k⟩ := h
  have CC := T.cls_Prices
  have S0 : Stp B H0 B _ := init_stp i0 hp0 hdx0 hne (C := CP)
  have hB0 : B p = none := fresh_back i0 hp0
  refine q_fldV upd_same (ev_var rfl) (ev_var rfl) CC T.na_Prices_rows (by decide) fun H1 e1 => ?_
  have S1 := (S0.grow e1).mut (.ins CP dx (putF "rows" vr [])) hp0 hB0
  refine q_fldD S1.i upd_same (ed_list (ed_var rfl hdeal)) (ev_var rfl) CC T.na_Prices_dealt (show 1 < 1000 by decide) fun vd' B2 H2 s2 hvd' => ?_
  have hB2 : B2 p = none := s2.free upd_same hB0
  have S2 := (S1.trans s2).mut (.ins CP dx (putF "dealt" vd' (putF "rows" vr []))) hp0 hB2
  refine q_fldD S2.i upd_same (ed_callA (W.copies, d) (ea_consD (ed_var rfl (hcop.mono s2.b)) (ea_consD (ed_var rfl (hdeal.mono s2.b)) ea_nilD)) hlt fun _ z => z) (ev_var rfl) CC T.na_Prices_left (show 2 < 1000 by decide) fun vl B3 H3 s3 hvl => ?_
  have hB3 : B3 p = none := s3.free upd_same hB2
  have S3 := (S2.trans s3).mut (.ins CP dx (putF "left" vl (putF "dealt" vd' (putF "rows" vr [])))) hp0 hB3
  obtain ⟨qc, rfl, hqc⟩ := (hcop.mono S3.b).nats
  have hlen : (W.copies.map nV).length = W.m := List.length_map ..
  refine q_fldL upd_same (EvL.mono S3.i (el_lcL (fun _ => true) (fun _ => .int 0) (ev_var (v := .ref qc) rfl) (sq_of hqc) (by rw [hlen]; show W.copies.length ≤ 40000; omega) (fun _ => rfl) (fun _ _ _ _ _ => et_yes) (fun _ _ _ _ _ _ => ev_c))) (ev_var rfl) CC T.na_Prices_prices (show 3 < 1000 by decide) fun lp H4 hlp e4 hlp4 => ?_
  rw [hlen, given_const] at hlp4
  have hlp0 : H0 lp = none := fresh_back S3.h hlp
  have hlpB : B3 lp = none := fresh_back S3.i hlp
  have npl : p ≠ lp := fun z => by rw [← z, upd_same] at hlp; cases hlp
  have S4 := (S3.grow e4).mut (.ins CP dx (putF "prices" (.ref lp) (putF "left" vl (putF "dealt" vd' (putF "rows" vr []))))) hp0 hB3
  refine s_fldL upd_same (EvL.mono S4.i (el_lcL (fun _ => true) (fun _ => .non) (ev_var (v := .ref qc) rfl) (sq_of hqc) (by rw [hlen]; show W.copies.length ≤ 40000; omega) (fun _ => rfl) (fun _ _ _ _ _ => et_yes) (fun _ _ _ _ _ _ => ev_c))) (ev_var rfl) CC T.na_Prices_raisers (show 4 < 1000 by decide) fun lr H5 hlr e5 hlr5 => ?_
  rw [hlen, given_const] at hlr5
  have hlr0 : H0 lr = none := fresh_back S4.h hlr
  have hlrB : B3 lr = none := fresh_back S4.i hlr
  have npr : p ≠ lr := fun z => by rw [← z, upd_same] at hlr; cases hlr
  have nlr : lp ≠ lr := fun z => by rw [← z, upd_ne (Ne.symm npl), hlp4] at hlr; cases hlr
  have S5 := (S4.grow e5).mut (.ins CP dx (putF "raisers" (.ref lr) (putF "prices" (.ref lp) (putF "left" vl (putF "dealt" vd' (putF "rows" vr [])))))) hp0 hB3
  refine k _ B3 vd' vl lp lr S5 upd_same (hvd'.mono s3.b) hvl hlp0 hlpB hlr0 hlrB nlr hB3 ?_ ?_
  · rw [upd_ne (Ne.symm npl)]; exact e5 _ _ (by rw [upd_ne (Ne.symm npl)]; exact hlp4)
  · rw [upd_ne (Ne.symm npr)]; exact hlr5

abbrev n_Prices_rest : List Str := ["self", "asker", "thing"]
theorem sc_Prices_rest : FnScope n_Prices_rest ["self", "asker"] (defScope s_Prices_rest) := ⟨rfl, rfl, rfl, by decide +kernel, rfl, by decide +kernel, by decide +kernel⟩
theorem ok_Prices_rest (T : Txt K mg CS CR CP aO)  : CallM P w K mg base 1 CP "rest" ["self", "asker"] (sp_Prices_rest CS CR CP) := by
  have sc := sc_Prices_rest
  refine mkM T.m_Prices_rest sc (fun _ _ _ _ _ _ us hl => match us, hl with | [_, _], _ => rfl) (fun vs H Q E h => ?_) (fun f cdv A outer s H vs Q E hr h => ?_)
  · obtain ⟨X, pr, a, rfl, _⟩ := h; rfl
  have hu := hu_of hr
  refine ⟨_, (pss_cons (ps_set (i := 2) sc.nd rfl (Or.inl rfl) (pe_ix ix_list (pe_fld (pv 0) rfl) (pv 1) (fun _ _ => rfl)))
     (pss_cons (ps_if (pt_cmp (pc_isN (pv 2)))
     (pss_one (ps_ret pe_int))
     pss_nil)
     (pss_one (ps_ret (pe_op op_sub (pe_dget hu (pe_ix ix_list (pe_fld (pv 0) rfl) (pv 1) (fun _ _ => rfl)) (pv 2) (fun _ _ => rfl)) (pe_ix ix_list (pe_fld (pv 0) rfl) (pv 2) (fun _ _ => rfl))))))), ?_⟩
  obtain ⟨X, pr, a, rfl, G, ha, R, hpr, hnp, k⟩ := h
  have CC := T.cls_Prices
  have hlen := G.len
  have hda := dl_at' (d := X.d) (t := a) (by omega)
  refine q_asgD (d := dO (dl X.d a)) (Ex.refl H) (ed_ixL (ed_fld (ev_var rfl) R.self CC T.na_Prices_dealt (by rfl) R.dealt) (ed_var (d := dN a) rfl rfl) (atI_some hda)) fun v B1 H1 S1 hv => ?_
  have R1 := R.mono S1.h
  refine q_if1 (Ex.refl H1) (et_DB (ed_isN (ed_var rfl (hv.mono S1.i)))) (fun z H2 e2 => ?_) (fun z H2 e2 => ?_)
  · rw [isNo_dO] at z
    have hn : dl X.d a = none := by cases q : dl X.d a with | none => rfl | some t => rw [q] at z; cases z
    refine s_ret (ev_c (H := H2)) fun H3 e3 => ?_
    have := k H3 ((S1.h.trans e2).trans e3)
    unfold rst at this
    rw [hn] at this
    exact this
  · rw [isNo_dO] at z
    obtain ⟨t, ht⟩ : ∃ t, dl X.d a = some t := by cases q : dl X.d a with | none => rw [q] at z; cases z | some t => exact ⟨t, rfl⟩
    obtain ⟨htm, hvv⟩ := G.fe.wish a ha t ht
    obtain ⟨x, hx⟩ := Option.isSome_iff_exists.mp hvv
    rw [ht] at hv
    cases (show v = nV t from hv)
    have R2 := R1.mono e2
    have e02 := S1.h.trans e2
    refine s_retD (d := .int (x - pf pr t)) (Ex.refl H2) (ed_opI (ed_dget (i := (t : Int)) (ed_ixL (ds := (List.range X.W.n).map fun a => dDict (rowD X.W X.A a)) (ed_fld (ev_var rfl) R2.self CC T.na_Prices_rows (by rfl) R2.rows) (ed_var (d := dN a) rfl rfl) (atI_nat (v := dDict (rowD X.W X.A a)) (by rw [List.getElem?_map, List.getElem?_range ha]; rfl))) (ed_var (d := dN t) rfl rfl) (by rw [lookI_row]; exact hx)) (ed_ixL (ed_fld (ev_var rfl) R2.self CC T.na_Prices_prices (by rfl) (Dt.ofInts (e02 _ _ hpr))) (ed_var (d := dN t) rfl rfl) (atI_some (pf_at (by omega))))) fun v B3 H3 S3 hv => ?_
    cases (show v = _ from hv)
    have := k H3 (e02.trans S3.h)
    unfold rst at this
    rw [ht] at this
    have e : val (wtF X.W X.A) a (some t) = x := by show (wtF X.W X.A a t).getD 0 = x; rw [hx]; rfl
    rw [e] at this
    exact this

abbrev n_Prices_chain : List Str := ["self", "thing", "steps", "at", "asker"]
theorem sc_Prices_chain : FnScope n_Prices_chain ["self", "thing"] (defScope s_Prices_chain) := ⟨rfl, rfl, rfl, by decide +kernel, rfl, by decide +kernel, by decide +kernel⟩
theorem ok_Prices_chain (T : Txt K mg CS CR CP aO)  : CallM P w K mg base 1 CP "chain" ["self", "thing"] (sp_Prices_chain CS CR CP) := by
  have sc := sc_Prices_chain
  refine mkM T.m_Prices_chain sc (fun _ _ _ _ _ _ us hl => match us, hl with | [_, _], _ => rfl) (fun vs H Q E h => ?_) (fun f cdv A outer s H vs Q E hr h => ?_)
  · obtain ⟨X, pr, ra, t, rfl, _⟩ := h; rfl
  refine ⟨_, (pss_cons (ps_set (i := 2) sc.nd rfl (Or.inl rfl) (pe_lst pa_nil))
     (pss_cons (ps_set (i := 3) sc.nd rfl (Or.inl rfl) (pv 1))
     (pss_cons (ps_while PassesOwn.never (PW.pt (pw_and (pt_cmp (pc_notN (pv 3))) (pw_and1 (pt_cmp (pc_notN (pe_ix ix_list (pe_fld (pv 0) rfl) (pv 3) (fun _ _ => rfl)))))))
     (pss_cons (ps_set (i := 4) sc.nd rfl (Or.inl rfl) (pe_ix ix_list (pe_fld (pv 0) rfl) (pv 3) (fun _ _ => rfl)))
     (pss_cons (ps_expr (pe_bm PySem.F.plainAttrs_list PySem.F.slot_list_insert PySem.F.type_list_insert mt_ins (pv 2) (pa_cons pe_int (pa_cons (pe_tup (pa_cons (pv 4) (pa_cons (pv 3) pa_nil))) pa_nil))))
     (pss_cons (ps_set (i := 3) sc.nd rfl (Or.inl rfl) (pe_ix ix_list (pe_fld (pv 0) rfl) (pv 4) (fun _ _ => rfl)))
     (pss_one (ps_if (pt_cmpR op_eq (pv 3) (pv 1) (by rfl))
     (pss_one (ps_ret (pv 2)))
     pss_nil))))))
     (pss_one (ps_ret (pv 2)))))), ?_⟩
  obtain ⟨X, pr, ra, t, rfl, G, htm, R, st, hra, k⟩ := h
  have CC := T.cls_Prices
  have hlen := G.len
  have hm6 : X.W.m ≤ 6 := G.ok.m6
  obtain ⟨n0, hn0⟩ := st.inv.acyc t
  have hstep : ∀ x y, nxt (dl X.d) (dl ra) x = some y → y < X.W.m := fun x y h => by
    unfold nxt at h
    cases e : dl ra x with
    | none => rw [e] at h; cases h
    | some a => rw [e] at h; exact (G.fe.wish a (st.inv.rai x a e).1 y h).1
  have hn06 := dep_small hstep hn0 htm
  refine q_new (el_lst ea_nil (by decide)) fun l H1 hl e1 hl1 => ?_
  have S1 := (Stp.refl (Ex.refl H)).grow e1
  refine q_asg (ev_var (H := H1) rfl) fun H2 e2 => ?_
  have S2 := S1.grow e2
  have hl2 := e2 _ _ hl1
  -- at: a thing or nothing; how deep it lies
  refine q_while (fun m σ' H' => ∃ at' a4 steps xs B', σ' = [some (.ref X.p), some (.int (t : Int)), some (.ref l), some (oV at'), a4] ∧ Stp H H B' H' ∧ B' l = none ∧ H' l = some (.lst xs) ∧ DtL B' (steps.map dStep) xs ∧ steps.length + m = n0 + 1 ∧
      ((at' = none ∧ m = 0) ∨ ∃ t' k, at' = some t' ∧ t' < X.W.m ∧ Dep (nxt (dl X.d) (dl ra)) k t' ∧ m = k + 1) ∧ ((steps = [] ∧ at' = some t) ∨ ∃ a0 o0 r, steps = (a0, o0) :: r ∧ a0 < X.W.n ∧ dl X.d a0 = at'))
    (n0 + 1) ⟨some t, none, [], [], H, rfl, S2, hl, hl2, rfl, by simp, .inr ⟨t, n0, rfl, htm, hn0, rfl⟩, .inl ⟨rfl, rfl⟩⟩ fun m σ' H' ⟨at', a4, steps, xs, B', hσ, S, hB', hll, hxs, hlm, hdep, hst⟩ => ?_
  subst hσ
  have R' := R.mono S.h
  have st' := st.mono S.h
  -- the end
  have fin : ∀ H2, Ex H' H2 → (at' = none ∨ ∃ t', at' = some t' ∧ dl ra t' = none) → tRet (tVar 2) { nx := fun _ H' => Q .non H', rt := Q } [some (.ref X.p), some (.int (t : Int)), some (.ref l), some (oV at'), a4] H2 := fun H2 e2 hend => by
    have S' := (S.grow e2).give hl hB' (e2 l _ hll)
    refine s_retD S'.i (ed_var (d := dWay steps) rfl ⟨l, xs, rfl, upd_same, hxs.mono (Ex.new hB')⟩) fun v B4 H4 s4 hv => k v H4 B4 steps (S'.trans s4) hv ?_
    rcases hst with ⟨rfl, rfl⟩ | ⟨a0, o0, r, rfl, ha0, hda0⟩
    · rcases hend with h | ⟨t', h, h2⟩
      · cases h
      · cases h; rw [h2] at hra; cases hra
    · refine ⟨a0, o0, r, rfl, ha0, fun z => ?_⟩
      rw [hda0] at z
      subst z
      rcases hdep with ⟨h, _⟩ | ⟨t', k', h, _, hk, hm⟩
      · cases h
      · cases h
        have := Dep.uniq hn0 hk
        rw [List.length_cons] at hlm
        omega
  cases at' with
  | none =>
    refine ⟨false, et_is (et_and (b := true) (et_DB (ed_notN (d := .none) (ed_var (B := H') rfl rfl))) fun z => by cases z) rfl, (fun z => by cases z), fun _ H2 e2 => fin H2 e2 (.inl rfl)⟩
  | some t' =>
    obtain ⟨k', htm', hk', hm⟩ : ∃ k', t' < X.W.m ∧ Dep (nxt (dl X.d) (dl ra)) k' t' ∧ m = k' + 1 := by
      rcases hdep with ⟨h, _⟩ | ⟨t1, k', h, h1, h2, h3⟩
      · cases h
      · cases h; exact ⟨k', h1, h2, h3⟩
    have frai : ∀ H2, Ex H' H2 → EvD (tOp (rIxL K) (tFld K (tVar 0) "raisers") (tVar 3)) [some (.ref X.p), some (.int (t : Int)), some (.ref l), some (oV (some t')), a4] H2 (dO (dl ra t')) := fun H2 e2 =>
      ed_ixL (ed_fld (ev_var rfl) (e2 _ _ R'.self) CC T.na_Prices_raisers (by rfl) (Dt.ofOpts (e2 _ _ st'.r))) (ed_var (d := dN t') rfl rfl) (atI_some (dl_at' (by have := st.nr; omega)))
    refine ⟨true && !isNo (dO (dl ra t')), et_and (et_DB (ed_notN (d := dN t') (ed_var (B := H') rfl rfl))) fun _ => et_DB (ed_notN (frai H' (Ex.refl _))), fun z H2 e2 => ?_, fun z H2 e2 => ?_⟩
    · rw [isNo_dO] at z
      obtain ⟨a, ha⟩ : ∃ a, dl ra t' = some a := by cases q : dl ra t' with | none => rw [q] at z; cases z | some a => exact ⟨a, rfl⟩
      obtain ⟨han, _⟩ := st.inv.rai t' a ha
      have hnx : nxt (dl X.d) (dl ra) t' = dl X.d a := by unfold nxt; rw [ha]; rfl
      obtain ⟨m', hm', hdep'⟩ : ∃ m', m = m' + 1 ∧ ((dl X.d a = none ∧ m' = 0) ∨ ∃ t1 k1, dl X.d a = some t1 ∧ t1 < X.W.m ∧ Dep (nxt (dl X.d) (dl ra)) k1 t1 ∧ m' = k1 + 1) := by
        cases k' with
        | zero =>
          have hk' : nxt (dl X.d) (dl ra) t' = none := hk'
          rw [hnx] at hk'
          exact ⟨0, hm, .inl ⟨hk', rfl⟩⟩
        | succ k1 =>
          obtain ⟨t1, h1, h2⟩ := hk'
          have := hstep t' t1 h1
          rw [hnx] at h1
          exact ⟨k1 + 1, hm, .inr ⟨t1, k1, h1, this, h2, rfl⟩⟩
      have hne : dl X.d a ≠ some t := fun z => by
        rcases hdep' with ⟨h, _⟩ | ⟨t1, k1, h, _, h2, h3⟩
        · rw [z] at h; cases h
        · rw [z] at h; cases h
          have := Dep.uniq hn0 h2
          omega
      refine ⟨_, fun σ2 H2 hh => ⟨m', by omega, hh⟩, ?_⟩
      refine q_asgD (d := dO (dl ra t')) (Ex.refl H2) (frai H2 e2) fun v B3 H3 S3 hv => ?_
      rw [ha] at hv
      cases (show v = nV a from hv)
      have e3 := e2.trans S3.h
      refine q_insU (e3 l _ hll) (ev_var rfl) (eu_tup (ea_cons (ev_var rfl) (ea_cons (ev_var rfl) ea_nil)) (by show 2 ≤ 100000; decide)) (by rw [hxs.length, List.length_map]; omega) fun p H4 hp e4 hl4 => ?_
      have e34 := e3.trans e4
      have hp' := fresh_back e3 hp
      have hpl : l ≠ p := fun z => by subst z; rw [e3 _ _ hll] at hp; cases hp
      have hB4 : (upd B' p (.tup [nV a, oV (some t')])) l = none := by rw [upd_ne hpl]; exact hB'
      have S4 := ((S.grow e34).give (fresh_back S.h hp') (fresh_back S.i hp') hl4).mut (.lst (.ref p :: xs)) hl hB4
      have R4 := R.mono S4.h
      have hda := dl_at' (d := X.d) (t := a) (by omega)
      refine q_asgD (d := dO (dl X.d a)) (Ex.refl _) (ed_ixL (ed_fld (ev_var rfl) R4.self CC T.na_Prices_dealt (by rfl) R4.dealt) (ed_var (d := dN a) rfl rfl) (atI_some hda)) fun v B5 H5 S5 hv => ?_
      cases hv.flat (flat_dO1 _)
      refine s_no (Ex.refl H5) (et_D (ed_eq (d1 := dO (dl X.d a)) (d2 := dO (some t)) (ed_var rfl (Dt.ofFlat (flat_dO1 _))) (ed_var (d := dN t) rfl rfl) (flat_dO1 _) (flat_dO1 _) (scal_dO _ _) (dO_eq _ _))) (decide_eq_false hne) fun H6 e6 => ?_
      refine ⟨dl X.d a, _, (a, some t') :: steps, .ref p :: xs, _, rfl, (S4.grow S5.h).grow e6, hB4, e6 _ _ (S5.h _ _ upd_same), ?_, by rw [List.length_cons]; omega, hdep', .inr ⟨a, some t', steps, rfl, han, rfl⟩⟩
      exact .cons ⟨p, [nV a, nV t'], rfl, upd_same, .cons rfl (.cons rfl .nil)⟩ (hxs.mono (Ex.new (fresh_back S.i hp')))
    · rw [isNo_dO] at z
      have hn : dl ra t' = none := by cases q : dl ra t' with | none => rfl | some a => rw [q] at z; cases z
      exact fin H2 e2 (.inr ⟨t', rfl, hn⟩)

end
end Wk
namespace Wk
open PySem L2 Evl Wd
theorem ed_rest {σ : L2.St} {B : Hp} {CS CR CP : Addr} {E : XK} {tx ta : TE} {X : PX} {pr : List Int} {a : Nat} (hx : Ev tx σ B (.ref X.p)) (G : X.Good) (R : X.Rd CP B) (hpr : B X.lp = some (.lst (pr.map V.int))) (hnp : pr.length = X.W.m) (ha : a < X.W.n) (h : EvD ta σ B (.int (a : Int))) :
    EvD (tMeth CP "rest" (sp_Prices_rest CS CR CP) [] E tx (tCons ta tNil)) σ B (.int (rst (wtF X.W X.A) (dl X.d) (pf pr) a)) := EvD.of (v := .int (rst (wtF X.W X.A) (dl X.d) (pf pr) a)) (fun H1 e Q q => hx H1 e _ fun H2 e2 => ⟨X.p, X.dx, pcFs X, rfl, (e.trans e2) _ _ R.self, by rfl, h.int H2 (e.trans e2) _ fun H3 e3 =>
      ⟨X, pr, a, rfl, G, ha, R.mono ((e.trans e2).trans e3), ((e.trans e2).trans e3) _ _ hpr, hnp, fun H4 e4 => q H4 ((e2.trans e3).trans e4)⟩⟩) rfl
/-- base and frame of prices of our own -/
structure PX.Ok (CP : Addr) (X : PX) : Prop where
  g : X.Good
  self : X.B X.p = some (.ins CP X.dx (pcFs X))
  rows : RowsAt X.W X.A X.B X.vr
  dealt : Dt X.B (dDeal X.d) X.vd
  left : Dt X.B (dInts (leftA X.W.copies X.d X.d.length)) X.vl
  bm : Ex X.B X.Hm
  hp : X.Hm X.lp = none
  hr : X.Hm X.lr = none
  pr : X.lp ≠ X.lr
theorem PX.Ok.rd {CP : Addr} {X : PX} (o : X.Ok CP) {H : Hp} (e : Ex X.Hm H) : X.Rd CP H := by
  have e := o.bm.trans e
  exact ⟨e _ _ o.self, (o.rows.mono e).dt, o.dealt.mono e, o.left.mono e⟩
def PX.room (X : PX) (pr : List Int) : Int := sm X.W.m fun t => X.q t - pf pr t

def sp_Prices_way_by (CS CR CP : Addr) : Sp := fun vs H Q _ => ∃ (X : PX) (pr : List Int) (ra : Deal) (t : Nat), vs = [.ref X.p, .int (t : Int)] ∧ X.Good ∧ t < X.W.m ∧ X.Rd CP H ∧ X.St pr ra H ∧ (dl ra t).isSome = true ∧ ¬ cnt X.W.n (dl X.d) t < capW X.W t ∧ ∀ H', Ex H H' → Q .non H'
def sp_Prices_raised_by (CS CR CP : Addr) : Sp := fun vs H Q _ => ∃ (X : PX) (pr : List Int) (ra : Deal) (a : Nat), vs = [.ref X.p, .int (a : Int)] ∧ X.Ok CP ∧ a < X.W.n ∧ Ex X.Hm H ∧ X.St pr ra H ∧ ∀ v r H' more pr' ra', Ex X.Hm H' → X.St pr' ra' H' → (more = false → pr' = pr) → (more = true → X.room pr' < X.room pr) → v = .ref r → H' r = some (.tup [.bl more, .non]) → Q v H'
def sp_Prices_settle (CS CR CP : Addr) : Sp := fun vs H Q _ => ∃ (X : PX) (pr : List Int) (ra : Deal), vs = [.ref X.p] ∧ X.Ok CP ∧ Ex X.Hm H ∧ X.St pr ra H ∧ ∀ H' pr' ra', Ex X.Hm H' → X.St pr' ra' H' → Q .non H'
def sp_Prices_told (CS CR CP : Addr) : Sp := fun vs H Q _ => ∃ (X : PX) (pr : List Int) (ra : Deal), vs = [.ref X.p] ∧ X.Good ∧ X.Rd CP H ∧ X.St pr ra H ∧ ∀ v H', Ex H H' → Q v H'
section
variable {P : Program} {w : World} {K : PySem.W.Frag} {mg : Str → Option Value} {base : Heap} {CS CR CP aO : Addr}
abbrev n_Prices_way_by : List Str := ["self", "thing", "steps", "asker", "had"]
theorem sc_Prices_way_by : FnScope n_Prices_way_by ["self", "thing"] (defScope s_Prices_way_by) := ⟨rfl, rfl, rfl, by decide +kernel, rfl, by decide +kernel, by decide +kernel⟩
theorem ok_Prices_way_by (T : Txt K mg CS CR CP aO) (c_Prices_chain : CallM P w K mg base 1 CP "chain" ["self", "thing"] (sp_Prices_chain CS CR CP)) (c_Prices_rest : CallM P w K mg base 1 CP "rest" ["self", "asker"] (sp_Prices_rest CS CR CP)) : CallM P w K mg base 2 CP "way_by" ["self", "thing"] (sp_Prices_way_by CS CR CP) := by
  have sc := sc_Prices_way_by
  refine mkM T.m_Prices_way_by sc (fun _ _ _ _ _ _ us hl => match us, hl with | [_, _], _ => rfl) (fun vs H Q E h => ?_) (fun f cdv A outer s H vs Q E hr h => ?_)
  · obtain ⟨X, pr, ra, t, rfl, _⟩ := h; rfl
  refine ⟨_, (pss_cons (ps_set (i := 2) sc.nd rfl (Or.inl rfl) (pe_m (pv 0) T.cls_Prices c_Prices_chain (hr.mono (by decide)) (pa_cons (pv 1) pa_nil)))
     (pss_cons (ps_if (PW.pt (pw_or (pt_cmpR op_gt (pe_ix ix_list (pe_fld (pv 0) rfl) (pv 1) (fun _ _ => rfl)) pe_int (by rfl)) (pw_or1 (pt_cmpR op_eq (pe_ix ix_list (pe_fld (pv 0) rfl) (pe_ix ix_tup (pe_ix ix_list (pv 2) pe_int (fun _ _ => rfl)) pe_int (fun _ _ => rfl)) (fun _ _ => rfl)) (pv 1) (by rfl)))))
     (pss_one (ps_ret (pv 2)))
     pss_nil)
     (pss_cons (ps_for PassesOwn.never rfl (pi_enum (by rfl) T.b_enumerate (pa_cons (pe_fld (pv 0) rfl) pa_nil)) (pg_tup rfl (pgs_cons (pg_name (i := 3) sc.nd rfl (Or.inl rfl)) (pgs_cons (pg_name (i := 4) sc.nd rfl (Or.inl rfl)) pgs_nil)))
     (pss_one (ps_if (PW.pt (pw_and (pt_cmpR op_eq (pv 4) (pv 1) (by rfl)) (pw_and1 (pt_cmpR op_lt (pe_m (pv 0) T.cls_Prices c_Prices_rest (hr.mono (by decide)) (pa_cons (pv 3) pa_nil)) pe_int (by rfl)))))
     (pss_one (ps_ret (pe_op op_cat (pv 2) (pe_lst (pa_cons (pe_tup (pa_cons (pv 3) (pa_cons pe_non pa_nil))) pa_nil)))))
     pss_nil)))
     (pss_one (ps_ret pe_non))))), ?_⟩
  obtain ⟨X, pr, ra, t, rfl, G, htm, R, st, hra, hfull, k⟩ := h
  have CC := T.cls_Prices
  have hlen := G.len
  refine q_asg0 ⟨.ref X.p, rfl, X.p, X.dx, pcFs X, rfl, R.self, by rfl, .int (t : Int), rfl, X, pr, ra, t, rfl, G, htm, R, st, hra, fun v H1 B1 steps S1 hv ⟨a0, o0, r, hsteps, ha0, hne⟩ => ?_⟩
  subst hsteps
  have R1 := R.mono S1.h
  have st1 := st.mono S1.h
  have hv1 : Dt H1 (.list (dStep (a0, o0) :: r.map dStep)) v := hv.mono S1.i
  refine q_skip (b := decide (((X.W.copies.getD t 0 : Nat) : Int) - cnt X.d.length (dl X.d) t > 0) || decide (dl X.d a0 = some t)) (Ex.refl H1) (et_or (et_D (ed_cmp (ed_ixL (ed_fld (ev_var rfl) R1.self CC T.na_Prices_left (by rfl) R1.left) (ed_var (d := dN t) rfl rfl) (atI_some (leftA_at X.W.copies X.d X.d.length htm))) ed_int)) fun _ =>
    et_D (ed_eq (d1 := dO (dl X.d a0)) (d2 := dO (some t)) (ed_ixL (ed_fld (ev_var rfl) R1.self CC T.na_Prices_dealt (by rfl) R1.dealt) (ed_ixT (ds := [dN a0, dO o0]) (ed_ixL (d := dStep (a0, o0)) (ed_var rfl hv1) ed_int (atI_zero _ _)) ed_int rfl) (atI_some (dl_at' (by omega)))) (ed_var (d := dN t) rfl rfl) (flat_dO1 _) (flat_dO1 _) (scal_dO _ _) (dO_eq _ _))) ?_ fun H2 e2 => ?_
  · rw [decide_eq_false hne, hlen]
    have : ¬ ((X.W.copies.getD t 0 : Nat) : Int) - cnt X.W.n (dl X.d) t > 0 := fun z => hfull (by unfold capW; omega)
    rw [decide_eq_false this]; rfl
  have R2 := R1.mono e2
  have st2 := st1.mono e2
  have e02 := S1.h.trans e2
  refine q_forE (Ex.refl H2) (ed_fld (ev_var rfl) R2.self CC T.na_Prices_dealt (by rfl) R2.dealt) fun B3 H3 s3 => ⟨fun i σ' H' => ∃ a3 a4, σ' = [some (.ref X.p), some (.int (t : Int)), some v, a3, a4] ∧ Ex B3 H', ⟨none, none, rfl, s3.i⟩, fun i σ' H' ⟨_, _, _, e⟩ => e, fun i d y σ' H' H'' hi hy ⟨a3, a4, hσ, e3⟩ e4 => ?_, fun σ' H' ⟨a3, a4, hσ, e3⟩ => ?_⟩
  · subst hσ
    rw [List.getElem?_map] at hi
    obtain ⟨oa, hoa, rfl⟩ := Option.map_eq_some_iff.mp hi
    have hin : i < X.W.n := by have := (List.getElem?_eq_some_iff.mp hoa).1; omega
    have e34 := e3.trans e4
    have e24 : Ex H2 H'' := s3.b.trans e34
    have hr := st.inv.rest G.dual G.fe hin
    have hu := G.dual.u0 i
    refine s_no (b := decide (oa = some t) && decide (rst (wtF X.W X.A) (dl X.d) (pf pr) i < 0)) (Ex.refl H'') (et_and (et_D (ed_eq (d1 := dO oa) (d2 := dO (some t)) (ed_var rfl (hy.mono e34)) (ed_var (d := dN t) rfl rfl) (flat_dO1 _) (flat_dO1 _) (scal_dO _ _) (dO_eq _ _))) fun _ => et_D (ed_cmp (ed_rest (ev_var rfl) G (R2.mono e24) ((st2.mono e24).p) st.np hin (ed_var (d := dN i) rfl rfl)) ed_int)) ?_ fun H5 e5 => ?_
    · rw [decide_eq_false (show ¬ rst (wtF X.W X.A) (dl X.d) (pf pr) i < 0 by omega), Bool.and_false]
    · exact ⟨_, _, rfl, e34.trans e5⟩
  · subst hσ
    exact s_ret (ev_c (H := H')) fun H5 e5 => k H5 ((e02.trans (s3.b.trans e3)).trans e5)

abbrev n_Prices_raised_by : List Str := ["self", "asker", "raised", "thing", "worth", "price", "way"]
theorem sc_Prices_raised_by : FnScope n_Prices_raised_by ["self", "asker"] (defScope s_Prices_raised_by) := ⟨rfl, rfl, rfl, by decide +kernel, rfl, by decide +kernel, by decide +kernel⟩
theorem ok_Prices_raised_by (T : Txt K mg CS CR CP aO) (c_Prices_rest : CallM P w K mg base 1 CP "rest" ["self", "asker"] (sp_Prices_rest CS CR CP)) (c_Prices_way_by : CallM P w K mg base 2 CP "way_by" ["self", "thing"] (sp_Prices_way_by CS CR CP)) : CallM P w K mg base 3 CP "raised_by" ["self", "asker"] (sp_Prices_raised_by CS CR CP) := by
  have sc := sc_Prices_raised_by
  refine mkM T.m_Prices_raised_by sc (fun _ _ _ _ _ _ us hl => match us, hl with | [_, _], _ => rfl) (fun vs H Q E h => ?_) (fun f cdv A outer s H vs Q E hr h => ?_)
  · obtain ⟨X, pr, ra, a, rfl, _⟩ := h; rfl
  refine ⟨_, (pss_cons (ps_set (i := 2) sc.nd rfl (Or.inl rfl) pe_bl)
     (pss_cons (ps_lock (ps_for PassesOwn.never rfl (pi_items (pe_ix ix_list (pe_fld (pv 0) rfl) (pv 1) (fun _ _ => rfl))) (pg_tup rfl (pgs_cons (pg_name (i := 3) sc.nd rfl (Or.inl rfl)) (pgs_cons (pg_name (i := 4) sc.nd rfl (Or.inl rfl)) pgs_nil)))
     (pss_cons (ps_set (i := 5) sc.nd rfl (Or.inl rfl) (pe_op op_sub (pv 4) (pe_m (pv 0) T.cls_Prices c_Prices_rest (hr.mono (by decide)) (pa_cons (pv 1) pa_nil))))
     (pss_one (ps_if (pt_cmpR op_gt (pv 5) (pe_ix ix_list (pe_fld (pv 0) rfl) (pv 3) (fun _ _ => rfl)) (by rfl))
     (pss_cons (ps_asg (pv 5) (pg_sub (pe_fld (pv 0) rfl) (pv 3) set_list))
     (pss_cons (ps_asg (pv 1) (pg_sub (pe_fld (pv 0) rfl) (pv 3) set_list))
     (pss_cons (ps_set (i := 2) sc.nd rfl (Or.inl rfl) pe_bl)
     (pss_cons (ps_set (i := 6) sc.nd rfl (Or.inl rfl) (pe_m (pv 0) T.cls_Prices c_Prices_way_by (hr.mono (by decide)) (pa_cons (pv 3) pa_nil)))
     (pss_one (ps_if (pt_cmp (pc_notN (pv 6)))
     (pss_one (ps_ret (pe_tup (pa_cons (pv 2) (pa_cons (pv 6) pa_nil)))))
     pss_nil))))))
     pss_nil)))))
     (pss_one (ps_ret (pe_tup (pa_cons (pv 2) (pa_cons pe_non pa_nil))))))), ?_⟩
  obtain ⟨X, pr0, ra0, a, rfl, o, ha, em, st0, k⟩ := h
  have CC := T.cls_Prices
  have G := o.g
  have hlen := G.len
  have hm6 : X.W.m ≤ 6 := G.ok.m6
  refine q_asgD (Ex.refl H) ed_bl fun v B1 H1 S1 hv => ?_
  cases (show v = .bl false from hv)
  have em1 := em.trans S1.h
  have st1 := st0.mono S1.h
  obtain ⟨qr, as, hvr, hqr, hal, hrow⟩ := id o.rows
  obtain ⟨r, hr⟩ : ∃ r, as[a]? = some r := ⟨_, List.getElem?_eq_getElem (by omega)⟩
  have hBr := hrow a r hr
  have hMr := o.bm r _ hBr
  have nlp : X.lp ≠ r := fun z => by rw [← z, o.hp] at hMr; cases hMr
  have nlr : X.lr ≠ r := fun z => by rw [← z, o.hr] at hMr; cases hMr
  have npr : X.p ≠ r := fun z => by have := o.self; rw [z, hBr] at this; cases this
  have nqr : qr ≠ r := fun z => by rw [z, hBr] at hqr; cases hqr
  have npp : X.p ≠ X.lp := fun z => by have := o.bm _ _ o.self; rw [z, o.hp] at this; cases this
  have npq : X.p ≠ X.lr := fun z => by have := o.bm _ _ o.self; rw [z, o.hr] at this; cases this
  refine q_forI (em1 r _ hMr) (fun od => ev_op (x := .ref qr) (y := .int (a : Int)) (ev_fld (ev_var rfl) (by rw [upd_ne npr]; exact em1 _ _ (o.bm _ _ o.self)) CC T.na_Prices_rows (by show some X.vr = _; rw [hvr])) (ev_var rfl) (rv_ixL (sq_of (by rw [upd_ne nqr]; exact em1 _ _ (o.bm _ _ hqr))) (atI_nat (by rw [List.getElem?_map, hr]; rfl)))) fun od H3 e3 => ?_
  have eLk : Ex (upd X.Hm r (.frz od (.dK (dk (rowD X.W X.A a))))) (upd H1 r (.frz od (.dK (dk (rowD X.W X.A a))))) := fun c w hc => by
    by_cases z : c = r
    · subst z; rw [upd_same] at hc ⊢; exact hc
    · rw [upd_ne z] at hc ⊢; exact em1 c w hc
  -- what the methods read, behind the lock
  have RL : ∀ H', Ex (upd X.Hm r (.frz od (.dK (dk (rowD X.W X.A a))))) H' → X.Rd CP H' := fun H' e => by
    have R := o.rd (Ex.refl X.Hm)
    exact ⟨e _ _ (by rw [upd_ne npr]; exact R.self), (Dt.lock hMr R.rows).mono e, (Dt.lock hMr R.dealt).mono e, (Dt.lock hMr R.left).mono e⟩
  have hLp : (upd X.Hm r (.frz od (.dK (dk (rowD X.W X.A a))))) X.lp = none := by rw [upd_ne nlp]; exact o.hp
  have hLr : (upd X.Hm r (.frz od (.dK (dk (rowD X.W X.A a))))) X.lr = none := by rw [upd_ne nlr]; exact o.hr
  have stU : ∀ pr ra H' w, X.St pr ra H' → X.St pr ra (upd H' r w) := fun pr ra H' w st => ⟨by rw [upd_ne nlp]; exact st.p, by rw [upd_ne nlr]; exact st.r, st.np, st.nr, st.inv⟩
  refine ⟨fun j σ' H4 => ∃ more pr ra a3 a4 a5 a6, σ' = [some (.ref X.p), some (.int (a : Int)), some (.bl more), a3, a4, a5, a6] ∧ Ex (upd X.Hm r (.frz od (.dK (dk (rowD X.W X.A a))))) H4 ∧ X.St pr ra H4 ∧ (more = false → pr = pr0) ∧ (more = true → X.room pr < X.room pr0),
    ⟨false, pr0, ra0, none, none, none, none, rfl, eLk.trans e3, (stU _ _ _ _ st1).mono e3, fun _ => rfl, fun z => by cases z⟩, fun j σ' H4 ⟨_, _, _, _, _, _, _, _, e, _⟩ => e r _ upd_same, fun j y v σ' H4 H5 hy ⟨more, pr, ra, a3, a4, a5, a6, hσ, e4, st, h0, h1⟩ e5 => ?_, fun σ' H4 ⟨more, pr, ra, a3, a4, a5, a6, hσ, e4, st, h0, h1⟩ => ?_⟩
  · subst hσ
    obtain ⟨t, hwj, rfl, rfl, hwt, htm⟩ := dk_rowD hy
    have e45 := e4.trans e5
    have st5 := st.mono e5
    have hnp := st.np
    have hnr := st.nr
    refine q_asgD (d := .int (wtOf X.W X.A a t - rst (wtF X.W X.A) (dl X.d) (pf pr) a)) (Ex.refl H5) (ed_opI (ed_var (d := .int (wtOf X.W X.A a t)) rfl rfl) (ed_rest (ev_var rfl) G (RL _ e45) st5.p hnp ha (ed_var (d := dN a) rfl rfl))) fun v B6 H6 S6 hv => ?_
    cases (show v = _ from hv)
    have e46 := e45.trans S6.h
    have st6 := st5.mono S6.h
    have R6 := RL _ e46
    refine s_if1 (Ex.refl H6) (et_D (ed_cmp (ed_var (d := .int (wtOf X.W X.A a t - rst (wtF X.W X.A) (dl X.d) (pf pr) a)) rfl rfl) (ed_ixL (ed_fld (ev_var rfl) R6.self CC T.na_Prices_prices (by rfl) (Dt.ofInts st6.p)) (ed_var (d := dN t) rfl rfl) (atI_some (pf_at (by omega)))))) (fun z H7 e7 => ?_) (fun z H7 e7 => ?_)
    · have z : pf pr t < wtOf X.W X.A a t - rst (wtF X.W X.A) (dl X.d) (pf pr) a := of_decide_eq_true z
      obtain ⟨inv', hfull⟩ := st.inv.raise G.dual G.fe ha htm hwt z
      have e47 := e46.trans e7
      have st7 := st6.mono e7
      have R7 := RL _ e47
      refine q_setL (Ex.refl H7) st7.p (d := .int (wtOf X.W X.A a t - rst (wtF X.W X.A) (dl X.d) (pf pr) a)) (ed_var rfl rfl) (ev_fld (ev_var rfl) R7.self CC T.na_Prices_prices (by rfl)) (ed_var (d := dN t) rfl rfl) (by rw [List.length_map]; omega) fun y8 B8 H8 S8 hy8 => ?_
      cases (show y8 = _ from hy8)
      have R8 := RL _ (e47.trans S8.h)
      refine q_setL (Ex.refl _) (xs := ra.map oV) (by rw [upd_ne (Ne.symm o.pr)]; exact S8.h _ _ st7.r) (d := dN a) (ed_var rfl rfl) (ev_fld (ev_var rfl) (by rw [upd_ne npp]; exact R8.self) CC T.na_Prices_raisers (by rfl)) (ed_var (d := dN t) rfl rfl) (by rw [List.length_map]; omega) fun y9 B9 H9 S9 hy9 => ?_
      cases (show y9 = oV (some a) from hy9)
      refine q_asgD (Ex.refl _) ed_bl fun v10 B10 H10 S10 hv10 => ?_
      cases (show v10 = .bl true from hv10)
      have e10 : Ex (upd X.Hm r (.frz od (.dK (dk (rowD X.W X.A a))))) H10 := (Ex.mut ((Ex.mut (e47.trans S8.h) hLp).trans S9.h) hLr).trans S10.h
      have e1 : (pr.map V.int).set t (.int (wtOf X.W X.A a t - rst (wtF X.W X.A) (dl X.d) (pf pr) a)) = (pr.set t (wtOf X.W X.A a t - rst (wtF X.W X.A) (dl X.d) (pf pr) a)).map V.int := by rw [List.map_set]
      have e2 : (ra.map oV).set t (oV (some a)) = (ra.set t (some a)).map oV := by rw [List.map_set]
      have st10 : X.St (pr.set t (wtOf X.W X.A a t - rst (wtF X.W X.A) (dl X.d) (pf pr) a)) (ra.set t (some a)) H10 :=
        ⟨S10.h _ _ (by rw [upd_ne o.pr]; exact S9.h _ _ (by rw [upd_same, e1])), S10.h _ _ (by rw [upd_same, e2]), by rw [List.length_set]; exact hnp, by rw [List.length_set]; exact hnr, by rw [pf_set (by omega), dl_set (by omega)]; exact inv'⟩
      have hsome : (dl (ra.set t (some a)) t).isSome = true := by rw [dl_set (by omega), fset_same]; rfl
      have hroom : X.room (pr.set t (wtOf X.W X.A a t - rst (wtF X.W X.A) (dl X.d) (pf pr) a)) < X.room pr0 := by
        have h : X.room (pr.set t (wtOf X.W X.A a t - rst (wtF X.W X.A) (dl X.d) (pf pr) a)) < X.room pr := by
          unfold PX.room
          rw [pf_set (by omega)]
          exact room_raise htm z
        cases more with
        | true => exact Int.lt_trans h (h1 rfl)
        | false => rw [h0 rfl] at h; rw [h0 rfl]; exact h
      refine q_asg0 ⟨.ref X.p, rfl, X.p, X.dx, pcFs X, rfl, (RL _ e10).self, by rfl, .int (t : Int), rfl, X, _, _, t, rfl, G, htm, RL _ e10, st10, hsome, hfull, fun H11 e11 => ?_⟩
      refine s_no (Ex.refl H11) (et_DB (ed_notN (d := .none) (ed_var rfl rfl))) rfl fun H12 e12 => ?_
      exact ⟨true, _, _, _, _, _, _, rfl, (e10.trans e11).trans e12, (st10.mono e11).mono e12, (fun z => by cases z), fun _ => hroom⟩
    · exact ⟨more, pr, ra, _, _, _, _, rfl, e46.trans e7, st6.mono e7, h0, h1⟩
  · subst hσ
    have eM := Ex.unlock hMr e4
    refine s_retU (eu_tup (ea_cons (ev_var (H := upd H4 r (.dK (dk (rowD X.W X.A a)))) rfl) (ea_cons ev_c ea_nil)) (by show 2 ≤ 100000; decide)) fun p H5 hp e5 hl5 => k (.ref p) p H5 more pr ra (eM.trans e5) ((stU _ _ _ _ st).mono e5) h0 h1 rfl hl5

abbrev n_Prices_settle : List Str := ["self", "raised", "asker", "more", "way"]
theorem sc_Prices_settle : FnScope n_Prices_settle ["self"] (defScope s_Prices_settle) := ⟨rfl, rfl, rfl, by decide +kernel, rfl, by decide +kernel, by decide +kernel⟩
theorem ok_Prices_settle (T : Txt K mg CS CR CP aO) (c_Prices_raised_by : CallM P w K mg base 3 CP "raised_by" ["self", "asker"] (sp_Prices_raised_by CS CR CP)) : CallM P w K mg base 4 CP "settle" ["self"] (sp_Prices_settle CS CR CP) := by
  have sc := sc_Prices_settle
  refine mkM T.m_Prices_settle sc (fun _ _ _ _ _ _ us hl => match us, hl with | [_], _ => rfl) (fun vs H Q E h => ?_) (fun f cdv A outer s H vs Q E hr h => ?_)
  · obtain ⟨X, pr, ra, rfl, _⟩ := h; rfl
  refine ⟨_, (pss_cons (ps_set (i := 1) sc.nd rfl (Or.inl rfl) pe_bl)
     (pss_cons (ps_while PassesOwn.never (pt_val (pv 1))
     (pss_cons (ps_set (i := 1) sc.nd rfl (Or.inl rfl) pe_bl)
     (pss_one (ps_for PassesOwn.never rfl (pi_range1 (by rfl) T.b_range (pa_cons (pe_callB (id := "len") call_lenS (by rfl) T.b_len (by decide +kernel) (pa_cons (pe_fld (pv 0) rfl) pa_nil)) pa_nil)) (pg_name (i := 2) sc.nd rfl (Or.inl rfl))
     (pss_cons (ps_asg (pe_m (pv 0) T.cls_Prices c_Prices_raised_by (hr.mono (by decide)) (pa_cons (pv 2) pa_nil)) (pg_tup rfl (pgs_cons (pg_name (i := 3) sc.nd rfl (Or.inl rfl)) (pgs_cons (pg_name (i := 4) sc.nd rfl (Or.inl rfl)) pgs_nil))))
     (pss_cons (ps_if (pt_cmp (pc_notN (pv 4)))
     (pss_one (ps_ret (pv 4)))
     pss_nil)
     (pss_one (ps_set (i := 1) sc.nd rfl (Or.inl rfl) (pe_or (pv 1) (pe_one (pv 3)))))))))))
     (pss_one (ps_ret pe_non)))), ?_⟩
  obtain ⟨X, pr0, ra0, rfl, o, em0, st0, k⟩ := h
  have CC := T.cls_Prices
  have G := o.g
  have hn7 : X.W.n ≤ 7 := G.ok.n7
  refine q_asgD (Ex.refl H) ed_bl fun v B1 H1 S1 hv => ?_
  cases (show v = .bl true from hv)
  refine q_while (fun m σ' H' => ∃ b pr ra a2 a3 a4, σ' = [some (.ref X.p), some (.bl b), a2, a3, a4] ∧ Ex X.Hm H' ∧ X.St pr ra H' ∧ m = 2 * (X.room pr).toNat + (if b then 1 else 0)) _ ⟨true, pr0, ra0, none, none, none, rfl, em0.trans S1.h, st0.mono S1.h, rfl⟩ fun m σ' H' ⟨b, pr, ra, a2, a3, a4, hσ, em, st, hm⟩ => ?_
  subst hσ
  refine ⟨b, et_D (ed_var (B := H') (d := .bool b) rfl rfl), fun z H2 e2 => ?_, fun z H2 e2 => ?_⟩
  · subst z
    refine ⟨fun σ' H' => ∃ b pr' ra' a2 a3 a4, σ' = [some (.ref X.p), some (.bl b), a2, a3, a4] ∧ Ex X.Hm H' ∧ X.St pr' ra' H' ∧ (b = true → X.room pr' < X.room pr) ∧ (b = false → pr' = pr), fun σ2 H3 ⟨b, pr', ra', a2, a3, a4, hσ, em', st', h1, h2⟩ => ⟨_, ?_, b, pr', ra', a2, a3, a4, hσ, em', st', rfl⟩, ?_⟩
    · have r1 := st'.inv.room
      have r2 := st.inv.room
      have r1 : 0 ≤ X.room pr' := r1
      have r2 : 0 ≤ X.room pr := r2
      rw [hm]
      cases b with
      | true =>
        have := h1 rfl
        simp only [if_true]
        omega
      | false =>
        rw [h2 rfl]
        simp
    · refine q_asgD (Ex.refl H2) ed_bl fun v B3 H3 S3 hv => ?_
      cases (show v = .bl false from hv)
      have em3 := (em.trans e2).trans S3.h
      have R3 := o.rd em3
      refine s_forR (n := X.W.n) (Ex.refl H3) ((ed_len (ds := (List.range X.W.n).map fun a => dDict (rowD X.W X.A a)) (ed_fld (ev_var rfl) R3.self CC T.na_Prices_rows (by rfl) R3.rows)).eq (by rw [List.length_map, List.length_range])) (by omega) fun B4 H4 S4 => ⟨fun i σ' H' => ∃ b pr' ra' a2 a3 a4, σ' = [some (.ref X.p), some (.bl b), a2, a3, a4] ∧ Ex X.Hm H' ∧ X.St pr' ra' H' ∧ (b = true → X.room pr' < X.room pr) ∧ (b = false → pr' = pr),
        ⟨false, pr, ra, _, _, _, rfl, em3.trans S4.h, ((st.mono e2).mono S3.h).mono S4.h, (fun z => by cases z), fun _ => rfl⟩, fun i σ' H5 hi ⟨b, pr', ra', a2, a3, a4, hσ, em5, st5, h1, h2⟩ => ?_, fun σ' H' h => h⟩
      subst hσ
      have R5 := o.rd em5
      refine ⟨.ref X.p, rfl, X.p, X.dx, pcFs X, rfl, R5.self, by rfl, .int (i : Int), rfl, X, pr', ra', i, rfl, o, hi, em5, st5, fun v r H6 more pr6 ra6 em6 st6 g0 g1 hv hr => ?_⟩
      subst hv
      refine ⟨r, [.bl more, .non], rfl, st_of hr, rfl, .bl more, [.non], rfl, .non, [], rfl, rfl, ?_⟩
      refine q_skip (Ex.refl H6) (et_DB (ed_notN (d := .none) (ed_var rfl rfl))) rfl fun H7 e7 => ?_
      refine s_asgD (Ex.refl H7) (ed_orV (a := b) (b := more) (ed_var (d := .bool b) rfl rfl) fun _ => ed_var (d := .bool more) rfl rfl) fun v B8 H8 S8 hv => ?_
      cases (show v = .bl (b || more) from hv)
      refine ⟨b || more, pr6, ra6, _, _, _, rfl, (em6.trans e7).trans S8.h, (st6.mono e7).mono S8.h, fun z => ?_, fun z => ?_⟩
      · cases b with
        | true =>
          have := h1 rfl
          cases more with
          | true => exact Int.lt_trans (g1 rfl) this
          | false => rw [g0 rfl]; exact this
        | false =>
          rw [← h2 rfl]
          cases more with
          | true => exact g1 rfl
          | false => cases z
      · cases b with
        | true => cases z
        | false =>
          cases more with
          | true => cases z
          | false => rw [g0 rfl]; exact h2 rfl
  · subst z
    exact s_ret (ev_c (H := H2)) fun H5 e5 => k H5 pr ra ((em.trans e2).trans e5) ((st.mono e2).mono e5)

abbrev n_Prices_told : List Str := ["self", "asks", "asker"]
theorem sc_Prices_told : FnScope n_Prices_told ["self"] (defScope s_Prices_told) := ⟨rfl, rfl, rfl, by decide +kernel, rfl, by decide +kernel, by decide +kernel⟩
theorem ok_Prices_told (T : Txt K mg CS CR CP aO) (c_Prices_rest : CallM P w K mg base 1 CP "rest" ["self", "asker"] (sp_Prices_rest CS CR CP)) : CallM P w K mg base 2 CP "told" ["self"] (sp_Prices_told CS CR CP) := by
  have sc := sc_Prices_told
  refine mkM T.m_Prices_told sc (fun _ _ _ _ _ _ us hl => match us, hl with | [_], _ => rfl) (fun vs H Q E h => ?_) (fun f cdv A outer s H vs Q E hr h => ?_)
  · obtain ⟨X, pr, ra, rfl, _⟩ := h; rfl
  refine ⟨_, (pss_cons (ps_setLc (i := 1) (own := [("asker", 2)]) (g := gName 2) (tt := tYes) rfl sc.nd rfl rfl (sw_true rfl rfl rfl (by decide +kernel)) (pi_range1 (by rfl) T.b_range (pa_cons (pe_callB (id := "len") call_lenS (by rfl) T.b_len (by decide +kernel) (pa_cons (pe_fld (pv 0) rfl) pa_nil)) pa_nil)) (blkOk_by (own := [("asker", 2)]) (N := n_Prices_told) (sc := defScope s_Prices_told) (by decide +kernel)) (fun _ _ _ _ _ => (pg_name (i := 2) sc.nd rfl (Or.inl rfl))) (fun _ _ _ _ _ => pts_nil) (fun _ _ _ _ _ => (pe_m (pv 0) T.cls_Prices c_Prices_rest (hr.mono (by decide)) (pa_cons (pv 2) pa_nil))))
     (pss_one (ps_ret (pe_tup (pa_cons pe_int (pa_cons (pv 1) (pa_cons (pe_callTy (T := "list") call_listS (by rfl) T.b_list (by decide +kernel) (pa_cons (pe_fld (pv 0) rfl) pa_nil)) pa_nil))))))), ?_⟩
  obtain ⟨X, pr, ra, rfl, G, R, st, k⟩ := h
  have CC := T.cls_Prices
  have hn7 : X.W.n ≤ 7 := G.ok.n7
  refine q_asgD (Ex.refl H) (ed_lcR (n := X.W.n) (f := fun _ => true) (v := fun a => .int (rst (wtF X.W X.A) (dl X.d) (pf pr) a)) ((ed_len (ds := (List.range X.W.n).map fun a => dDict (rowD X.W X.A a)) (ed_fld (ev_var rfl) R.self CC T.na_Prices_rows (by rfl) R.rows)).eq (by rw [List.length_map, List.length_range])) (by omega) (fun _ => rfl) (fun _ _ _ _ => et_yes) (fun B' e i hi _ => ed_rest (ev_var rfl) G (R.mono e) (e _ _ st.p) st.np hi (ed_var (d := dN i) rfl rfl))) fun v B1 H1 S1 hv => ?_
  have R1 := R.mono S1.h
  have st1 := st.mono S1.h
  exact s_retD (Ex.refl H1) (ed_tup (ea_consD (ed_int (i := 1)) (ea_consD (ed_var rfl (hv.mono S1.i)) (ea_consD (ed_list (ed_fld (ev_var rfl) R1.self CC T.na_Prices_prices (by rfl) (Dt.ofInts st1.p))) ea_nilD))) (by show 3 ≤ 100000; decide)) fun v B2 H2 S2 hv => k v H2 (S1.h.trans S2.h)

end
end Wk
namespace Wk
open PySem L2 Evl Wd
theorem Best.lt {W : Wish} {A : Aim} {d : Deal} (b : Best W A d) : ∀ t, some t ∈ d → t < W.copies.length := fun t ht => by
  obtain ⟨a, ha⟩ := List.getElem?_of_mem ht
  have hd := dl_at ha
  have := (List.getElem?_eq_some_iff.mp ha).1
  exact (b.2.1.wish a (by rw [← b.1]; exact this) t hd).1
theorem pf_zero (m : Nat) : pf (List.replicate m 0) = fun _ => 0 := by
  funext t
  show (List.replicate m (0 : Int)).getD t 0 = 0
  rw [List.getD_eq_getElem?_getD, List.getElem?_replicate]
  split <;> rfl
theorem dl_zero (m : Nat) : dl (List.replicate m none) = fun _ => none := by
  funext t
  show (List.replicate m (none : Option Nat)).getD t none = none
  rw [List.getD_eq_getElem?_getD, List.getElem?_replicate]
  split <;> rfl
theorem prices_make {K : PySem.W.Frag} {CS CR CP : Addr} {σ : L2.St} {B H : Hp} {D : Ends} {tz : TS} {E1 E2 : XK} {vw va vd : V} {W : Wish} {A : Aim} {d : Deal} {i : Nat} (i0 : Ex B H) (h0 : σ[0]? = some (some vw)) (h1 : σ[1]? = some (some va)) (h2 : σ[2]? = some (some vd)) (hw : Dt B (dW W) vw) (ha : Dt B (dAim A) va) (hd : Dt B (dDeal d) vd)
    (sc : scOk (W, A)) (b : Best W A d) (k : ∀ (X : PX) pr ra H', X.W = W → X.Ok CP → Ex H X.Hm → Ex X.Hm H' → X.St pr ra H' → tz D (σ.set i (some (.ref X.p))) H') :
    tSeq (tAsg (tMake CP (sp_Prices_init CS CR CP) [] E1 (tCons (tCall sp_rows_by [] E2 (tCons (tVar 0) (tCons (tVar 1) tNil))) (tCons (tOp (rIxT K) (tVar 0) (tC (.int 0))) (tCons (tVar 2) tNil)))) (gName i)) tz D σ H := by
  have hA : EvDA (tCons (tVar 0) (tCons (tVar 1) tNil)) σ B [dW W, dAim A] := ea_consD (ed_var h0 hw) (ea_consD (ed_var h1 ha) ea_nilD)
  obtain ⟨ok, ao⟩ := id sc
  have ok : W.Ok := ok
  refine q_asg0 (show tCall sp_rows_by [] E2 (tCons (tVar 0) (tCons (tVar 1) tNil)) σ H _ from call0 (hA H i0 _ fun vs H1 B1 S1 hvs => ?_))
  refine ⟨B1, (W, A), S1.i, by rw [List.append_nil]; exact hvs, sc, fun vr H2 B2 s2 hrows => ?_⟩
  have S2 := S1.trans s2
  have hrows : RowsAt W A B2 vr := hrows
  obtain ⟨vc, hvc, hdc⟩ := (eb_ixT (K := K) (ds := [dNs W.copies, dLs W.lists]) (eb_var h0 (hw.mono S2.b)) ed_int rfl : EvB (tOp (rIxT K) (tVar 0) (tC (.int 0))) σ B2 (dNs W.copies))
  refine hvc H2 S2.i _ fun H3 e3 => ⟨vd, h2, fun p dx hp hdx hne => ?_⟩
  have S3 := S2.grow e3
  refine ⟨H3, B2, p, dx, vr, vc, vd, W, d, rfl, S3.i, hp, hdx, hne, rfl, hdc, hd.mono S2.b, b.lt, ok.m6, fun H4 B4 vd' vl lp lr S4 hself hvd hvl hlp0 hlpB hlr0 hlrB nlr hBp hlp hlr => ⟨rfl, ?_⟩⟩
  obtain ⟨hlen, fe, u, q, du⟩ := id b
  have npp : p ≠ lp := fun z => by rw [z, hlp] at hself; cases hself
  have npr : p ≠ lr := fun z => by rw [z, hlr] at hself; cases hself
  let X : PX := { W := W, A := A, d := d, u := u, q := q, p := p, dx := dx, lp := lp, lr := lr, vr := vr, vd := vd', vl := vl, B := upd B4 p (.ins CP dx [("rows", vr), ("dealt", vd'), ("left", vl), ("prices", .ref lp), ("raisers", .ref lr)]), Hm := fun a => if a = lp ∨ a = lr then none else H4 a }
  have eHm : Ex H3 X.Hm := fun a o h => by
    show (if a = lp ∨ a = lr then none else H4 a) = some o
    rw [if_neg, S4.h a o h]
    rintro (rfl | rfl)
    · rw [hlp0] at h; cases h
    · rw [hlr0] at h; cases h
  have eXB : Ex B4 X.B := Ex.new hBp
  have em : Ex X.Hm H4 := fun a o h => by
    have h : (if a = lp ∨ a = lr then none else H4 a) = some o := h
    split at h
    · cases h
    · exact h
  have o : X.Ok CP := {
    g := ⟨ok, ao, hlen, du, fe⟩
    self := upd_same
    rows := (hrows.mono S4.b).mono eXB
    dealt := hvd.mono eXB
    left := hvl.mono eXB
    bm := fun a o h => by
      by_cases z : a = p
      · subst z
        rw [show X.B = upd B4 a _ from rfl, upd_same] at h
        cases h
        show (if a = lp ∨ a = lr then none else H4 a) = _
        rw [if_neg (by rintro (z | z); exact npp z; exact npr z)]
        exact hself
      · have h2 : upd B4 p _ a = some o := h
        rw [upd_ne z] at h2
        show (if a = lp ∨ a = lr then none else H4 a) = some o
        rw [if_neg, S4.i a o h2]
        intro zz
        rcases zz with zz | zz
        · rw [zz, hlpB] at h2; cases h2
        · rw [zz, hlrB] at h2; cases h2
    hp := if_pos (Or.inl rfl)
    hr := if_pos (Or.inr rfl)
    pr := nlr }
  refine k X (List.replicate W.m 0) (List.replicate W.m none) H4 rfl o (S3.h.trans eHm) em ⟨?_, ?_, List.length_replicate .., List.length_replicate .., ?_⟩
  · rw [List.map_replicate]; exact hlp
  · rw [List.map_replicate]; exact hlr
  · rw [pf_zero, dl_zero]; exact PInv.init du.p0

def sp_bettered : Sp := fun vs H Q _ => ∃ (B : Hp) (W : Wish) (A : Aim) (d : Deal), Ex B H ∧ DtL B [dW W, dAim A, dDeal d] vs ∧ scOk (W, A) ∧ Best W A d ∧ ∀ r w H', Ex H H' → H' r = some (.tup [.str "best", w]) → Q (.ref r) H'
def sp_best_dealing : Sp := fun vs H Q _ => ∃ (B : Hp) (W : Wish) (A : Aim), Ex B H ∧ DtL B [dW W, dAim A] vs ∧ scOk (W, A) ∧ ∀ r vd w H' B' d, Stp B H B' H' → Dt B' (dDeal d) vd → Best W A d → H' r = some (.tup [vd, w]) → Q (.ref r) H'
section
variable {P : Program} {w : World} {K : PySem.W.Frag} {mg : Str → Option Value} {base : Heap} {CS CR CP aO : Addr}
abbrev n_bettered : List Str := ["wishes", "aim", "dealing", "prices", "way"]
theorem sc_bettered : FnScope n_bettered ["wishes", "aim", "dealing"] (defScope s_bettered) := ⟨rfl, rfl, rfl, by decide +kernel, rfl, by decide +kernel, by decide +kernel⟩
theorem ok_bettered (T : Txt K mg CS CR CP aO) (c_Prices_init : CallC P w K mg base 2 CP "Prices" ["self", "rows", "copies", "dealt"] (sp_Prices_init CS CR CP)) (c_rows_by : Callable P w K mg base 9 "rows_by" ["wishes", "aim"] sp_rows_by) (c_Prices_settle : CallM P w K mg base 4 CP "settle" ["self"] (sp_Prices_settle CS CR CP)) (c_Prices_told : CallM P w K mg base 2 CP "told" ["self"] (sp_Prices_told CS CR CP)) : Callable P w K mg base 10 "bettered" ["wishes", "aim", "dealing"] sp_bettered := by
  have sc := sc_bettered
  refine mkFn T.f_bettered sc (fun _ _ _ _ _ _ us hl => match us, hl with | [_, _, _], _ => rfl) (fun vs H Q E h => ?_) (fun f cdv A outer s H vs Q E hr h => ?_)
  · obtain ⟨B, W, A, d, i0, hd, _⟩ := h; exact hd.length
  refine ⟨_, (pss_cons (ps_set (i := 3) sc.nd rfl (Or.inl rfl) (pe_mk c_Prices_init (hr.mono (by decide)) (by rfl) (pa_cons (pe_fn c_rows_by (hr.mono (by decide)) (by rfl) (pa_cons (pv 0) (pa_cons (pv 1) pa_nil))) (pa_cons (pe_ix ix_tup (pv 0) pe_int (fun _ _ => rfl)) (pa_cons (pv 2) pa_nil)))))
     (pss_cons (ps_set (i := 4) sc.nd rfl (Or.inl rfl) (pe_m0 (pv 3) T.cls_Prices c_Prices_settle (hr.mono (by decide))))
     (pss_cons (ps_if (pt_cmp (pc_notN (pv 4)))
     (pss_one (ps_ret (pe_tup (pa_cons pe_str (pa_cons (pv 4) pa_nil)))))
     pss_nil)
     (pss_one (ps_ret (pe_tup (pa_cons pe_str (pa_cons (pe_m0 (pv 3) T.cls_Prices c_Prices_told (hr.mono (by decide))) pa_nil)))))))), ?_⟩
  obtain ⟨B, W, A, d, i0, hd, sc0, b, k⟩ := h
  obtain ⟨x, y, z, rfl, h_wishes, h_aim, h_dealing⟩ := hd.three
  refine prices_make i0 rfl rfl rfl h_wishes h_aim h_dealing sc0 b fun X pr ra H1 hX o e0 em st => ?_
  refine q_asg0 ⟨.ref X.p, rfl, X.p, X.dx, pcFs X, rfl, (o.rd em).self, by rfl, X, pr, ra, rfl, o, em, st, fun H2 pr2 ra2 em2 st2 => ?_⟩
  refine q_skip (Ex.refl H2) (et_DB (ed_notN (d := .none) (ed_var rfl rfl))) rfl fun H3 e3 => ?_
  have em3 := em2.trans e3
  refine ⟨.ref X.p, rfl, X.p, X.dx, pcFs X, rfl, (o.rd em3).self, by rfl, X, pr2, ra2, rfl, o.g, o.rd em3, st2.mono e3, fun v H4 e4 => ⟨sz_of (show 2 ≤ 100000 by decide), fun p hp => ?_⟩⟩
  exact k p v _ (((e0.trans em3).trans e4).trans (Ex.new hp)) upd_same

abbrev n_best_dealing : List Str := ["wishes", "aim", "dealing", "prices"]
theorem sc_best_dealing : FnScope n_best_dealing ["wishes", "aim"] (defScope s_best_dealing) := ⟨rfl, rfl, rfl, by decide +kernel, rfl, by decide +kernel, by decide +kernel⟩
theorem ok_best_dealing (T : Txt K mg CS CR CP aO) (c_dealt_best : Callable P w K mg base 10 "dealt_best" ["wishes", "aim"] sp_dealt_best) (c_Prices_init : CallC P w K mg base 2 CP "Prices" ["self", "rows", "copies", "dealt"] (sp_Prices_init CS CR CP)) (c_rows_by : Callable P w K mg base 9 "rows_by" ["wishes", "aim"] sp_rows_by) (c_Prices_settle : CallM P w K mg base 4 CP "settle" ["self"] (sp_Prices_settle CS CR CP)) (c_Prices_told : CallM P w K mg base 2 CP "told" ["self"] (sp_Prices_told CS CR CP)) : Callable P w K mg base 11 "best_dealing" ["wishes", "aim"] sp_best_dealing := by
  have sc := sc_best_dealing
  refine mkFn T.f_best_dealing sc (fun _ _ _ _ _ _ us hl => match us, hl with | [_, _], _ => rfl) (fun vs H Q E h => ?_) (fun f cdv A outer s H vs Q E hr h => ?_)
  · obtain ⟨B, W, A, i0, hd, _⟩ := h; exact hd.length
  refine ⟨_, (pss_cons (ps_set (i := 2) sc.nd rfl (Or.inl rfl) (pe_fn c_dealt_best (hr.mono (by decide)) (by rfl) (pa_cons (pv 0) (pa_cons (pv 1) pa_nil))))
     (pss_cons (ps_set (i := 3) sc.nd rfl (Or.inl rfl) (pe_mk c_Prices_init (hr.mono (by decide)) (by rfl) (pa_cons (pe_fn c_rows_by (hr.mono (by decide)) (by rfl) (pa_cons (pv 0) (pa_cons (pv 1) pa_nil))) (pa_cons (pe_ix ix_tup (pv 0) pe_int (fun _ _ => rfl)) (pa_cons (pv 2) pa_nil)))))
     (pss_cons (ps_expr (pe_m0 (pv 3) T.cls_Prices c_Prices_settle (hr.mono (by decide))))
     (pss_one (ps_ret (pe_tup (pa_cons (pv 2) (pa_cons (pe_m0 (pv 3) T.cls_Prices c_Prices_told (hr.mono (by decide))) pa_nil)))))))), ?_⟩
  obtain ⟨B, W, A, i0, hd, sc0, k⟩ := h
  obtain ⟨x, y, rfl, h_wishes, h_aim⟩ := hd.two
  refine q_asgP i0 (ep_callA (W, A) (ea_consD (ed_var rfl h_wishes) (ea_consD (ed_var rfl h_aim) ea_nilD)) sc0) fun vd B1 H1 dd S1 hvd ⟨d, hdd, b⟩ => ?_
  subst hdd
  refine prices_make S1.i rfl rfl rfl (h_wishes.mono S1.b) (h_aim.mono S1.b) hvd sc0 b fun X pr ra H2 hX o e0 em st => ?_
  have b : Best W A d := b
  refine (show tMeth CP "settle" (sp_Prices_settle CS CR CP) [] E0 (tVar 3) tNil _ H2 _ from ⟨.ref X.p, rfl, X.p, X.dx, pcFs X, rfl, (o.rd em).self, by rfl, X, pr, ra, rfl, o, em, st, fun H3 pr2 ra2 em2 st2 => ?_⟩)
  show tRet (tTup (tCons (tVar 2) (tCons (tMeth CP "told" (sp_Prices_told CS CR CP) [] E0 (tVar 3) tNil) tNil))) _ _ H3
  refine ⟨vd, rfl, .ref X.p, rfl, X.p, X.dx, pcFs X, rfl, (o.rd em2).self, by rfl, X, pr2, ra2, rfl, o.g, o.rd em2, st2, fun v H4 e4 => ⟨sz_of (show 2 ≤ 100000 by decide), fun p hp => ?_⟩⟩
  exact k p vd v _ B1 d (S1.grow (((e0.trans em2).trans e4).trans (Ex.new hp))) hvd b upd_same

end
end Wk
namespace Wk
open PySem L2 Evl Wd
theorem modN {i : Int} {s : Nat} (h : 1 ≤ s) : ∃ x : Nat, i % (s : Int) = (x : Int) ∧ x < s := by
  refine ⟨(i % (s : Int)).toNat, ?_, ?_⟩
  · have := Int.emod_nonneg i (show (s : Int) ≠ 0 by omega); omega
  · have := Int.emod_lt_of_pos i (show (0 : Int) < s by omega)
    have := Int.emod_nonneg i (show (s : Int) ≠ 0 by omega)
    omega
theorem dtl_refs {B : Hp} : ∀ {rs : List (List Nat)} {xs : List V}, DtL B (rs.map dNs) xs → ∃ bs : List Addr, xs = bs.map V.ref ∧ bs.length = rs.length ∧ ∀ (j : Nat) b r, bs[j]? = some b → rs[j]? = some r → B b = some (.lst (r.map nV))
  | [], _, h => by cases (show _ = [] from h); exact ⟨[], rfl, rfl, fun j b r h => by simp at h⟩
  | r :: rs, _, ⟨x, ys, e, h1, h2⟩ => by
    obtain ⟨bs, rfl, hl, hb⟩ := dtl_refs h2
    obtain ⟨a, rfl, ha⟩ := Dt.nats h1
    refine ⟨a :: bs, e, by simp [hl], fun j b q hj hq => ?_⟩
    cases j with
    | zero => cases (Option.some.inj hj); cases (Option.some.inj hq); exact ha
    | succ j => exact hb j b q (by simpa using hj) (by simpa using hq)
theorem ed_sumLs {K : PySem.W.Frag} {σ : L2.St} {B : Hp} {ta : TE} {rs : List (List Nat)} (ha : EvD ta σ B (dRs rs)) (hz : rs.flatten.length ≤ 100000) : EvD (tCB (WkR.rSumLs K) (tCons ta (tCons (tLst tNil) tNil))) σ B (dNs rs.flatten) := fun H1 e Q q =>
  ha H1 e _ fun v H2 B2 s ⟨a, xs, hv, hx, hd⟩ => ⟨by show (0 : Nat) ≤ sizeLine; decide, fun e' he' => by
    obtain ⟨bs, rfl, hl, hb⟩ := dtl_refs hd
    subst hv
    have hfl : (rs.map fun r => r.map nV).flatten = rs.flatten.map nV := by rw [List.map_flatten]
    have S := (s.new (.lst []) he')
    have hne : ∀ b, B2 b ≠ none → b ≠ e' := fun b hb' z => hb' (by rw [z]; exact fresh_back s.i he')
    refine ⟨a, e', bs, rs.map fun r => r.map nV, rfl, ?_, upd_same, by rw [List.length_map]; exact hl, fun j b p hj hp => ?_, ?_, fun hnil => ?_, fun p hp => ?_⟩
    · rw [upd_ne (hne a (by rw [hx]; simp))]; exact s.i a _ hx
    · rw [List.getElem?_map] at hp
      obtain ⟨r, hr, rfl⟩ := Option.map_eq_some_iff.mp hp
      have := hb j b r hj hr
      rw [upd_ne (hne b (by rw [this]; simp))]; exact s.i b _ this
    · rw [hfl, List.length_map]; exact sz_of hz
    · have : rs.flatten = [] := by rw [hfl] at hnil; exact List.map_eq_nil_iff.mp hnil
      rw [this] at q
      exact q _ _ _ (s.put (.lst []) he') ⟨e', [], rfl, upd_same, rfl⟩
    · rw [hfl]
      exact q _ _ _ (S.put _ hp) (Dt.ofNats upd_same)⟩
theorem countP_dO (t : Nat) : ∀ d : Deal, ((d.map dO).map fV).countP (fun z => eqV z (nV t)) = d.count (some t)
  | [] => rfl
  | o :: d => by
    rw [List.map_cons, List.map_cons, List.countP_cons, List.count_cons, countP_dO t d]
    congr 1
    cases o with
    | none => rfl
    | some u =>
      show (if ((u : Int) == (t : Int)) = true then 1 else 0) = _
      by_cases e : u = t
      · subst e; simp
      · have : ¬ ((u : Int) = (t : Int)) := by omega
        simp [e, this]
theorem wished_mem {W : Wish} {a t : Nat} (ok : W.Ok) : t ∈ wished W a ↔ rankIn (W.ranks a) t ≠ 0 := by rw [mem_wished ok, rankIn_ne]

def sp__law_cell_at (K : PySem.W.Frag) : Sp := fun vs H Q _ => ∃ (B : Hp) (a : Addr) (sc : List Int) (k : Nat), vs = [.ref a, .int (k : Int)] ∧ Ex B H ∧ SqL K B a (sc.map V.int) ∧ ∀ H', Ex H H' → Q (.int (sc.getD k 0)) H'
def sp__law_numbers : Sp := SpA (fun x : Int × Int × List Nat => [.int x.1, .int x.2.1, dNs x.2.2]) (fun x => x.2.2.length ≤ 100 ∧ ∀ s, s ∈ x.2.2 → 1 ≤ s ∧ s ≤ 1000) (fun x r => ∃ ds : List Nat, r = dNs ds ∧ ds.length = x.2.2.length ∧ ∀ (j : Nat) s, x.2.2[j]? = some s → ∃ y, ds[j]? = some y ∧ y < s)
def sp__law_wished : Sp := SpA (fun x : Wish × Nat => [dW x.1, dN x.2]) (fun x => x.1.Ok ∧ x.2 < x.1.n) (fun x r => r = dNs (wished x.1 x.2))
def sp__law_is_number : Sp := SpD (fun ds => ∃ i, ds = [.int i]) (fun _ r => r = .bool true)
def sp__law_is_dealing : Sp := SpA (fun x : Wish × Deal => [dW x.1, dDeal x.2]) (fun x => x.1.Ok) (fun x r => ∃ b, r = .bool b ∧ (b = true ↔ DealOk x.1 x.2))
def sp__law_place : Sp := SpA (fun x : Wish × Nat × Option Nat => [dW x.1, dN x.2.1, dO x.2.2]) (fun x => x.1.Ok ∧ x.2.1 < x.1.n ∧ ∀ t, x.2.2 = some t → rankIn (x.1.ranks x.2.1) t ≠ 0) (fun x r => r = dN (place x.1.longest (rankO (x.1.ranks x.2.1) x.2.2)))
section
variable {P : Program} {w : World} {K : PySem.W.Frag} {mg : Str → Option Value} {base : Heap} {CS CR CP aO : Addr}
abbrev n__law_cell_at : List Str := ["_law_script", "_law_k"]
theorem sc__law_cell_at : FnScope n__law_cell_at ["_law_script", "_law_k"] (defScope s__law_cell_at) := ⟨rfl, rfl, rfl, by decide +kernel, rfl, by decide +kernel, by decide +kernel⟩
theorem ok__law_cell_at (T : Txt K mg CS CR CP aO)  : Callable P w K mg base 1 "_law_cell_at" ["_law_script", "_law_k"] (sp__law_cell_at K) := by
  have sc := sc__law_cell_at
  refine mkFn T.f__law_cell_at sc (fun _ _ _ _ _ _ us hl => match us, hl with | [_, _], _ => rfl) (fun vs H Q E h => ?_) (fun f cdv A outer s H vs Q E hr h => ?_)
  · obtain ⟨B, a, sc1, k1, rfl, _⟩ := h; rfl
  refine ⟨_, (pss_cons (ps_if (pt_cmpR op_lt (pv 1) (pe_callB (id := "len") call_lenS (by rfl) T.b_len (by decide +kernel) (pa_cons (pv 0) pa_nil)) (by rfl))
     (pss_one (ps_ret (pe_ix ix_list (pv 0) (pv 1) (fun _ _ => rfl))))
     pss_nil)
     (pss_one (ps_ret pe_int))), ?_⟩
  obtain ⟨B, a, sc1, k1, rfl, i0, hS, k⟩ := h
  have hS := ex_l i0 hS
  refine q_if1 (b := decide ((k1 : Int) < ((sc1.map V.int).length : Int))) (Ex.refl H) (et_test (ev_op (x := .int (k1 : Int)) (ev_var rfl) (ev_len (ev_var rfl) hS) rv_I0)) (fun z H1 e1 => ?_) (fun z H1 e1 => ?_)
  · have z : (k1 : Int) < ((sc1.map V.int).length : Int) := of_decide_eq_true z
    rw [List.length_map] at z
    have hk : k1 < sc1.length := by omega
    have hg : sc1[k1]? = some (sc1.getD k1 0) := by rw [List.getD_eq_getElem?_getD, List.getElem?_eq_getElem hk]; rfl
    exact s_ret (ev_op (x := .ref a) (y := .int (k1 : Int)) (ev_var rfl) (ev_var rfl) (rv_ixL (ex_l e1 hS) (atI_nat (j := k1) (by rw [List.getElem?_map, hg]; rfl)))) fun H2 e2 => k H2 (e1.trans e2)
  · have z : ¬ (k1 : Int) < ((sc1.map V.int).length : Int) := of_decide_eq_false z
    rw [List.length_map] at z
    have hg : sc1.getD k1 0 = 0 := by rw [List.getD_eq_getElem?_getD, List.getElem?_eq_none (by omega)]; rfl
    rw [hg] at k
    exact s_ret (ev_c (H := H1)) fun H2 e2 => k H2 (e1.trans e2)

abbrev n__law_numbers : List Str := ["_law_cell", "_law_salt", "_law_sizes", "_law_number", "_law_left", "_law_found", "_law_k", "_law_one"]
theorem sc__law_numbers : FnScope n__law_numbers ["_law_cell", "_law_salt", "_law_sizes"] (defScope s__law_numbers) := ⟨rfl, rfl, rfl, by decide +kernel, rfl, by decide +kernel, by decide +kernel⟩
theorem ok__law_numbers (T : Txt K mg CS CR CP aO)  : Callable P w K mg base 1 "_law_numbers" ["_law_cell", "_law_salt", "_law_sizes"] sp__law_numbers := by
  have sc := sc__law_numbers
  refine mkFn T.f__law_numbers sc (fun _ _ _ _ _ _ us hl => match us, hl with | [_, _, _], _ => rfl) (fun vs H Q E h => ?_) (fun f cdv A outer s H vs Q E hr h => ?_)
  · obtain ⟨B, W, i0, hd, _⟩ := h; exact hd.length
  refine ⟨_, (pss_cons (ps_set (i := 3) sc.nd rfl (Or.inl rfl) (pe_callB (id := "max") (call_max2S rfl) (by rfl) T.b_max (by decide +kernel) (pa_cons (pv 0) (pa_cons (pe_op op_sub (pe_un un_neg pe_int) (pv 0)) pa_nil))))
     (pss_cons (ps_set (i := 4) sc.nd rfl (Or.inl rfl) (pv 3))
     (pss_cons (ps_set (i := 5) sc.nd rfl (Or.inl rfl) (pe_lst pa_nil))
     (pss_cons (ps_for PassesOwn.never rfl (pi_range1 (by rfl) T.b_range (pa_cons (pe_callB (id := "len") call_lenS (by rfl) T.b_len (by decide +kernel) (pa_cons (pv 2) pa_nil)) pa_nil)) (pg_name (i := 6) sc.nd rfl (Or.inl rfl))
     (pss_one (ps_if (PW.pt (pw_and (pt_cmpR op_ge (pv 3) (pe_op op_pow pe_int pe_int) (by rfl)) (pw_and1 (pt_cmpR op_gt (pv 4) pe_int (by rfl)))))
     (pss_cons (ps_expr (pe_bm PySem.F.plainAttrs_list PySem.F.slot_list_append PySem.F.type_list_append mt_append (pv 5) (pa_cons (pe_op op_mod (pv 4) (pe_ix ix_list (pv 2) (pv 6) (fun _ _ => rfl))) pa_nil)))
     (pss_one (ps_set (i := 4) sc.nd rfl (Or.inl rfl) (pe_op op_fdiv (pv 4) (pe_ix ix_list (pv 2) (pv 6) (fun _ _ => rfl))))))
     (pss_cons (ps_set (i := 7) sc.nd rfl (Or.inl rfl) (pe_op op_mod (pe_op op_add (pe_op op_add (pe_op op_add (pv 3) (pe_op op_mul pe_int (pv 1))) (pe_op op_mul (pe_op op_mul pe_int (pv 6)) (pv 6))) (pv 6)) pe_int))
     (pss_cons (ps_set (i := 7) sc.nd rfl (Or.inl rfl) (pe_op op_mod (pe_op op_mul (pv 7) pe_int) pe_int))
     (pss_cons (ps_set (i := 7) sc.nd rfl (Or.inl rfl) (pe_op op_mod (pe_op op_mul (pe_op op_mod (pe_op op_mul (pv 7) (pv 7)) pe_int) pe_int) pe_int))
     (pss_one (ps_expr (pe_bm PySem.F.plainAttrs_list PySem.F.slot_list_append PySem.F.type_list_append mt_append (pv 5) (pa_cons (pe_op op_mod (pe_op op_fdiv (pv 7) pe_int) (pe_ix ix_list (pv 2) (pv 6) (fun _ _ => rfl))) pa_nil))))))))))
     (pss_one (ps_ret (pv 5))))))), ?_⟩
  obtain ⟨B, ⟨c, sa, sz⟩, i0, hd, ⟨hl100, hsz⟩, k⟩ := h
  have hl100 : sz.length ≤ 100 := hl100
  have hsz : ∀ s, s ∈ sz → 1 ≤ s ∧ s ≤ 1000 := hsz
  obtain ⟨x, y, z, rfl, h_cell, h_salt, h_sizes⟩ := DtL.three (d1 := .int c) (d2 := .int sa) (d3 := dNs sz) hd
  cases (show x = .int c from h_cell)
  cases (show y = .int sa from h_salt)
  refine q_asgD i0 (ed_max2 (ed_var rfl h_cell) (ed_opI (EvD.of (v := .int (-1)) (ev_un ev_c ru_neg) rfl) (ed_var rfl h_cell))) fun v B1 H1 S1 hv => ?_
  generalize hnum : (if (-1 - c) > c then (-1 - c) else c) = num at hv
  cases (show v = .int num from hv)
  refine q_asgD S1.i (ed_var rfl hv) fun v B2 H2 s2 hv2 => ?_
  cases (show v = .int num from hv2)
  have S2 := S1.trans s2
  refine q_new (EvL.mono S2.i el_new) fun l H3 hl e3 hl3 => ?_
  have S3 := S2.grow e3
  have hHl : H l = none := fresh_back S2.h hl
  have hBl : B2 l = none := fresh_back S2.i hl
  have hz2 := h_sizes.mono S2.b
  refine q_forR (n := sz.length) S3.i ((ed_len (ed_var rfl hz2)).eq (by rw [List.length_map])) (by omega) fun B4 H4 s4 => ⟨fun i σ' H' => ∃ left a6 a7 ds, σ' = [some (.int c), some (.int sa), some z, some (.int num), some (.int left), some (.ref l), a6, a7] ∧ Stp B H B4 H' ∧ H' l = some (.lst (ds.map nV)) ∧ ds.length = i ∧ ∀ (j : Nat) s, j < i → sz[j]? = some s → ∃ y, ds[j]? = some y ∧ y < s,
    ⟨num, none, none, [], rfl, S3.trans s4, s4.h l _ hl3, rfl, fun j s h => by omega⟩, fun i σ' H' hi ⟨left, a6, a7, ds, hσ, S, hll, hlen, hds⟩ => ?_, fun σ' H' ⟨left, a6, a7, ds, hσ, S, hll, hlen, hds⟩ => ?_⟩
  · subst hσ
    have hB4 : B4 l = none := s4.free hl3 hBl
    obtain ⟨s, hs⟩ : ∃ s, sz[i]? = some s := ⟨_, List.getElem?_eq_getElem hi⟩
    obtain ⟨hs1, hs2⟩ := hsz s (List.mem_of_getElem? hs)
    have hz4 := hz2.mono s4.b
    -- one more digit
    have more : ∀ (x : Nat) H' , x < s → Stp B H B4 H' → H' l = some (.lst (ds.map nV)) → (Stp B H B4 (upd H' l (.lst (ds.map nV ++ [nV x]))) ∧ (upd H' l (.lst (ds.map nV ++ [nV x]))) l = some (.lst ((ds ++ [x]).map nV)) ∧ (ds ++ [x]).length = i + 1 ∧ ∀ (j : Nat) s, j < i + 1 → sz[j]? = some s → ∃ y, (ds ++ [x])[j]? = some y ∧ y < s) := fun x H' hx S hll => by
      refine ⟨S.mut _ hHl hB4, by rw [upd_same, List.map_append]; rfl, by rw [List.length_append, hlen]; rfl, fun j s' hj hs' => ?_⟩
      rcases Nat.lt_or_eq_of_le (Nat.le_of_lt_succ hj) with h1 | h1
      · obtain ⟨y, h2, h3⟩ := hds j s' h1 hs'
        exact ⟨y, by rw [List.getElem?_append_left (by omega)]; exact h2, h3⟩
      · subst h1; rw [hs] at hs'; cases hs'
        exact ⟨x, by rw [List.getElem?_append_right (by omega), hlen, Nat.sub_self]; rfl, hx⟩
    refine s_ifB (b := decide (num ≥ 10 ^ (18 : Int).toNat) && decide (left > 0)) S.i (et_and (et_D (ed_cmp (ed_var (d := .int num) rfl rfl) (ed_opC (ed_int (i := 10)) (ed_int (i := 18)) ⟨by decide, by decide, by decide⟩))) fun _ => et_D (ed_cmp (ed_var (d := .int left) rfl rfl) ed_int)) (fun q H5 e5 => ?_) (fun q H5 e5 => ?_)
    · have S5 := S.grow e5
      obtain ⟨x, hx1, hx2⟩ := modN (i := left) hs1
      refine q_app S5.i (e5 l _ hll) (ev_var rfl) (d := dN x) ((ed_opC (ed_var (d := .int left) rfl rfl) (ed_ixL (ed_var rfl hz4) (ed_var (d := dN i) rfl rfl) (atI_some hs)) (show (0 : Int) < (s : Int) by omega)).eq (congrArg PyData.int hx1)) (by rw [List.length_map]; omega) fun yv B6 H6 s6 hy => ?_
      cases (show yv = nV x from hy)
      obtain ⟨m1, m2, m3, m4⟩ := more x H6 hx2 (S5.grow s6.h) (s6.h l _ (e5 l _ hll))
      refine s_asgD m1.i (ed_opC (f := fun i j => i / j) (ed_var (d := .int left) rfl rfl) (ed_ixL (ed_var rfl hz4) (ed_var (d := dN i) rfl rfl) (atI_some hs)) ⟨by omega, by omega⟩) fun v B7 H7 s7 hv => ?_
      cases (show v = .int (left / (s : Int)) from hv)
      exact ⟨_, _, _, ds ++ [x], rfl, m1.grow s7.h, s7.h _ _ m2, m3, m4⟩
    · have S5 := S.grow e5
      obtain ⟨o1, h1a, h1b⟩ := modN (i := num + 7919 * sa + 101 * (i : Int) * (i : Int) + (i : Int)) (s := 2147483647) (by decide)
      refine q_asgD S5.i (d := dN o1) ((ed_opC (ed_opI (ed_opI (ed_opI (ed_var (d := .int num) rfl rfl) (ed_opC (ed_int (i := 7919)) (ed_var (d := .int sa) rfl rfl) (Or.inl ⟨by decide, by decide⟩))) (ed_opC (ed_opC (ed_int (i := 101)) (ed_var (d := dN i) rfl rfl) (Or.inl ⟨by decide, by decide⟩)) (ed_var (d := dN i) rfl rfl) (Or.inr ⟨by omega, by omega⟩))) (ed_var (d := dN i) rfl rfl)) (ed_int (i := 2147483647)) (by decide)).eq (congrArg PyData.int h1a)) fun v B6 H6 s6 hv => ?_
      cases (show v = nV o1 from hv)
      have S6 := S5.grow s6.h
      obtain ⟨o2, h2a, h2b⟩ := modN (i := (o1 : Int) * 48271) (s := 2147483647) (by decide)
      refine q_asgD S6.i (d := dN o2) ((ed_opC (ed_opC (ed_var (d := dN o1) rfl rfl) (ed_int (i := 48271)) (Or.inr ⟨by decide, by decide⟩)) (ed_int (i := 2147483647)) (by decide)).eq (congrArg PyData.int h2a)) fun v B7 H7 s7 hv => ?_
      cases (show v = nV o2 from hv)
      have S7 := S6.grow s7.h
      obtain ⟨o3, h3a, h3b⟩ := modN (i := (o2 : Int) * (o2 : Int) % 2147483629 * 48271) (s := 2147483647) (by decide)
      refine q_asgD S7.i (d := dN o3) ((ed_opC (ed_opC (ed_opC (ed_opC (ed_var (d := dN o2) rfl rfl) (ed_var (d := dN o2) rfl rfl) (Or.inl ⟨by omega, by omega⟩)) (ed_int (i := 2147483629)) (by decide)) (ed_int (i := 48271)) (Or.inr ⟨by decide, by decide⟩)) (ed_int (i := 2147483647)) (by decide)).eq (congrArg PyData.int h3a)) fun v B8 H8 s8 hv => ?_
      cases (show v = nV o3 from hv)
      have S8 := S7.grow s8.h
      have hll8 := s8.h _ _ (s7.h _ _ (s6.h _ _ (e5 l _ hll)))
      obtain ⟨x, hx1, hx2⟩ := modN (i := (o3 : Int) / 16) hs1
      refine s_app S8.i hll8 (ev_var rfl) (d := dN x) ((ed_opC (ed_opC (f := fun i j => i / j) (ed_var (d := dN o3) rfl rfl) (ed_int (i := 16)) ⟨by decide, by decide⟩) (ed_ixL (ed_var rfl hz4) (ed_var (d := dN i) rfl rfl) (atI_some hs)) (show (0 : Int) < (s : Int) by omega)).eq (congrArg PyData.int hx1)) (by rw [List.length_map]; omega) fun yv B9 H9 s9 hy => ?_
      cases (show yv = nV x from hy)
      obtain ⟨m1, m2, m3, m4⟩ := more x H9 hx2 (S8.grow s9.h) (s9.h _ _ hll8)
      exact ⟨_, _, _, ds ++ [x], rfl, m1, m2, m3, m4⟩
  · subst hσ
    have hB4 : B4 l = none := s4.free hl3 hBl
    have S' := S.give hHl hB4 hll
    refine s_retD S'.i (ed_var rfl (Dt.ofNats upd_same)) fun v B5 H5 s5 hv => k v H5 B5 _ (S'.trans s5) hv ⟨ds, rfl, hlen, fun j s hs => hds j s (List.getElem?_eq_some_iff.mp hs).1 hs⟩

abbrev n__law_wished : List Str := ["_law_wishes_here", "_law_asker"]
theorem sc__law_wished : FnScope n__law_wished ["_law_wishes_here", "_law_asker"] (defScope s__law_wished) := ⟨rfl, rfl, rfl, by decide +kernel, rfl, by decide +kernel, by decide +kernel⟩
theorem ok__law_wished (T : Txt K mg CS CR CP aO)  : Callable P w K mg base 1 "_law_wished" ["_law_wishes_here", "_law_asker"] sp__law_wished := by
  have sc := sc__law_wished
  refine mkFn T.f__law_wished sc (fun _ _ _ _ _ _ us hl => match us, hl with | [_, _], _ => rfl) (fun vs H Q E h => ?_) (fun f cdv A outer s H vs Q E hr h => ?_)
  · obtain ⟨B, W, i0, hd, _⟩ := h; exact hd.length
  refine ⟨_, (pss_one (ps_ret (pe_callB (id := "sorted") cr_sortedI (by rfl) T.b_sorted (by decide +kernel) (pa_cons (pe_callB (id := "sum") (WkR.cr_sumLs rfl) (by rfl) T.b_sum (by decide +kernel) (pa_cons (pe_ix ix_list (pe_ix ix_tup (pv 0) pe_int (fun _ _ => rfl)) (pv 1) (fun _ _ => rfl)) (pa_cons (pe_lst pa_nil) pa_nil))) pa_nil)))), ?_⟩
  obtain ⟨B, ⟨W, a⟩, i0, hd, ⟨ok, ha⟩, k⟩ := h
  have ok : W.Ok := ok
  have ha : a < W.n := ha
  obtain ⟨x, y, rfl, h_wishes, h_asker⟩ := DtL.two (d1 := dW W) (d2 := dN a) hd
  obtain ⟨rs, hrs⟩ : ∃ rs, W.lists[a]? = some rs := ⟨_, List.getElem?_eq_getElem ha⟩
  have er := Wish.ranks_at hrs
  have hsm := (ok.rk rs (List.mem_of_getElem? hrs)).small
  have hm6 := ok.m6
  have hp := wished_perm ok ha
  rw [er] at hp
  refine s_retD i0 ((ed_sorted (ns := rs.flatten.map fun t : Nat => (t : Int)) (ms := (wished W a).map fun t : Nat => (t : Int)) ((ed_sumLs (rs := rs) (ed_ixL (ed_ixT (ed_var rfl h_wishes) ed_int rfl) (ed_var rfl h_asker) (atI_some hrs)) (by omega)).eq (dNs_ints _)) (hp.map _) (wished_sorted W a)).eq (d2 := dNs (wished W a)) (dNs_ints _).symm) fun v B4 H4 s4 hv => k v H4 B4 _ s4 hv rfl

abbrev n__law_is_number : List Str := ["_law_thing"]
theorem sc__law_is_number : FnScope n__law_is_number ["_law_thing"] (defScope s__law_is_number) := ⟨rfl, rfl, rfl, by decide +kernel, rfl, by decide +kernel, by decide +kernel⟩
theorem ok__law_is_number (T : Txt K mg CS CR CP aO)  : Callable P w K mg base 1 "_law_is_number" ["_law_thing"] sp__law_is_number := by
  have sc := sc__law_is_number
  refine mkFn T.f__law_is_number sc (fun _ _ _ _ _ _ us hl => match us, hl with | [_], _ => rfl) (fun vs H Q E h => ?_) (fun f cdv A outer s H vs Q E hr h => ?_)
  · obtain ⟨B, ds, i0, hd, ⟨i, rfl⟩, k⟩ := h; exact hd.length
  refine ⟨_, (pss_one (ps_ret (pe_and (pe_callB (id := "isinstance") call_isi (by rfl) T.b_isinstance (by decide +kernel) (pa_cons (pv 0) (pa_cons (pe_bltn (v := .ty "int") (u := .type "int") (by rfl) T.b_int (by decide +kernel) rfl) pa_nil))) (pe_one (pe_not (pe_callB (id := "isinstance") call_isi (by rfl) T.b_isinstance (by decide +kernel) (pa_cons (pv 0) (pa_cons (pe_bltn (v := .ty "bool") (u := .type "bool") (by rfl) T.b_bool (by decide +kernel) rfl) pa_nil)))))))), ?_⟩
  obtain ⟨B, ds, i0, hd, ⟨i, rfl⟩, k⟩ := h
  obtain ⟨x, rfl, h_thing⟩ := hd.one
  exact s_retD i0 (ed_andV (ed_isi (ed_var rfl h_thing) kt_int) fun _ => ed_notV (ed_isi (ed_var rfl h_thing) kt_int_bool)) fun v B2 H2 s hv => k v H2 B2 _ s hv rfl

abbrev n__law_is_dealing : List Str := ["_law_wishes_here", "_law_thing", "_law_asker", "_law_one"]
theorem sc__law_is_dealing : FnScope n__law_is_dealing ["_law_wishes_here", "_law_thing"] (defScope s__law_is_dealing) := ⟨rfl, rfl, rfl, by decide +kernel, rfl, by decide +kernel, by decide +kernel⟩
theorem ok__law_is_dealing (T : Txt K mg CS CR CP aO) (c__law_wished : Callable P w K mg base 1 "_law_wished" ["_law_wishes_here", "_law_asker"] sp__law_wished) (c__law_is_number : Callable P w K mg base 1 "_law_is_number" ["_law_thing"] sp__law_is_number) : Callable P w K mg base 2 "_law_is_dealing" ["_law_wishes_here", "_law_thing"] sp__law_is_dealing := by
  have sc := sc__law_is_dealing
  refine mkFn T.f__law_is_dealing sc (fun _ _ _ _ _ _ us hl => match us, hl with | [_, _], _ => rfl) (fun vs H Q E h => ?_) (fun f cdv A outer s H vs Q E hr h => ?_)
  · obtain ⟨B, W, i0, hd, _⟩ := h; exact hd.length
  refine ⟨_, (pss_cons (ps_if (PW.pt (pw_or (pt_not (pt_val (pe_callB (id := "isinstance") call_isi (by rfl) T.b_isinstance (by decide +kernel) (pa_cons (pv 1) (pa_cons (pe_bltn (v := .ty "list") (u := .type "list") (by rfl) T.b_list (by decide +kernel) rfl) pa_nil))))) (pw_or1 (pt_cmpR op_ne (pe_callB (id := "len") call_lenS (by rfl) T.b_len (by decide +kernel) (pa_cons (pv 1) pa_nil)) (pe_callB (id := "len") call_lenS (by rfl) T.b_len (by decide +kernel) (pa_cons (pe_ix ix_tup (pv 0) pe_int (fun _ _ => rfl)) pa_nil)) (by rfl)))))
     (pss_one (ps_ret pe_bl))
     pss_nil)
     (pss_cons (ps_for PassesOwn.never rfl (pi_enum (by rfl) T.b_enumerate (pa_cons (pv 1) pa_nil)) (pg_tup rfl (pgs_cons (pg_name (i := 2) sc.nd rfl (Or.inl rfl)) (pgs_cons (pg_name (i := 3) sc.nd rfl (Or.inl rfl)) pgs_nil)))
     (pss_cons (ps_if (PW.pt (pw_and (pt_cmp (pc_notN (pv 3))) (pw_and1 (PW.pt (pw_or (pt_not (pt_val (pe_fn c__law_is_number (hr.mono (by decide)) (by rfl) (pa_cons (pv 3) pa_nil)))) (pw_or1 (pt_cmpR op_notIn_seq (pv 3) (pe_fn c__law_wished (hr.mono (by decide)) (by rfl) (pa_cons (pv 0) (pa_cons (pv 2) pa_nil))) (by rfl))))))))
     (pss_one (ps_ret pe_bl))
     pss_nil)
     (pss_one (ps_if (PW.pt (pw_and (pt_cmp (pc_notN (pv 3))) (pw_and1 (pt_cmpR op_gt (pe_bm PySem.F.plainAttrs_list PySem.F.slot_list_count PySem.F.type_list_count WkR.mt_countF (pv 1) (pa_cons (pv 3) pa_nil)) (pe_ix ix_list (pe_ix ix_tup (pv 0) pe_int (fun _ _ => rfl)) (pv 3) (fun _ _ => rfl)) (by rfl)))))
     (pss_one (ps_ret pe_bl))
     pss_nil))))
     (pss_one (ps_ret pe_bl)))), ?_⟩
  obtain ⟨B, ⟨W, d⟩, i0, hd, ok, k⟩ := h
  have ok : W.Ok := ok
  obtain ⟨x, y, rfl, h_wishes, h_thing⟩ := DtL.two (d1 := dW W) (d2 := dDeal d) hd
  have S0 := Stp.refl i0
  have no : ∀ B' H', Stp B H B' H' → ¬ DealOk W d → ∀ v B5 H5, Stp B' H' B5 H5 → Dt B5 (.bool false) v → Q v H5 := fun B' H' S hn v B5 H5 s hv => k v H5 B5 _ (S.trans s) hv ⟨false, rfl, ⟨(fun z => by cases z), fun z => absurd z hn⟩⟩
  refine q_if1 i0 (et_or (et_not (et_DB (ed_isi (ed_var rfl h_thing) kt_list))) fun _ => et_D (ed_ne (b := !decide (d.length = W.lists.length)) (ed_len (ed_var rfl h_thing)) (ed_len (ed_ixT (ed_var rfl h_wishes) ed_int rfl)) rfl rfl rfl (by rw [List.length_map, List.length_map]; simp [fV]; omega))) (fun z H1 e1 => ?_) (fun z H1 e1 => ?_)
  · have z : d.length ≠ W.lists.length := by simpa using z
    exact s_retD (S0.grow e1).i ed_bl (no B H1 (S0.grow e1) fun h => z h.len)
  · have z : d.length = W.lists.length := by simpa using z
    have S1 := S0.grow e1
    refine q_forE S1.i (ed_var rfl h_thing) fun B3 H3 s3 => ⟨fun i σ' H' => ∃ a2 a3, σ' = [some x, some y, a2, a3] ∧ Stp B H B3 H' ∧ ∀ (a t : Nat), a < i → d[a]? = some (some t) → rankIn (W.ranks a) t ≠ 0 ∧ ∀ c, W.copies[t]? = some c → d.count (some t) ≤ c, ⟨none, none, rfl, S1.trans s3, fun a t h => by omega⟩, fun i σ' H' ⟨_, _, _, s, _⟩ => s.i, fun i du r σ' H' H'' hi hr ⟨a2, a3, hσ, S, hok⟩ e => ?_, fun σ' H' ⟨a2, a3, hσ, S, hok⟩ => ?_⟩
    · subst hσ
      rw [List.getElem?_map] at hi
      obtain ⟨o, ho, rfl⟩ := Option.map_eq_some_iff.mp hi
      have hin : i < W.n := by have := (List.getElem?_eq_some_iff.mp ho).1; show i < W.lists.length; omega
      have S2 := S.grow e
      have hw3 := h_wishes.mono s3.b
      have ht3 := h_thing.mono s3.b
      cases o with
      | none =>
        refine q_skip (b := false) S2.i (et_is (et_and (b := true) (et_DB (ed_notN (ed_var rfl hr))) fun z => by cases z) rfl) rfl fun H4 e4 => ?_
        refine s_no (b := false) (S2.grow e4).i (et_is (et_and (b := true) (et_DB (ed_notN (ed_var rfl hr))) fun z => by cases z) rfl) rfl fun H5 e5 => ?_
        refine ⟨_, _, rfl, (S2.grow e4).grow e5, fun a t hj ha => ?_⟩
        rcases Nat.lt_or_eq_of_le (Nat.le_of_lt_succ hj) with h1 | h1
        · exact hok a t h1 ha
        · subst h1; rw [ho] at ha; cases ha
      | some t =>
        refine q_if1 (b := !decide (t ∈ wished W i)) S2.i (et_is (et_and (et_DB (ed_notN (ed_var rfl hr))) fun _ => et_or (et_not (et_DB (ed_call (ea_consD (ed_var rfl hr) ea_nilD) ⟨_, rfl⟩ fun _ z => z))) fun _ => et_D (ed_in (b := !decide (t ∈ wished W i)) (d := dN t) (ed_var rfl hr) (ed_callA (W, i) (ea_consD (ed_var rfl hw3) (ea_consD (ed_var (d := dN i) rfl rfl) ea_nilD)) ⟨ok, hin⟩ fun _ z => z) rfl (flat_dN _) (by rw [if_pos rfl]; exact congrArg _ (mem_inV t _)))) (by simp [isNo, dO])) (fun q H4 e4 => ?_) (fun q H4 e4 => ?_)
        · have q : t ∉ wished W i := by simpa using q
          exact s_retD (S2.grow e4).i ed_bl (no B3 H4 (S2.grow e4) fun h => q ((wished_mem ok).mpr (h.wish i t ho)))
        · have q : t ∈ wished W i := by simpa using q
          have htm := wished_lt q
          obtain ⟨c, hc⟩ : ∃ c, W.copies[t]? = some c := ⟨_, List.getElem?_eq_getElem htm⟩
          have S4 := S2.grow e4
          refine s_if1 (b := decide (((d.count (some t) : Nat) : Int) > (c : Int))) S4.i (et_is (et_and (et_DB (ed_notN (ed_var rfl hr))) fun _ => et_D (ed_cmp (ed_count (dx := dN t) (ed_var rfl ht3) (ed_var rfl hr) (flat_dO _) rfl (countP_dO t d)) (ed_ixL (ed_ixT (ed_var rfl hw3) ed_int rfl) (ed_var rfl hr) (atI_some hc)))) (by simp [isNo, dO])) (fun q2 H5 e5 => ?_) (fun q2 H5 e5 => ?_)
          · have q2 : ((d.count (some t) : Nat) : Int) > (c : Int) := of_decide_eq_true q2
            exact s_retD (S4.grow e5).i ed_bl (no B3 H5 (S4.grow e5) fun h => by have := h.cop t c hc; omega)
          · have q2 : ¬ ((d.count (some t) : Nat) : Int) > (c : Int) := of_decide_eq_false q2
            refine ⟨_, _, rfl, S4.grow e5, fun a u hj ha => ?_⟩
            rcases Nat.lt_or_eq_of_le (Nat.le_of_lt_succ hj) with h1 | h1
            · exact hok a u h1 ha
            · subst h1; rw [ho] at ha; cases ha
              exact ⟨(wished_mem ok).mp q, fun c' hc' => by rw [hc] at hc'; cases hc'; omega⟩
    · subst hσ
      refine s_retD S.i ed_bl fun v B5 H5 s5 hv => k v H5 B5 _ (S.trans s5) hv ⟨true, rfl, ⟨fun _ => ⟨z, fun a t ha => (hok a t (by rw [List.length_map]; exact (List.getElem?_eq_some_iff.mp ha).1) ha).1, fun t c hc => ?_⟩, fun _ => rfl⟩⟩
      by_cases hm : (some t) ∈ d
      · obtain ⟨a, ha⟩ := List.getElem?_of_mem hm
        exact (hok a t (by rw [List.length_map]; exact (List.getElem?_eq_some_iff.mp ha).1) ha).2 c hc
      · rw [List.count_eq_zero_of_not_mem hm]; exact Nat.zero_le _

abbrev n__law_place : List Str := ["_law_wishes_here", "_law_asker", "_law_thing"]
theorem sc__law_place : FnScope n__law_place ["_law_wishes_here", "_law_asker", "_law_thing"] (defScope s__law_place) := ⟨rfl, rfl, rfl, by decide +kernel, rfl, by decide +kernel, by decide +kernel⟩
theorem ok__law_place (T : Txt K mg CS CR CP aO) (c__law_longest : Callable P w K mg base 1 "_law_longest" ["_law_wishes_here"] sp__law_longest) (c__law_rank : Callable P w K mg base 1 "_law_rank" ["_law_wishes_here", "_law_asker", "_law_thing"] sp__law_rank) : Callable P w K mg base 2 "_law_place" ["_law_wishes_here", "_law_asker", "_law_thing"] sp__law_place := by
  have sc := sc__law_place
  refine mkFn T.f__law_place sc (fun _ _ _ _ _ _ us hl => match us, hl with | [_, _, _], _ => rfl) (fun vs H Q E h => ?_) (fun f cdv A outer s H vs Q E hr h => ?_)
  · obtain ⟨B, W, i0, hd, _⟩ := h; exact hd.length
  refine ⟨_, (pss_cons (ps_if (pt_cmp (pc_isN (pv 2)))
     (pss_one (ps_ret (pe_op op_add (pe_fn c__law_longest (hr.mono (by decide)) (by rfl) (pa_cons (pv 0) pa_nil)) pe_int)))
     pss_nil)
     (pss_one (ps_ret (pe_fn c__law_rank (hr.mono (by decide)) (by rfl) (pa_cons (pv 0) (pa_cons (pv 1) (pa_cons (pv 2) pa_nil))))))), ?_⟩
  obtain ⟨B, ⟨W, a, o⟩, i0, hd, ⟨ok, ha, hr⟩, k⟩ := h
  have ok : W.Ok := ok
  have ha : a < W.n := ha
  have hr : ∀ t, o = some t → rankIn (W.ranks a) t ≠ 0 := hr
  obtain ⟨x, y, z, rfl, h_wishes, h_asker, h_thing⟩ := DtL.three (d1 := dW W) (d2 := dN a) (d3 := dO o) hd
  have S0 := Stp.refl i0
  refine q_if1 i0 (et_DB (ed_isN (ed_var rfl h_thing))) (fun q H1 e1 => ?_) (fun q H1 e1 => ?_)
  · rw [isNo_dO] at q
    obtain rfl : o = none := by cases o with | none => rfl | some t => cases q
    refine s_retD (S0.grow e1).i (ed_opI (ed_callA W (ea_consD (ed_var rfl h_wishes) ea_nilD) ok fun _ z => z) ed_int) fun v B4 H4 s4 hv => k v H4 B4 _ ((S0.grow e1).trans s4) hv ?_
    rfl
  · rw [isNo_dO] at q
    obtain ⟨t, rfl⟩ : ∃ t, o = some t := by cases o with | none => cases q | some t => exact ⟨t, rfl⟩
    refine s_retD (S0.grow e1).i (ed_callA (W, a, t) (ea_consD (ed_var rfl h_wishes) (ea_consD (ed_var rfl h_asker) (ea_consD (ed_var rfl h_thing) ea_nilD))) ha fun _ z => z) fun v B4 H4 s4 hv => k v H4 B4 _ ((S0.grow e1).trans s4) hv ?_
    show dN (rankIn (W.ranks a) t) = dN (place W.longest (rankIn (W.ranks a) t))
    unfold place
    rw [if_neg (hr t rfl)]

end
end Wk
namespace Wk
open PySem L2 Evl Wd
theorem cutD_nat {α : Type} (f : α → PyData) (l : List α) (a b : Nat) (ha : a ≤ l.length) (hb : b ≤ l.length) : cutD (l.map f) (some (a : Int)) (some (b : Int)) = ((l.drop a).take (b - a)).map f := by
  unfold cutD
  rw [List.length_map, HT.sIx_nat, HT.sIx_nat, Nat.min_eq_left ha, Nat.min_eq_left hb, List.map_take, List.map_drop]
theorem atI_end {α : Type} (f : α → PyData) {l : List α} {x : α} {n : Nat} (hl : l.length = n + 1) (h : l[n]? = some x) : atI (l.map f) (-1) = some (f x) := by
  unfold atI ixN
  rw [if_neg (by decide), if_pos (by rw [List.length_map]; omega), List.length_map]
  show (l.map f)[(((l.length : Nat) : Int) + -1).toNat]? = _
  rw [List.getElem?_map, show (((l.length : Nat) : Int) + -1).toNat = n by omega, h]; rfl
theorem ed_cell {K : PySem.W.Frag} {σ : L2.St} {B : Hp} {E : XK} {ta tb : TE} {a : Addr} {sc : List Int} {k : Nat} (ha : Ev ta σ B (.ref a)) (hS : SqL K B a (sc.map V.int)) (hb : EvD tb σ B (dN k)) : EvD (tCall (sp__law_cell_at K) [] E (tCons ta (tCons tb tNil))) σ B (.int (sc.getD k 0)) :=
  EvD.of (v := .int (sc.getD k 0)) (fun H1 e Q q => ha H1 e _ fun H2 e2 => hb.int H2 (e.trans e2) _ fun H3 e3 => ⟨B, a, sc, k, rfl, (e.trans e2).trans e3, hS, fun H4 e4 => q H4 ((e2.trans e3).trans e4)⟩) rfl
structure RkSt (m : Nat) (ps : List Nat) (k : Nat) (ranks : List (List Nat)) : Prop where
  len : ranks.length ≤ k
  ne : ∀ r, r ∈ ranks → r ≠ []
  nd : ranks.flatten.Nodup
  at' : ∀ t, t ∈ ranks.flatten → t < m ∧ 1 ≤ ps.getD t 0 ∧ ps.getD t 0 ≤ k
theorem RkSt.more {m : Nat} {ps : List Nat} {k : Nat} {ranks : List (List Nat)} (h : RkSt m ps k ranks) {row : List Nat} (hr : row = (List.range m).filter (fun t => decide (ps.getD t 0 = k + 1)) ∨ row = ((List.range m).filter (fun t => decide (ps.getD t 0 = k + 1))).reverse) (hne : row ≠ []) : RkSt m ps (k + 1) (ranks ++ [row]) := by
  have hmem : ∀ t, t ∈ row → t < m ∧ ps.getD t 0 = k + 1 := fun t ht => by
    have : t ∈ (List.range m).filter (fun t => decide (ps.getD t 0 = k + 1)) := by
      rcases hr with rfl | rfl
      · exact ht
      · exact List.mem_reverse.mp ht
    obtain ⟨h1, h2⟩ := List.mem_filter.mp this
    exact ⟨List.mem_range.mp h1, of_decide_eq_true h2⟩
  have hnd : row.Nodup := by
    have : ((List.range m).filter (fun t => decide (ps.getD t 0 = k + 1))).Nodup := List.nodup_range.sublist List.filter_sublist
    rcases hr with rfl | rfl
    · exact this
    · exact List.pairwise_reverse.mpr (this.imp Ne.symm)
  have hfl : (ranks ++ [row]).flatten = ranks.flatten ++ row := by rw [List.flatten_append]; simp
  refine ⟨by rw [List.length_append]; have := h.len; simp; omega, fun r hm => ?_, ?_, fun t ht => ?_⟩
  · rcases List.mem_append.mp hm with z | z
    · exact h.ne r z
    · rw [List.mem_singleton.mp z]; exact hne
  · rw [hfl]
    refine List.nodup_append.mpr ⟨h.nd, hnd, fun x hx y hy => ?_⟩
    have := (h.at' x hx).2.2
    have := (hmem y hy).2
    intro z; subst z; omega
  · rw [hfl] at ht
    rcases List.mem_append.mp ht with z | z
    · have := h.at' t z; exact ⟨this.1, this.2.1, by omega⟩
    · have := hmem t z; exact ⟨this.1, by omega, by omega⟩
theorem RkSt.stay {m : Nat} {ps : List Nat} {k : Nat} {ranks : List (List Nat)} (h : RkSt m ps k ranks) : RkSt m ps (k + 1) ranks :=
  ⟨by have := h.len; omega, h.ne, h.nd, fun t ht => by have := h.at' t ht; exact ⟨this.1, this.2.1, by omega⟩⟩
def tbl : List Nat := [1, 1, 2, 0, 3, 7, 1, 4, 5, 6, 1]

def sp__law_wishes (K : PySem.W.Frag) : Sp := fun vs H Q _ => ∃ (B : Hp) (a : Addr) (sc : List Int), vs = [.ref a, .int 1, .int 6, .int 7, .int 5] ∧ Ex B H ∧ SqL K B a (sc.map V.int) ∧ ∀ v H' B' W, Stp B H B' H' → Dt B' (dW W) v → W.Ok → Q v H'
section
variable {P : Program} {w : World} {K : PySem.W.Frag} {mg : Str → Option Value} {base : Heap} {CS CR CP aO : Addr}
abbrev n__law_wishes : List Str := ["_law_script", "_law_at", "_law_most_things", "_law_most_askers", "_law_most_ranks", "_law_sizes", "_law_digits", "_law_copies", "_law_lists", "_law_asker", "_law_cell", "_law_places", "_law_ranks", "_law_rank_here", "_law_row", "_law_digit", "_law_thing"]
theorem sc__law_wishes : FnScope n__law_wishes ["_law_script", "_law_at", "_law_most_things", "_law_most_askers", "_law_most_ranks"] (defScope s__law_wishes) := ⟨rfl, rfl, rfl, by decide +kernel, rfl, by decide +kernel, by decide +kernel⟩
theorem ok__law_wishes (T : Txt K mg CS CR CP aO) (c__law_numbers : Callable P w K mg base 1 "_law_numbers" ["_law_cell", "_law_salt", "_law_sizes"] sp__law_numbers) (c__law_cell_at : Callable P w K mg base 1 "_law_cell_at" ["_law_script", "_law_k"] (sp__law_cell_at K)) : Callable P w K mg base 2 "_law_wishes" ["_law_script", "_law_at", "_law_most_things", "_law_most_askers", "_law_most_ranks"] (sp__law_wishes K) := by
  have sc := sc__law_wishes
  refine mkFn T.f__law_wishes sc (fun _ _ _ _ _ _ us hl => match us, hl with | [_, _, _, _, _], _ => rfl) (fun vs H Q E h => ?_) (fun f cdv A outer s H vs Q E hr h => ?_)
  · obtain ⟨B, a, sc1, rfl, _⟩ := h; rfl
  refine ⟨_, (pss_cons (ps_set (i := 5) sc.nd rfl (Or.inl rfl) (pe_op op_cat (pe_lst (pa_cons (pv 2) (pa_cons (pv 3) pa_nil))) (pe_op op_rep (pe_lst (pa_cons pe_int pa_nil)) (pv 2))))
     (pss_cons (ps_set (i := 6) sc.nd rfl (Or.inl rfl) (pe_fn c__law_numbers (hr.mono (by decide)) (by rfl) (pa_cons (pe_fn c__law_cell_at (hr.mono (by decide)) (by rfl) (pa_cons (pv 0) (pa_cons (pv 1) pa_nil))) (pa_cons (pv 1) (pa_cons (pv 5) pa_nil)))))
     (pss_cons (ps_setLc (i := 7) (own := [("_law_digit", 15)]) (g := gName 15) (tt := tYes) rfl sc.nd rfl rfl (sw_true rfl rfl rfl (by decide +kernel)) (pi_list (pe_slice sl_list (pv 6) (po_some pe_int) (po_some (pe_op op_add pe_int (pe_ix ix_list (pv 6) pe_int (fun _ _ => rfl)))))) (blkOk_by (own := [("_law_digit", 15)]) (N := n__law_wishes) (sc := defScope s__law_wishes) (by decide +kernel)) (fun _ _ _ _ _ => (pg_name (i := 15) sc.nd rfl (Or.inl rfl))) (fun _ _ _ _ _ => pts_nil) (fun _ _ _ _ _ => (pe_ix (ixLK K) (pe_lst (pa_cons pe_int (pa_cons pe_int (pa_cons pe_int (pa_cons pe_int (pa_cons pe_int (pa_cons pe_int (pa_cons pe_int (pa_cons pe_int (pa_cons pe_int (pa_cons pe_int (pa_cons pe_int pa_nil)))))))))))) (pv 15) (fun _ _ => rfl))))
     (pss_cons (ps_set (i := 8) sc.nd rfl (Or.inl rfl) (pe_lst pa_nil))
     (pss_cons (ps_for PassesOwn.never rfl (pi_range1 (by rfl) T.b_range (pa_cons (pe_op op_add pe_int (pe_ix ix_list (pv 6) pe_int (fun _ _ => rfl))) pa_nil)) (pg_name (i := 9) sc.nd rfl (Or.inl rfl))
     (pss_cons (ps_set (i := 10) sc.nd rfl (Or.inl rfl) (pe_fn c__law_cell_at (hr.mono (by decide)) (by rfl) (pa_cons (pv 0) (pa_cons (pe_op op_add (pe_op op_add (pv 1) pe_int) (pv 9)) pa_nil))))
     (pss_cons (ps_set (i := 11) sc.nd rfl (Or.inr rfl) (pe_fn c__law_numbers (hr.mono (by decide)) (by rfl) (pa_cons (pv 10) (pa_cons (pe_op op_add (pe_op op_add (pe_op op_mul pe_int (pv 1)) (pe_op op_mul pe_int (pv 9))) pe_int) (pa_cons (pe_op op_cat (pe_op op_rep (pe_lst (pa_cons (pe_op op_add (pv 4) pe_int) pa_nil)) (pv 2)) (pe_lst (pa_cons pe_int pa_nil))) pa_nil)))))
     (pss_cons (ps_set (i := 12) sc.nd rfl (Or.inl rfl) (pe_lst pa_nil))
     (pss_cons (ps_for PassesOwn.never rfl (pi_range2 (by rfl) T.b_range (pa_cons pe_int (pa_cons (pe_op op_add (pv 4) pe_int) pa_nil))) (pg_name (i := 13) sc.nd rfl (Or.inr rfl))
     (pss_cons (ps_setLc (i := 14) (own := [("_law_thing", 16)]) (g := gName 16) rfl sc.nd rfl rfl (sw_true rfl rfl rfl (by decide +kernel)) (pi_range1 (by rfl) T.b_range (pa_cons (pe_callB (id := "len") call_lenS (by rfl) T.b_len (by decide +kernel) (pa_cons (pv 7) pa_nil)) pa_nil)) (blkOk_by (own := [("_law_thing", 16)]) (N := n__law_wishes) (sc := defScope s__law_wishes) (by decide +kernel)) (fun _ _ _ _ _ => (pg_name (i := 16) sc.nd rfl (Or.inl rfl))) (fun _ _ _ _ _ => pts_one (pt_cmpR op_eq (pe_ix (ixLK K) (pv 11) (pv 16) (fun _ _ => rfl)) (pv 13) (by rfl))) (fun _ _ _ _ _ => (pv 16)))
     (pss_one (ps_if (pt_cmpR (op_neD hr.units) (pv 14) (pe_lst pa_nil) (by rfl))
     (pss_one (ps_expr (pe_bm PySem.F.plainAttrs_list PySem.F.slot_list_append PySem.F.type_list_append mt_append (pv 12) (pa_cons (pe_ix ix_list (pe_lst (pa_cons (pv 14) (pa_cons (pe_revL (pv 14)) pa_nil))) (pe_ix ix_list (pv 11) (pe_un un_neg pe_int) (fun _ _ => rfl)) (fun _ _ => rfl)) pa_nil))))
     pss_nil))))
     (pss_one (ps_expr (pe_bm PySem.F.plainAttrs_list PySem.F.slot_list_append PySem.F.type_list_append mt_append (pv 8) (pa_cons (pv 12) pa_nil)))))))))
     (pss_one (ps_ret (pe_tup (pa_cons (pv 7) (pa_cons (pv 8) pa_nil)))))))))), ?_⟩
  obtain ⟨B, a0, sc1, rfl, i0, hS, k⟩ := h
  refine q_asgD i0 (d := dNs [6, 7, 11, 11, 11, 11, 11, 11]) (ed_cat (ed_lst (ea_consD (ed_var (d := .int 6) rfl rfl) (ea_consD (ed_var (d := .int 7) rfl rfl) ea_nilD)) (by decide)) (ed_rep (n := 6) (ed_lst (ea_consD (ed_int (i := 11)) ea_nilD) (by decide)) (ed_var (d := .int 6) rfl rfl) (by decide)) (by decide)) fun vz B1 H1 S1 hz => ?_
  refine q_asgP S1.i (ep_callA (sc1.getD 1 0, 1, [6, 7, 11, 11, 11, 11, 11, 11]) (ea_consD (ed_cell (k := 1) (ev_var rfl) (ex_l S1.b hS) (ed_var (d := .int 1) rfl rfl)) (ea_consD (ed_var (d := .int 1) rfl rfl) (ea_consD (ed_var rfl hz) ea_nilD))) ⟨by show 8 ≤ 100; decide, by show ∀ s, s ∈ ([6, 7, 11, 11, 11, 11, 11, 11] : List Nat) → 1 ≤ s ∧ s ≤ 1000; decide⟩) fun vg B2 H2 dd s2 hg hp => ?_
  obtain ⟨ds, rfl, hdl, hdj⟩ := hp
  have hdl : ds.length = 8 := hdl
  have S2 := S1.trans s2
  obtain ⟨d0, hd0, hd06⟩ := hdj 0 6 rfl
  obtain ⟨d1, hd1, hd17⟩ := hdj 1 7 rfl
  have hds : ∀ j x, 2 ≤ j → ds[j]? = some x → x < 11 := fun j x hj hx => by
    have hlt := (List.getElem?_eq_some_iff.mp hx).1
    rw [hdl] at hlt
    have : ([6, 7, 11, 11, 11, 11, 11, 11] : List Nat)[j]? = some 11 := by
      have h : ∀ j : Fin 8, 2 ≤ j.val → ([6, 7, 11, 11, 11, 11, 11, 11] : List Nat)[j.val]? = some 11 := by decide
      exact h ⟨j, hlt⟩ hj
    obtain ⟨y, h1, h2⟩ := hdj j 11 this
    rw [hx] at h1; cases h1; exact h2
  -- copies
  have hcut : ((ds.drop 2).take (1 + d0)).length = 1 + d0 := by rw [List.length_take, List.length_drop]; omega
  refine q_asgD S2.i (d := dNs (((ds.drop 2).take (1 + d0)).map fun x => tbl.getD x 0)) (EvD.eq (ed_lcL (f := fun _ => true) (v := fun i => dN ((((ds.drop 2).take (1 + d0)).map fun x => tbl.getD x 0).getD i 0)) (ds := ((ds.drop 2).take (1 + d0)).map dN) ((ed_sl (ed_var rfl hg) (eo_someD (i := ((2 : Nat) : Int)) ed_int) (eo_someD (i := ((3 + d0 : Nat) : Int)) ((ed_opI (ed_int (i := 3)) (ed_ixL (ed_var rfl hg) (ed_int (i := 0)) (atI_nat (j := 0) (v := dN d0) (by rw [List.getElem?_map, hd0]; rfl)))).eq (by show PyData.int _ = .int _; congr 1)))).eq (by rw [cutD_nat dN ds 2 (3 + d0) (by omega) (by omega), show 3 + d0 - 2 = 1 + d0 by omega])) (by rw [List.length_map, hcut]; omega) (fun _ => rfl) (fun _ _ _ _ _ _ _ => et_yes) (fun B' e i dx y hi _ hy => ?_)) ?_) fun vc B3 H3 s3 hc => ?_
  · rw [List.getElem?_map] at hi
    obtain ⟨u, hu, rfl⟩ := Option.map_eq_some_iff.mp hi
    have hu11 : u < 11 := by
      have hi2 := (List.getElem?_eq_some_iff.mp hu).1
      rw [hcut] at hi2
      rw [List.getElem?_take_of_lt hi2, List.getElem?_drop] at hu
      exact hds (2 + i) u (by omega) hu
    refine (ed_ixL (d := dN (tbl.getD u 0)) (ed_lst (ds := tbl.map dN) (ea_consD ed_int (ea_consD ed_int (ea_consD ed_int (ea_consD ed_int (ea_consD ed_int (ea_consD ed_int (ea_consD ed_int (ea_consD ed_int (ea_consD ed_int (ea_consD ed_int (ea_consD ed_int ea_nilD))))))))))) (by decide)) (ed_var rfl hy) (atI_some (by rw [List.getD_eq_getElem?_getD, List.getElem?_eq_getElem (show u < tbl.length from hu11)]; rfl))).eq ?_
    rw [List.getD_eq_getElem?_getD (l := ((ds.drop 2).take (1 + d0)).map fun x => tbl.getD x 0), List.getElem?_map, hu]; rfl
  · have el : (((ds.drop 2).take (1 + d0)).map dN).length = (((ds.drop 2).take (1 + d0)).map fun x => tbl.getD x 0).length := by rw [List.length_map, List.length_map]
    rw [el, gl_map dN]; rfl
  generalize hcs : (((ds.drop 2).take (1 + d0)).map fun x => tbl.getD x 0) = cs at hc
  have hm : cs.length = 1 + d0 := by rw [← hcs, List.length_map, hcut]
  have hc7 : ∀ c, c ∈ cs → c ≤ 7 := fun c hc => by
    rw [← hcs] at hc
    obtain ⟨u, hu, rfl⟩ := List.mem_map.mp hc
    have h : ∀ u : Nat, tbl.getD u 0 ≤ 7 := fun u => by
      by_cases hu : u < 11
      · have h : ∀ j : Fin 11, tbl.getD j.val 0 ≤ 7 := by decide
        exact h ⟨u, hu⟩
      · rw [List.getD_eq_getElem?_getD, List.getElem?_eq_none (show tbl.length ≤ u by show 11 ≤ u; omega)]; decide
    exact h u
  have S3 := S2.trans s3
  have hg3 := hg.mono s3.b
  -- lists
  refine q_new (EvL.mono S3.i el_new) fun ll H4 hll e4 hll4 => ?_
  have S4 := S3.grow e4
  have hHll : H ll = none := fresh_back S3.h hll
  have hBll : B3 ll = none := fresh_back S3.i hll
  refine q_forR (n := 1 + d1) S4.i ((ed_opI (ed_int (i := 1)) (ed_ixL (ed_var rfl hg3) (ed_int (i := 1)) (atI_nat (j := 1) (v := dN d1) (by rw [List.getElem?_map, hd1]; rfl)))).eq (by show PyData.int _ = .int _; congr 1)) (by omega) fun B5 H5 s5 => ⟨fun i σ' H' => ∃ (lists : List (List (List Nat))) (xs : List V) (a9 a10 a11 a12 a13 a14 : Option V) (B' : Hp), σ' = [some (.ref a0), some (.int 1), some (.int 6), some (.int 7), some (.int 5), some vz, some vg, some vc, some (.ref ll), a9, a10, a11, a12, a13, a14, none, none] ∧ Stp B H B' H' ∧ Ex B5 B' ∧ B' ll = none ∧ H' ll = some (.lst xs) ∧ DtL B' (lists.map dRs) xs ∧ lists.length = i ∧ ∀ rs, rs ∈ lists → RanksOk cs.length rs,
    ⟨[], [], none, none, none, none, none, none, B5, rfl, S4.trans s5, Ex.refl _, s5.free hll4 hBll, s5.h _ _ hll4, rfl, rfl, fun rs h => absurd h List.not_mem_nil⟩, fun i σ' H' hi ⟨lists, xs, a9, a10, a11, a12, a13, a14, B6, hσ, S, e56, hB6, hll6, hxs, hlen, hok⟩ => ?_, fun σ' H' ⟨lists, xs, a9, a10, a11, a12, a13, a14, B6, hσ, S, e56, hB6, hll6, hxs, hlen, hok⟩ => ?_⟩
  · subst hσ
    have e06 : Ex B B6 := S.b
    refine q_asgD S.i (ed_cell (k := 2 + i) (ev_var rfl) (ex_l e06 hS) ((ed_opI (ed_opI (ed_var (d := .int 1) rfl rfl) (ed_int (i := 1))) (ed_var (d := dN i) rfl rfl)).eq (d2 := dN (2 + i)) (by show PyData.int _ = .int _; congr 1 <;> omega))) fun vce B7 H7 s7 hce => ?_
    have S7 := S.trans s7
    refine q_asgP S7.i (ep_callA (sc1.getD (2 + i) 0, 11 * 1 + 3 * (i : Int) + 1, [6, 6, 6, 6, 6, 6, 2]) (ea_consD (ed_var rfl hce) (ea_consD (ed_opI (ed_opI (ed_opC (ed_int (i := 11)) (ed_var (d := .int 1) rfl rfl) (Or.inl ⟨by decide, by decide⟩)) (ed_opC (ed_int (i := 3)) (ed_var (d := dN i) rfl rfl) (Or.inl ⟨by decide, by decide⟩))) (ed_int (i := 1))) (ea_consD (ed_cat (ed_rep (n := 6) (ed_lst (ea_consD (ed_opI (ed_var (d := .int 5) rfl rfl) (ed_int (i := 1))) ea_nilD) (by show 1 ≤ 100000; decide)) (ed_var (d := .int 6) rfl rfl) (by decide)) (ed_lst (ea_consD (ed_int (i := 2)) ea_nilD) (by decide)) (by show 7 ≤ 100000; decide)) ea_nilD))) ⟨by show 7 ≤ 100; decide, by show ∀ s, s ∈ ([6, 6, 6, 6, 6, 6, 2] : List Nat) → 1 ≤ s ∧ s ≤ 1000; decide⟩) fun vp B8 H8 dd s8 hpl hp => ?_
    obtain ⟨ps, rfl, hpl7, hpj⟩ := hp
    have hpl7 : ps.length = 7 := hpl7
    have S8 := S7.trans s8
    obtain ⟨p6, hp6, hp62⟩ := hpj 6 2 rfl
    have e68 := s7.b.trans s8.b
    have hll8 := s8.h _ _ (s7.h _ _ hll6)
    have hB8 : B8 ll = none := s8.free (s7.h _ _ hll6) (s7.free hll6 hB6)
    refine q_new (EvL.mono S8.i el_new) fun lr H9 hlr e9 hlr9 => ?_
    have S9 := S8.grow e9
    have hHlr : H lr = none := fresh_back S8.h hlr
    have hBlr : B8 lr = none := fresh_back S8.i hlr
    have nlr : ll ≠ lr := fun z => by rw [← z, hll8] at hlr; cases hlr
    refine q_forR1 (n := 5) S9.i ((ed_opI (ed_var (d := .int 5) rfl rfl) (ed_int (i := 1))).eq rfl) (by decide) fun B10 H10 s10 => ⟨fun kk σ' H' => ∃ (ranks : List (List Nat)) (ys : List V) (a13 a14 : Option V) (B' : Hp), σ' = [some (.ref a0), some (.int 1), some (.int 6), some (.int 7), some (.int 5), some vz, some vg, some vc, some (.ref ll), some (.int (i : Int)), some vce, some vp, some (.ref lr), a13, a14, none, none] ∧ Stp B H B' H' ∧ Ex B10 B' ∧ B' ll = none ∧ B' lr = none ∧ H' ll = some (.lst xs) ∧ H' lr = some (.lst ys) ∧ DtL B' (ranks.map dNs) ys ∧ RkSt cs.length ps kk ranks,
      ⟨[], [], a13, a14, B10, rfl, S9.trans s10, Ex.refl _, s10.free (e9 _ _ hll8) hB8, s10.free hlr9 hBlr, s10.h _ _ (e9 _ _ hll8), s10.h _ _ hlr9, rfl, ⟨Nat.le_refl _, fun r h => absurd h List.not_mem_nil, List.nodup_nil, fun t h => absurd h List.not_mem_nil⟩⟩, fun kk σ' H' hk ⟨ranks, ys, a13, a14, B11, hσ, S, e1011, hBl, hBr, hl11, hr11, hys, hst⟩ => ?_, fun σ' H' ⟨ranks, ys, a13, a14, B11, hσ, S, e1011, hBl, hBr, hl11, hr11, hys, hst⟩ => ?_⟩
    · subst hσ
      have e311 : Ex B3 B11 := (((s5.b.trans e56).trans e68).trans s10.b).trans e1011
      have hc11 := hc.mono e311
      have hp11 := hpl.mono (s10.b.trans e1011)
      refine q_asgD S.i (d := dNs ((List.range cs.length).filter fun t => decide (ps.getD t 0 = kk + 1))) (ed_lcR (n := cs.length) (f := fun t => decide (ps.getD t 0 = kk + 1)) (v := dN) ((ed_len (ed_var rfl hc11)).eq (by rw [List.length_map])) (by omega) (fun _ => rfl) (fun B' e t ht => ?_) (fun B' e t ht _ => ed_var rfl rfl)) fun vr B12 H12 s12 hvr => ?_
      · obtain ⟨pt, hpt⟩ : ∃ pt, ps[t]? = some pt := ⟨_, List.getElem?_eq_getElem (by omega)⟩
        have hg : ps.getD t 0 = pt := by rw [List.getD_eq_getElem?_getD, hpt]; rfl
        rw [hg]
        exact et_D (ed_eq (d1 := dN pt) (d2 := dN (kk + 1)) (ed_ixL (ed_var rfl (hp11.mono e)) (ed_var (d := dN t) rfl rfl) (atI_some hpt)) (ed_var (d := dN (kk + 1)) rfl rfl) rfl rfl rfl ((dO_eq (some pt) (some (kk + 1))).trans (by simp)))
      · generalize hrow : ((List.range cs.length).filter fun t => decide (ps.getD t 0 = kk + 1)) = row at hvr
        have S12 := S.trans s12
        have hl12 := s12.h _ _ hl11
        have hr12 := s12.h _ _ hr11
        have hBl12 : B12 ll = none := s12.free hl11 hBl
        have hBr12 : B12 lr = none := s12.free hr11 hBr
        refine s_if1 (b := !decide (row = [])) S12.i (et_D (ed_neL (ed_var rfl hvr) (ed_lst ea_nilD (by decide)) (flat_dN _) rfl (by have := shaped_ints (row.map fun n : Nat => (n : Int)); rw [← dNs_ints] at this; exact this) rfl (by
            have h := eqv_ints (row.map fun n : Nat => (n : Int)) []
            rw [← dNs_ints] at h
            show (!PyData.eqv (dNs row) (dInts [])) = _
            rw [h]; simp))) (fun qq H13 e13 => ?_) (fun qq H13 e13 => ?_)
        · have hne : row ≠ [] := by simpa using qq
          have S13 := S12.grow e13
          have hrevD : EvD (tRevL K (tVar 14)) [some (.ref a0), some (.int 1), some (.int 6), some (.int 7), some (.int 5), some vz, some vg, some vc, some (.ref ll), some (.int (i : Int)), some vce, some vp, some (.ref lr), some (.int ((kk : Int) + 1)), some vr, none, none] B12 (dNs row.reverse) := (ed_rev (ed_var rfl hvr)).eq (by show PyData.list _ = .list _; rw [List.map_reverse])
          refine s_app S13.i (e13 _ _ hr12) (ev_var rfl) (d := dNs (if p6 = 0 then row else row.reverse)) (ed_ixL (ed_lst (ea_consD (ed_var rfl hvr) (ea_consD hrevD ea_nilD)) (by show 2 ≤ 100000; decide)) (ed_ixL (ed_var rfl (hp11.mono s12.b)) (EvD.of (v := .int (-1)) (ev_un ev_c ru_neg) rfl) (atI_end dN hpl7 hp6)) ?_) (by have := hys.length; rw [List.length_map] at this; have := hst.len; omega) fun yv B14 H14 s14 hy => ?_
          · by_cases e0 : p6 = 0
            · rw [e0, if_pos rfl]; rfl
            · have : p6 = 1 := by omega
              rw [this, if_neg (by decide)]; rfl
          · have hBr14 : B14 lr = none := s14.free (e13 _ _ hr12) hBr12
            refine ⟨ranks ++ [if p6 = 0 then row else row.reverse], ys ++ [yv], _, _, B14, rfl, (S13.trans s14).mut _ hHlr hBr14, (e1011.trans s12.b).trans s14.b, s14.free (e13 _ _ hl12) hBl12, hBr14, by rw [upd_ne nlr]; exact s14.h _ _ (e13 _ _ hl12), upd_same, ?_, ?_⟩
            · rw [List.map_append]
              exact ((hys.mono s12.b).mono s14.b).append (.cons hy .nil)
            · refine hst.more ?_ ?_
              · rw [hrow]; split
                · exact Or.inl rfl
                · exact Or.inr rfl
              · split
                · exact hne
                · intro z; exact hne (List.reverse_eq_nil_iff.mp z)
        · refine ⟨ranks, ys, _, _, B12, rfl, S12.grow e13, e1011.trans s12.b, hBl12, hBr12, e13 _ _ hl12, e13 _ _ hr12, hys.mono s12.b, hst.stay⟩
    · subst hσ
      have S' := S.give hHlr hBr hr11
      have eg : Ex B11 (upd B11 lr (.lst ys)) := Ex.new hBr
      have hBl' : (upd B11 lr (.lst ys)) ll = none := by rw [upd_ne nlr]; exact hBl
      have hi7 : i < 7 := by omega
      refine s_app S'.i hl11 (ev_var rfl) (d := dRs ranks) (ed_var rfl (show Dt (upd B11 lr (.lst ys)) (dRs ranks) (.ref lr) from ⟨lr, ys, rfl, upd_same, hys.mono eg⟩)) (by have := hxs.length; rw [List.length_map] at this; omega) fun yv B14 H14 s14 hy => ?_
      have hBl14 : B14 ll = none := s14.free hl11 hBl'
      refine ⟨lists ++ [ranks], xs ++ [yv], _, _, _, _, _, _, B14, rfl, (S'.trans s14).mut _ hHll hBl14, ((((e56.trans e68).trans s10.b).trans e1011).trans eg).trans s14.b, hBl14, upd_same, ?_, by rw [List.length_append, hlen]; rfl, fun rs hrs => ?_⟩
      · rw [List.map_append]
        exact (hxs.mono (((((e68).trans s10.b).trans e1011).trans eg).trans s14.b)).append (.cons hy .nil)
      · rcases List.mem_append.mp hrs with z | z
        · exact hok rs z
        · rw [List.mem_singleton.mp z]
          exact ⟨hst.len, hst.ne, hst.nd, fun t ht => (hst.at' t ht).1⟩
  · subst hσ
    have S' := S.give hHll hB6 hll6
    have eg : Ex B6 (upd B6 ll (.lst xs)) := Ex.new hB6
    refine s_retD S'.i (ed_tup (ea_consD (ed_var rfl (hc.mono ((s5.b.trans e56).trans eg))) (ea_consD (ed_var (d := dLs lists) rfl (show Dt (upd B6 ll (.lst xs)) (dLs lists) (.ref ll) from ⟨ll, xs, rfl, upd_same, hxs.mono eg⟩)) ea_nilD)) (by show 2 ≤ 100000; decide)) fun v B7 H7 s7 hv => k v H7 B7 ⟨cs, lists⟩ (S'.trans s7) hv ⟨?_, ?_, hc7, ?_, ?_, hok⟩
    · show 1 ≤ cs.length; omega
    · show cs.length ≤ 6; omega
    · show 1 ≤ lists.length; omega
    · show lists.length ≤ 7; omega

end
end Wk
namespace Wk
open PySem L2 Evl Wd
theorem all_len : ∀ (n : Nat) (l : List Nat), (∀ t, t < n → t ∈ l) → n ≤ l.length
  | 0, _, _ => Nat.zero_le _
  | n + 1, l, h => by
    have hn := h n (by omega)
    have ih := all_len n (l.filter fun x => decide (x ≠ n)) fun t ht => List.mem_filter.mpr ⟨h t (by omega), decide_eq_true (by omega)⟩
    have : (l.filter fun x => decide (x ≠ n)).length < l.length := List.length_filter_lt_length_iff_exists.mpr ⟨n, hn, by simp⟩
    omega
theorem free_slot {n : Nat} {l : List Nat} (h : l.length < n) (d : Nat) (hd : d < n) : ∃ j, (d + j) % n ∉ l := by
  obtain ⟨t, ht, hn⟩ : ∃ t, t < n ∧ t ∉ l := by
    refine Classical.byContradiction fun z => ?_
    have := all_len n l fun t ht => Classical.byContradiction fun q => z ⟨t, ht, q⟩
    omega
  refine ⟨t + n - d, ?_⟩
  rw [show d + (t + n - d) = t + n by omega, Nat.add_mod_right, Nat.mod_eq_of_lt ht]
  exact hn
def ordOf : Nat → Ord
  | 0 => .firsts
  | 1 => .full
  | _ => .lasts
theorem ord_at {d : Nat} (h : d < 3) : atI [PyData.str "firsts", .str "full", .str "lasts"] (d : Int) = some (.str (Ord.str (ordOf d))) := by
  have : ∀ d : Fin 3, atI [PyData.str "firsts", .str "full", .str "lasts"] (d.val : Int) = some (.str (Ord.str (ordOf d.val))) := by
    intro d
    match d with
    | ⟨0, _⟩ => exact atI_nat (j := 0) rfl
    | ⟨1, _⟩ => exact atI_nat (j := 1) rfl
    | ⟨2, _⟩ => exact atI_nat (j := 2) rfl
  exact this ⟨d, h⟩
def szA (n m : Nat) : List Nat := [3, 2, n + 1] ++ List.replicate n (m + 1) ++ List.replicate n n
theorem szA_len (n m : Nat) : (szA n m).length = 3 + n + n := by unfold szA; simp; omega
theorem szA_old {n m j : Nat} (h : j < n) : (szA n m)[3 + j]? = some (m + 1) := by
  unfold szA
  rw [List.getElem?_append_left (by simp; omega), List.getElem?_append_right (by simp)]
  rw [List.getElem?_replicate, if_pos (by simp; omega)]
theorem szA_turn {n m j : Nat} (h : j < n) : (szA n m)[3 + n + j]? = some n := by
  unfold szA
  rw [List.getElem?_append_right (by simp; omega), List.getElem?_replicate, if_pos (by simp; omega)]
theorem szA_le {n m : Nat} (hn : 1 ≤ n ∧ n ≤ 7) (hm : m ≤ 6) : ∀ s, s ∈ szA n m → 1 ≤ s ∧ s ≤ 1000 := fun s hs => by
  unfold szA at hs
  rcases List.mem_append.mp hs with h | h
  · rcases List.mem_append.mp h with h | h
    · simp at h; omega
    · have := List.eq_of_mem_replicate h; omega
  · have := List.eq_of_mem_replicate h; omega

def sp__law_aim : Sp := SpA (fun x : Wish × Int × Int => [dW x.1, .int x.2.1, .int x.2.2]) (fun x => x.1.Ok) (fun x r => ∃ A : Aim, r = dAim A ∧ A.Ok x.1)
section
variable {P : Program} {w : World} {K : PySem.W.Frag} {mg : Str → Option Value} {base : Heap} {CS CR CP aO : Addr}
abbrev n__law_aim : List Str := ["_law_wishes_here", "_law_cell", "_law_salt", "_law_askers", "_law_sizes", "_law_digits", "_law_old", "_law_digit", "_law_turns"]
theorem sc__law_aim : FnScope n__law_aim ["_law_wishes_here", "_law_cell", "_law_salt"] (defScope s__law_aim) := ⟨rfl, rfl, rfl, by decide +kernel, rfl, by decide +kernel, by decide +kernel⟩
theorem ok__law_aim (T : Txt K mg CS CR CP aO) (c__law_numbers : Callable P w K mg base 1 "_law_numbers" ["_law_cell", "_law_salt", "_law_sizes"] sp__law_numbers) : Callable P w K mg base 2 "_law_aim" ["_law_wishes_here", "_law_cell", "_law_salt"] sp__law_aim := by
  have sc := sc__law_aim
  refine mkFn T.f__law_aim sc (fun _ _ _ _ _ _ us hl => match us, hl with | [_, _, _], _ => rfl) (fun vs H Q E h => ?_) (fun f cdv A outer s H vs Q E hr h => ?_)
  · obtain ⟨B, W, i0, hd, _⟩ := h; exact hd.length
  refine ⟨_, (pss_cons (ps_set (i := 3) sc.nd rfl (Or.inl rfl) (pe_callB (id := "len") call_lenS (by rfl) T.b_len (by decide +kernel) (pa_cons (pe_ix ix_tup (pv 0) pe_int (fun _ _ => rfl)) pa_nil)))
     (pss_cons (ps_set (i := 4) sc.nd rfl (Or.inl rfl) (pe_op op_cat (pe_lst (pa_cons pe_int (pa_cons pe_int (pa_cons (pe_op op_add (pv 3) pe_int) pa_nil)))) (pe_op op_rep (pe_lst (pa_cons (pe_op op_add (pe_callB (id := "len") call_lenS (by rfl) T.b_len (by decide +kernel) (pa_cons (pe_ix ix_tup (pv 0) pe_int (fun _ _ => rfl)) pa_nil)) pe_int) pa_nil)) (pv 3))))
     (pss_cons (ps_set (i := 5) sc.nd rfl (Or.inl rfl) (pe_fn c__law_numbers (hr.mono (by decide)) (by rfl) (pa_cons (pv 1) (pa_cons (pv 2) (pa_cons (pe_op op_cat (pv 4) (pe_op op_rep (pe_lst (pa_cons (pv 3) pa_nil)) (pv 3))) pa_nil)))))
     (pss_cons (ps_set (i := 6) sc.nd rfl (Or.inl rfl) pe_non)
     (pss_cut (ps_if (pt_cmpR op_eq (pe_ix ix_list (pv 5) pe_int (fun _ _ => rfl)) pe_int (by rfl))
     (pss_one (ps_setLc (i := 6) (own := [("_law_digit", 7)]) (g := gName 7) (tt := tYes) rfl sc.nd rfl rfl (sw_true rfl rfl rfl (by decide +kernel)) (pi_list (pe_slice sl_list (pv 5) (po_some pe_int) (po_some (pe_op op_add pe_int (pv 3))))) (blkOk_by (own := [("_law_digit", 7)]) (N := n__law_aim) (sc := defScope s__law_aim) (by decide +kernel)) (fun _ _ _ _ _ => (pg_name (i := 7) sc.nd rfl (Or.inl rfl))) (fun _ _ _ _ _ => pts_nil) (fun _ _ _ _ _ => (pe_ix (ixLK K) (pe_lst (pa_cons pe_non (pa_cons (pe_op op_sub (pv 7) pe_int) pa_nil))) (pe_callTy (T := "int") call_intB (by rfl) T.b_int (by decide +kernel) (pa_cons (pe_cmpR op_gt (pv 7) pe_int (by rfl)) pa_nil)) (fun _ _ => rfl)))))
     pss_nil)
     (pss_cons (ps_set (i := 8) sc.nd rfl (Or.inl rfl) (pe_lst pa_nil))
     (pss_cons (ps_for PassesOwn.never rfl (pi_list (pe_slice sl_list (pv 5) (po_some (pe_op op_add pe_int (pv 3))) (po_some (pe_op op_add (pe_op op_add pe_int (pv 3)) (pe_ix ix_list (pv 5) pe_int (fun _ _ => rfl)))))) (pg_name (i := 7) sc.nd rfl (Or.inl rfl))
     (pss_cons (ps_while PassesOwn.never (pt_cmpR op_in_seq (pv 7) (pv 8) (by rfl))
     (pss_one (ps_set (i := 7) sc.nd rfl (Or.inl rfl) (pe_op op_mod (pe_op op_add (pv 7) pe_int) (pv 3)))))
     (pss_one (ps_expr (pe_bm PySem.F.plainAttrs_list PySem.F.slot_list_append PySem.F.type_list_append mt_append (pv 8) (pa_cons (pv 7) pa_nil))))))
     (pss_one (ps_ret (pe_tup (pa_cons (pe_ix ix_list (pe_lst (pa_cons pe_str (pa_cons pe_str (pa_cons pe_str pa_nil)))) (pe_ix ix_list (pv 5) pe_int (fun _ _ => rfl)) (fun _ _ => rfl)) (pa_cons (pv 6) (pa_cons (pv 8) pa_nil))))))))))))), ?_⟩
  obtain ⟨B, ⟨W, c, sa⟩, i0, hd, ok, k⟩ := h
  have ok : W.Ok := ok
  obtain ⟨x, y, z, rfl, h_wishes, h_cell, h_salt⟩ := DtL.three (d1 := dW W) (d2 := .int c) (d3 := .int sa) hd
  generalize hn : W.lists.length = n at *
  generalize hmm : W.copies.length = m at *
  have n1 : 1 ≤ n := by have := ok.n1; omega
  have n7 : n ≤ 7 := by have := ok.n7; omega
  have m6 : m ≤ 6 := by have := ok.m6; omega
  refine q_asgD i0 (d := dN n) ((ed_len (ed_ixT (ed_var rfl h_wishes) ed_int rfl)).eq (by rw [List.length_map, hn]; rfl)) fun va B1 H1 S1 hva => ?_
  cases (show va = nV n from hva)
  have hw1 := h_wishes.mono S1.b
  refine q_asgD S1.i (d := dNs ([3, 2, n + 1] ++ List.replicate n (m + 1))) ((ed_cat (ed_lst (ea_consD (ed_int (i := 3)) (ea_consD (ed_int (i := 2)) (ea_consD (ed_opI (ed_var (d := dN n) rfl rfl) (ed_int (i := 1))) ea_nilD))) (by show 3 ≤ 100000; decide)) (ed_rep (n := n) (ed_lst (ea_consD (ed_opI (ed_len (ed_ixT (ed_var rfl hw1) ed_int rfl)) (ed_int (i := 1))) ea_nilD) (by show 1 ≤ 100000; decide)) (ed_var (d := dN n) rfl rfl) (by omega)) (by rw [List.length_replicate]; show 3 + n ≤ 100000; omega)).eq (by
    rw [List.length_map, hmm]
    show PyData.list _ = .list _
    rw [List.map_append, List.map_replicate]; rfl)) fun vz B2 H2 s2 hz => ?_
  have S2 := S1.trans s2
  refine q_asgP S2.i (ep_callA (c, sa, szA n m) (ea_consD (ed_var rfl (h_cell.mono S2.b)) (ea_consD (ed_var rfl (h_salt.mono S2.b)) (ea_consD ((ed_cat (ed_var rfl hz) (ed_rep (n := n) (ed_lst (ea_consD (ed_var (d := dN n) rfl rfl) ea_nilD) (by show 1 ≤ 100000; decide)) (ed_var (d := dN n) rfl rfl) (by omega)) (by rw [List.length_map, List.length_replicate, List.length_append, List.length_replicate]; show 3 + n + n ≤ 100000; omega)).eq (by
    unfold szA
    show PyData.list _ = .list _
    rw [List.map_append (l₂ := List.replicate n n), List.map_replicate])) ea_nilD))) ⟨by show (szA n m).length ≤ 100; rw [szA_len]; omega, szA_le ⟨n1, n7⟩ m6⟩) fun vg B3 H3 dd s3 hg hp => ?_
  obtain ⟨ds, rfl, hdl, hdj⟩ := hp
  have hdl : ds.length = (szA n m).length := hdl
  rw [szA_len] at hdl
  have S3 := S2.trans s3
  obtain ⟨d0, hd0, hd03⟩ := hdj 0 3 rfl
  obtain ⟨d1, hd1, hd12⟩ := hdj 1 2 rfl
  obtain ⟨d2, hd2, hd2n⟩ := hdj 2 (n + 1) rfl
  refine q_asgD S3.i ed_non fun vo B4 H4 s4 hvo => ?_
  cases (show vo = .non from hvo)
  have S4 := S3.trans s4
  have hg4 := hg.mono s4.b
  have hcut : ((ds.drop 3).take n).length = n := by rw [List.length_take, List.length_drop]; omega
  refine q_cut (M := fun σ' H' => ∃ vo old a7 B', σ' = [some x, some y, some z, some (nV n), some vz, some vg, some vo, a7, none] ∧ Stp B H B' H' ∧ Ex B4 B' ∧ Dt B' (dOld old) vo ∧ ∀ o, old = some o → o.length = n ∧ ∀ t, some t ∈ o → t < m) ?_ fun σ' H5 ⟨vo, old, a7, B5, hσ, S5, e45, hold, hok⟩ => ?_
  · refine s_if1 (b := decide (d1 = 1)) S4.i (et_D (ed_eq (d1 := dN d1) (d2 := dN 1) (ed_ixL (ed_var rfl hg4) (ed_int (i := 1)) (atI_nat (j := 1) (by rw [List.getElem?_map, hd1]; rfl))) (ed_int (i := 1)) rfl rfl rfl ((dO_eq (some d1) (some 1)).trans (by simp)))) (fun q H5 e5 => ?_) (fun q H5 e5 => ⟨.non, none, none, B4, rfl, S4.grow e5, Ex.refl _, rfl, fun o h => nomatch h⟩)
    have S5 := S4.grow e5
    refine s_asgD S5.i (d := dDeal (((ds.drop 3).take n).map fun u => if u = 0 then none else some (u - 1))) (EvD.eq (ed_lcL (f := fun _ => true) (v := fun i => dO ((((ds.drop 3).take n).map fun u => if u = 0 then none else some (u - 1)).getD i none)) (ds := ((ds.drop 3).take n).map dN) ((ed_sl (ed_var rfl hg4) (eo_someD (i := ((3 : Nat) : Int)) ed_int) (eo_someD (i := ((3 + n : Nat) : Int)) ((ed_opI (ed_int (i := 3)) (ed_var (d := dN n) rfl rfl)).eq (by show PyData.int _ = .int _; congr 1)))).eq (by rw [cutD_nat dN ds 3 (3 + n) (by omega) (by omega), show 3 + n - 3 = n by omega])) (by rw [List.length_map, hcut]; omega) (fun _ => rfl) (fun _ _ _ _ _ _ _ => et_yes) (fun B' e i dx yv hi _ hy => ?_)) ?_) fun v B6 H6 s6 hv => ?_
    · rw [List.getElem?_map] at hi
      obtain ⟨u, hu, rfl⟩ := Option.map_eq_some_iff.mp hi
      have hgd : (((ds.drop 3).take n).map fun u => if u = 0 then none else some (u - 1)).getD i none = if u = 0 then none else some (u - 1) := by
        rw [List.getD_eq_getElem?_getD, List.getElem?_map, hu]; rfl
      rw [hgd]
      refine ed_ixL (ed_lst (ds := [.none, .int ((u : Int) - 1)]) (ea_consD ed_non (ea_consD (ed_opI (ed_var rfl hy) ed_int) ea_nilD)) (by show 2 ≤ 100000; decide)) (ed_intB (b := decide ((u : Int) > 0)) (ed_cmp (ed_var rfl hy) ed_int)) ?_
      by_cases h0 : u = 0
      · rw [if_pos h0, h0]
        exact atI_nat (j := 0) rfl
      · rw [if_neg h0, decide_eq_true (show (u : Int) > 0 by omega), if_pos rfl]
        refine (atI_nat (j := 1) rfl).trans ?_
        show some (PyData.int ((u : Int) - 1)) = some (.int ((u - 1 : Nat) : Int))
        rw [show ((u - 1 : Nat) : Int) = (u : Int) - 1 by omega]
    · have el : (((ds.drop 3).take n).map dN).length = (((ds.drop 3).take n).map fun u => if u = 0 then none else some (u - 1)).length := by rw [List.length_map, List.length_map]
      rw [el, gl_map dO]; rfl
    · refine ⟨v, some _, none, B6, rfl, S5.trans s6, s6.b, hv, fun o ho => ?_⟩
      cases ho
      refine ⟨by rw [List.length_map, hcut], fun t ht => ?_⟩
      obtain ⟨u, hu, he⟩ := List.mem_map.mp ht
      obtain ⟨i, hi⟩ := List.getElem?_of_mem hu
      have hi2 := (List.getElem?_eq_some_iff.mp hi).1
      rw [hcut] at hi2
      rw [List.getElem?_take_of_lt hi2, List.getElem?_drop] at hi
      obtain ⟨yy, h1, h2⟩ := hdj (3 + i) (m + 1) (szA_old hi2)
      rw [hi] at h1; cases h1
      split at he
      · cases he
      · cases he; omega
  · subst hσ
    have hg5 := hg4.mono e45
    refine q_new (EvL.mono S5.i el_new) fun lt H6 hlt e6 hlt6 => ?_
    have S6 := S5.grow e6
    have hHl : H lt = none := fresh_back S5.h hlt
    have hBl : B5 lt = none := fresh_back S5.i hlt
    have hcut2 : ((ds.drop (3 + n)).take d2).length = d2 := by rw [List.length_take, List.length_drop]; omega
    refine q_forL (ds := ((ds.drop (3 + n)).take d2).map dN) S6.i ((ed_sl (ed_var rfl hg5) (eo_someD (i := ((3 + n : Nat) : Int)) ((ed_opI (ed_int (i := 3)) (ed_var (d := dN n) rfl rfl)).eq (by show PyData.int _ = .int _; congr 1))) (eo_someD (i := ((3 + n + d2 : Nat) : Int)) ((ed_opI (ed_opI (ed_int (i := 3)) (ed_var (d := dN n) rfl rfl)) (ed_ixL (ed_var rfl hg5) (ed_int (i := 2)) (atI_nat (j := 2) (v := dN d2) (by rw [List.getElem?_map, hd2]; rfl)))).eq (by show PyData.int _ = .int _; congr 1)))).eq (by rw [cutD_nat dN ds (3 + n) (3 + n + d2) (by omega) (by omega), show 3 + n + d2 - (3 + n) = d2 by omega])) fun B7 H7 s7 => ⟨fun i σ' H' => ∃ (turns : List Nat) (a7 : Option V), σ' = [some x, some y, some z, some (nV n), some vz, some vg, some vo, a7, some (.ref lt)] ∧ Stp B H B7 H' ∧ H' lt = some (.lst (turns.map nV)) ∧ turns.length = i ∧ turns.Nodup ∧ ∀ a, a ∈ turns → a < n,
      ⟨[], a7, rfl, S6.trans s7, s7.h _ _ hlt6, rfl, List.nodup_nil, fun a h => absurd h List.not_mem_nil⟩, fun i σ' H' ⟨_, _, _, s, _⟩ => s.i, fun i du r σ' H' hi hr ⟨turns, a7, hσ, S, hll, hlen, hnd, hlt'⟩ => ?_, fun σ' H' ⟨turns, a7, hσ, S, hll, hlen, hnd, hlt'⟩ => ?_⟩
    · subst hσ
      have hB7 : B7 lt = none := s7.free hlt6 hBl
      rw [List.getElem?_map] at hi
      obtain ⟨dg, hdg, rfl⟩ := Option.map_eq_some_iff.mp hi
      cases (show r = nV dg from hr)
      have hi2 := (List.getElem?_eq_some_iff.mp hdg).1
      rw [hcut2] at hi2
      have hdgn : dg < n := by
        rw [List.getElem?_take_of_lt hi2, List.getElem?_drop] at hdg
        obtain ⟨yy, h1, h2⟩ := hdj (3 + n + i) n (szA_turn (by omega))
        rw [hdg] at h1; cases h1; exact h2
      obtain ⟨j0, hj0⟩ := free_slot (show turns.length < n by omega) dg hdgn
      refine q_while (fun mm σ' H' => ∃ dg : Nat, σ' = [some x, some y, some z, some (nV n), some vz, some vg, some vo, some (nV dg), some (.ref lt)] ∧ Stp B H B7 H' ∧ H' lt = some (.lst (turns.map nV)) ∧ dg < n ∧ (dg + mm) % n ∉ turns) j0 ⟨dg, rfl, S, hll, hdgn, hj0⟩ fun mm σ' H' ⟨dg, hσ, S, hll, hdgn, hj⟩ => ?_
      subst hσ
      refine ⟨decide (dg ∈ turns), et_D (ed_in (d := dN dg) (B := H') (ed_var rfl rfl) (ed_var rfl (Dt.ofNats hll)) rfl (flat_dN _) (mem_inV dg turns)), fun q H8 e8 => ?_, fun q H8 e8 => ?_⟩
      · have q : dg ∈ turns := of_decide_eq_true q
        obtain ⟨m', rfl⟩ : ∃ m', mm = m' + 1 := by
          cases mm with
          | zero => rw [Nat.add_zero, Nat.mod_eq_of_lt hdgn] at hj; exact absurd q hj
          | succ m' => exact ⟨m', rfl⟩
        refine ⟨_, fun σ2 H2 hh => ⟨m', by omega, hh⟩, ?_⟩
        have S8 := S.grow e8
        refine s_asgD S8.i (d := dN ((dg + 1) % n)) ((ed_opC (ed_opI (ed_var (d := dN dg) rfl rfl) (ed_int (i := 1))) (ed_var (d := dN n) rfl rfl) (show (0 : Int) < (n : Int) by omega)).eq (by show PyData.int _ = .int _; congr 1)) fun v B9 H9 s9 hv => ?_
        cases (show v = nV ((dg + 1) % n) from hv)
        refine ⟨(dg + 1) % n, rfl, S8.grow s9.h, s9.h _ _ (e8 _ _ hll), Nat.mod_lt _ (by omega), ?_⟩
        rw [Nat.mod_add_mod, show dg + 1 + m' = dg + (m' + 1) by omega]
        exact hj
      · have q : dg ∉ turns := of_decide_eq_false q
        have S8 := S.grow e8
        refine s_app S8.i (e8 _ _ hll) (ev_var rfl) (d := dN dg) (ed_var rfl rfl) (by rw [List.length_map]; omega) fun yv B9 H9 s9 hy => ?_
        cases (show yv = nV dg from hy)
        refine ⟨turns ++ [dg], _, rfl, (S8.grow s9.h).mut _ hHl hB7, by rw [upd_same, List.map_append]; rfl, by rw [List.length_append, hlen]; rfl, List.nodup_append.mpr ⟨hnd, List.pairwise_singleton _ _, fun a ha b hb => ?_⟩, fun a ha => ?_⟩
        · rw [List.mem_singleton.mp hb]
          intro z; subst z; exact q ha
        · rcases List.mem_append.mp ha with h | h
          · exact hlt' a h
          · rw [List.mem_singleton.mp h]; exact hdgn
    · subst hσ
      have hB7 : B7 lt = none := s7.free hlt6 hBl
      have S' := S.give hHl hB7 hll
      have eg : Ex B7 (upd B7 lt (.lst (turns.map nV))) := Ex.new hB7
      refine s_retD S'.i (ed_tup (ea_consD (ed_ixL (ed_lst (ea_consD ed_str (ea_consD ed_str (ea_consD ed_str ea_nilD))) (by show 3 ≤ 100000; decide)) (ed_ixL (ed_var rfl ((hg5.mono s7.b).mono eg)) (ed_int (i := 0)) (atI_nat (j := 0) (v := dN d0) (by rw [List.getElem?_map, hd0]; rfl))) (ord_at hd03)) (ea_consD (ed_var rfl ((hold.mono s7.b).mono eg)) (ea_consD (ed_var rfl (Dt.ofNats upd_same)) ea_nilD))) (by show 3 ≤ 100000; decide)) fun v B8 H8 s8 hv => k v H8 B8 _ (S'.trans s8) hv ⟨⟨ordOf d0, old, turns⟩, rfl, ⟨fun o ho => ?_, hnd, fun a ha => ?_⟩⟩
      · show o.length = W.lists.length ∧ ∀ t, some t ∈ o → t < W.copies.length
        rw [hn, hmm]; exact hok o ho
      · show a < W.lists.length
        rw [hn]; exact hlt' a ha

end
end Wk
namespace Wk
open PySem L2 Evl Wd
/-- what an asker may have -/
def opts (W : Wish) (L : List Int) (a : Nat) : List (Option Nat) := (((List.range (wished W a).length).filter fun j => decide (L.getD ((wished W a).getD j 0) 0 > 0)).map fun j => some ((wished W a).getD j 0)) ++ [none]
theorem opts_mem {W : Wish} {L : List Int} {a t : Nat} (h : some t ∈ opts W L a) : t ∈ wished W a ∧ 0 < L.getD t 0 := by
  unfold opts at h
  rcases List.mem_append.mp h with h | h
  · obtain ⟨j, hj, e⟩ := List.mem_map.mp h
    cases e
    obtain ⟨h1, h2⟩ := List.mem_filter.mp hj
    have hl := List.mem_range.mp h1
    refine ⟨?_, of_decide_eq_true h2⟩
    rw [List.getD_eq_getElem?_getD, List.getElem?_eq_getElem hl]
    exact List.getElem_mem hl
  · simp at h
theorem opts_len {W : Wish} {L : List Int} {a : Nat} : 1 ≤ (opts W L a).length := by unfold opts; simp
theorem q_ifQ {σ : L2.St} {B H : Hp} {te : TE} {D : Ends} {tu tz : TS} {C : Bool → Prop} (i0 : Ex B H) (h : EvP te σ B (fun d => ∃ b, d = .bool b ∧ C b)) (k1 : C true → ∀ H1, Ex H H1 → tu { D with nx := tz D } σ H1) (k2 : C false → ∀ H1, Ex H H1 → tz D σ H1) : tSeq (tIfS (tB te) tu tNext) tz D σ H := h H i0 _ fun v H1 B1 d s hv ⟨b, hd, hc⟩ => by
  subst hd
  cases (show v = .bl b from hv)
  refine ⟨b, rfl, ?_⟩
  cases b with
  | true => exact iteT (k1 hc H1 s.h)
  | false => exact iteF (k2 hc H1 s.h)
structure DlSt (W : Wish) (L : List Int) (d : Deal) : Prop where
  lm : L.length = W.m
  cn : ∀ (t c : Nat), W.copies[t]? = some c → L.getD t 0 + (d.count (some t) : Nat) = (c : Int) ∧ 0 ≤ L.getD t 0
  wi : ∀ (a t : Nat), d[a]? = some (some t) → t ∈ wished W a

def sp__law_dealt : Sp := SpA (fun x : Wish × Int × Int => [dW x.1, .int x.2.1, .int x.2.2]) (fun x => x.1.Ok) (fun x r => ∃ d : Deal, r = dDeal d ∧ DealOk x.1 d)
def sp__law_near : Sp := SpA (fun x : Wish × Deal × Int × Int => [dW x.1, dDeal x.2.1, .int x.2.2.1, .int x.2.2.2]) (fun x => x.1.Ok ∧ DealOk x.1 x.2.1) (fun x r => ∃ d : Deal, r = dDeal d ∧ DealOk x.1 d)
section
variable {P : Program} {w : World} {K : PySem.W.Frag} {mg : Str → Option Value} {base : Heap} {CS CR CP aO : Addr}
abbrev n__law_dealt : List Str := ["_law_wishes_here", "_law_cell", "_law_salt", "_law_left", "_law_digits", "_law_found", "_law_asker", "_law_thing", "_law_some"]
theorem sc__law_dealt : FnScope n__law_dealt ["_law_wishes_here", "_law_cell", "_law_salt"] (defScope s__law_dealt) := ⟨rfl, rfl, rfl, by decide +kernel, rfl, by decide +kernel, by decide +kernel⟩
theorem ok__law_dealt (T : Txt K mg CS CR CP aO) (c__law_numbers : Callable P w K mg base 1 "_law_numbers" ["_law_cell", "_law_salt", "_law_sizes"] sp__law_numbers) (c__law_wished : Callable P w K mg base 1 "_law_wished" ["_law_wishes_here", "_law_asker"] sp__law_wished) : Callable P w K mg base 2 "_law_dealt" ["_law_wishes_here", "_law_cell", "_law_salt"] sp__law_dealt := by
  have sc := sc__law_dealt
  refine mkFn T.f__law_dealt sc (fun _ _ _ _ _ _ us hl => match us, hl with | [_, _, _], _ => rfl) (fun vs H Q E h => ?_) (fun f cdv A outer s H vs Q E hr h => ?_)
  · obtain ⟨B, W, i0, hd, _⟩ := h; exact hd.length
  refine ⟨_, (pss_cons (ps_set (i := 3) sc.nd rfl (Or.inr rfl) (pe_callTy (T := "list") call_listS (by rfl) T.b_list (by decide +kernel) (pa_cons (pe_ix ix_tup (pv 0) pe_int (fun _ _ => rfl)) pa_nil)))
     (pss_cons (ps_set (i := 4) sc.nd rfl (Or.inl rfl) (pe_fn c__law_numbers (hr.mono (by decide)) (by rfl) (pa_cons (pv 1) (pa_cons (pv 2) (pa_cons (pe_op op_rep (pe_lst (pa_cons pe_int pa_nil)) (pe_callB (id := "len") call_lenS (by rfl) T.b_len (by decide +kernel) (pa_cons (pe_ix ix_tup (pv 0) pe_int (fun _ _ => rfl)) pa_nil))) pa_nil)))))
     (pss_cons (ps_set (i := 5) sc.nd rfl (Or.inl rfl) (pe_lst pa_nil))
     (pss_cons (ps_for PassesOwn.never rfl (pi_range1 (by rfl) T.b_range (pa_cons (pe_callB (id := "len") call_lenS (by rfl) T.b_len (by decide +kernel) (pa_cons (pe_ix ix_tup (pv 0) pe_int (fun _ _ => rfl)) pa_nil)) pa_nil)) (pg_name (i := 6) sc.nd rfl (Or.inl rfl))
     (pss_cons (ps_set (i := 8) sc.nd rfl (Or.inl rfl) (pe_op op_cat (pe_lc (own := [("_law_thing", 7)]) (g := gName 7) rfl sc.nd (pi_list (pe_fn c__law_wished (hr.mono (by decide)) (by rfl) (pa_cons (pv 0) (pa_cons (pv 6) pa_nil)))) (blkOk_by (own := [("_law_thing", 7)]) (N := n__law_dealt) (sc := defScope s__law_dealt) (by decide +kernel)) (fun _ _ _ _ _ => (pg_name (i := 7) sc.nd rfl (Or.inl rfl))) (fun _ _ _ _ _ => pts_one (pt_cmpR op_gt (pe_ix (ixLK K) (pv 3) (pv 7) (fun _ _ => rfl)) pe_int (by rfl))) (fun _ _ _ _ _ => (pv 7))) (pe_lst (pa_cons pe_non pa_nil))))
     (pss_cons (ps_set (i := 7) sc.nd rfl (Or.inl rfl) (pe_ix ix_list (pv 8) (pe_op op_mod (pe_ix ix_list (pv 4) (pv 6) (fun _ _ => rfl)) (pe_callB (id := "len") call_lenS (by rfl) T.b_len (by decide +kernel) (pa_cons (pv 8) pa_nil))) (fun _ _ => rfl)))
     (pss_cut (ps_if (pt_cmp (pc_notN (pv 7)))
     (pss_one (ps_asg (pe_op op_sub (pe_ix ix_list (pv 3) (pv 7) (fun _ _ => rfl)) pe_int) (pg_sub (pv 3) (pv 7) set_list)))
     pss_nil)
     (pss_one (ps_expr (pe_bm PySem.F.plainAttrs_list PySem.F.slot_list_append PySem.F.type_list_append mt_append (pv 5) (pa_cons (pv 7) pa_nil))))))))
     (pss_one (ps_ret (pv 5))))))), ?_⟩
  obtain ⟨B, ⟨W, c, sa⟩, i0, hd, ok, k⟩ := h
  have ok : W.Ok := ok
  obtain ⟨x, y, z, rfl, h_wishes, h_cell, h_salt⟩ := DtL.three (d1 := dW W) (d2 := .int c) (d3 := .int sa) hd
  have hn7 : W.n ≤ 7 := ok.n7
  have hm6 : W.m ≤ 6 := ok.m6
  obtain ⟨vc, hvc, hdc⟩ := (eb_ixT (K := K) (ds := [dNs W.copies, dLs W.lists]) (eb_var (i := 0) (σ := [some x, some y, some z, none, none, none, none, none, none]) rfl h_wishes) ed_int rfl : EvB (tOp (rIxT K) (tVar 0) (tC (.int 0))) [some x, some y, some z, none, none, none, none, none, none] B (dNs W.copies))
  obtain ⟨qc, rfl, hqc⟩ := hdc.nats
  refine q_new (EvL.mono i0 (el_list hvc (sq_of hqc))) fun ll H1 hll e1 hll1 => ?_
  have S1 := (Stp.refl i0).grow e1
  have hBll : B ll = none := fresh_back i0 hll
  refine q_asgP S1.i (ep_callA (c, sa, List.replicate W.n 61) (ea_consD (ed_var rfl h_cell) (ea_consD (ed_var rfl h_salt) (ea_consD ((ed_rep (n := W.n) (ed_lst (ea_consD (ed_int (i := 61)) ea_nilD) (by show 1 ≤ 100000; decide)) ((ed_len (ed_ixT (ed_var rfl h_wishes) ed_int rfl)).eq (by rw [List.length_map]; rfl)) (by omega)).eq (by show PyData.list _ = .list _; rw [List.map_replicate]; rfl)) ea_nilD))) ⟨by show (List.replicate W.n 61).length ≤ 100; rw [List.length_replicate]; omega, fun s hs => by have := List.eq_of_mem_replicate hs; omega⟩) fun vg B2 H2 dd s2 hg hp => ?_
  obtain ⟨ds, rfl, hdl, _⟩ := hp
  have hdl : ds.length = (List.replicate W.n 61).length := hdl
  rw [List.length_replicate] at hdl
  have S2 := S1.trans s2
  refine q_new (EvL.mono S2.i el_new) fun lf H3 hlf e3 hlf3 => ?_
  have S3 := S2.grow e3
  have hHf : H lf = none := fresh_back S2.h hlf
  have hBf : B2 lf = none := fresh_back S2.i hlf
  have hll3 := e3 _ _ (s2.h _ _ hll1)
  have hB2l : B2 ll = none := s2.free hll1 hBll
  have nlf : ll ≠ lf := fun q => by rw [← q, s2.h _ _ hll1] at hlf; cases hlf
  have hw2 := h_wishes.mono S2.b
  refine q_forR (n := W.n) S3.i ((ed_len (ed_ixT (ed_var rfl hw2) ed_int rfl)).eq (by rw [List.length_map]; rfl)) (by omega) fun B4 H4 s4 => ⟨fun i σ' H' => ∃ (L : List Int) (d : Deal) (a6 a7 a8 : Option V), σ' = [some x, some y, some z, some (.ref ll), some vg, some (.ref lf), a6, a7, a8] ∧ Stp B H B4 H' ∧ H' ll = some (.lst (L.map V.int)) ∧ H' lf = some (.lst (d.map oV)) ∧ d.length = i ∧ DlSt W L d,
    ⟨W.copies.map fun n : Nat => (n : Int), [], none, none, none, rfl, S3.trans s4, by rw [List.map_map]; exact s4.h _ _ hll3, s4.h _ _ hlf3, rfl, ⟨List.length_map .., fun t c hc => ?_, fun a t h => by simp at h⟩⟩, fun i σ' H' hi ⟨L, d, a6, a7, a8, hσ, S, hl', hf', hlen, st⟩ => ?_, fun σ' H' ⟨L, d, a6, a7, a8, hσ, S, hl', hf', hlen, st⟩ => ?_⟩
  · rw [List.getD_eq_getElem?_getD, List.getElem?_map, hc]
    exact ⟨by show (c : Int) + ((0 : Nat) : Int) = c; omega, by show (0 : Int) ≤ (c : Int); omega⟩
  · subst hσ
    have hB4l : B4 ll = none := s4.free hll3 hB2l
    have hB4f : B4 lf = none := s4.free hlf3 hBf
    have hwH := (hw2.mono s4.b).mono S.i
    have hgH := ((hg.mono s4.b).mono S.i)
    -- what it may have
    refine q_asgD (Ex.refl H') (d := .list ((opts W L i).map dO)) (EvD.eq (ed_cat (ed_lcL (f := fun j => decide (L.getD ((wished W i).getD j 0) 0 > 0)) (v := fun j => dN ((wished W i).getD j 0)) (ds := (wished W i).map dN) (ed_callA (W, i) (ea_consD (ed_var rfl hwH) (ea_consD (ed_var (d := dN i) rfl rfl) ea_nilD)) ⟨ok, hi⟩ fun _ q => q) (by rw [List.length_map]; have := wished_len W i; omega) (fun _ => rfl) (fun B' e j dx v hj hv => ?_) (fun B' e j dx v hj _ hv => ?_)) (ed_lst (ea_consD ed_non ea_nilD) (by show 1 ≤ 100000; decide)) ?_) ?_) fun vs B5 H5 S5 hvs => ?_
    · rw [List.getElem?_map] at hj
      obtain ⟨t, ht, rfl⟩ := Option.map_eq_some_iff.mp hj
      have hg2 : (wished W i).getD j 0 = t := by rw [List.getD_eq_getElem?_getD, ht]; rfl
      have htm := wished_lt (List.mem_of_getElem? ht)
      rw [hg2]
      exact et_D (ed_cmp (ed_ixL (ed_var rfl (Dt.ofInts (e _ _ hl'))) (ed_var rfl hv) (atI_some (by rw [List.getD_eq_getElem?_getD, List.getElem?_eq_getElem (show t < L.length by rw [st.lm]; exact htm)]; rfl))) ed_int)
    · rw [List.getElem?_map] at hj
      obtain ⟨t, ht, rfl⟩ := Option.map_eq_some_iff.mp hj
      have hg2 : (wished W i).getD j 0 = t := by rw [List.getD_eq_getElem?_getD, ht]; rfl
      rw [hg2]
      exact ed_var rfl hv
    · have := gl_len ((wished W i).map dN).length (fun j => decide (L.getD ((wished W i).getD j 0) 0 > 0)) (fun j => dN ((wished W i).getD j 0))
      have := wished_len W i
      rw [List.length_map] at *
      show _ + 1 ≤ 100000
      omega
    · show PyData.list _ = .list _
      unfold opts gl
      rw [List.length_map, List.map_append, List.map_map]; rfl
    · have hol := opts_len (W := W) (L := L) (a := i)
      obtain ⟨dg, hdg⟩ : ∃ dg, ds[i]? = some dg := ⟨_, List.getElem?_eq_getElem (by omega)⟩
      have hlt : dg % (opts W L i).length < (opts W L i).length := Nat.mod_lt _ (by omega)
      obtain ⟨o, ho⟩ : ∃ o, (opts W L i)[dg % (opts W L i).length]? = some o := ⟨_, List.getElem?_eq_getElem hlt⟩
      have hom := List.mem_of_getElem? ho
      refine q_asgD (d := dO o) (Ex.refl H5) (ed_ixL (ed_var rfl (hvs.mono S5.i)) ((ed_opC (ed_ixL (ed_var rfl (hgH.mono S5.h)) (ed_var (d := dN i) rfl rfl) (atI_some hdg)) (ed_len (ed_var rfl (hvs.mono S5.i))) (by rw [List.length_map]; show (0 : Int) < _; omega)).eq (d2 := dN (dg % (opts W L i).length)) (by rw [List.length_map]; show PyData.int _ = .int _; congr 1)) (atI_some ho)) fun vt B6 H6 S6 hvt => ?_
      cases hvt.flat (flat_dO1 o)
      have e6 := S5.h.trans S6.h
      have S6' := S.grow e6
      have hl6 := e6 _ _ hl'
      have hf6 := e6 _ _ hf'
      refine q_cut (M := fun σ' H' => ∃ (L' : List Int), σ' = [some x, some y, some z, some (.ref ll), some vg, some (.ref lf), some (.int (i : Int)), some (oV o), some vs] ∧ Stp B H B4 H' ∧ H' ll = some (.lst (L'.map V.int)) ∧ H' lf = some (.lst (d.map oV)) ∧ DlSt W L' (d ++ [o])) ?_ fun σ' H7 ⟨L', hσ, S7, hl7, hf7, st7⟩ => ?_
      · refine s_if1 (Ex.refl H6) (et_DB (ed_notN (d := dO o) (ed_var rfl (Dt.ofFlat (flat_dO1 o))))) (fun q H7 e7 => ?_) (fun q H7 e7 => ?_)
        · rw [isNo_dO] at q
          obtain ⟨t, rfl⟩ : ∃ t, o = some t := by cases o with | none => cases q | some t => exact ⟨t, rfl⟩
          obtain ⟨hw, hpos⟩ := opts_mem hom
          have htm := wished_lt hw
          have htL : t < L.length := by rw [st.lm]; exact htm
          have hLt : L[t]? = some (L.getD t 0) := by rw [List.getD_eq_getElem?_getD, List.getElem?_eq_getElem htL]; rfl
          have hl7 := e7 _ _ hl6
          refine s_setL (Ex.refl H7) hl7 (d := .int (L.getD t 0 - 1)) (ed_opI (ed_ixL (ed_var rfl (Dt.ofInts hl7)) (ed_var (d := dN t) rfl rfl) (atI_some hLt)) ed_int) (ev_var rfl) (ed_var (d := dN t) rfl rfl) (by rw [List.length_map]; exact htL) fun y8 B8 H8 S8 hy => ?_
          cases (show y8 = _ from hy)
          refine ⟨L.set t (L.getD t 0 - 1), rfl, (S6'.grow (e7.trans S8.h)).mut _ (fresh_back (Ex.refl H) hll) hB4l, by rw [upd_same, List.map_set], by rw [upd_ne (Ne.symm nlf)]; exact S8.h _ _ (e7 _ _ hf6), ⟨by rw [List.length_set]; exact st.lm, fun u c hc => ?_, fun a u h => ?_⟩⟩
          · obtain ⟨h1, h2⟩ := st.cn u c hc
            rw [List.count_append, List.getD_eq_getElem?_getD, List.getElem?_set]
            by_cases e : t = u
            · subst e
              rw [if_pos rfl, if_pos htL]
              have : [some t].count (some t) = 1 := by simp
              rw [this]
              show L.getD t 0 - 1 + _ = _ ∧ 0 ≤ L.getD t 0 - 1
              omega
            · rw [if_neg e]
              have : [some t].count (some u) = 0 := by simp [e]
              rw [this, ← List.getD_eq_getElem?_getD]
              exact ⟨h1, h2⟩
          · by_cases ha : a < d.length
            · rw [List.getElem?_append_left ha] at h; exact st.wi a u h
            · rw [List.getElem?_append_right (by omega)] at h
              have hai : a - d.length = 0 := by
                have := (List.getElem?_eq_some_iff.mp h).1
                simp at this; omega
              rw [hai] at h
              have h : some t = some u := Option.some.inj h
              cases h
              have : a = i := by omega
              rw [this]; exact hw
        · rw [isNo_dO] at q
          have : o = none := by cases o with | none => rfl | some t => cases q
          subst this
          refine ⟨L, rfl, S6'.grow e7, e7 _ _ hl6, e7 _ _ hf6, ⟨st.lm, fun u c hc => ?_, fun a u h => ?_⟩⟩
          · obtain ⟨h1, h2⟩ := st.cn u c hc
            rw [List.count_append]
            have : [(none : Option Nat)].count (some u) = 0 := by simp
            rw [this]
            exact ⟨h1, h2⟩
          · by_cases ha : a < d.length
            · rw [List.getElem?_append_left ha] at h; exact st.wi a u h
            · rw [List.getElem?_append_right (by omega)] at h
              have hai : a - d.length = 0 := by
                have := (List.getElem?_eq_some_iff.mp h).1
                simp at this; omega
              rw [hai] at h
              cases (Option.some.inj h)
      · subst hσ
        refine s_app (Ex.refl H7) hf7 (ev_var rfl) (d := dO o) (ed_var rfl (Dt.ofFlat (flat_dO1 o))) (by rw [List.length_map]; omega) fun yv B8 H8 S8 hy => ?_
        cases hy.flat (flat_dO1 o)
        exact ⟨L', d ++ [o], _, _, _, rfl, (S7.grow S8.h).mut _ hHf hB4f, by rw [upd_ne nlf]; exact S8.h _ _ hl7, by rw [upd_same, List.map_append]; rfl, by rw [List.length_append, hlen]; rfl, st7⟩
  · subst hσ
    have hB4f : B4 lf = none := s4.free hlf3 hBf
    have S' := S.give hHf hB4f hf'
    refine s_retD S'.i (ed_var rfl (Dt.ofOpts upd_same)) fun v B8 H8 s8 hv => k v H8 B8 _ (S'.trans s8) hv ⟨d, rfl, ⟨hlen, fun a t h => (wished_mem ok).mp (st.wi a t h), fun t c hc => by have := st.cn t c hc; omega⟩⟩

abbrev n__law_near : List Str := ["_law_wishes_here", "_law_dealing", "_law_cell", "_law_salt", "_law_digits", "_law_one", "_law_other", "_law_found", "_law_some"]
theorem sc__law_near : FnScope n__law_near ["_law_wishes_here", "_law_dealing", "_law_cell", "_law_salt"] (defScope s__law_near) := ⟨rfl, rfl, rfl, by decide +kernel, rfl, by decide +kernel, by decide +kernel⟩
theorem ok__law_near (T : Txt K mg CS CR CP aO) (c__law_numbers : Callable P w K mg base 1 "_law_numbers" ["_law_cell", "_law_salt", "_law_sizes"] sp__law_numbers) (c__law_wished : Callable P w K mg base 1 "_law_wished" ["_law_wishes_here", "_law_asker"] sp__law_wished) (c__law_is_dealing : Callable P w K mg base 2 "_law_is_dealing" ["_law_wishes_here", "_law_thing"] sp__law_is_dealing) : Callable P w K mg base 3 "_law_near" ["_law_wishes_here", "_law_dealing", "_law_cell", "_law_salt"] sp__law_near := by
  have sc := sc__law_near
  refine mkFn T.f__law_near sc (fun _ _ _ _ _ _ us hl => match us, hl with | [_, _, _, _], _ => rfl) (fun vs H Q E h => ?_) (fun f cdv A outer s H vs Q E hr h => ?_)
  · obtain ⟨B, W, i0, hd, _⟩ := h; exact hd.length
  refine ⟨_, (pss_cons (ps_set (i := 4) sc.nd rfl (Or.inl rfl) (pe_fn c__law_numbers (hr.mono (by decide)) (by rfl) (pa_cons (pv 2) (pa_cons (pv 3) (pa_cons (pe_lst (pa_cons pe_int (pa_cons pe_int (pa_cons pe_int (pa_cons pe_int pa_nil))))) pa_nil)))))
     (pss_cons (ps_set (i := 5) sc.nd rfl (Or.inl rfl) (pe_op op_mod (pe_ix ix_list (pv 4) pe_int (fun _ _ => rfl)) (pe_callB (id := "len") call_lenS (by rfl) T.b_len (by decide +kernel) (pa_cons (pv 1) pa_nil))))
     (pss_cons (ps_set (i := 6) sc.nd rfl (Or.inl rfl) (pe_op op_mod (pe_ix ix_list (pv 4) pe_int (fun _ _ => rfl)) (pe_callB (id := "len") call_lenS (by rfl) T.b_len (by decide +kernel) (pa_cons (pv 1) pa_nil))))
     (pss_cons (ps_set (i := 7) sc.nd rfl (Or.inl rfl) (pe_callTy (T := "list") call_listS (by rfl) T.b_list (by decide +kernel) (pa_cons (pv 1) pa_nil)))
     (pss_cut (ps_if (pt_cmpR op_eq (pe_ix ix_list (pv 4) pe_int (fun _ _ => rfl)) pe_int (by rfl))
     (pss_cons (ps_asg (pe_ix ix_list (pv 1) (pv 6) (fun _ _ => rfl)) (pg_sub (pv 7) (pv 5) set_list))
     (pss_one (ps_asg (pe_ix ix_list (pv 1) (pv 5) (fun _ _ => rfl)) (pg_sub (pv 7) (pv 6) set_list))))
     (pss_cons (ps_set (i := 8) sc.nd rfl (Or.inl rfl) (pe_op op_cat (pe_fn c__law_wished (hr.mono (by decide)) (by rfl) (pa_cons (pv 0) (pa_cons (pv 5) pa_nil))) (pe_lst (pa_cons pe_non pa_nil))))
     (pss_one (ps_asg (pe_ix ix_list (pv 8) (pe_op op_mod (pe_ix ix_list (pv 4) pe_int (fun _ _ => rfl)) (pe_callB (id := "len") call_lenS (by rfl) T.b_len (by decide +kernel) (pa_cons (pv 8) pa_nil))) (fun _ _ => rfl)) (pg_sub (pv 7) (pv 5) set_list)))))
     (pss_cons (ps_if (pt_val (pe_fn c__law_is_dealing (hr.mono (by decide)) (by rfl) (pa_cons (pv 0) (pa_cons (pv 7) pa_nil))))
     (pss_one (ps_ret (pv 7)))
     pss_nil)
     (pss_one (ps_ret (pe_callTy (T := "list") call_listS (by rfl) T.b_list (by decide +kernel) (pa_cons (pv 1) pa_nil)))))))))), ?_⟩
  obtain ⟨B, ⟨W, d, c, sa⟩, i0, hd, ⟨ok, dok⟩, k⟩ := h
  have ok : W.Ok := ok
  have dok : DealOk W d := dok
  obtain ⟨x, y, z, w, rfl, h_wishes, h_dealing, h_cell, h_salt⟩ := DtL.four (d1 := dW W) (d2 := dDeal d) (d3 := .int c) (d4 := .int sa) hd
  have hn7 : W.n ≤ 7 := ok.n7
  have hn1 : 1 ≤ W.n := ok.n1
  have hm6 : W.m ≤ 6 := ok.m6
  have hdl : d.length = W.n := dok.len
  refine q_asgP i0 (ep_callA (c, sa, [2, 7, 7, 61]) (ea_consD (ed_var rfl h_cell) (ea_consD (ed_var rfl h_salt) (ea_consD (ed_lst (ea_consD ed_int (ea_consD ed_int (ea_consD ed_int (ea_consD ed_int ea_nilD)))) (by show 4 ≤ 100000; decide)) ea_nilD))) ⟨by show 4 ≤ 100; decide, by show ∀ s, s ∈ ([2, 7, 7, 61] : List Nat) → 1 ≤ s ∧ s ≤ 1000; decide⟩) fun vg B1 H1 dd S1 hg hp => ?_
  obtain ⟨ds, rfl, _, hdj⟩ := hp
  obtain ⟨g0, hg0, _⟩ := hdj 0 2 rfl
  obtain ⟨g1, hg1, _⟩ := hdj 1 7 rfl
  obtain ⟨g2, hg2, _⟩ := hdj 2 7 rfl
  obtain ⟨g3, hg3, _⟩ := hdj 3 61 rfl
  have dg : ∀ (j g : Nat), ds[j]? = some g → atI (ds.map dN) (j : Int) = some (dN g) := fun j g h => atI_some h
  have hd1 := h_dealing.mono S1.b
  have ha1 : g1 % W.n < W.n := Nat.mod_lt _ (by omega)
  have ha2 : g2 % W.n < W.n := Nat.mod_lt _ (by omega)
  refine q_asgD S1.i (d := dN (g1 % W.n)) ((ed_opC (ed_ixL (ed_var rfl hg) (ed_int (i := 1)) (dg 1 g1 hg1)) (ed_len (ed_var rfl hd1)) (by rw [List.length_map, hdl]; show (0 : Int) < _; omega)).eq (by rw [List.length_map, hdl]; show PyData.int _ = .int _; congr 1)) fun va B2 H2 s2 hva => ?_
  cases (show va = nV (g1 % W.n) from hva)
  have S2 := S1.trans s2
  have hd2 := hd1.mono s2.b
  have hg' := hg.mono s2.b
  refine q_asgD S2.i (d := dN (g2 % W.n)) ((ed_opC (ed_ixL (ed_var rfl hg') (ed_int (i := 2)) (dg 2 g2 hg2)) (ed_len (ed_var rfl hd2)) (by rw [List.length_map, hdl]; show (0 : Int) < _; omega)).eq (by rw [List.length_map, hdl]; show PyData.int _ = .int _; congr 1)) fun vb B3 H3 s3 hvb => ?_
  cases (show vb = nV (g2 % W.n) from hvb)
  have S3 := S2.trans s3
  obtain ⟨qd, rfl, hqd⟩ := (hd2.mono s3.b).opts
  have hd3 : Dt B3 (dDeal d) (.ref qd) := hd2.mono s3.b
  have hg3' := hg'.mono s3.b
  have hw3 := h_wishes.mono S3.b
  refine q_new (EvL.mono S3.i (el_list (ev_var rfl) (sq_of hqd))) fun lf H4 hlf e4 hlf4 => ?_
  have S4 := S3.grow e4
  have hHf : H lf = none := fresh_back S3.h hlf
  have hBf : B3 lf = none := fresh_back S3.i hlf
  obtain ⟨oa, hoa⟩ : ∃ o, d[g1 % W.n]? = some o := ⟨_, List.getElem?_eq_getElem (by omega)⟩
  obtain ⟨ob, hob⟩ : ∃ o, d[g2 % W.n]? = some o := ⟨_, List.getElem?_eq_getElem (by omega)⟩
  refine q_cut (M := fun σ' H' => ∃ (d' : Deal) (a8 : Option V) (B' : Hp), σ' = [some x, some (.ref qd), some z, some w, some vg, some (nV (g1 % W.n)), some (nV (g2 % W.n)), some (.ref lf), a8] ∧ Stp B H B' H' ∧ Ex B3 B' ∧ B' lf = none ∧ H' lf = some (.lst (d'.map oV))) ?_ fun σ' H5 ⟨d', a8, B5, hσ, S5, e35, hB5, hl5⟩ => ?_
  · refine s_ifB (b := decide (g0 = 0)) S4.i (et_D (ed_eq (d1 := dN g0) (d2 := dN 0) (ed_ixL (ed_var rfl hg3') (ed_int (i := 0)) (dg 0 g0 hg0)) (ed_int (i := 0)) rfl rfl rfl ((dO_eq (some g0) (some 0)).trans (by simp)))) (fun q H5 e5 => ?_) (fun q H5 e5 => ?_)
    · have S5 := S4.grow e5
      refine q_setL S5.i (e5 _ _ hlf4) (d := dO ob) (ed_ixL (ed_var rfl hd3) (ed_var (d := dN (g2 % W.n)) rfl rfl) (atI_some hob)) (ev_var rfl) (ed_var (d := dN (g1 % W.n)) rfl rfl) (by rw [List.length_map]; omega) fun y6 B6 H6 s6 hy => ?_
      cases hy.flat (flat_dO1 ob)
      have hB6 : B6 lf = none := s6.free (e5 _ _ hlf4) hBf
      have S6 := (S5.trans s6).mut (.lst ((d.map oV).set (g1 % W.n) (fV (dO ob)))) hHf hB6
      refine s_setL S6.i upd_same (d := dO oa) (ed_ixL (ed_var rfl (hd3.mono s6.b)) (ed_var (d := dN (g1 % W.n)) rfl rfl) (atI_some hoa)) (ev_var rfl) (ed_var (d := dN (g2 % W.n)) rfl rfl) (by rw [List.length_set, List.length_map]; omega) fun y7 B7 H7 s7 hy => ?_
      cases hy.flat (flat_dO1 oa)
      have hB7 : B7 lf = none := s7.free upd_same hB6
      refine ⟨(d.set (g1 % W.n) ob).set (g2 % W.n) oa, _, B7, rfl, (S6.trans s7).mut _ hHf hB7, s6.b.trans s7.b, hB7, ?_⟩
      rw [upd_same, List.map_set, List.map_set]; rfl
    · have S5 := S4.grow e5
      have hol := opts_len (W := W) (L := []) (a := 0)
      refine q_asgD S5.i (d := .list (((wished W (g1 % W.n)).map some ++ [none]).map dO)) (EvD.eq (ed_cat (ed_callA (W, g1 % W.n) (ea_consD (ed_var rfl hw3) (ea_consD (ed_var (d := dN (g1 % W.n)) rfl rfl) ea_nilD)) ⟨ok, ha1⟩ fun _ q => q) (ed_lst (ea_consD ed_non ea_nilD) (by show 1 ≤ 100000; decide)) (by rw [List.length_map]; have := wished_len W (g1 % W.n); show (wished W (g1 % W.n)).length + 1 ≤ 100000; omega)) (by show PyData.list _ = .list _; rw [List.map_append, List.map_map]; rfl)) fun vs B6 H6 s6 hvs => ?_
      have S6 := S5.trans s6
      generalize hos : ((wished W (g1 % W.n)).map some ++ [none]) = os at hvs
      have hosl : 1 ≤ os.length := by rw [← hos]; simp
      have hlt : g3 % os.length < os.length := Nat.mod_lt _ (by omega)
      obtain ⟨o, ho⟩ : ∃ o, os[g3 % os.length]? = some o := ⟨_, List.getElem?_eq_getElem hlt⟩
      have hl6 := s6.h _ _ (e5 _ _ hlf4)
      have hB6 : B6 lf = none := s6.free (e5 _ _ hlf4) hBf
      refine s_setL S6.i hl6 (d := dO o) (ed_ixL (ed_var rfl hvs) ((ed_opC (ed_ixL (ed_var rfl (hg3'.mono s6.b)) (ed_int (i := 3)) (dg 3 g3 hg3)) (ed_len (ed_var rfl hvs)) (by rw [List.length_map]; show (0 : Int) < _; omega)).eq (d2 := dN (g3 % os.length)) (by rw [List.length_map]; show PyData.int _ = .int _; congr 1)) (atI_some ho)) (ev_var rfl) (ed_var (d := dN (g1 % W.n)) rfl rfl) (by rw [List.length_map]; omega) fun y7 B7 H7 s7 hy => ?_
      cases hy.flat (flat_dO1 o)
      have hB7 : B7 lf = none := s7.free hl6 hB6
      refine ⟨d.set (g1 % W.n) o, _, B7, rfl, (S6.trans s7).mut _ hHf hB7, s6.b.trans s7.b, hB7, ?_⟩
      rw [upd_same, List.map_set]; rfl
  · subst hσ
    have S' := S5.give hHf hB5 hl5
    have eg : Ex B5 (upd B5 lf (.lst (d'.map oV))) := Ex.new hB5
    have hf' : Dt (upd B5 lf (.lst (d'.map oV))) (dDeal d') (.ref lf) := Dt.ofOpts upd_same
    refine q_ifQ S'.i (ep_callA (W, d') (ea_consD (ed_var rfl ((hw3.mono e35).mono eg)) (ea_consD (ed_var rfl hf') ea_nilD)) ok) (fun hb H6 e6 => ?_) (fun hb H6 e6 => ?_)
    · exact s_retD (S'.grow e6).i (ed_var rfl hf') fun v B7 H7 s7 hv => k v H7 B7 _ ((S'.grow e6).trans s7) hv ⟨d', rfl, hb.mp rfl⟩
    · exact s_retD (S'.grow e6).i (ed_list (ed_var rfl ((hd3.mono e35).mono eg))) fun v B7 H7 s7 hv => k v H7 B7 _ ((S'.grow e6).trans s7) hv ⟨d, rfl, dok⟩

end
end Wk
namespace Wk
open PySem L2 Evl Wd
theorem range_getD {α : Type} (l : List α) (x : α) : (List.range l.length).map (fun j => l.getD j x) = l := by
  refine List.ext_getElem? fun i => ?_
  rw [List.getElem?_map]
  by_cases h : i < l.length
  · rw [List.getElem?_range h, List.getElem?_eq_getElem h]
    simp [h]
  · rw [List.getElem?_eq_none (by simpa using h), List.getElem?_eq_none (by omega)]
    rfl
theorem filter_len {α : Type} (p : α → Bool) (l : List α) (x : α) : ((List.range l.length).filter fun j => p (l.getD j x)).length = (l.filter p).length := by
  have h : l.filter p = ((List.range l.length).filter fun j => p (l.getD j x)).map fun j => l.getD j x := by
    conv => lhs; rw [← range_getD l x, List.filter_map]
    rfl
  rw [h, List.length_map]
theorem kept_len (old d : Nat → Option Nat) : ∀ n : Nat, sm n (fun a => kept old a (d a)) = (((((List.range n).filter fun i => decide (old i = d i)).map d).filter fun o => o.isSome).length : Int)
  | 0 => rfl
  | n + 1 => by
    show sm n (fun a => kept old a (d a)) + kept old n (d n) = _
    rw [kept_len old d n, List.range_succ, List.filter_append, List.map_append, List.filter_append, List.length_append]
    have : kept old n (d n) = (((((List.filter (fun i => decide (old i = d i)) [n]).map d).filter fun o => o.isSome).length : Nat) : Int) := by
      unfold kept
      cases h : d n with
      | none =>
        by_cases e : old n = none
        · simp [List.filter_cons, h, e]
        · simp [List.filter_cons, h, e]
      | some t =>
        by_cases e : old n = some t
        · simp [List.filter_cons, h, e]
        · simp [List.filter_cons, h, e]
    rw [this]
    omega
def keyOf (W : Wish) (A : Aim) (d : Deal) : List Int := hgt A.ord (countsOf W d) ++ [keptOf A.old d] ++ rrow W.longest A.turns (rkOf W d)
def cFull : Ord → List Int → List Int
  | .full, l => hgt .full l
  | _, l => l
theorem hgt_le (o : Ord) (l : List Int) : (hgt o l).length ≤ l.length + 1 := by
  cases o
  · show l.length ≤ _; omega
  · show l.length + 1 ≤ _; omega
  · show (l.reverse.map _).length ≤ _; rw [List.length_map, List.length_reverse]; omega
def plc (W : Wish) (d : Deal) : List Nat := (List.range d.length).map fun i => place W.longest (rkOf W d i)
theorem plc_len (W : Wish) (d : Deal) : (plc W d).length = d.length := by unfold plc; simp
theorem plc_at (W : Wish) (d : Deal) {i : Nat} (h : i < d.length) : (plc W d)[i]? = some (place W.longest (rkOf W d i)) := by
  unfold plc
  rw [List.getElem?_map, List.getElem?_range h]; rfl
def abv (W : Wish) (d d' : Deal) : Bool := !decide (plc W d = plc W d') && ((List.range W.n).map fun i => decide ((plc W d).getD i 0 ≤ (plc W d').getD i 0)).all id
theorem DealOk.rk {W : Wish} {d : Deal} (h : DealOk W d) {a t : Nat} (ht : dl d a = some t) : rankIn (W.ranks a) t ≠ 0 := by
  unfold dl at ht
  rw [List.getD_eq_getElem?_getD] at ht
  cases e : d[a]? with
  | none => rw [e] at ht; cases ht
  | some o => rw [e] at ht; cases (show o = some t from ht); exact h.wish a t e

def sp__law_key : Sp := SpA (fun x : Wish × Aim × Deal => [dW x.1, dAim x.2.1, dDeal x.2.2]) (fun x => x.1.Ok ∧ x.2.1.Ok x.1 ∧ DealOk x.1 x.2.2) (fun x r => r = dInts (keyOf x.1 x.2.1 x.2.2))
def sp__law_above : Sp := SpA (fun x : Wish × Deal × Deal => [dW x.1, dDeal x.2.1, dDeal x.2.2]) (fun x => x.1.Ok ∧ DealOk x.1 x.2.1 ∧ DealOk x.1 x.2.2) (fun x r => r = .bool (abv x.1 x.2.1 x.2.2))
section
variable {P : Program} {w : World} {K : PySem.W.Frag} {mg : Str → Option Value} {base : Heap} {CS CR CP aO : Addr}
abbrev n__law_key : List Str := ["_law_wishes_here", "_law_aim_here", "_law_dealing", "_law_order", "_law_old", "_law_turns", "_law_counts_here", "_law_kept", "_law_same", "_law_ranks", "_law_asker", "_law_rank_here", "_law_one", "_law_had", "_law_thing"]
theorem sc__law_key : FnScope n__law_key ["_law_wishes_here", "_law_aim_here", "_law_dealing"] (defScope s__law_key) := ⟨rfl, rfl, rfl, by decide +kernel, rfl, by decide +kernel, by decide +kernel⟩
theorem ok__law_key (T : Txt K mg CS CR CP aO) (c__law_counts : Callable P w K mg base 2 "_law_counts" ["_law_wishes_here", "_law_dealing"] sp__law_counts) (c__law_longest : Callable P w K mg base 1 "_law_longest" ["_law_wishes_here"] sp__law_longest) (c__law_rank : Callable P w K mg base 1 "_law_rank" ["_law_wishes_here", "_law_asker", "_law_thing"] sp__law_rank) : Callable P w K mg base 3 "_law_key" ["_law_wishes_here", "_law_aim_here", "_law_dealing"] sp__law_key := by
  have sc := sc__law_key
  refine mkFn T.f__law_key sc (fun _ _ _ _ _ _ us hl => match us, hl with | [_, _, _], _ => rfl) (fun vs H Q E h => ?_) (fun f cdv A outer s H vs Q E hr h => ?_)
  · obtain ⟨B, W, i0, hd, _⟩ := h; exact hd.length
  refine ⟨_, (pss_cons (ps_asg (pv 1) (pg_tup rfl (pgs_cons (pg_name (i := 3) sc.nd rfl (Or.inl rfl)) (pgs_cons (pg_name (i := 4) sc.nd rfl (Or.inl rfl)) (pgs_cons (pg_name (i := 5) sc.nd rfl (Or.inl rfl)) pgs_nil)))))
     (pss_cons (ps_set (i := 6) sc.nd rfl (Or.inl rfl) (pe_fn c__law_counts (hr.mono (by decide)) (by rfl) (pa_cons (pv 0) (pa_cons (pv 2) pa_nil))))
     (pss_cut (ps_if (pt_cmpR op_eq (pv 3) pe_str (by rfl))
     (pss_one (ps_set (i := 6) sc.nd rfl (Or.inl rfl) (pe_op op_cat (pe_lst (pa_cons (pe_op op_sub pe_int (pe_ix ix_list (pv 6) (pe_un un_neg pe_int) (fun _ _ => rfl))) pa_nil)) (pv 6))))
     pss_nil)
     (pss_cut (ps_if (pt_cmpR op_eq (pv 3) pe_str (by rfl))
     (pss_one (ps_setLc (i := 6) (own := [("_law_one", 12)]) (g := gName 12) (tt := tYes) rfl sc.nd rfl rfl (sw_true rfl rfl rfl (by decide +kernel)) (pi_list (pe_revL (pv 6))) (blkOk_by (own := [("_law_one", 12)]) (N := n__law_key) (sc := defScope s__law_key) (by decide +kernel)) (fun _ _ _ _ _ => (pg_name (i := 12) sc.nd rfl (Or.inl rfl))) (fun _ _ _ _ _ => pts_nil) (fun _ _ _ _ _ => (pe_op op_sub pe_int (pv 12)))))
     pss_nil)
     (pss_cons (ps_set (i := 7) sc.nd rfl (Or.inl rfl) pe_int)
     (pss_cut (ps_if (pt_cmp (pc_notN (pv 4)))
     (pss_cons (ps_setLc (i := 8) (own := [("_law_had", 13), ("_law_thing", 14)]) (g := gTup K 2 (gCons (gName 13) (gCons (gName 14) gNil))) rfl sc.nd rfl rfl (sw_true rfl rfl rfl (by decide +kernel)) (pi_zip (by rfl) T.b_zip (pa_cons (pv 4) (pa_cons (pv 2) pa_nil))) (blkOk_by (own := [("_law_had", 13), ("_law_thing", 14)]) (N := n__law_key) (sc := defScope s__law_key) (by decide +kernel)) (fun _ _ _ _ _ => (pg_tup rfl (pgs_cons (pg_name (i := 13) sc.nd rfl (Or.inl rfl)) (pgs_cons (pg_name (i := 14) sc.nd rfl (Or.inl rfl)) pgs_nil)))) (fun _ _ _ _ _ => pts_one (pt_cmpR op_eq (pv 13) (pv 14) (by rfl))) (fun _ _ _ _ _ => (pv 14)))
     (pss_one (ps_set (i := 7) sc.nd rfl (Or.inl rfl) (pe_callB (id := "len") call_lenS (by rfl) T.b_len (by decide +kernel) (pa_cons (pe_lc (own := [("_law_thing", 14)]) (g := gName 14) rfl sc.nd (pi_list (pv 8)) (blkOk_by (own := [("_law_thing", 14)]) (N := n__law_key) (sc := defScope s__law_key) (by decide +kernel)) (fun _ _ _ _ _ => (pg_name (i := 14) sc.nd rfl (Or.inl rfl))) (fun _ _ _ _ _ => pts_one (pt_cmp (pc_notN (pv 14)))) (fun _ _ _ _ _ => (pv 14))) pa_nil)))))
     pss_nil)
     (pss_cons (ps_set (i := 9) sc.nd rfl (Or.inl rfl) (pe_lst pa_nil))
     (pss_cons (ps_for PassesOwn.never rfl (pi_list (pv 5)) (pg_name (i := 10) sc.nd rfl (Or.inl rfl))
     (pss_cons (ps_set (i := 11) sc.nd rfl (Or.inl rfl) pe_int)
     (pss_cut (ps_if (pt_cmp (pc_notN (pe_ix ix_list (pv 2) (pv 10) (fun _ _ => rfl))))
     (pss_one (ps_set (i := 11) sc.nd rfl (Or.inl rfl) (pe_op op_sub (pe_op op_add (pe_fn c__law_longest (hr.mono (by decide)) (by rfl) (pa_cons (pv 0) pa_nil)) pe_int) (pe_fn c__law_rank (hr.mono (by decide)) (by rfl) (pa_cons (pv 0) (pa_cons (pv 10) (pa_cons (pe_ix ix_list (pv 2) (pv 10) (fun _ _ => rfl)) pa_nil)))))))
     pss_nil)
     (pss_one (ps_expr (pe_bm PySem.F.plainAttrs_list PySem.F.slot_list_append PySem.F.type_list_append mt_append (pv 9) (pa_cons (pv 11) pa_nil)))))))
     (pss_one (ps_ret (pe_op op_cat (pe_op op_cat (pv 6) (pe_lst (pa_cons (pv 7) pa_nil))) (pv 9)))))))))))), ?_⟩
  obtain ⟨B, ⟨W, A, d⟩, i0, hd, ⟨ok, ao, dok⟩, k⟩ := h
  have ok : W.Ok := ok
  have ao : A.Ok W := ao
  have dok : DealOk W d := dok
  obtain ⟨x, y, z, rfl, h_wishes, h_aim, h_dealing⟩ := DtL.three (d1 := dW W) (d2 := dAim A) (d3 := dDeal d) hd
  have hn7 : W.n ≤ 7 := ok.n7
  have hl5 := W.longest5 ok
  have h7 := ao.t7 ok
  have hdl : d.length = W.n := dok.len
  have cl := countsOf_len W d
  have cne : countsOf W d ≠ [] := by intro q; rw [q] at cl; simp at cl
  refine q_asgT3 i0 (ed_var rfl h_aim) fun vo vold vt B1 H1 S1 hvo hold hturns => ?_
  cases (show vo = .str (Ord.str A.ord) from hvo)
  refine q_asgD S1.i (ed_callA (W, d) (ea_consD (ed_var rfl (h_wishes.mono S1.b)) (ea_consD (ed_var rfl (h_dealing.mono S1.b)) ea_nilD)) ⟨ok, dok⟩ fun _ q => q) fun vc B2 H2 s2 hc => ?_
  have hc : Dt B2 (dInts (countsOf W d)) vc := hc
  have S2 := S1.trans s2
  have ds : ∀ a b : Str, decide (fV (.str a) = fV (.str b)) = decide (a = b) := fun a b => by simp [fV]
  refine q_cut (M := fun σ' H' => ∃ vc B', σ' = [some x, some y, some z, some (.str (Ord.str A.ord)), some vold, some vt, some vc, none, none, none, none, none, none, none, none] ∧ Stp B H B' H' ∧ Ex B2 B' ∧ Dt B' (dInts (cFull A.ord (countsOf W d))) vc) ?_ fun σ' H3 ⟨vc, B3, hσ, S3, e23, hc⟩ => ?_
  · refine s_if1 (b := decide ((Ord.str A.ord) = "full")) S2.i (et_D (ed_eq (ed_var (d := .str (Ord.str A.ord)) rfl rfl) (ed_str (s := "full")) rfl rfl rfl (ds _ _))) (fun q H3 e3 => ?_) (fun q H3 e3 => ?_)
    · have S3 := S2.grow e3
      have hf : A.ord = .full := by
        generalize A.ord = o at q
        cases o with
        | firsts => exact absurd q (by decide +kernel)
        | full => rfl
        | lasts => exact absurd q (by decide +kernel)
      refine s_asgD S3.i (ed_cat (ed_lst (ea_consD (ed_opI (ed_int (i := 0)) (ed_ixL (ed_var rfl hc) (EvD.of (v := .int (-1)) (ev_un ev_c ru_neg) rfl) (atI_last cne))) ea_nilD) (by show 1 ≤ 100000; decide)) (ed_var rfl hc) (by rw [List.length_map, cl]; show 1 + (W.longest + 1) ≤ 100000; omega)) fun v B4 H4 s4 hv => ?_
      refine ⟨v, B4, rfl, S3.trans s4, s4.b, ?_⟩
      rw [hf]; exact hv
    · refine ⟨vc, B2, rfl, S2.grow e3, Ex.refl _, ?_⟩
      generalize A.ord = o at q
      cases o with
      | firsts => exact hc
      | full => exact absurd q (by decide +kernel)
      | lasts => exact hc
  subst hσ
  refine q_cut (M := fun σ' H' => ∃ vc a12 B', σ' = [some x, some y, some z, some (.str (Ord.str A.ord)), some vold, some vt, some vc, none, none, none, none, none, a12, none, none] ∧ Stp B H B' H' ∧ Ex B2 B' ∧ Dt B' (dInts (hgt A.ord (countsOf W d))) vc) ?_ fun σ' H4 ⟨vc, a12, B4, hσ, S4, e24, hc⟩ => ?_
  · refine s_if1 (b := decide ((Ord.str A.ord) = "lasts")) S3.i (et_D (ed_eq (ed_var (d := .str (Ord.str A.ord)) rfl rfl) (ed_str (s := "lasts")) rfl rfl rfl (ds _ _))) (fun q H5 e5 => ?_) (fun q H5 e5 => ?_)
    · have S5 := S3.grow e5
      have hf : A.ord = .lasts := by
        generalize A.ord = o at q
        cases o with
        | firsts => exact absurd q (by decide +kernel)
        | full => exact absurd q (by decide +kernel)
        | lasts => rfl
      rw [hf] at hc
      have hc : Dt B3 (dInts (countsOf W d)) vc := hc
      have hrev : EvD (tRevL K (tVar 6)) [some x, some y, some z, some (.str (Ord.str A.ord)), some vold, some vt, some vc, none, none, none, none, none, none, none, none] B3 (.list ((countsOf W d).reverse.map PyData.int)) := (ed_rev (ed_var rfl hc)).eq (by rw [List.map_reverse])
      refine s_asgD S5.i (d := dInts ((countsOf W d).reverse.map fun q => 0 - q)) (EvD.eq (ed_lcL (f := fun _ => true) (v := fun i => .int (((countsOf W d).reverse.map fun q => 0 - q).getD i 0)) (ds := (countsOf W d).reverse.map .int) hrev (by rw [List.length_map, List.length_reverse, cl]; omega) (fun _ => rfl) (fun _ _ _ _ _ _ _ => et_yes) (fun B' e i dx yv hi _ hy => ?_)) ?_) fun v B6 H6 s6 hv => ?_
      · rw [List.getElem?_map] at hi
        obtain ⟨u, hu, rfl⟩ := Option.map_eq_some_iff.mp hi
        refine (ed_opI ed_int (ed_var rfl hy)).eq ?_
        rw [List.getD_eq_getElem?_getD, List.getElem?_map, hu]; rfl
      · have el : ((countsOf W d).reverse.map PyData.int).length = ((countsOf W d).reverse.map fun q : Int => 0 - q).length := by rw [List.length_map, List.length_map]
        rw [el, gl_map PyData.int]; rfl
      · refine ⟨v, _, B6, rfl, S5.trans s6, e23.trans s6.b, ?_⟩
        rw [hf]; exact hv
    · refine ⟨vc, none, B3, rfl, S3.grow e5, e23, ?_⟩
      generalize A.ord = o at q hc ⊢
      cases o with
      | firsts => exact hc
      | full => exact hc
      | lasts => exact absurd q (by decide +kernel)
  subst hσ
  have hold4 := (hold.mono s2.b).mono e24
  have hturns4 := (hturns.mono s2.b).mono e24
  have hd4 := h_dealing.mono S4.b
  refine q_asgD S4.i ed_int fun v0 B5 H5 s5 hv0 => ?_
  cases (show v0 = .int 0 from hv0)
  have S5 := S4.trans s5
  refine q_cut (M := fun σ' H' => ∃ a8 a13 a14 B', σ' = [some x, some y, some z, some (.str (Ord.str A.ord)), some vold, some vt, some vc, some (.int (keptOf A.old d)), a8, none, none, none, a12, a13, a14] ∧ Stp B H B' H' ∧ Ex B5 B') ?_ fun σ' H6 ⟨a8, a13, a14, B6, hσ, S6, e56⟩ => ?_
  · refine s_if1 (b := A.old.isSome) S5.i (et_is (et_DB (ed_notN (ed_var rfl (hold4.mono s5.b)))) (by cases A.old <;> rfl)) (fun q H6 e6 => ?_) (fun q H6 e6 => ?_)
    · obtain ⟨o, ho⟩ := Option.isSome_iff_exists.mp q
      have hol : o.length = W.n := (ao.old o ho).1
      have S6 := S5.grow e6
      have holdD : Dt B5 (.list (o.map dO)) vold := by have := hold4.mono s5.b; rw [ho] at this; exact this
      generalize hsm : (((List.range W.n).filter fun i => decide (dl o i = dl d i)).map (dl d)) = sml
      refine q_asgD S6.i (d := .list (sml.map dO)) (EvD.eq (ed_lcZ (f := fun i => decide (dl o i = dl d i)) (v := fun i => dO (dl d i)) (ed_var rfl holdD) (ed_var rfl (hd4.mono s5.b)) (by rw [List.length_map, List.length_map, hol, hdl]) (by rw [List.length_map, hol]; omega) (fun _ _ => rfl) (fun B' e i d1 d2 a b h1 h2 q1 q2 => ?_) (fun B' e i d1 d2 a b h1 h2 _ q1 q2 => ?_)) ?_) fun vs B7 H7 s7 hvs => ?_
      · rw [List.getElem?_map] at h1 h2
        obtain ⟨u, hu, rfl⟩ := Option.map_eq_some_iff.mp h1
        obtain ⟨w, hw, rfl⟩ := Option.map_eq_some_iff.mp h2
        rw [dl_at hu, dl_at hw]
        exact et_D (ed_eq (ed_var rfl q1) (ed_var rfl q2) (flat_dO1 u) (flat_dO1 w) (scal_dO u w) (dO_eq u w))
      · rw [List.getElem?_map] at h2
        obtain ⟨w, hw, rfl⟩ := Option.map_eq_some_iff.mp h2
        rw [dl_at hw]
        exact ed_var rfl q2
      · show PyData.list (gl _ _ _) = .list _
        rw [List.length_map, hol, ← hsm, List.map_map]; rfl
      · have S7 := S6.trans s7
        have hslen : sml.length ≤ 7 := by
          rw [← hsm, List.length_map]
          have := List.length_filter_le (fun i => decide (dl o i = dl d i)) (List.range W.n)
          rw [List.length_range] at this
          omega
        refine s_asgD S7.i (d := .int (keptOf A.old d)) ((ed_len (ed_lcL (f := fun j => (sml.getD j none).isSome) (v := fun j => dO (sml.getD j none)) (ds := sml.map dO) (ed_var rfl hvs) (by rw [List.length_map]; omega) (fun _ => rfl) (fun B' e i d1 a h1 q1 => ?_) (fun B' e i d1 a h1 _ q1 => ?_))).eq ?_) fun v B8 H8 s8 hv => ?_
        · rw [List.getElem?_map] at h1
          obtain ⟨u, hu, rfl⟩ := Option.map_eq_some_iff.mp h1
          have : sml.getD i none = u := by rw [List.getD_eq_getElem?_getD, hu]; rfl
          rw [this]
          exact et_is (et_DB (ed_notN (ed_var rfl q1))) (by cases u <;> rfl)
        · rw [List.getElem?_map] at h1
          obtain ⟨u, hu, rfl⟩ := Option.map_eq_some_iff.mp h1
          have : sml.getD i none = u := by rw [List.getD_eq_getElem?_getD, hu]; rfl
          rw [this]
          exact ed_var rfl q1
        · show PyData.int ((gl _ _ _).length : Nat) = .int _
          congr 1
          unfold gl
          rw [List.length_map, List.length_map, filter_len (fun o : Option Nat => o.isSome) sml none, ← hsm]
          unfold keptOf
          rw [hdl, ho]
          exact (kept_len (oldF (some o)) (dl d) W.n).symm
        · cases (show v = .int (keptOf A.old d) from hv)
          exact ⟨_, _, _, B8, rfl, S7.trans s8, s7.b.trans s8.b⟩
    · have ho : A.old = none := by cases q2 : A.old with | none => rfl | some o => rw [q2] at q; cases q
      have hk : keptOf A.old d = 0 := by
        rw [ho]
        unfold keptOf
        have h0 : ∀ a, kept (oldF none) a (dl d a) = 0 := fun a => by
          unfold kept oldF
          split
          · rfl
          · rw [if_neg]
            intro q
            cases q
        rw [sm_congr (g := fun _ => 0) fun a _ => h0 a, sm_zero]
      rw [hk]
      exact ⟨none, none, none, B5, rfl, S5.grow e6, Ex.refl _⟩
  subst hσ
  have e46 := s5.b.trans e56
  refine q_new (EvL.mono S6.i el_new) fun lr H7 hlr e7 hlr7 => ?_
  have S7 := S6.grow e7
  have hHr : H lr = none := fresh_back S6.h hlr
  have hBr : B6 lr = none := fresh_back S6.i hlr
  refine q_forL (ds := A.turns.map dN) S7.i (ed_var rfl (hturns4.mono e46)) fun B8 H8 s8 => ⟨fun i σ' H' => ∃ a10 a11, σ' = [some x, some y, some z, some (.str (Ord.str A.ord)), some vold, some vt, some vc, some (.int (keptOf A.old d)), a8, some (.ref lr), a10, a11, a12, a13, a14] ∧ Stp B H B8 H' ∧ H' lr = some (.lst ((rrow W.longest (A.turns.take i) (rkOf W d)).map V.int)),
    ⟨none, none, rfl, S7.trans s8, s8.h _ _ hlr7⟩, fun i σ' H' ⟨_, _, _, s, _⟩ => s.i, fun i du r σ' H' hi hr ⟨a10, a11, hσ, S, hll⟩ => ?_, fun σ' H' ⟨a10, a11, hσ, S, hll⟩ => ?_⟩
  · subst hσ
    have hB8 : B8 lr = none := s8.free hlr7 hBr
    rw [List.getElem?_map] at hi
    obtain ⟨a, ha, rfl⟩ := Option.map_eq_some_iff.mp hi
    cases (show r = nV a from hr)
    have han : a < W.n := ao.lt a (List.mem_of_getElem? ha)
    have hda := dl_at' (d := d) (t := a) (by omega)
    have hd8 := (hd4.mono e46).mono s8.b
    have hw8 := ((h_wishes.mono S4.b).mono e46).mono s8.b
    have hi2 := (List.getElem?_eq_some_iff.mp ha).1
    have htk : A.turns.take (i + 1) = A.turns.take i ++ [a] := by rw [List.take_add_one, ha]; rfl
    refine q_asgD S.i ed_int fun v0 B9 H9 s9 hv0 => ?_
    cases (show v0 = .int 0 from hv0)
    have S9 := S.grow s9.h
    have hl9 := s9.h _ _ hll
    refine q_cut (M := fun σ' H' => σ' = [some x, some y, some z, some (.str (Ord.str A.ord)), some vold, some vt, some vc, some (.int (keptOf A.old d)), a8, some (.ref lr), some (nV a), some (.int (if rkOf W d a = 0 then 0 else (W.longest : Int) + 1 - rkOf W d a)), a12, a13, a14] ∧ Stp B H B8 H' ∧ H' lr = some (.lst ((rrow W.longest (A.turns.take i) (rkOf W d)).map V.int))) ?_ fun σ' H10 ⟨hσ, S10, hl10⟩ => ?_
    · refine s_if1 (b := (dl d a).isSome) S9.i (et_is (et_DB (ed_notN (ed_ixL (ed_var rfl hd8) (ed_var (d := dN a) rfl rfl) (atI_some hda)))) (by cases dl d a <;> rfl)) (fun q H10 e10 => ?_) (fun q H10 e10 => ?_)
      · obtain ⟨t, ht⟩ := Option.isSome_iff_exists.mp q
        have hrk : rkOf W d a = rankIn (W.ranks a) t := by unfold rkOf; rw [ht]; rfl
        have hne := dok.rk ht
        have S10 := S9.grow e10
        refine s_asgD S10.i (d := .int ((W.longest : Int) + 1 - rankIn (W.ranks a) t)) (ed_opI (ed_opI (ed_callA W (ea_consD (ed_var rfl hw8) ea_nilD) ok fun _ q => q) (ed_int (i := 1))) (ed_callA (W, a, t) (ea_consD (ed_var rfl hw8) (ea_consD (ed_var (d := dN a) rfl rfl) (ea_consD ((ed_ixL (ed_var rfl hd8) (ed_var (d := dN a) rfl rfl) (atI_some hda)).eq (by rw [ht]; rfl)) ea_nilD))) han fun _ q => q)) fun v B11 H11 s11 hv => ?_
        cases (show v = _ from hv)
        refine ⟨?_, S10.grow s11.h, s11.h _ _ (e10 _ _ hl9)⟩
        rw [hrk, if_neg hne]; rfl
      · have ht : dl d a = none := by cases q2 : dl d a with | none => rfl | some o => rw [q2] at q; cases q
        have hrk : rkOf W d a = 0 := by unfold rkOf; rw [ht]; rfl
        refine ⟨?_, S9.grow e10, e10 _ _ hl9⟩
        rw [hrk, if_pos rfl]; rfl
    · subst hσ
      refine s_app S10.i hl10 (ev_var rfl) (d := .int (if rkOf W d a = 0 then 0 else (W.longest : Int) + 1 - rkOf W d a)) (ed_var rfl rfl) (by rw [List.length_map, rrow_length, List.length_take]; omega) fun yv B11 H11 s11 hy => ?_
      cases (show yv = _ from hy)
      refine ⟨_, _, rfl, (S10.grow s11.h).mut _ hHr hB8, ?_⟩
      rw [upd_same, htk]
      unfold rrow
      rw [List.map_append, List.map_append]; rfl
  · subst hσ
    have hB8 : B8 lr = none := s8.free hlr7 hBr
    rw [List.length_map, List.take_length] at hll
    have S' := S.give hHr hB8 hll
    have eg : Ex B8 (upd B8 lr (.lst ((rrow W.longest A.turns (rkOf W d)).map V.int))) := Ex.new hB8
    have hle := hgt_le A.ord (countsOf W d)
    refine s_retD S'.i (EvD.eq (ed_cat (ed_cat (ed_var rfl ((hc.mono e46).mono (s8.b.trans eg))) (ed_lst (ea_consD (ed_var (d := .int (keptOf A.old d)) rfl rfl) ea_nilD) (by show 1 ≤ 100000; decide)) (by rw [List.length_map]; show _ + 1 ≤ 100000; omega)) (ed_var (d := dInts (rrow W.longest A.turns (rkOf W d))) rfl (Dt.ofInts upd_same)) (by rw [List.length_append, List.length_map, List.length_map, rrow_length]; show _ + 1 + _ ≤ 100000; omega)) (d2 := dInts (keyOf W A d)) (by
      unfold keyOf dInts
      rw [List.map_append, List.map_append]; rfl)) fun v B9 H9 s9 hv => k v H9 B9 _ (S'.trans s9) hv rfl

abbrev n__law_above : List Str := ["_law_wishes_here", "_law_one", "_law_other", "_law_mine", "_law_theirs", "_law_asker", "_law_thing", "_law_here", "_law_there"]
theorem sc__law_above : FnScope n__law_above ["_law_wishes_here", "_law_one", "_law_other"] (defScope s__law_above) := ⟨rfl, rfl, rfl, by decide +kernel, rfl, by decide +kernel, by decide +kernel⟩
theorem ok__law_above (T : Txt K mg CS CR CP aO) (c__law_place : Callable P w K mg base 2 "_law_place" ["_law_wishes_here", "_law_asker", "_law_thing"] sp__law_place) : Callable P w K mg base 3 "_law_above" ["_law_wishes_here", "_law_one", "_law_other"] sp__law_above := by
  have sc := sc__law_above
  refine mkFn T.f__law_above sc (fun _ _ _ _ _ _ us hl => match us, hl with | [_, _, _], _ => rfl) (fun vs H Q E h => ?_) (fun f cdv A outer s H vs Q E hr h => ?_)
  · obtain ⟨B, W, i0, hd, _⟩ := h; exact hd.length
  refine ⟨_, (pss_cons (ps_setLc (i := 3) (own := [("_law_asker", 5), ("_law_thing", 6)]) (g := gTup K 2 (gCons (gName 5) (gCons (gName 6) gNil))) (tt := tYes) rfl sc.nd rfl rfl (sw_true rfl rfl rfl (by decide +kernel)) (pi_enum (by rfl) T.b_enumerate (pa_cons (pv 1) pa_nil)) (blkOk_by (own := [("_law_asker", 5), ("_law_thing", 6)]) (N := n__law_above) (sc := defScope s__law_above) (by decide +kernel)) (fun _ _ _ _ _ => (pg_tup rfl (pgs_cons (pg_name (i := 5) sc.nd rfl (Or.inl rfl)) (pgs_cons (pg_name (i := 6) sc.nd rfl (Or.inl rfl)) pgs_nil)))) (fun _ _ _ _ _ => pts_nil) (fun _ _ _ _ _ => (pe_fn c__law_place (hr.mono (by decide)) (by rfl) (pa_cons (pv 0) (pa_cons (pv 5) (pa_cons (pv 6) pa_nil))))))
     (pss_cons (ps_setLc (i := 4) (own := [("_law_asker", 5), ("_law_thing", 6)]) (g := gTup K 2 (gCons (gName 5) (gCons (gName 6) gNil))) (tt := tYes) rfl sc.nd rfl rfl (sw_true rfl rfl rfl (by decide +kernel)) (pi_enum (by rfl) T.b_enumerate (pa_cons (pv 2) pa_nil)) (blkOk_by (own := [("_law_asker", 5), ("_law_thing", 6)]) (N := n__law_above) (sc := defScope s__law_above) (by decide +kernel)) (fun _ _ _ _ _ => (pg_tup rfl (pgs_cons (pg_name (i := 5) sc.nd rfl (Or.inl rfl)) (pgs_cons (pg_name (i := 6) sc.nd rfl (Or.inl rfl)) pgs_nil)))) (fun _ _ _ _ _ => pts_nil) (fun _ _ _ _ _ => (pe_fn c__law_place (hr.mono (by decide)) (by rfl) (pa_cons (pv 0) (pa_cons (pv 5) (pa_cons (pv 6) pa_nil))))))
     (pss_one (ps_ret (pe_and (pe_cmpR (op_neD hr.units) (pv 3) (pv 4) (by rfl)) (pe_one (pe_callB (id := "all") (cr_all rfl) (by rfl) T.b_all (by decide +kernel) (pa_cons (pe_lc (own := [("_law_here", 7), ("_law_there", 8)]) (g := gTup K 2 (gCons (gName 7) (gCons (gName 8) gNil))) (tt := tYes) rfl sc.nd (pi_zip (by rfl) T.b_zip (pa_cons (pv 3) (pa_cons (pv 4) pa_nil))) (blkOk_by (own := [("_law_here", 7), ("_law_there", 8)]) (N := n__law_above) (sc := defScope s__law_above) (by decide +kernel)) (fun _ _ _ _ _ => (pg_tup rfl (pgs_cons (pg_name (i := 7) sc.nd rfl (Or.inl rfl)) (pgs_cons (pg_name (i := 8) sc.nd rfl (Or.inl rfl)) pgs_nil)))) (fun _ _ _ _ _ => pts_nil) (fun _ _ _ _ _ => (pe_cmpR op_le (pv 7) (pv 8) (by rfl)))) pa_nil)))))))), ?_⟩
  obtain ⟨B, ⟨W, d, d'⟩, i0, hd, ⟨ok, dok, dok'⟩, k⟩ := h
  have ok : W.Ok := ok
  have dok : DealOk W d := dok
  have dok' : DealOk W d' := dok'
  obtain ⟨x, y, z, rfl, h_wishes, h_one, h_other⟩ := DtL.three (d1 := dW W) (d2 := dDeal d) (d3 := dDeal d') hd
  have hn7 : W.n ≤ 7 := ok.n7
  have hdl : d.length = W.n := dok.len
  have hdl' : d'.length = W.n := dok'.len
  have el : ∀ d : Deal, DealOk W d → ∀ (i : Nat) o, d[i]? = some o → place W.longest (rankO (W.ranks i) o) = (plc W d).getD i 0 ∧ i < W.n ∧ ∀ t, o = some t → rankIn (W.ranks i) t ≠ 0 := fun d dok i o ho => by
    have hi := (List.getElem?_eq_some_iff.mp ho).1
    have hdl : d.length = W.n := dok.len
    refine ⟨?_, by omega, fun t ht => by subst ht; exact dok.wish i t ho⟩
    rw [List.getD_eq_getElem?_getD, plc_at W d hi]
    show _ = place W.longest (rankO (W.ranks i) (dl d i))
    rw [dl_at ho]
  refine q_asgD i0 (d := dNs (plc W d)) (EvD.eq (ed_lcE (f := fun _ => true) (v := fun i => dN ((plc W d).getD i 0)) (ds := d.map dO) (ed_var rfl h_one) (by rw [List.length_map]; omega) (fun _ _ => rfl) (fun _ _ _ _ _ _ _ => et_yes) (fun B' e i dx v hi _ hv => ?_)) ?_) fun vm B1 H1 S1 hm => ?_
  · rw [List.getElem?_map] at hi
    obtain ⟨o, ho, rfl⟩ := Option.map_eq_some_iff.mp hi
    obtain ⟨q1, q2, q3⟩ := el d dok i o ho
    exact (ed_callA (W, i, o) (ea_consD (ed_var rfl (h_wishes.mono e)) (ea_consD (ed_var (d := dN i) rfl rfl) (ea_consD (ed_var rfl hv) ea_nilD))) ⟨ok, q2, q3⟩ fun _ q => q).eq (congrArg dN q1)
  · have el : (d.map dO).length = (plc W d).length := by rw [List.length_map, plc_len]
    rw [el, gl_map dN]; rfl
  refine q_asgD S1.i (d := dNs (plc W d')) (EvD.eq (ed_lcE (f := fun _ => true) (v := fun i => dN ((plc W d').getD i 0)) (ds := d'.map dO) (ed_var rfl (h_other.mono S1.b)) (by rw [List.length_map]; omega) (fun _ _ => rfl) (fun _ _ _ _ _ _ _ => et_yes) (fun B' e i dx v hi _ hv => ?_)) ?_) fun vt B2 H2 s2 ht => ?_
  · rw [List.getElem?_map] at hi
    obtain ⟨o, ho, rfl⟩ := Option.map_eq_some_iff.mp hi
    obtain ⟨q1, q2, q3⟩ := el d' dok' i o ho
    exact (ed_callA (W, i, o) (ea_consD (ed_var rfl ((h_wishes.mono S1.b).mono e)) (ea_consD (ed_var (d := dN i) rfl rfl) (ea_consD (ed_var rfl hv) ea_nilD))) ⟨ok, q2, q3⟩ fun _ q => q).eq (congrArg dN q1)
  · have el : (d'.map dO).length = (plc W d').length := by rw [List.length_map, plc_len]
    rw [el, gl_map dN]; rfl
  have S2 := S1.trans s2
  have hm2 := hm.mono s2.b
  have hsh : ∀ l : List Nat, SeqAt.shaped (dNs l) = true := fun l => by rw [dNs_ints]; exact shaped_ints _
  have heq : (!PyData.eqv (dNs (plc W d)) (dNs (plc W d'))) = !decide (plc W d = plc W d') := by
    rw [dNs_ints, dNs_ints, eqv_ints]
    congr 1
    refine decide_eq_decide.mpr ⟨fun h => ?_, fun h => by rw [h]⟩
    have hinj : ∀ a b : List Nat, a.map (fun n : Nat => (n : Int)) = b.map (fun n : Nat => (n : Int)) → a = b := fun a => by
      induction a with
      | nil => intro b h; cases b with | nil => rfl | cons _ _ => simp at h
      | cons p ps ih =>
        intro b h
        cases b with
        | nil => simp at h
        | cons q qs =>
          simp only [List.map_cons, List.cons.injEq] at h
          rw [ih qs h.2, show p = q by omega]
    exact hinj _ _ h
  refine s_retD S2.i (ed_andV (ed_neL (ed_var rfl hm2) (ed_var rfl ht) (flat_dN _) (flat_dN _) (hsh _) (hsh _) heq) fun _ => ed_all (bs := (List.range W.n).map fun i => decide ((plc W d).getD i 0 ≤ (plc W d').getD i 0)) (EvD.eq (ed_lcZ (f := fun _ => true) (v := fun i => .bool (decide ((plc W d).getD i 0 ≤ (plc W d').getD i 0))) (ed_var rfl hm2) (ed_var rfl ht) (by rw [List.length_map, List.length_map, plc_len, plc_len, hdl, hdl']) (by rw [List.length_map, plc_len]; omega) (fun _ _ => rfl) (fun _ _ _ _ _ _ _ _ _ _ _ => et_yes) (fun B' e i d1 d2 a b h1 h2 _ q1 q2 => ?_)) ?_)) fun v B3 H3 s3 hv => k v H3 B3 _ (S2.trans s3) hv rfl
  · rw [List.getElem?_map] at h1 h2
    obtain ⟨u, hu, rfl⟩ := Option.map_eq_some_iff.mp h1
    obtain ⟨w, hw, rfl⟩ := Option.map_eq_some_iff.mp h2
    refine (ed_cmp (ed_var rfl q1) (ed_var rfl q2)).eq ?_
    rw [List.getD_eq_getElem?_getD, List.getD_eq_getElem?_getD, hu, hw]
    show PyData.bool (decide ((u : Int) ≤ (w : Int))) = .bool (decide (u ≤ w))
    congr 1
    exact decide_eq_decide.mpr (by omega)
  · rw [gl_all, List.length_map, plc_len, hdl, List.map_map]; rfl

end
end Wk
namespace Wk
open PySem L2 Evl Wd
/-- the law's def, whichever object it is -/
def CallL (P : Program) (w : World) (K : PySem.W.Frag) (mg : Str → Option Value) (base : Heap) (k : Nat) (x : Str) (ps : List Str) (sp : Sp) : Prop := ∀ f fd, Fun K x x s_law f fd → FnOk P w K mg base CX0 k f fd ps sp
theorem mkL {P : Program} {w : World} {K : PySem.W.Frag} {mg : Str → Option Value} {base : Heap} {k : Nat} {x : Str} {N ps : List Str} {sp : Sp} (_ : HasFn K mg x s_law) (S : FnScope N ps (defScope s_law)) (_ : BindsAs x x s_law ps) (len : ∀ vs H Q E, sp vs H Q E → vs.length = ps.length) (body : ∀ f, BodyOk P w K mg base k x s_law N f sp) : CallL P w K mg base (k + 1) x ps sp :=
  fun f _ F => F.ok S len (body f)
theorem cnt_count : ∀ (d : Deal) (t : Nat), cnt d.length (dl d) t = (d.count (some t) : Int)
  | [], _ => rfl
  | o :: d, t => by
    have shift : ∀ n : Nat, cnt (n + 1) (dl (o :: d)) t = hit o t + cnt n (dl d) t := fun n => by
      induction n with
      | zero =>
        show (0 : Int) + hit (dl (o :: d) 0) t = hit o t + 0
        show (0 : Int) + hit o t = hit o t + 0
        omega
      | succ n ih =>
        show cnt (n + 1) (dl (o :: d)) t + hit (dl (o :: d) (n + 1)) t = hit o t + (cnt n (dl d) t + hit (dl d n) t)
        rw [ih]
        have : dl (o :: d) (n + 1) = dl d n := rfl
        rw [this]; omega
    rw [List.length_cons, shift, cnt_count d t, List.count_cons]
    unfold hit
    by_cases e : o = some t
    · subst e; simp; omega
    · have : (o == some t) = false := beq_eq_false_iff_ne.mpr e
      rw [if_neg e, this]; simp
theorem copW {W : Wish} {t c : Nat} (h : W.copies[t]? = some c) : capW W t = (c : Int) := by
  unfold capW
  rw [List.getD_eq_getElem?_getD, h]; rfl
theorem Best.ok {W : Wish} {A : Aim} {d : Deal} (ok : W.Ok) (b : Best W A d) : DealOk W d := by
  obtain ⟨hl, fe, _⟩ := b
  refine ⟨hl, fun a t h => ?_, fun t c h => ?_⟩
  · have ha : a < W.n := by have := (List.getElem?_eq_some_iff.mp h).1; omega
    have := (fe.wish a ha t (dl_at h)).2
    obtain ⟨v, hv⟩ := Option.isSome_iff_exists.mp this
    obtain ⟨_, _, j, hj⟩ := wtF_idx hv
    exact (wished_mem ok).mp (List.mem_of_getElem? hj)
  · have := fe.cop t (List.getElem?_eq_some_iff.mp h).1
    rw [copW h, ← hl, cnt_count] at this
    omega
theorem DealOk.feas {W : Wish} {A : Aim} {d : Deal} (ok : W.Ok) (h : DealOk W d) : Feas (wtF W A) W.m (capW W) W.n (dl d) := by
  have hl : d.length = W.n := h.len
  refine ⟨fun a ha t hd => ?_, fun t ht => ?_, fun a ha => ?_⟩
  · have hw : t ∈ wished W a := (wished_mem ok).mpr (h.rk hd)
    refine ⟨wished_lt hw, ?_⟩
    unfold wtF
    rw [if_pos hw]; rfl
  · obtain ⟨c, hc⟩ : ∃ c, W.copies[t]? = some c := ⟨_, List.getElem?_eq_getElem ht⟩
    rw [← hl, cnt_count, copW hc]
    have := h.cop t c hc
    omega
  · unfold dl
    rw [List.getD_eq_getElem?_getD, List.getElem?_eq_none (by omega)]; rfl
theorem wsumW {W : Wish} {A : Aim} {d : Deal} (ok : W.Ok) (ao : A.Ok W) (h : DealOk W d) :
    wsum (wtF W A) W.n (dl d) = pack ((W.n : Int) + 1) (((W.longest : Int) + 1) ^ A.turns.length) (osum A.ord W.n W.longest (rkOf W d)) (sm W.n fun a => kept (oldF A.old) a (dl d a)) (num ((W.longest : Int) + 1) (rrow W.longest A.turns (rkOf W d))) := by
  refine wsum_pack ao.nd ao.lt (fun a ha t hd => ?_) fun a ha hd => ?_
  · have hr : rkOf W d a = rankIn (W.ranks a) t := by unfold rkOf; rw [hd]; rfl
    have hne := h.rk hd
    have hw : t ∈ wished W a := (wished_mem ok).mpr hne
    refine ⟨by rw [hr]; exact hne, ?_⟩
    unfold wtF
    rw [if_pos hw, hr]; rfl
  · unfold rkOf; rw [hd]; rfl
theorem best_score {W : Wish} {A : Aim} {d b : Deal} (ok : W.Ok) (ao : A.Ok W) (hd : DealOk W d) (hb : Best W A b) :
    lx (hgt A.ord (countsOf W d)) (hgt A.ord (countsOf W b)) = true ∨ (countsOf W d = countsOf W b ∧ (keptOf A.old d < keptOf A.old b ∨ (keptOf A.old d = keptOf A.old b ∧ lx (rrow W.longest A.turns (rkOf W b)) (rrow W.longest A.turns (rkOf W d)) = false))) := by
  have bok := hb.ok ok
  obtain ⟨hbl, fe, u, q, du⟩ := id hb
  have hle := du.best (hd.feas (A := A) ok)
  rw [wsumW ok ao hd, wsumW ok ao bok] at hle
  have := score_le ao.lt (fun a _ => rkOf_le W d a) (fun a _ => rkOf_le W b a) hle
  unfold countsOf keptOf
  rw [show d.length = W.n from hd.len, hbl]
  exact this
theorem rab_lx {R : Nat} {rk rk' : Nat → Nat} : ∀ {ts : List Nat}, (∀ a, a ∈ ts → rk a ≤ R) → (∀ a, a ∈ ts → rk' a ≤ R) → rab (ts.map rk) (ts.map rk') = lx (rrow R ts rk') (rrow R ts rk)
  | [], _, _ => rfl
  | a :: ts, h, h' => by
    have ih := rab_lx (ts := ts) (fun b hb => h b (List.mem_cons_of_mem _ hb)) fun b hb => h' b (List.mem_cons_of_mem _ hb)
    have h1 := h a List.mem_cons_self
    have h2 := h' a List.mem_cons_self
    rw [rrow_cons, rrow_cons]
    show (if rk a = rk' a then rab (ts.map rk) (ts.map rk') else if rk a = 0 then false else decide (rk' a = 0) || decide (rk a < rk' a)) = (if (if rk' a = 0 then (0 : Int) else (R : Int) + 1 - rk' a) = (if rk a = 0 then (0 : Int) else (R : Int) + 1 - rk a) then lx (rrow R ts rk') (rrow R ts rk) else decide ((if rk' a = 0 then (0 : Int) else (R : Int) + 1 - rk' a) < (if rk a = 0 then (0 : Int) else (R : Int) + 1 - rk a)))
    by_cases e : rk a = rk' a
    · rw [if_pos e, e, if_pos rfl]; exact ih
    · rw [if_neg e]
      by_cases e1 : rk a = 0
      · have e2 : rk' a ≠ 0 := fun z => e (e1.trans z.symm)
        rw [if_pos e1, if_pos e1, if_neg e2, if_neg (by omega)]
        exact (decide_eq_false (by omega)).symm
      · rw [if_neg e1, if_neg e1]
        by_cases e2 : rk' a = 0
        · rw [if_pos e2, if_neg (by omega), decide_eq_true e2, decide_eq_true (show (0 : Int) < (R : Int) + 1 - rk a by omega)]; rfl
        · rw [if_neg e2, if_neg (by omega), decide_eq_false e2, Bool.false_or]
          exact decide_eq_decide.mpr (by omega)
theorem not_better {W : Wish} {A : Aim} {d b : Deal} (ok : W.Ok) (ao : A.Ok W) (hd : DealOk W d) (hb : Best W A b) : better W A d b = false := by
  unfold better
  rcases best_score ok ao hd hb with h | ⟨hc, h⟩
  · have hne : hgt A.ord (countsOf W d) ≠ hgt A.ord (countsOf W b) := fun z => by rw [z, lx_irrefl] at h; cases h
    have e : beside A.ord (countsOf W d) (countsOf W b) = "worse" := by
      unfold beside
      rw [if_neg hne, lx_asymm h]
      rfl
    rw [e, if_neg (by decide +kernel)]
    decide +kernel
  · have e : beside A.ord (countsOf W d) (countsOf W b) = "alike" := by unfold beside; rw [hc, if_pos rfl]
    rw [e, if_pos rfl]
    rcases h with h | ⟨hk, h⟩
    · rw [if_neg (by omega)]
      exact decide_eq_false (by omega)
    · rw [if_pos hk]
      unfold ranksOf
      rw [rab_lx (R := W.longest) (fun a _ => rkOf_le W d a) fun a _ => rkOf_le W b a]
      exact h
theorem key_len {W : Wish} {A : Aim} {d b : Deal} : (keyOf W A d).length = (keyOf W A b).length := by
  unfold keyOf
  rw [List.length_append, List.length_append, List.length_append, List.length_append, rrow_length, rrow_length, hgt_len A.ord (show (countsOf W d).length = (countsOf W b).length by rw [countsOf_len, countsOf_len])]; rfl
theorem not_key {W : Wish} {A : Aim} {d b : Deal} (ok : W.Ok) (ao : A.Ok W) (hd : DealOk W d) (hb : Best W A b) : lx (keyOf W A b) (keyOf W A d) = false := by
  have hl : (hgt A.ord (countsOf W b)).length = (hgt A.ord (countsOf W d)).length := hgt_len A.ord (by rw [countsOf_len, countsOf_len])
  unfold keyOf
  rw [lx_append (by rw [List.length_append, List.length_append, hl]; rfl)]
  rcases best_score ok ao hd hb with h | ⟨hc, h⟩
  · have hne : hgt A.ord (countsOf W b) ≠ hgt A.ord (countsOf W d) := fun z => by rw [z, lx_irrefl] at h; cases h
    have hne2 : ¬ hgt A.ord (countsOf W b) ++ [keptOf A.old b] = hgt A.ord (countsOf W d) ++ [keptOf A.old d] := fun z => hne (List.append_inj_left z hl)
    rw [if_neg hne2, lx_append hl, if_neg hne]
    exact lx_asymm h
  · rcases h with h | ⟨hk, h⟩
    · have hne2 : ¬ hgt A.ord (countsOf W b) ++ [keptOf A.old b] = hgt A.ord (countsOf W d) ++ [keptOf A.old d] := fun z => by
        have := List.append_inj_right z hl
        have : keptOf A.old b = keptOf A.old d := by injection this
        omega
      rw [if_neg hne2, lx_append hl, hc, if_pos rfl]
      show (if keptOf A.old b = keptOf A.old d then lx [] [] else decide (keptOf A.old b < keptOf A.old d)) = false
      rw [if_neg (by omega)]
      exact decide_eq_false (by omega)
    · rw [hc, hk, if_pos rfl]
      exact h
theorem not_above {W : Wish} {A : Aim} {d b : Deal} (ok : W.Ok) (ao : A.Ok W) (hd : DealOk W d) (hb : Best W A b) : abv W d b = false := by
  have bok := hb.ok ok
  obtain ⟨hbl, fe, u, q, du⟩ := id hb
  have hdl : d.length = W.n := hd.len
  cases e : abv W d b with
  | false => rfl
  | true =>
    unfold abv at e
    simp only [Bool.and_eq_true, Bool.not_eq_true', decide_eq_false_iff_not, List.all_eq_true, List.mem_map, List.mem_range, forall_exists_index, and_imp, forall_apply_eq_imp_iff₂, id_eq, decide_eq_true_eq] at e
    obtain ⟨h1, h2⟩ := e
    have pl : ∀ (d : Deal), d.length = W.n → ∀ a, a < W.n → (plc W d).getD a 0 = place W.longest (rkOf W d a) := fun d hl a ha => by
      rw [List.getD_eq_getElem?_getD, plc_at W d (by omega)]; rfl
    have hle : ∀ a, a < W.n → place W.longest (rkOf W d a) ≤ place W.longest (rkOf W b a) := fun a ha => by
      have := h2 a ha
      rw [pl d hdl a ha, pl b hbl a ha] at this
      exact this
    obtain ⟨a, ha, hlt⟩ : ∃ a, a < W.n ∧ place W.longest (rkOf W d a) < place W.longest (rkOf W b a) := by
      refine Classical.byContradiction fun z => h1 ?_
      refine List.ext_getElem? fun i => ?_
      by_cases hi : i < W.n
      · rw [plc_at W d (by omega), plc_at W b (by omega)]
        have h3 := hle i hi
        have h4 : ¬ place W.longest (rkOf W d i) < place W.longest (rkOf W b i) := fun q => z ⟨i, hi, q⟩
        congr 1
        omega
      · rw [List.getElem?_eq_none (by rw [plc_len]; omega), List.getElem?_eq_none (by rw [plc_len]; omega)]
    have hmore := above_more (o := A.ord) (old := oldF A.old) (turns := A.turns) (d := dl d) (d' := dl b) ao.lt (fun a _ => rkOf_le W d a) (fun a _ => rkOf_le W b a) hle ha hlt
    have hbest := du.best (hd.feas (A := A) ok)
    rw [wsumW ok ao hd, wsumW ok ao bok] at hbest
    omega
theorem EvL.toD {σ : L2.St} {B : Hp} {te : TE} {l : List Int} (h : EvL te σ B (l.map V.int)) : EvD te σ B (dInts l) := fun H1 e Q q => h H1 e _ fun p H2 hp e2 hl => q _ H2 _ (((Stp.refl e).grow e2).give hp (fresh_back e hp) hl) (Dt.ofInts upd_same)
theorem cutV_ints (l : List Int) (lo hi : Option Int) : ∃ l' : List Int, cutV (l.map V.int) lo hi = l'.map V.int :=
  ⟨(l.drop (HT.sIx (l.map V.int).length 0 lo)).take (HT.sIx (l.map V.int).length (l.map V.int).length hi - HT.sIx (l.map V.int).length 0 lo), by unfold cutV; rw [List.map_take, List.map_drop]⟩
theorem s_asgP {σ : L2.St} {B H : Hp} {te : TE} {D : Ends} {i : Nat} {P : PyData → Prop} (i0 : Ex B H) (h : EvP te σ B P) (k : ∀ v B2 H2 d, Stp B H B2 H2 → Dt B2 d v → P d → D.nx (σ.set i (some v)) H2) : tAsg te (gName i) D σ H := h H i0 _ fun v H2 B2 d s hd hp => k v B2 H2 d s hd hp
theorem ed_notBl {σ : L2.St} {B : Hp} {ta tb : TE} {a b : Bool} (ha : EvD ta σ B (.bool a)) (hb : EvD tb σ B (.bool b)) : EvD (tOp rNotB ta tb) σ B (.bool (!decide (a = b))) := fun H1 e Q q =>
  ha H1 e _ fun v H2 B2 s hv => (hb.mono s.b) H2 s.i _ fun w H3 B3 s3 hw => by
    cases (show v = .bl a from hv)
    cases (show w = .bl b from hw)
    exact ⟨a, b, rfl, rfl, q _ H3 B3 (s.trans s3) rfl⟩

def sp_law (K : PySem.W.Frag) : Sp := fun vs H Q _ => ∃ (a : Addr) (sc : List Int), vs = [.ref a] ∧ SqL K H a (sc.map V.int) ∧ ∀ H', Q (.bl true) H'
section
variable {P : Program} {w : World} {K : PySem.W.Frag} {mg : Str → Option Value} {base : Heap} {CS CR CP aO : Addr}
abbrev n_law : List Str := ["_law_script", "_law_wishes_here", "_law_aim_here", "_law_best", "_law_key_here", "_law_dealing", "_law_k", "_law_cell"]
theorem sc_law : FnScope n_law ["_law_script"] (defScope s_law) := ⟨rfl, rfl, rfl, by decide +kernel, rfl, by decide +kernel, by decide +kernel⟩
theorem ok_law (T : Txt K mg CS CR CP aO) (c__law_wishes : Callable P w K mg base 2 "_law_wishes" ["_law_script", "_law_at", "_law_most_things", "_law_most_askers", "_law_most_ranks"] (sp__law_wishes K)) (c__law_aim : Callable P w K mg base 2 "_law_aim" ["_law_wishes_here", "_law_cell", "_law_salt"] sp__law_aim) (c__law_cell_at : Callable P w K mg base 1 "_law_cell_at" ["_law_script", "_law_k"] (sp__law_cell_at K)) (c_best_dealing : Callable P w K mg base 11 "best_dealing" ["wishes", "aim"] sp_best_dealing) (c__law_is_dealing : Callable P w K mg base 2 "_law_is_dealing" ["_law_wishes_here", "_law_thing"] sp__law_is_dealing) (c_bettered : Callable P w K mg base 10 "bettered" ["wishes", "aim", "dealing"] sp_bettered) (c__law_key : Callable P w K mg base 3 "_law_key" ["_law_wishes_here", "_law_aim_here", "_law_dealing"] sp__law_key) (c__law_dealt : Callable P w K mg base 2 "_law_dealt" ["_law_wishes_here", "_law_cell", "_law_salt"] sp__law_dealt) (c__law_near : Callable P w K mg base 3 "_law_near" ["_law_wishes_here", "_law_dealing", "_law_cell", "_law_salt"] sp__law_near) (c__law_above : Callable P w K mg base 3 "_law_above" ["_law_wishes_here", "_law_one", "_law_other"] sp__law_above) (c_is_better : Callable P w K mg base 8 "is_better" ["wishes", "aim", "one", "other"] sp_is_better) : CallL P w K mg base 12 "law" ["_law_script"] (sp_law K) := by
  have sc := sc_law
  refine mkL T.f_law sc (fun _ _ _ _ _ _ us hl => match us, hl with | [_], _ => rfl) (fun vs H Q E h => ?_) (fun f cdv A outer s H vs Q E hr h => ?_)
  · obtain ⟨a, sc1, rfl, _⟩ := h; rfl
  refine ⟨_, (pss_cons (ps_set (i := 1) sc.nd rfl (Or.inl rfl) (pe_fn c__law_wishes (hr.mono (by decide)) (by rfl) (pa_cons (pv 0) (pa_cons pe_int (pa_cons pe_int (pa_cons pe_int (pa_cons pe_int pa_nil)))))))
     (pss_cons (ps_set (i := 2) sc.nd rfl (Or.inl rfl) (pe_fn c__law_aim (hr.mono (by decide)) (by rfl) (pa_cons (pv 1) (pa_cons (pe_fn c__law_cell_at (hr.mono (by decide)) (by rfl) (pa_cons (pv 0) (pa_cons pe_int pa_nil))) (pa_cons pe_int pa_nil)))))
     (pss_cons (ps_set (i := 3) sc.nd rfl (Or.inl rfl) (pe_ix ix_tup (pe_fn c_best_dealing (hr.mono (by decide)) (by rfl) (pa_cons (pv 1) (pa_cons (pv 2) pa_nil))) pe_int (fun _ _ => rfl)))
     (pss_cons (ps_if (pt_not (pt_val (pe_fn c__law_is_dealing (hr.mono (by decide)) (by rfl) (pa_cons (pv 1) (pa_cons (pv 3) pa_nil)))))
     (pss_one (ps_ret pe_bl))
     pss_nil)
     (pss_cons (ps_if (pt_cmpR op_ne (pe_ix ix_tup (pe_fn c_bettered (hr.mono (by decide)) (by rfl) (pa_cons (pv 1) (pa_cons (pv 2) (pa_cons (pe_callTy (T := "list") call_listS (by rfl) T.b_list (by decide +kernel) (pa_cons (pv 3) pa_nil)) pa_nil)))) pe_int (fun _ _ => rfl)) pe_str (by rfl))
     (pss_one (ps_ret pe_bl))
     pss_nil)
     (pss_cons (ps_set (i := 4) sc.nd rfl (Or.inl rfl) (pe_fn c__law_key (hr.mono (by decide)) (by rfl) (pa_cons (pv 1) (pa_cons (pv 2) (pa_cons (pv 3) pa_nil)))))
     (pss_cons (ps_set (i := 5) sc.nd rfl (Or.inl rfl) (pv 3))
     (pss_cons (ps_for PassesOwn.never rfl (pi_enum (by rfl) T.b_enumerate (pa_cons (pe_slice sl_list (pv 0) (po_some pe_int) (po_some pe_int)) pa_nil)) (pg_tup rfl (pgs_cons (pg_name (i := 6) sc.nd rfl (Or.inl rfl)) (pgs_cons (pg_name (i := 7) sc.nd rfl (Or.inl rfl)) pgs_nil)))
     (pss_cut (ps_if (pt_cmpR op_eq (pe_op op_mod (pv 6) pe_int) pe_int (by rfl))
     (pss_one (ps_set (i := 5) sc.nd rfl (Or.inl rfl) (pe_fn c__law_dealt (hr.mono (by decide)) (by rfl) (pa_cons (pv 1) (pa_cons (pv 7) (pa_cons (pe_op op_add pe_int (pv 6)) pa_nil))))))
     (pss_one (ps_if (pt_cmpR op_eq (pe_op op_mod (pv 6) pe_int) pe_int (by rfl))
     (pss_one (ps_set (i := 5) sc.nd rfl (Or.inl rfl) (pe_fn c__law_near (hr.mono (by decide)) (by rfl) (pa_cons (pv 1) (pa_cons (pv 3) (pa_cons (pv 7) (pa_cons (pe_op op_add pe_int (pv 6)) pa_nil)))))))
     (pss_one (ps_set (i := 5) sc.nd rfl (Or.inl rfl) (pe_fn c__law_near (hr.mono (by decide)) (by rfl) (pa_cons (pv 1) (pa_cons (pv 5) (pa_cons (pv 7) (pa_cons (pe_op op_add pe_int (pv 6)) pa_nil))))))))))
     (pss_cons (ps_if (PW.pt (pw_or (pt_cmpR (WkR.op_gtL hr.units0) (pe_fn c__law_key (hr.mono (by decide)) (by rfl) (pa_cons (pv 1) (pa_cons (pv 2) (pa_cons (pv 5) pa_nil)))) (pv 4) (by rfl)) (pw_or1 (pt_val (pe_fn c__law_above (hr.mono (by decide)) (by rfl) (pa_cons (pv 1) (pa_cons (pv 5) (pa_cons (pv 3) pa_nil))))))))
     (pss_one (ps_ret pe_bl))
     pss_nil)
     (pss_one (ps_if (pt_cmpR op_notBl (pe_fn c_is_better (hr.mono (by decide)) (by rfl) (pa_cons (pv 1) (pa_cons (pv 2) (pa_cons (pe_callTy (T := "list") call_listS (by rfl) T.b_list (by decide +kernel) (pa_cons (pv 5) pa_nil)) (pa_cons (pe_callTy (T := "list") call_listS (by rfl) T.b_list (by decide +kernel) (pa_cons (pv 3) pa_nil)) pa_nil))))) pe_bl (by rfl))
     (pss_one (ps_ret pe_bl))
     pss_nil)))))
     (pss_one (ps_ret pe_bl)))))))))), ?_⟩
  obtain ⟨a0, sc1, rfl, hS, k⟩ := h
  have i0 : Ex H H := Ex.refl H
  -- wishes
  refine q_asg0 ⟨.ref a0, rfl, H, a0, sc1, rfl, i0, hS, fun vw H1 B1 W S1 hw ok => ?_⟩
  -- aim
  refine q_asgP S1.i (ep_callA (W, sc1.getD 0 0, 5) (ea_consD (ed_var rfl hw) (ea_consD (ed_cell (k := 0) (ev_var rfl) (ex_l S1.b hS) (ed_int (i := 0))) (ea_consD ed_int ea_nilD))) ok) fun va B2 H2 dA s2 ha hp => ?_
  obtain ⟨A, rfl, ao⟩ := hp
  have S2 := S1.trans s2
  have hw2 := hw.mono s2.b
  have sc0 : scOk (W, A) := ⟨ok, ao⟩
  -- the best dealing
  have hA : EvDA (tCons (tVar 1) (tCons (tVar 2) tNil)) [some (.ref a0), some vw, some va, none, none, none, none, none] B2 [dW W, dAim A] := ea_consD (ed_var rfl hw2) (ea_consD (ed_var rfl ha) ea_nilD)
  refine q_asg0 (show tCall (sp_best_dealing) [] E0 (tCons (tVar 1) (tCons (tVar 2) tNil)) [some (.ref a0), some vw, some va, none, none, none, none, none] H2 _ from call0 (hA H2 S2.i _ fun vs H3 B3 s3 hvs => ⟨B3, W, A, s3.i, by rw [List.append_nil]; exact hvs, sc0, fun r vb w H4 B4 b s4 hvb hb hr => ⟨r, [vb, w], 0, vb, rfl, rfl, st_of hr, atI_zero _ _, ?_⟩⟩))
  have S4 := (S2.trans s3).trans s4
  have hw4 := (hw2.mono s3.b).mono s4.b
  have ha4 := (ha.mono s3.b).mono s4.b
  have bok := hb.ok ok
  -- it is a dealing
  refine q_skip S4.i (et_not (et_DB (ed_callA (W, b) (d := .bool true) (ea_consD (ed_var rfl hw4) (ea_consD (ed_var rfl hvb) ea_nilD)) ok fun d' hd' => by
    obtain ⟨bb, rfl, hbb⟩ := hd'
    rw [hbb.mpr bok]))) rfl fun H5 e5 => ?_
  have S5 := S4.grow e5
  -- no way
  have hbt : Ev (tOp (rIxT K) (tCall sp_bettered [] E0 (tCons (tVar 1) (tCons (tVar 2) (tCons (tCB (rListS K) (tCons (tVar 3) tNil)) tNil)))) (tC (.int 0))) [some (.ref a0), some vw, some va, some vb, none, none, none, none] B4 (.str "best") := fun H6 e6 Q' q' => by
    have hA3 : EvDA (tCons (tVar 1) (tCons (tVar 2) (tCons (tCB (rListS K) (tCons (tVar 3) tNil)) tNil))) [some (.ref a0), some vw, some va, some vb, none, none, none, none] B4 [dW W, dAim A, dDeal b] := ea_consD (ed_var rfl hw4) (ea_consD (ed_var rfl ha4) (ea_consD (ed_list (ed_var rfl hvb)) ea_nilD))
    exact (show tCall sp_bettered [] E0 (tCons (tVar 1) (tCons (tVar 2) (tCons (tCB (rListS K) (tCons (tVar 3) tNil)) tNil))) [some (.ref a0), some vw, some va, some vb, none, none, none, none] H6 _ from call0 (hA3 H6 e6 _ fun vs H7 B7 s7 hvs => ⟨B7, W, A, b, s7.i, by rw [List.append_nil]; exact hvs, sc0, hb, fun r w H8 e8 hr => ⟨r, [.str "best", w], 0, .str "best", rfl, rfl, st_of hr, atI_zero _ _, q' H8 (s7.h.trans e8)⟩⟩))
  refine q_skip (b := false) S5.i (et_D (ed_ne (d1 := .str "best") (d2 := .str "best") (EvD.of hbt rfl) ed_str rfl rfl rfl (by decide +kernel))) rfl fun H6 e6 => ?_
  have S6 := S5.grow e6
  -- the key
  refine q_asgD S6.i (ed_callA (W, A, b) (ea_consD (ed_var rfl hw4) (ea_consD (ed_var rfl ha4) (ea_consD (ed_var rfl hvb) ea_nilD))) ⟨ok, ao, bok⟩ fun _ q => q) fun vk B7 H7 s7 hk => ?_
  have hk : Dt B7 (dInts (keyOf W A b)) vk := hk
  have S7 := S6.trans s7
  have hvb7 := hvb.mono s7.b
  refine q_asgD S7.i (ed_var rfl hvb7) fun vd B8 H8 s8 hvd => ?_
  have S8 := S7.trans s8
  have hw8 := (hw4.mono s7.b).mono s8.b
  have ha8 := (ha4.mono s7.b).mono s8.b
  have hb8 := hvb7.mono s8.b
  have hk8 := hk.mono s8.b
  obtain ⟨cells, hcells⟩ := cutV_ints sc1 (some 9) (some 63)
  have hsl : EvD (tSl (rSlL K) (tVar 0) (tPart (tC (.int 9))) (tPart (tC (.int 63)))) [some (.ref a0), some vw, some va, some vb, some vk, some vd, none, none] B8 (dInts cells) := by
    have := el_sl (K := K) (σ := [some (.ref a0), some vw, some va, some vb, some vk, some vd, none, none]) (H := B8) (a := a0) (te := tVar 0) (ev_var rfl) (eo_some (i := 9) ev_c) (eo_some (i := 63) ev_c) (ex_l S8.b hS)
    rw [hcells] at this
    exact EvL.toD this
  refine q_forE S8.i hsl fun B9 H9 s9 => ⟨fun i σ' H' => ∃ (vd : V) (a6 a7 : Option V) (d : Deal) (B' : Hp), σ' = [some (.ref a0), some vw, some va, some vb, some vk, some vd, a6, a7] ∧ Stp H H B' H' ∧ Ex B9 B' ∧ Dt B' (dDeal d) vd ∧ DealOk W d,
    ⟨vd, none, none, b, B9, rfl, S8.trans s9, Ex.refl _, hvd.mono s9.b, bok⟩, fun i σ' H' ⟨_, _, _, _, B', _, s, e, _⟩ => e.trans s.i, fun i dc vc σ' H' H'' hi hc ⟨vd, a6, a7, d, B', hσ, S, e9, hvd, dok⟩ e => ?_, fun σ' H' ⟨vd, a6, a7, d, B', hσ, S, e9, hvd, dok⟩ => ?_⟩
  · subst hσ
    rw [List.getElem?_map] at hi
    obtain ⟨c, _, rfl⟩ := Option.map_eq_some_iff.mp hi
    have hc := hc.mono e9
    have S' := S.grow e
    have e89 := s9.b.trans e9
    have di : ∀ a b : Int, decide (fV (.int a) = fV (.int b)) = decide (a = b) := fun a b => by simp [fV]
    have test : ∀ m : Int, EvT (tTest (tOp rEq (tOp (rI (fun _ j => 0 < j) fun i j => .int (i % j)) (tVar 6) (tC (.int 4))) (tC (.int m)))) [some (.ref a0), some vw, some va, some vb, some vk, some vd, some (.int (i : Int)), some vc] B' (decide ((i : Int) % 4 = m)) := fun m => et_D (ed_eq (d1 := .int ((i : Int) % 4)) (d2 := .int m) (ed_opC (ed_var (d := .int (i : Int)) rfl rfl) (ed_int (i := 4)) (by decide)) ed_int rfl rfl rfl (di _ _))
    refine q_cut (M := fun σ' H' => ∃ (vd : V) (d : Deal) (B'' : Hp), σ' = [some (.ref a0), some vw, some va, some vb, some vk, some vd, some (.int (i : Int)), some vc] ∧ Stp H H B'' H' ∧ Ex B9 B'' ∧ Dt B'' (dDeal d) vd ∧ DealOk W d) ?_ fun σ' H10 ⟨vd, d, B10, hσ, S10, e10, hvd, dok⟩ => ?_
    · refine s_ifB S'.i (test 0) (fun q H10 e10 => ?_) (fun q H10 e10 => ?_)
      · refine s_asgP (S'.grow e10).i (ep_callA (W, c, 31 + (i : Int)) (ea_consD (ed_var rfl (hw8.mono e89)) (ea_consD (ed_var rfl hc) (ea_consD (ed_opI ed_int (ed_var (d := .int (i : Int)) rfl rfl)) ea_nilD))) ok) fun v B11 H11 dd s11 hv hp => ?_
        obtain ⟨d2, rfl, dok2⟩ := hp
        exact ⟨v, d2, B11, rfl, (S'.grow e10).trans s11, e9.trans s11.b, hv, dok2⟩
      · refine s_ifB (S'.grow e10).i (test 1) (fun q H11 e11 => ?_) (fun q H11 e11 => ?_)
        · refine s_asgP ((S'.grow e10).grow e11).i (ep_callA (W, b, c, 31 + (i : Int)) (ea_consD (ed_var rfl (hw8.mono e89)) (ea_consD (ed_var rfl (hb8.mono e89)) (ea_consD (ed_var rfl hc) (ea_consD (ed_opI ed_int (ed_var (d := .int (i : Int)) rfl rfl)) ea_nilD)))) ⟨ok, bok⟩) fun v B12 H12 dd s12 hv hp => ?_
          obtain ⟨d2, rfl, dok2⟩ := hp
          exact ⟨v, d2, B12, rfl, ((S'.grow e10).grow e11).trans s12, e9.trans s12.b, hv, dok2⟩
        · refine s_asgP ((S'.grow e10).grow e11).i (ep_callA (W, d, c, 31 + (i : Int)) (ea_consD (ed_var rfl (hw8.mono e89)) (ea_consD (ed_var rfl hvd) (ea_consD (ed_var rfl hc) (ea_consD (ed_opI ed_int (ed_var (d := .int (i : Int)) rfl rfl)) ea_nilD)))) ⟨ok, dok⟩) fun v B12 H12 dd s12 hv hp => ?_
          obtain ⟨d2, rfl, dok2⟩ := hp
          exact ⟨v, d2, B12, rfl, ((S'.grow e10).grow e11).trans s12, e9.trans s12.b, hv, dok2⟩
    · subst hσ
      have e810 := s9.b.trans e10
      have hw10 := hw8.mono e810
      have ha10 := ha8.mono e810
      have hb10 := hb8.mono e810
      refine q_skip (b := false || false) S10.i (et_or (et_D (ed_gtL (ns := keyOf W A d) (ms := keyOf W A b) (ed_callA (W, A, d) (ea_consD (ed_var rfl hw10) (ea_consD (ed_var rfl ha10) (ea_consD (ed_var rfl hvd) ea_nilD))) ⟨ok, ao, dok⟩ fun _ q => q) (ed_var rfl (hk8.mono e810)) key_len (not_key ok ao dok hb))) fun _ => et_DB (ed_callA (W, d, b) (d := .bool false) (ea_consD (ed_var rfl hw10) (ea_consD (ed_var rfl hvd) (ea_consD (ed_var rfl hb10) ea_nilD))) ⟨ok, dok, bok⟩ fun d' hd' => by
        rw [show d' = .bool (abv W d b) from hd', not_above ok ao dok hb])) rfl fun H11 e11 => ?_
      have S11 := S10.grow e11
      refine s_no S11.i (et_D (ed_notBl (ed_callA (W, A, d, b) (d := .bool false) (ea_consD (ed_var rfl hw10) (ea_consD (ed_var rfl ha10) (ea_consD (ed_list (ed_var rfl hvd)) (ea_consD (ed_list (ed_var rfl hb10)) ea_nilD)))) ⟨ok, ao, dok, bok⟩ fun d' hd' => by
        rw [show d' = .bool (better W A d b) from hd', not_better ok ao dok hb]) (ed_bl (b := false)))) rfl fun H12 e12 => ?_
      exact ⟨vd, _, _, d, B10, rfl, S11.grow e12, e10, hvd, dok⟩
  · exact s_ret (ev_c (H := H')) fun H10 _ => k H10

end
end Wk
namespace Wk
open PySem L2 Evl Wd
section
variable {K : PySem.W.Frag} {h : Heap} {mg : Str → Option Value}
theorem has_fn (X : K.In h) (G : h.Ns mainGlobals mg) {x : Str} {st : Stmt} {f : Addr} {oc : Value} {od an : Option Addr} {osl : Array (Option Value)} {kV doc pm cdv ct : Value} (a : PySem.W.nsIn K mainGlobals x = some (some (.ref f)))
    (l : K.lookup f = some ⟨oc, od, .func (PySem.W.fnOf x x (defArgs st) (defBody st) (defScope st) .none kV doc pm an cdv ct), osl⟩) (c : PySem.W.codeIn K cdv x = true) (k : PySem.W.keepIn K (.ref f) = true) : HasFn K mg x st := ⟨f, _, fun_mk l c k, PySem.W.mg_of X G a⟩
theorem has_m {C : Addr} {m qual : Str} {st : Stmt} {f : Addr} {oc : Value} {od an : Option Addr} {osl : Array (Option Value)} {kV doc pm cdv ct : Value} (a : PySem.W.findIn K (.ref C) m = some (some (.ref f))) (i : PySem.W.isFn K (.ref f) = true)
    (l : K.lookup f = some ⟨oc, od, .func (PySem.W.fnOf m qual (defArgs st) (defBody st) (defScope st) .none kV doc pm an cdv ct), osl⟩) (c : PySem.W.codeIn K cdv qual = true) (k : PySem.W.keepIn K (.ref f) = true) : HasM K C m qual st := ⟨f, _, fun_mk l c k, ⟨a, i, k⟩⟩
theorem has_c (X : K.In h) (G : h.Ns mainGlobals mg) {C : Addr} {x qual : Str} {st : Stmt} {f : Addr} {oc : Value} {od an : Option Addr} {osl : Array (Option Value)} {kV doc pm cdv ct : Value} (aC : PySem.W.nsIn K mainGlobals x = some (some (.ref C))) (mk : PySem.W.makesIn K C = true) (a : PySem.W.findIn K (.ref C) "__init__" = some (some (.ref f)))
    (i : PySem.W.isFn K (.ref f) = true) (kc : PySem.W.keepIn K (.ref C) = true) (l : K.lookup f = some ⟨oc, od, .func (PySem.W.fnOf "__init__" qual (defArgs st) (defBody st) (defScope st) .none kV doc pm an cdv ct), osl⟩) (c : PySem.W.codeIn K cdv qual = true) (k : PySem.W.keepIn K (.ref f) = true) :
    HasC K mg C x qual st := ⟨f, _, fun_mk l c k, ⟨mk, a, i, kc⟩, PySem.W.mg_of X G aC⟩
theorem no_attr {C : Addr} {f : Str} (a : PySem.W.findIn K (.ref C) f = some none) : NoAttr K C f := a
theorem has_int (X : K.In h) (G : h.Ns mainGlobals mg) {x : Str} {i : Int} {t : Nat} (a : PySem.W.nsIn K mainGlobals x = some (some (.int i t))) : ∃ t, mg x = some (.int i t) := ⟨t, PySem.W.mg_of X G a⟩
theorem has_orders (X : K.In h) (G : h.Ns mainGlobals mg) {aO : Addr} {oc : Value} {od : Option Addr} {osl : Array (Option Value)} {n : Nat} {t1 t2 t3 : Tok} (a : PySem.W.nsIn K mainGlobals "ORDERS" = some (some (.ref aO))) (l : K.lookup aO = some ⟨oc, od, .seq #[.str "firsts" t1, .str "full" t2, .str "lasts" t3] n, osl⟩) (hc : oc = .type "tuple") :
    ∃ (o : Obj) (its : Array Value) (n : Nat), mg "ORDERS" = some (.ref aO) ∧ K.lookup aO = some o ∧ o.cls = .type "tuple" ∧ o.data = .seq its n ∧ its.size ≤ sizeLine ∧ Vals [.str "firsts", .str "full", .str "lasts"] its.toList :=
  ⟨_, _, n, PySem.W.mg_of X G a, l, hc, rfl, by show 3 ≤ sizeLine; decide, .cons ⟨_, rfl⟩ (.cons ⟨_, rfl⟩ (.cons ⟨_, rfl⟩ .nil))⟩
end
section
variable {P : Program} {w : World} {K : PySem.W.Frag} {mg : Str → Option Value} {base : Heap} {CS CR CP aO : Addr}
theorem all_law (T : Txt K mg CS CR CP aO) : CallL P w K mg base 12 "law" ["_law_script"] (sp_law K) := by
  have c__law_numbers : Callable P w K mg base 1 "_law_numbers" ["_law_cell", "_law_salt", "_law_sizes"] sp__law_numbers := ok__law_numbers T 
  have c__law_cell_at : Callable P w K mg base 1 "_law_cell_at" ["_law_script", "_law_k"] (sp__law_cell_at K) := ok__law_cell_at T 
  have c__law_wishes : Callable P w K mg base 2 "_law_wishes" ["_law_script", "_law_at", "_law_most_things", "_law_most_askers", "_law_most_ranks"] (sp__law_wishes K) := ok__law_wishes T c__law_numbers c__law_cell_at
  have c__law_aim : Callable P w K mg base 2 "_law_aim" ["_law_wishes_here", "_law_cell", "_law_salt"] sp__law_aim := ok__law_aim T c__law_numbers
  have c_need_row : Callable P w K mg base 1 "need_row" ["part", "thing", "most"] sp_need_row := ok_need_row T 
  have c_is_whole : Callable P w K mg base 1 "is_whole" ["thing"] sp_is_whole := ok_is_whole T 
  have c_is_many : Callable P w K mg base 2 "is_many" ["thing"] sp_is_many := ok_is_many T c_is_whole
  have c_is_thing : Callable P w K mg base 2 "is_thing" ["thing", "many"] sp_is_thing := ok_is_thing T c_is_whole
  have c_are_ranks : Callable P w K mg base 3 "are_ranks" ["thing", "many"] sp_are_ranks := ok_are_ranks T c_is_thing
  have c_look_at_wishes : Callable P w K mg base 4 "look_at_wishes" ["thing"] sp_look_at_wishes := ok_look_at_wishes T c_need_row c_is_many c_are_ranks
  have c_is_order : Callable P w K mg base 1 "is_order" ["thing"] sp_is_order := ok_is_order T 
  have c_is_old : Callable P w K mg base 2 "is_old" ["wishes", "thing"] sp_is_old := ok_is_old T c_is_whole
  have c_are_turns : Callable P w K mg base 2 "are_turns" ["wishes", "thing"] sp_are_turns := ok_are_turns T c_is_whole
  have c_fault_of : Callable P w K mg base 3 "fault_of" ["wishes", "thing"] sp_fault_of := ok_fault_of T c_is_order c_is_old c_are_turns
  have c_look_at_aim : Callable P w K mg base 5 "look_at_aim" ["wishes", "thing"] sp_look_at_aim := ok_look_at_aim T c_look_at_wishes c_fault_of
  have c_longest : Callable P w K mg base 5 "longest" ["wishes"] sp_longest := ok_longest T c_look_at_wishes
  have c_powers_of : Callable P w K mg base 1 "powers_of" ["base", "most"] sp_powers_of := ok_powers_of T 
  have c_Scale_init : CallC P w K mg base 6 CS "Scale" ["self", "wishes", "aim"] (sp_Scale_init CS CR CP) := ok_Scale_init T c_longest c_powers_of
  have c_Scale_by_order : CallM P w K mg base 1 CS "by_order" ["self", "rank"] (sp_Scale_by_order CS CR CP) := ok_Scale_by_order T 
  have c_Scale_pick_of : CallM P w K mg base 1 CS "pick_of" ["self", "asker", "rank"] (sp_Scale_pick_of CS CR CP) := ok_Scale_pick_of T 
  have c_Scale_of : CallM P w K mg base 2 CS "of" ["self", "asker", "thing", "rank"] (sp_Scale_of CS CR CP) := ok_Scale_of T c_Scale_by_order c_Scale_pick_of
  have c_worths_of : Callable P w K mg base 3 "worths_of" ["scale", "asker", "ranks"] (sp_worths_of CS CR CP) := ok_worths_of T c_Scale_of
  have c_all_worths : Callable P w K mg base 8 "all_worths" ["wishes", "aim"] sp_all_worths := ok_all_worths T c_look_at_aim c_Scale_init c_worths_of
  have c_rows_by : Callable P w K mg base 9 "rows_by" ["wishes", "aim"] sp_rows_by := ok_rows_by T c_all_worths
  have c_Reach_init : CallC P w K mg base 1 CR "Reach" ["self", "rows", "dealt", "start"] (sp_Reach_init CS CR CP) := ok_Reach_init T 
  have c_Reach_to_things : CallM P w K mg base 1 CR "to_things" ["self"] (sp_Reach_to_things CS CR CP) := ok_Reach_to_things T 
  have c_Reach_to_askers : CallM P w K mg base 1 CR "to_askers" ["self"] (sp_Reach_to_askers CS CR CP) := ok_Reach_to_askers T 
  have c_Reach_go_on : CallM P w K mg base 2 CR "go_on" ["self"] (sp_Reach_go_on CS CR CP) := ok_Reach_go_on T c_Reach_to_things c_Reach_to_askers
  have c_Reach_end_by : CallM P w K mg base 1 CR "end_by" ["self", "left"] (sp_Reach_end_by CS CR CP) := ok_Reach_end_by T 
  have c_left_by : Callable P w K mg base 1 "left_by" ["copies", "dealt"] sp_left_by := ok_left_by T 
  have c_Reach_way_to : CallM P w K mg base 1 CR "way_to" ["self", "end"] (sp_Reach_way_to CS CR CP) := ok_Reach_way_to T 
  have c_best_way : Callable P w K mg base 3 "best_way" ["rows", "copies", "dealt", "start"] sp_best_way := ok_best_way T c_Reach_init c_Reach_go_on c_Reach_end_by c_left_by c_Reach_way_to
  have c_dealt_best : Callable P w K mg base 10 "dealt_best" ["wishes", "aim"] sp_dealt_best := ok_dealt_best T c_rows_by c_best_way
  have c_Prices_init : CallC P w K mg base 2 CP "Prices" ["self", "rows", "copies", "dealt"] (sp_Prices_init CS CR CP) := ok_Prices_init T c_left_by
  have c_Prices_rest : CallM P w K mg base 1 CP "rest" ["self", "asker"] (sp_Prices_rest CS CR CP) := ok_Prices_rest T 
  have c_Prices_chain : CallM P w K mg base 1 CP "chain" ["self", "thing"] (sp_Prices_chain CS CR CP) := ok_Prices_chain T 
  have c_Prices_way_by : CallM P w K mg base 2 CP "way_by" ["self", "thing"] (sp_Prices_way_by CS CR CP) := ok_Prices_way_by T c_Prices_chain c_Prices_rest
  have c_Prices_raised_by : CallM P w K mg base 3 CP "raised_by" ["self", "asker"] (sp_Prices_raised_by CS CR CP) := ok_Prices_raised_by T c_Prices_rest c_Prices_way_by
  have c_Prices_settle : CallM P w K mg base 4 CP "settle" ["self"] (sp_Prices_settle CS CR CP) := ok_Prices_settle T c_Prices_raised_by
  have c_Prices_told : CallM P w K mg base 2 CP "told" ["self"] (sp_Prices_told CS CR CP) := ok_Prices_told T c_Prices_rest
  have c_best_dealing : Callable P w K mg base 11 "best_dealing" ["wishes", "aim"] sp_best_dealing := ok_best_dealing T c_dealt_best c_Prices_init c_rows_by c_Prices_settle c_Prices_told
  have c__law_wished : Callable P w K mg base 1 "_law_wished" ["_law_wishes_here", "_law_asker"] sp__law_wished := ok__law_wished T 
  have c__law_is_number : Callable P w K mg base 1 "_law_is_number" ["_law_thing"] sp__law_is_number := ok__law_is_number T 
  have c__law_is_dealing : Callable P w K mg base 2 "_law_is_dealing" ["_law_wishes_here", "_law_thing"] sp__law_is_dealing := ok__law_is_dealing T c__law_wished c__law_is_number
  have c_bettered : Callable P w K mg base 10 "bettered" ["wishes", "aim", "dealing"] sp_bettered := ok_bettered T c_Prices_init c_rows_by c_Prices_settle c_Prices_told
  have c__law_longest : Callable P w K mg base 1 "_law_longest" ["_law_wishes_here"] sp__law_longest := ok__law_longest T 
  have c__law_rank : Callable P w K mg base 1 "_law_rank" ["_law_wishes_here", "_law_asker", "_law_thing"] sp__law_rank := ok__law_rank T 
  have c__law_counts : Callable P w K mg base 2 "_law_counts" ["_law_wishes_here", "_law_dealing"] sp__law_counts := ok__law_counts T c__law_longest c__law_rank
  have c__law_key : Callable P w K mg base 3 "_law_key" ["_law_wishes_here", "_law_aim_here", "_law_dealing"] sp__law_key := ok__law_key T c__law_counts c__law_longest c__law_rank
  have c__law_dealt : Callable P w K mg base 2 "_law_dealt" ["_law_wishes_here", "_law_cell", "_law_salt"] sp__law_dealt := ok__law_dealt T c__law_numbers c__law_wished
  have c__law_near : Callable P w K mg base 3 "_law_near" ["_law_wishes_here", "_law_dealing", "_law_cell", "_law_salt"] sp__law_near := ok__law_near T c__law_numbers c__law_wished c__law_is_dealing
  have c__law_place : Callable P w K mg base 2 "_law_place" ["_law_wishes_here", "_law_asker", "_law_thing"] sp__law_place := ok__law_place T c__law_longest c__law_rank
  have c__law_above : Callable P w K mg base 3 "_law_above" ["_law_wishes_here", "_law_one", "_law_other"] sp__law_above := ok__law_above T c__law_place
  have c_rank_got : Callable P w K mg base 1 "rank_got" ["ranks", "thing"] sp_rank_got := ok_rank_got T 
  have c_kept_of : Callable P w K mg base 1 "kept_of" ["old", "dealing"] sp_kept_of := ok_kept_of T 
  have c_rank_among : Callable P w K mg base 1 "rank_among" ["ranks", "thing"] sp_rank_among := ok_rank_among T 
  have c_counts_of : Callable P w K mg base 6 "counts_of" ["wishes", "dealing"] sp_counts_of := ok_counts_of T c_longest c_rank_among
  have c_score_of : Callable P w K mg base 7 "score_of" ["wishes", "aim", "dealing"] sp_score_of := ok_score_of T c_look_at_aim c_rank_got c_kept_of c_counts_of
  have c_need_order : Callable P w K mg base 1 "need_order" ["thing"] sp_need_order := ok_need_order T 
  have c_height : Callable P w K mg base 1 "height" ["order", "counts"] sp_height := ok_height T 
  have c_beside_by : Callable P w K mg base 2 "beside_by" ["order", "one", "other"] sp_beside_by := ok_beside_by T c_need_order c_height
  have c_ranks_are_better : Callable P w K mg base 1 "ranks_are_better" ["mine", "theirs"] sp_ranks_are_better := ok_ranks_are_better T 
  have c_is_better : Callable P w K mg base 8 "is_better" ["wishes", "aim", "one", "other"] sp_is_better := ok_is_better T c_score_of c_beside_by c_ranks_are_better
  have c_law : CallL P w K mg base 12 "law" ["_law_script"] (sp_law K) := ok_law T c__law_wishes c__law_aim c__law_cell_at c_best_dealing c__law_is_dealing c_bettered c__law_key c__law_dealt c__law_near c__law_above c_is_better
  exact c_law
end
theorem all_mk {P : Program} {w : World} {K : PySem.W.Frag} {mg : Str → Option Value} {fa CS CR CP aO : Addr} (hfa : mg "law" = some (.ref fa)) (T : Txt K mg CS CR CP aO) :
    ∃ fd : FuncData, (∀ (s : Shared) (v : Value), BindsTo s fd ⟨[v], []⟩ [("_law_script", v)]) ∧ ∀ base : Heap, K.In base → base.Ns mainGlobals mg → FnOk P w K mg base CX0 12 fa fd ["_law_script"] (sp_law K) := by
  obtain ⟨f0, fd, F0, g0⟩ := id T.f_law
  rw [hfa] at g0
  cases g0
  refine ⟨fd, fun s v => ?_, fun base _ _ => ?_⟩
  · obtain ⟨⟨oc, od, kV, doc, pm, an, cdv, ct, osl, e, l, c⟩, kp⟩ := F0
    subst e
    exact .of_eq rfl
  · exact all_law (P := P) (w := w) (base := base) T _ _ F0
theorem walk {l : PySem.W.OpenLaw} {q : Program} {loose : List Str} {XP : (Str → Option Value) → Heap → Prop} {YP : World → Heap → Prop} {d : DefRec} {K : Params → PySem.W.Frag} (hn : l.most = some 63) (hdf : d.params.defaults = [])
    (hY : ∀ (w : World) (h : Heap), YP w h → (K w.params).In h)
    (F : ∀ (w : World) (mg : Str → Option Value) (fa : Addr) (h : Heap), (K w.params).In h → h.Ns mainGlobals mg → mg d.name = some (.ref fa) →
      ∃ fd : FuncData, (∀ (s : Shared) (u : Value), BindsTo s fd ⟨[u], []⟩ [("_law_script", u)]) ∧ ∀ base : Heap, (K w.params).In base → base.Ns mainGlobals mg → FnOk l.prog w (K w.params) mg base CX0 12 fa fd ["_law_script"] (sp_law (K w.params))) :
    PySem.W.WalkO q loose XP YP l.row.toRowW d [] (fun f vs => PySem.call f vs) :=
  L2.walk_of (n := 63) (k := 12) (x := "_law_script") (CX := fun _ => CX0) (sp := fun w => sp_law (K w.params)) hn (by decide) hdf ⟨rfl, by decide, by decide⟩ hY F (fun _ _ a ns _ _ hS => ⟨a, ns, rfl, hS, fun _ => rfl⟩) fun _ _ _ _ _ z => z
end Wk
open PySem PySem.W PyProof.Rows
set_option maxRecDepth 100000 in
set_option maxHeartbeats 0 in
theorem PySem.Challenge.cw_wishdeal_k45_whole_none_is_better_holds : PySem.Challenge.rw_wishdeal_k45_whole_none_is_better.Holds := by
  w_on; o_law; k_head; (case hw => w_witness2)
  k_fill
  refine Wk.walk (l := PySem.Challenge.rw_wishdeal_k45_whole_none_is_better) rfl rfl (fun w h Y => PySem.W.kIn_of Y) ?F
  case F =>
    intro w mg fa h KX G hmg
    refine' Wk.all_mk hmg (Wk.Txt.mk (f_is_whole := Wk.has_fn KX G ?a1 ?l2 ?c3 ?k4)
      (f_need_row := Wk.has_fn KX G ?a5 ?l6 ?c7 ?k8)
      (f_is_many := Wk.has_fn KX G ?a9 ?l10 ?c11 ?k12)
      (f_is_thing := Wk.has_fn KX G ?a13 ?l14 ?c15 ?k16)
      (f_are_ranks := Wk.has_fn KX G ?a17 ?l18 ?c19 ?k20)
      (f_look_at_wishes := Wk.has_fn KX G ?a21 ?l22 ?c23 ?k24)
      (f_longest := Wk.has_fn KX G ?a25 ?l26 ?c27 ?k28)
      (f_rank_among := Wk.has_fn KX G ?a29 ?l30 ?c31 ?k32)
      (f_counts_of := Wk.has_fn KX G ?a33 ?l34 ?c35 ?k36)
      (f_need_order := Wk.has_fn KX G ?a37 ?l38 ?c39 ?k40)
      (f_height := Wk.has_fn KX G ?a41 ?l42 ?c43 ?k44)
      (f_beside_by := Wk.has_fn KX G ?a45 ?l46 ?c47 ?k48)
      (f_is_order := Wk.has_fn KX G ?a49 ?l50 ?c51 ?k52)
      (f_is_old := Wk.has_fn KX G ?a53 ?l54 ?c55 ?k56)
      (f_are_turns := Wk.has_fn KX G ?a57 ?l58 ?c59 ?k60)
      (f_fault_of := Wk.has_fn KX G ?a61 ?l62 ?c63 ?k64)
      (f_look_at_aim := Wk.has_fn KX G ?a65 ?l66 ?c67 ?k68)
      (f_rank_got := Wk.has_fn KX G ?a69 ?l70 ?c71 ?k72)
      (f_kept_of := Wk.has_fn KX G ?a73 ?l74 ?c75 ?k76)
      (f_score_of := Wk.has_fn KX G ?a77 ?l78 ?c79 ?k80)
      (f_ranks_are_better := Wk.has_fn KX G ?a81 ?l82 ?c83 ?k84)
      (f_is_better := Wk.has_fn KX G ?a85 ?l86 ?c87 ?k88)
      (f_powers_of := Wk.has_fn KX G ?a89 ?l90 ?c91 ?k92)
      (i_Scale := Wk.has_c KX G ?aC93 ?mk94 ?a95 ?i96 ?kc97 ?l98 ?c99 ?k100)
      (m_Scale_by_order := Wk.has_m ?a101 ?i102 ?l103 ?c104 ?k105)
      (m_Scale_pick_of := Wk.has_m ?a106 ?i107 ?l108 ?c109 ?k110)
      (m_Scale_of := Wk.has_m ?a111 ?i112 ?l113 ?c114 ?k115)
      (f_worths_of := Wk.has_fn KX G ?a116 ?l117 ?c118 ?k119)
      (f_all_worths := Wk.has_fn KX G ?a120 ?l121 ?c122 ?k123)
      (f_rows_by := Wk.has_fn KX G ?a124 ?l125 ?c126 ?k127)
      (f_left_by := Wk.has_fn KX G ?a128 ?l129 ?c130 ?k131)
      (i_Reach := Wk.has_c KX G ?aC132 ?mk133 ?a134 ?i135 ?kc136 ?l137 ?c138 ?k139)
      (m_Reach_to_things := Wk.has_m ?a140 ?i141 ?l142 ?c143 ?k144)
      (m_Reach_to_askers := Wk.has_m ?a145 ?i146 ?l147 ?c148 ?k149)
      (m_Reach_go_on := Wk.has_m ?a150 ?i151 ?l152 ?c153 ?k154)
      (m_Reach_end_by := Wk.has_m ?a155 ?i156 ?l157 ?c158 ?k159)
      (m_Reach_way_to := Wk.has_m ?a160 ?i161 ?l162 ?c163 ?k164)
      (f_best_way := Wk.has_fn KX G ?a165 ?l166 ?c167 ?k168)
      (f_dealt_best := Wk.has_fn KX G ?a169 ?l170 ?c171 ?k172)
      (i_Prices := Wk.has_c KX G ?aC173 ?mk174 ?a175 ?i176 ?kc177 ?l178 ?c179 ?k180)
      (m_Prices_rest := Wk.has_m ?a181 ?i182 ?l183 ?c184 ?k185)
      (m_Prices_chain := Wk.has_m ?a186 ?i187 ?l188 ?c189 ?k190)
      (m_Prices_way_by := Wk.has_m ?a191 ?i192 ?l193 ?c194 ?k195)
      (m_Prices_raised_by := Wk.has_m ?a196 ?i197 ?l198 ?c199 ?k200)
      (m_Prices_settle := Wk.has_m ?a201 ?i202 ?l203 ?c204 ?k205)
      (m_Prices_told := Wk.has_m ?a206 ?i207 ?l208 ?c209 ?k210)
      (f_bettered := Wk.has_fn KX G ?a211 ?l212 ?c213 ?k214)
      (f_best_dealing := Wk.has_fn KX G ?a215 ?l216 ?c217 ?k218)
      (f__law_cell_at := Wk.has_fn KX G ?a219 ?l220 ?c221 ?k222)
      (f__law_numbers := Wk.has_fn KX G ?a223 ?l224 ?c225 ?k226)
      (f__law_wishes := Wk.has_fn KX G ?a227 ?l228 ?c229 ?k230)
      (f__law_rank := Wk.has_fn KX G ?a231 ?l232 ?c233 ?k234)
      (f__law_longest := Wk.has_fn KX G ?a235 ?l236 ?c237 ?k238)
      (f__law_wished := Wk.has_fn KX G ?a239 ?l240 ?c241 ?k242)
      (f__law_aim := Wk.has_fn KX G ?a243 ?l244 ?c245 ?k246)
      (f__law_dealt := Wk.has_fn KX G ?a247 ?l248 ?c249 ?k250)
      (f__law_counts := Wk.has_fn KX G ?a251 ?l252 ?c253 ?k254)
      (f__law_is_number := Wk.has_fn KX G ?a255 ?l256 ?c257 ?k258)
      (f__law_is_dealing := Wk.has_fn KX G ?a259 ?l260 ?c261 ?k262)
      (f__law_near := Wk.has_fn KX G ?a263 ?l264 ?c265 ?k266)
      (f__law_key := Wk.has_fn KX G ?a267 ?l268 ?c269 ?k270)
      (f__law_place := Wk.has_fn KX G ?a271 ?l272 ?c273 ?k274)
      (f__law_above := Wk.has_fn KX G ?a275 ?l276 ?c277 ?k278)
      (f_law := Wk.has_fn KX G ?a279 ?l280 ?c281 ?k282)
      (cls_Scale := ⟨?pg283, ?hd284, ?po285, ?sa286⟩)
      (na_Scale_order := Wk.no_attr ?na287)
      (na_Scale_old := Wk.no_attr ?na288)
      (na_Scale_turns := Wk.no_attr ?na289)
      (na_Scale_base := Wk.no_attr ?na290)
      (na_Scale_ranks := Wk.no_attr ?na291)
      (na_Scale_steps := Wk.no_attr ?na292)
      (na_Scale_picks := Wk.no_attr ?na293)
      (cls_Reach := ⟨?pg294, ?hd295, ?po296, ?sa297⟩)
      (na_Reach_rows := Wk.no_attr ?na298)
      (na_Reach_dealt := Wk.no_attr ?na299)
      (na_Reach_start := Wk.no_attr ?na300)
      (na_Reach_freed := Wk.no_attr ?na301)
      (na_Reach_taken := Wk.no_attr ?na302)
      (na_Reach_takers := Wk.no_attr ?na303)
      (cls_Prices := ⟨?pg304, ?hd305, ?po306, ?sa307⟩)
      (na_Prices_rows := Wk.no_attr ?na308)
      (na_Prices_dealt := Wk.no_attr ?na309)
      (na_Prices_left := Wk.no_attr ?na310)
      (na_Prices_prices := Wk.no_attr ?na311)
      (na_Prices_raisers := Wk.no_attr ?na312)
      (b_all := PySem.W.mg_none_of KX G ?z313)
      (b_bool := PySem.W.mg_none_of KX G ?z314)
      (b_enumerate := PySem.W.mg_none_of KX G ?z315)
      (b_int := PySem.W.mg_none_of KX G ?z316)
      (b_isinstance := PySem.W.mg_none_of KX G ?z317)
      (b_len := PySem.W.mg_none_of KX G ?z318)
      (b_list := PySem.W.mg_none_of KX G ?z319)
      (b_max := PySem.W.mg_none_of KX G ?z320)
      (b_range := PySem.W.mg_none_of KX G ?z321)
      (b_reversed := PySem.W.mg_none_of KX G ?z322)
      (b_sorted := PySem.W.mg_none_of KX G ?z323)
      (b_str := PySem.W.mg_none_of KX G ?z324)
      (b_sum := PySem.W.mg_none_of KX G ?z325)
      (b_tuple := PySem.W.mg_none_of KX G ?z326)
      (b_zip := PySem.W.mg_none_of KX G ?z327)
      (k_MOST_THINGS := Wk.has_int KX G ?n328)
      (k_MOST_COPIES := Wk.has_int KX G ?n329)
      (k_MOST_ASKERS := Wk.has_int KX G ?n330)
      (k_MOST_RANKS := Wk.has_int KX G ?n331)
      (k_ORDERS := Wk.has_orders KX G ?aO332 ?lO333 ?cO334))
    (case a1 => k_is)
    (case l2 => k_is)
    (case c3 => k_is)
    (case k4 => k_is)
    (case a5 => k_is)
    (case l6 => k_is)
    (case c7 => k_is)
    (case k8 => k_is)
    (case a9 => k_is)
    (case l10 => k_is)
    (case c11 => k_is)
    (case k12 => k_is)
    (case a13 => k_is)
    (case l14 => k_is)
    (case c15 => k_is)
    (case k16 => k_is)
    (case a17 => k_is)
    (case l18 => k_is)
    (case c19 => k_is)
    (case k20 => k_is)
    (case a21 => k_is)
    (case l22 => k_is)
    (case c23 => k_is)
    (case k24 => k_is)
    (case a25 => k_is)
    (case l26 => k_is)
    (case c27 => k_is)
    (case k28 => k_is)
    (case a29 => k_is)
    (case l30 => k_is)
    (case c31 => k_is)
    (case k32 => k_is)
    (case a33 => k_is)
    (case l34 => k_is)
    (case c35 => k_is)
    (case k36 => k_is)
    (case a37 => k_is)
    (case l38 => k_is)
    (case c39 => k_is)
    (case k40 => k_is)
    (case a41 => k_is)
    (case l42 => k_is)
    (case c43 => k_is)
    (case k44 => k_is)
    (case a45 => k_is)
    (case l46 => k_is)
    (case c47 => k_is)
    (case k48 => k_is)
    (case a49 => k_is)
    (case l50 => k_is)
    (case c51 => k_is)
    (case k52 => k_is)
    (case a53 => k_is)
    (case l54 => k_is)
    (case c55 => k_is)
    (case k56 => k_is)
    (case a57 => k_is)
    (case l58 => k_is)
    (case c59 => k_is)
    (case k60 => k_is)
    (case a61 => k_is)
    (case l62 => k_is)
    (case c63 => k_is)
    (case k64 => k_is)
    (case a65 => k_is)
    (case l66 => k_is)
    (case c67 => k_is)
    (case k68 => k_is)
    (case a69 => k_is)
    (case l70 => k_is)
    (case c71 => k_is)
    (case k72 => k_is)
    (case a73 => k_is)
    (case l74 => k_is)
    (case c75 => k_is)
    (case k76 => k_is)
    (case a77 => k_is)
    (case l78 => k_is)
    (case c79 => k_is)
    (case k80 => k_is)
    (case a81 => k_is)
    (case l82 => k_is)
    (case c83 => k_is)
    (case k84 => k_is)
    (case a85 => k_is)
    (case l86 => k_is)
    (case c87 => k_is)
    (case k88 => k_is)
    (case a89 => k_is)
    (case l90 => k_is)
    (case c91 => k_is)
    (case k92 => k_is)
    (case aC93 => k_is)
    (case mk94 => k_is)
    (case a95 => k_is)
    (case i96 => k_is)
    (case kc97 => k_is)
    (case l98 => k_is)
    (case c99 => k_is)
    (case k100 => k_is)
    (case a101 => k_is)
    (case i102 => k_is)
    (case l103 => k_is)
    (case c104 => k_is)
    (case k105 => k_is)
    (case a106 => k_is)
    (case i107 => k_is)
    (case l108 => k_is)
    (case c109 => k_is)
    (case k110 => k_is)
    (case a111 => k_is)
    (case i112 => k_is)
    (case l113 => k_is)
    (case c114 => k_is)
    (case k115 => k_is)
    (case a116 => k_is)
    (case l117 => k_is)
    (case c118 => k_is)
    (case k119 => k_is)
    (case a120 => k_is)
    (case l121 => k_is)
    (case c122 => k_is)
    (case k123 => k_is)
    (case a124 => k_is)
    (case l125 => k_is)
    (case c126 => k_is)
    (case k127 => k_is)
    (case a128 => k_is)
    (case l129 => k_is)
    (case c130 => k_is)
    (case k131 => k_is)
    (case aC132 => k_is)
    (case mk133 => k_is)
    (case a134 => k_is)
    (case i135 => k_is)
    (case kc136 => k_is)
    (case l137 => k_is)
    (case c138 => k_is)
    (case k139 => k_is)
    (case a140 => k_is)
    (case i141 => k_is)
    (case l142 => k_is)
    (case c143 => k_is)
    (case k144 => k_is)
    (case a145 => k_is)
    (case i146 => k_is)
    (case l147 => k_is)
    (case c148 => k_is)
    (case k149 => k_is)
    (case a150 => k_is)
    (case i151 => k_is)
    (case l152 => k_is)
    (case c153 => k_is)
    (case k154 => k_is)
    (case a155 => k_is)
    (case i156 => k_is)
    (case l157 => k_is)
    (case c158 => k_is)
    (case k159 => k_is)
    (case a160 => k_is)
    (case i161 => k_is)
    (case l162 => k_is)
    (case c163 => k_is)
    (case k164 => k_is)
    (case a165 => k_is)
    (case l166 => k_is)
    (case c167 => k_is)
    (case k168 => k_is)
    (case a169 => k_is)
    (case l170 => k_is)
    (case c171 => k_is)
    (case k172 => k_is)
    (case aC173 => k_is)
    (case mk174 => k_is)
    (case a175 => k_is)
    (case i176 => k_is)
    (case kc177 => k_is)
    (case l178 => k_is)
    (case c179 => k_is)
    (case k180 => k_is)
    (case a181 => k_is)
    (case i182 => k_is)
    (case l183 => k_is)
    (case c184 => k_is)
    (case k185 => k_is)
    (case a186 => k_is)
    (case i187 => k_is)
    (case l188 => k_is)
    (case c189 => k_is)
    (case k190 => k_is)
    (case a191 => k_is)
    (case i192 => k_is)
    (case l193 => k_is)
    (case c194 => k_is)
    (case k195 => k_is)
    (case a196 => k_is)
    (case i197 => k_is)
    (case l198 => k_is)
    (case c199 => k_is)
    (case k200 => k_is)
    (case a201 => k_is)
    (case i202 => k_is)
    (case l203 => k_is)
    (case c204 => k_is)
    (case k205 => k_is)
    (case a206 => k_is)
    (case i207 => k_is)
    (case l208 => k_is)
    (case c209 => k_is)
    (case k210 => k_is)
    (case a211 => k_is)
    (case l212 => k_is)
    (case c213 => k_is)
    (case k214 => k_is)
    (case a215 => k_is)
    (case l216 => k_is)
    (case c217 => k_is)
    (case k218 => k_is)
    (case a219 => k_is)
    (case l220 => k_is)
    (case c221 => k_is)
    (case k222 => k_is)
    (case a223 => k_is)
    (case l224 => k_is)
    (case c225 => k_is)
    (case k226 => k_is)
    (case a227 => k_is)
    (case l228 => k_is)
    (case c229 => k_is)
    (case k230 => k_is)
    (case a231 => k_is)
    (case l232 => k_is)
    (case c233 => k_is)
    (case k234 => k_is)
    (case a235 => k_is)
    (case l236 => k_is)
    (case c237 => k_is)
    (case k238 => k_is)
    (case a239 => k_is)
    (case l240 => k_is)
    (case c241 => k_is)
    (case k242 => k_is)
    (case a243 => k_is)
    (case l244 => k_is)
    (case c245 => k_is)
    (case k246 => k_is)
    (case a247 => k_is)
    (case l248 => k_is)
    (case c249 => k_is)
    (case k250 => k_is)
    (case a251 => k_is)
    (case l252 => k_is)
    (case c253 => k_is)
    (case k254 => k_is)
    (case a255 => k_is)
    (case l256 => k_is)
    (case c257 => k_is)
    (case k258 => k_is)
    (case a259 => k_is)
    (case l260 => k_is)
    (case c261 => k_is)
    (case k262 => k_is)
    (case a263 => k_is)
    (case l264 => k_is)
    (case c265 => k_is)
    (case k266 => k_is)
    (case a267 => k_is)
    (case l268 => k_is)
    (case c269 => k_is)
    (case k270 => k_is)
    (case a271 => k_is)
    (case l272 => k_is)
    (case c273 => k_is)
    (case k274 => k_is)
    (case a275 => k_is)
    (case l276 => k_is)
    (case c277 => k_is)
    (case k278 => k_is)
    (case a279 => k_is)
    (case l280 => k_is)
    (case c281 => k_is)
    (case k282 => k_is)
    (case pg283 => k_is)
    (case hd284 => k_is)
    (case po285 => k_is)
    (case sa286 => k_is)
    (case na287 => k_is)
    (case na288 => k_is)
    (case na289 => k_is)
    (case na290 => k_is)
    (case na291 => k_is)
    (case na292 => k_is)
    (case na293 => k_is)
    (case pg294 => k_is)
    (case hd295 => k_is)
    (case po296 => k_is)
    (case sa297 => k_is)
    (case na298 => k_is)
    (case na299 => k_is)
    (case na300 => k_is)
    (case na301 => k_is)
    (case na302 => k_is)
    (case na303 => k_is)
    (case pg304 => k_is)
    (case hd305 => k_is)
    (case po306 => k_is)
    (case sa307 => k_is)
    (case na308 => k_is)
    (case na309 => k_is)
    (case na310 => k_is)
    (case na311 => k_is)
    (case na312 => k_is)
    (case z313 => k_is)
    (case z314 => k_is)
    (case z315 => k_is)
    (case z316 => k_is)
    (case z317 => k_is)
    (case z318 => k_is)
    (case z319 => k_is)
    (case z320 => k_is)
    (case z321 => k_is)
    (case z322 => k_is)
    (case z323 => k_is)
    (case z324 => k_is)
    (case z325 => k_is)
    (case z326 => k_is)
    (case z327 => k_is)
    (case n328 => k_is)
    (case n329 => k_is)
    (case n330 => k_is)
    (case n331 => k_is)
    (case aO332 => k_is)
    (case lO333 => k_is)
    (case cO334 => rfl)

