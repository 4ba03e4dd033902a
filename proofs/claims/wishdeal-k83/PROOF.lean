import PyProof.Rows.All
import Wide.All
import OpenK.AllK
import Wide.FinOn
import KE.KStateDown
import HandS.ForMost
import HandS.Head0
import HandS.Head1
import HandS.Head2
import HandS.HeadEnd
import HandS.HeadHook1
import HandS.HeadHook2
import HandS.IsInst
import HandS.NoneIn
import HandS.ListItems
import HandS.More
import HandS.Strs
import HandS.SetFor
import HandS.Conv
import HandS.Style
import HandS.Sort
import PySem.Challenge.RW_wishdeal_k83_whole_single_copies_are_dea
import HandS.Walk
set_option Elab.async false
set_option linter.all false
set_option maxRecDepth 100000
set_option maxHeartbeats 4000000
/-! Sums, dealings, duals: plain mathematics. -/
namespace Wd

def S : Nat → (Nat → Int) → Int
  | 0, _ => 0
  | k + 1, f => S k f + f k

theorem S_congr {f g : Nat → Int} : ∀ {k : Nat}, (∀ i, i < k → f i = g i) → S k f = S k g
  | 0, _ => rfl
  | k + 1, h => by
    show S k f + f k = S k g + g k
    rw [S_congr fun i hi => h i (Nat.lt_succ_of_lt hi), h k (Nat.lt_succ_self k)]
theorem S_add (f g : Nat → Int) : ∀ k : Nat, S k (fun i => f i + g i) = S k f + S k g
  | 0 => rfl
  | k + 1 => by
    show S k (fun i => f i + g i) + (f k + g k) = (S k f + f k) + (S k g + g k)
    rw [S_add f g k]
    omega
theorem S_sub (f g : Nat → Int) : ∀ k : Nat, S k (fun i => f i - g i) = S k f - S k g
  | 0 => rfl
  | k + 1 => by
    show S k (fun i => f i - g i) + (f k - g k) = (S k f + f k) - (S k g + g k)
    rw [S_sub f g k]
    omega
theorem S_mul (c : Int) (f : Nat → Int) : ∀ k : Nat, S k (fun i => c * f i) = c * S k f
  | 0 => (Int.mul_zero c).symm
  | k + 1 => by
    show S k (fun i => c * f i) + c * f k = c * (S k f + f k)
    rw [S_mul c f k, Int.mul_add]
theorem S_zero : ∀ k : Nat, S k (fun _ => 0) = 0
  | 0 => rfl
  | k + 1 => by
    show S k (fun _ => 0) + 0 = 0
    rw [S_zero k]
    rfl
theorem S_const (c : Int) : ∀ k : Nat, S k (fun _ => c) = k * c
  | 0 => by simp [S]
  | k + 1 => by
    show S k (fun _ => c) + c = _
    rw [S_const c k]
    rw [Int.natCast_add, Int.add_mul]
    simp
theorem S_le {f g : Nat → Int} : ∀ {k : Nat}, (∀ i, i < k → f i ≤ g i) → S k f ≤ S k g
  | 0, _ => Int.le_refl _
  | k + 1, h => by
    have h1 := S_le fun i (hi : i < k) => h i (Nat.lt_succ_of_lt hi)
    have h2 := h k (Nat.lt_succ_self k)
    show S k f + f k ≤ S k g + g k
    omega
theorem S_nn {f : Nat → Int} {k : Nat} (h : ∀ i, i < k → 0 ≤ f i) : 0 ≤ S k f := by
  rw [← S_zero k]
  exact S_le h
theorem S_lt {f g : Nat → Int} : ∀ {k j : Nat}, (∀ i, i < k → f i ≤ g i) → j < k → f j < g j → S k f < S k g
  | 0, _, _, hj, _ => absurd hj (Nat.not_lt_zero _)
  | k + 1, j, h, hj, hl => by
    have h2 := h k (Nat.lt_succ_self k)
    have h1 := S_le fun i (hi : i < k) => h i (Nat.lt_succ_of_lt hi)
    show S k f + f k < S k g + g k
    by_cases e : j = k
    · subst e
      omega
    · have := S_lt (fun i (hi : i < k) => h i (Nat.lt_succ_of_lt hi)) (show j < k by omega) hl
      omega
/-- numbers from 0 on whose sum is not above 0 are 0 -/
theorem S_null {f : Nat → Int} {k : Nat} (h : ∀ i, i < k → 0 ≤ f i) (hs : S k f ≤ 0) : ∀ i, i < k → f i = 0 := fun i hi => by
  have h0 := h i hi
  by_cases e : f i = 0
  · exact e
  · have := S_lt (f := fun _ => 0) (g := f) h hi (show 0 < f i by omega)
    rw [S_zero] at this
    omega
theorem S_upd {f g : Nat → Int} {b : Nat} {x : Int} (hg : ∀ i, g i = if i = b then x else f i) : ∀ {k : Nat}, b < k → S k g = S k f - f b + x
  | 0, h => absurd h (Nat.not_lt_zero _)
  | k + 1, h => by
    show S k g + g k = S k f + f k - f b + x
    by_cases e : b = k
    · subst e
      rw [S_congr (g := f) fun i hi => by rw [hg, if_neg (Nat.ne_of_lt hi)], hg, if_pos rfl]
      omega
    · rw [S_upd hg (show b < k by omega), hg k, if_neg (fun q => e q.symm)]
      omega
theorem S_point (b : Nat) (x : Int) {k : Nat} (h : b < k) : S k (fun i => if i = b then x else 0) = x := by
  rw [S_upd (f := fun _ => 0) (b := b) (x := x) (fun i => rfl) h, S_zero]
  omega
theorem S_swap (f : Nat → Nat → Int) (n : Nat) : ∀ m : Nat, S m (fun a => S n (fun t => f a t)) = S n (fun t => S m (fun a => f a t))
  | 0 => by
    show 0 = S n (fun _ => 0)
    rw [S_zero]
  | m + 1 => by
    show S m (fun a => S n (fun t => f a t)) + S n (fun t => f m t) = S n (fun t => S m (fun a => f a t) + f m t)
    rw [S_swap f n m, S_add]
/-- finitely many numbers have a bound -/
theorem bnd (f : Nat → Int) : ∀ n : Nat, ∃ B, 0 ≤ B ∧ ∀ i, i < n → f i ≤ B
  | 0 => ⟨0, Int.le_refl _, fun i h => absurd h (Nat.not_lt_zero _)⟩
  | n + 1 => by
    obtain ⟨B, h0, h⟩ := bnd f n
    refine ⟨max B (f n), by omega, fun i hi => ?_⟩
    by_cases e : i = n
    · subst e
      omega
    · have := h i (by omega)
      omega

/-! ### dealings: D tells for each asker its thing -/
def isT (x : Option Nat) (t : Nat) : Int := if x = some t then 1 else 0
def cnt (m : Nat) (D : Nat → Option Nat) (t : Nat) : Int := S m fun a => isT (D a) t
/-- what a value of each thing comes to over what is dealt -/
def prOf (p : Nat → Int) (x : Option Nat) : Int := match x with
  | some t => p t
  | none => 0
theorem prOf_some (p : Nat → Int) (t : Nat) : prOf p (some t) = p t := rfl
theorem prOf_none (p : Nat → Int) : prOf p none = 0 := rfl
theorem prOf_S {n : Nat} (p : Nat → Int) (x : Option Nat) (h : ∀ t, x = some t → t < n) : prOf p x = S n fun t => isT x t * p t := by
  cases x with
  | none =>
    rw [S_congr (g := fun _ => 0) fun i _ => by show (if none = some i then 1 else 0) * p i = 0; rw [if_neg (by simp)]; exact Int.zero_mul _]
    rw [S_zero]
    rfl
  | some t =>
    rw [S_congr (g := fun i => if i = t then p t else 0) fun i _ => by
      show (if some t = some i then 1 else 0) * p i = _
      by_cases e : i = t
      · subst e
        rw [if_pos rfl, if_pos rfl]
        exact Int.one_mul _
      · rw [if_neg (fun q => e (Option.some.inj q).symm), if_neg e]
        exact Int.zero_mul _]
    rw [S_point t (p t) (h t rfl)]
    rfl
theorem cnt_nn (m : Nat) (D : Nat → Option Nat) (t : Nat) : 0 ≤ cnt m D t := S_nn fun i _ => by
  unfold isT
  split <;> decide
theorem cnt_le (m : Nat) (D : Nat → Option Nat) (t : Nat) : cnt m D t ≤ m := by
  have h := S_le (k := m) (f := fun a => isT (D a) t) (g := fun _ => 1) fun i _ => by
    show isT (D i) t ≤ 1
    unfold isT
    split <;> decide
  rw [S_const] at h
  show S m _ ≤ _
  omega
/-- one asker gets another thing -/
theorem cnt_upd {m : Nat} {D D' : Nat → Option Nat} {b : Nat} {x : Option Nat} (h : ∀ a, D' a = if a = b then x else D a) (hb : b < m) (t : Nat) : cnt m D' t = cnt m D t - isT (D b) t + isT x t := by
  unfold cnt
  exact S_upd (f := fun a => isT (D a) t) (g := fun a => isT (D' a) t) (b := b) (x := isT x t) (fun i => by
    show isT (D' i) t = if i = b then isT x t else isT (D i) t
    rw [h]
    by_cases e : i = b
    · rw [if_pos e, if_pos e]
    · rw [if_neg e, if_neg e]) hb
theorem dealt_sum {m n : Nat} {D : Nat → Option Nat} (p : Nat → Int) (h : ∀ a t, a < m → D a = some t → t < n) : S m (fun a => prOf p (D a)) = S n fun t => cnt m D t * p t := by
  rw [S_congr fun a ha => prOf_S p (D a) fun t e => h a t ha e, S_swap]
  refine S_congr fun t _ => ?_
  show S m (fun a => isT (D a) t * p t) = S m (fun a => isT (D a) t) * p t
  rw [S_congr (g := fun a => p t * isT (D a) t) fun a _ => Int.mul_comm _ _, S_mul, Int.mul_comm]

/-- wishes: m askers, n things, copies c, worths w -/
structure Ins where
  m : Nat
  n : Nat
  c : Nat → Int
  w : Nat → Nat → Option Int
  wn : ∀ a t x, w a t = some x → t < n

/-- a dealing -/
structure Deal (I : Ins) (D : Nat → Option Nat) : Prop where
  wi : ∀ a t, a < I.m → D a = some t → ∃ x, I.w a t = some x
  co : ∀ t, t < I.n → cnt I.m D t ≤ I.c t
/-- what an asker's thing is worth -/
def wOf (I : Ins) (a : Nat) (x : Option Nat) : Int := match x with
  | some t => (I.w a t).getD 0
  | none => 0
def val (I : Ins) (D : Nat → Option Nat) : Int := S I.m fun a => wOf I a (D a)
def claim (I : Ins) (u p : Nat → Int) : Int := S I.m u + S I.n fun t => I.c t * p t
/-- a paper of so many times -/
structure Pap (I : Ins) (k : Int) (u p : Nat → Int) : Prop where
  u0 : ∀ a, a < I.m → 0 ≤ u a
  p0 : ∀ t, t < I.n → 0 ≤ p t
  fe : ∀ a t x, a < I.m → I.w a t = some x → k * x ≤ u a + p t
/-- how much an asker's asks and its thing's price are beyond its worth -/
def slack (I : Ins) (k : Int) (D : Nat → Option Nat) (u p : Nat → Int) (a : Nat) : Int := u a + prOf p (D a) - k * wOf I a (D a)
theorem claim_eq {I : Ins} {D : Nat → Option Nat} (k : Int) (u p : Nat → Int) (h : ∀ a t, a < I.m → D a = some t → t < I.n) :
    claim I u p - k * val I D = S I.m (slack I k D u p) + S I.n fun t => (I.c t - cnt I.m D t) * p t := by
  have e1 : S I.m (slack I k D u p) = S I.m u + S I.m (fun a => prOf p (D a)) - k * val I D := by
    unfold slack val
    rw [S_sub, S_add, S_mul]
  have e2 : S I.n (fun t => (I.c t - cnt I.m D t) * p t) = S I.n (fun t => I.c t * p t) - S I.n (fun t => cnt I.m D t * p t) := by
    rw [← S_sub]
    exact S_congr fun t _ => Int.sub_mul _ _ _
  rw [e1, e2, dealt_sum p h]
  unfold claim
  omega
theorem Deal.tn {I : Ins} {D : Nat → Option Nat} (d : Deal I D) : ∀ a t, a < I.m → D a = some t → t < I.n := fun a t ha e => by
  obtain ⟨x, hx⟩ := d.wi a t ha e
  exact I.wn a t x hx
theorem slack_nn {I : Ins} {k : Int} {D : Nat → Option Nat} {u p : Nat → Int} (d : Deal I D) (P : Pap I k u p) : ∀ a, a < I.m → 0 ≤ slack I k D u p a := fun a ha => by
  unfold slack
  cases e : D a with
  | none =>
    show 0 ≤ u a + 0 - k * 0
    have := P.u0 a ha
    omega
  | some t =>
    obtain ⟨x, hx⟩ := d.wi a t ha e
    show 0 ≤ u a + p t - k * (I.w a t).getD 0
    have := P.fe a t x ha hx
    rw [hx]
    show 0 ≤ u a + p t - k * x
    omega
theorem left_nn {I : Ins} {k : Int} {D : Nat → Option Nat} {u p : Nat → Int} (d : Deal I D) (P : Pap I k u p) : ∀ t, t < I.n → 0 ≤ (I.c t - cnt I.m D t) * p t := fun t ht => by
  have h1 := d.co t ht
  exact Int.mul_nonneg (by omega) (P.p0 t ht)
/-- no dealing is worth more than a paper claims -/
theorem weak {I : Ins} {k : Int} {D : Nat → Option Nat} {u p : Nat → Int} (d : Deal I D) (P : Pap I k u p) : k * val I D ≤ claim I u p := by
  have e := claim_eq (D := D) k u p d.tn
  have h1 := S_nn (slack_nn d P)
  have h2 := S_nn (left_nn d P)
  omega
/-- a paper that claims no more than a dealing is worth is met by it -/
structure Met (I : Ins) (k : Int) (D : Nat → Option Nat) (u p : Nat → Int) : Prop where
  ti : ∀ a t x, a < I.m → D a = some t → I.w a t = some x → u a + p t = k * x
  un : ∀ a, a < I.m → D a = none → u a = 0
  le : ∀ t, t < I.n → cnt I.m D t < I.c t → p t = 0
theorem met_of {I : Ins} {k : Int} {D : Nat → Option Nat} {u p : Nat → Int} (d : Deal I D) (P : Pap I k u p) (h : claim I u p ≤ k * val I D) : Met I k D u p := by
  have e := claim_eq (D := D) k u p d.tn
  have h1 := S_nn (slack_nn d P)
  have h2 := S_nn (left_nn d P)
  have z1 := S_null (slack_nn d P) (by omega)
  have z2 := S_null (left_nn d P) (by omega)
  refine ⟨fun a t x ha hd hx => ?_, fun a ha hd => ?_, fun t ht hl => ?_⟩
  · have z := z1 a ha
    unfold slack at z
    rw [hd] at z
    have z : u a + p t - k * (I.w a t).getD 0 = 0 := z
    rw [hx] at z
    have z : u a + p t - k * x = 0 := z
    omega
  · have z := z1 a ha
    unfold slack at z
    rw [hd] at z
    have z : u a + 0 - k * 0 = 0 := z
    omega
  · have z := z2 t ht
    rcases Int.mul_eq_zero.mp z with q | q
    · omega
    · exact q
theorem claim_of_met {I : Ins} {k : Int} {D : Nat → Option Nat} {u p : Nat → Int} (d : Deal I D) (M : Met I k D u p) : claim I u p = k * val I D := by
  have e := claim_eq (D := D) k u p d.tn
  have z1 : S I.m (slack I k D u p) = 0 := by
    rw [S_congr (g := fun _ => 0) fun a ha => ?_, S_zero]
    unfold slack
    cases hd : D a with
    | none =>
      show u a + 0 - k * 0 = 0
      have := M.un a ha hd
      omega
    | some t =>
      obtain ⟨x, hx⟩ := d.wi a t ha hd
      show u a + p t - k * (I.w a t).getD 0 = 0
      have := M.ti a t x ha hd hx
      rw [hx]
      show u a + p t - k * x = 0
      omega
  have z2 : S I.n (fun t => (I.c t - cnt I.m D t) * p t) = 0 := by
    rw [S_congr (g := fun _ => 0) fun t ht => ?_, S_zero]
    have h1 := d.co t ht
    by_cases q : cnt I.m D t < I.c t
    · rw [M.le t ht q]
      exact Int.mul_zero _
    · have : I.c t - cnt I.m D t = 0 := by omega
      rw [this]
      exact Int.zero_mul _
  omega
end Wd
/-! The search from one asker: labels, their turns, the end. -/
namespace Wd

/-- asks and prices for the first k askers, met by the dealing -/
structure Dual (I : Ins) (k : Nat) (D : Nat → Option Nat) (u p : Nat → Int) : Prop where
  kl : k ≤ I.m
  p0 : ∀ t, t < I.n → 0 ≤ p t
  u0 : ∀ a, a < k → 0 ≤ u a
  fe : ∀ a t x, a < k → I.w a t = some x → x ≤ u a + p t
  ti : ∀ a t x, a < k → D a = some t → I.w a t = some x → u a + p t = x
  un : ∀ a, a < k → D a = none → u a = 0
  le : ∀ t, t < I.n → cnt I.m D t < I.c t → p t = 0
  out : ∀ a, k ≤ a → D a = none
  wi : ∀ a t, D a = some t → ∃ x, I.w a t = some x
  co : ∀ t, t < I.n → cnt I.m D t ≤ I.c t

def qn (n : Nat) (T : Nat → Option Int) : Int := S n fun t => if (T t).isSome then 1 else 0
theorem qn_nn (n : Nat) (T : Nat → Option Int) : 0 ≤ qn n T := S_nn fun i _ => by split <;> decide
theorem qn_le (n : Nat) (T : Nat → Option Int) : qn n T ≤ n := by
  have h := S_le (k := n) (f := fun t => if (T t).isSome then 1 else 0) (g := fun _ => 1) fun i _ => by
    show (if (T i).isSome then (1 : Int) else 0) ≤ 1
    split <;> decide
  rw [S_const] at h
  show S n _ ≤ _
  omega
theorem qn_mono {n : Nat} {T0 T : Nat → Option Int} (h : ∀ t X, T0 t = some X → ∃ Y, T t = some Y ∧ X ≤ Y) : qn n T0 ≤ qn n T := S_le fun i _ => by
  cases e : T0 i with
  | none =>
    show (if (Option.none : Option Int).isSome = true then (1 : Int) else 0) ≤ _
    rw [if_neg (by decide)]
    split <;> decide
  | some X =>
    obtain ⟨Y, hY, _⟩ := h i X e
    rw [hY]
    exact Int.le_refl _
def setO {α : Type} (T : Nat → Option α) (t : Nat) (x : α) : Nat → Option α := fun i => if i = t then some x else T i
theorem setO_same {α : Type} (T : Nat → Option α) (t : Nat) (x : α) : setO T t x t = some x := if_pos rfl
theorem setO_ne {α : Type} (T : Nat → Option α) {t i : Nat} (x : α) (h : i ≠ t) : setO T t x i = T i := if_neg h
theorem qn_set {n : Nat} {T : Nat → Option Int} {t : Nat} {x : Int} (ht : t < n) (e : T t = none) : qn n (setO T t x) = qn n T + 1 := by
  have h := S_upd (f := fun t => if (T t).isSome then 1 else 0) (g := fun i => if (setO T t x i).isSome then 1 else 0) (b := t) (x := 1) (fun i => by
    by_cases q : i = t
    · subst q
      rw [setO_same, if_pos rfl]
      rfl
    · rw [setO_ne T x q, if_neg q]) ht
  show S n _ = _
  rw [h]
  show S n _ - (if (T t).isSome then 1 else 0) + 1 = S n _ + 1
  rw [e, if_neg (by decide)]
  omega
theorem qn_setge {n : Nat} (T : Nat → Option Int) (t : Nat) (x : Int) : qn n T ≤ qn n (setO T t x) := S_le fun i _ => by
  show (if (T i).isSome then (1 : Int) else 0) ≤ if (setO T t x i).isSome then 1 else 0
  by_cases q : i = t
  · subst q
    rw [setO_same]
    show _ ≤ (1 : Int)
    split <;> decide
  · rw [setO_ne T x q]
    exact Int.le_refl _

/-- bounds: C above all worths, B above asks and prices together -/
structure Bds (I : Ins) (k : Nat) (u p : Nat → Int) (C B : Int) : Prop where
  c0 : 0 ≤ C
  b0 : 0 ≤ B
  wc : ∀ a t x, a ≤ k → I.w a t = some x → 0 ≤ x ∧ x ≤ C
  pb : ∀ t, t < I.n → p t ≤ B
  ub : ∀ a t, a < k → t < I.n → u a + p t ≤ B

/-- the labels ahead of a round: F the gain to each asker that is freed, T that to each thing taken, K its taker; st when it was labelled last -/
structure Lab (I : Ins) (k : Nat) (D : Nat → Option Nat) (p : Nat → Int) (C B : Int) (F T : Nat → Option Int) (K : Nat → Option Nat) (st : Nat → Nat) (r : Nat) : Prop where
  fs : F k = some 0
  fr : ∀ a g, F a = some g → a = k ∨ (a < k ∧ ∃ h X x, D a = some h ∧ T h = some X ∧ I.w a h = some x ∧ g = X - x)
  rf : ∀ a h X x, a < k → D a = some h → T h = some X → I.w a h = some x → F a = some (X - x)
  tk : ∀ t X, T t = some X → ∃ a g x, K t = some a ∧ F a = some g ∧ I.w a t = some x ∧ D a ≠ some t ∧ X ≤ g + x
  ac : ∀ t X, T t = some X → ∃ a, K t = some a ∧ (a = k ∨ ∃ h Y, D a = some h ∧ T h = some Y ∧ (X - p t < Y - p h ∨ (X - p t ≤ Y - p h ∧ st h < st t)))
  sr : ∀ t X, T t = some X → st t < r
  up : ∀ t X, T t = some X → X - p t ≤ C
  lo : ∀ t X, T t = some X → -(B * (1 + qn I.n T)) ≤ X - p t

/-- within a round that began with T0 -/
structure Mid (I : Ins) (D : Nat → Option Nat) (p : Nat → Int) (C B : Int) (F T0 : Nat → Option Int) (K0 : Nat → Option Nat) (st0 : Nat → Nat) (r : Nat) (T : Nat → Option Int) (K : Nat → Option Nat) (st : Nat → Nat) (more : Bool) : Prop where
  mono : ∀ t X, T0 t = some X → ∃ Y, T t = some Y ∧ X ≤ Y
  each : ∀ t X, T t = some X → (T0 t = some X ∧ K t = K0 t ∧ st t = st0 t) ∨
    ((∀ Z, T0 t = some Z → Z < X) ∧ st t = r ∧ ∃ a g x, K t = some a ∧ F a = some g ∧ I.w a t = some x ∧ D a ≠ some t ∧ X = g + x)
  same : more = false → T = T0 ∧ K = K0
  chg : more = true → ∃ t X, T t = some X ∧ ∀ Z, T0 t = some Z → Z < X
  up : ∀ t X, T t = some X → X - p t ≤ C
  lo : ∀ t X, T t = some X → -(B * (1 + qn I.n T)) ≤ X - p t

section
variable {I : Ins} {k : Nat} {D : Nat → Option Nat} {u p : Nat → Int} {C B : Int} {F T0 T : Nat → Option Int} {K0 K : Nat → Option Nat} {st0 st : Nat → Nat} {r : Nat} {more : Bool}

theorem mid_start (L : Lab I k D p C B F T0 K0 st0 r) : Mid I D p C B F T0 K0 st0 r T0 K0 st0 false :=
  ⟨fun t X h => ⟨X, h, Int.le_refl _⟩, fun t X h => .inl ⟨h, rfl, rfl⟩, fun _ => ⟨rfl, rfl⟩, fun h => (nomatch h), L.up, L.lo⟩

/-- what a label of this round's is, against the one ahead of it -/
theorem lab_new (d : Dual I k D u p) (b : Bds I k u p C B) (L : Lab I k D p C B F T0 K0 st0 r) {a t : Nat} {g x : Int} (hF : F a = some g) (hw : I.w a t = some x) :
    (a = k ∧ g = 0) ∨ (a < k ∧ ∃ h Y, D a = some h ∧ T0 h = some Y ∧ g + x - p t ≤ Y - p h ∧ Y - p h - B ≤ g + x - p t) := by
  rcases L.fr a g hF with e | ⟨ha, h, Y, x0, hd, hT, hx0, e⟩
  · subst e
    rw [L.fs] at hF
    exact .inl ⟨rfl, (Option.some.inj hF).symm⟩
  · refine .inr ⟨ha, h, Y, hd, hT, ?_, ?_⟩
    · have h1 := d.ti a h x0 ha hd hx0
      have h2 := d.fe a t x ha hw
      omega
    · have h1 := d.ti a h x0 ha hd hx0
      have h2 := b.ub a t ha (I.wn a t x hw)
      have h3 := (b.wc a t x (Nat.le_of_lt ha) hw).1
      omega

theorem mid_step (d : Dual I k D u p) (b : Bds I k u p C B) (L : Lab I k D p C B F T0 K0 st0 r) (M : Mid I D p C B F T0 K0 st0 r T K st more) {a t : Nat} {g x : Int} (hF : F a = some g) (hw : I.w a t = some x)
    (hd : D a ≠ some t) (hc : ∀ Z, T t = some Z → Z < g + x) : Mid I D p C B F T0 K0 st0 r (setO T t (g + x)) (setO K t a) (fun i => if i = t then r else st i) true := by
  have ht := I.wn a t x hw
  have hlt : ∀ Z, T0 t = some Z → Z < g + x := fun Z hZ => by
    obtain ⟨Y, hY, hl⟩ := M.mono t Z hZ
    have := hc Y hY
    omega
  have hk : a ≤ k := by
    rcases lab_new d b L hF hw with ⟨e, _⟩ | ⟨e, _⟩ <;> omega
  have qm := qn_mono (n := I.n) M.mono
  have qs := qn_setge (n := I.n) T t (g + x)
  have q0 := qn_nn I.n T0
  refine ⟨fun i X h => ?_, fun i X h => ?_, fun h => (nomatch h), fun _ => ⟨t, g + x, setO_same _ _ _, hlt⟩, fun i X h => ?_, fun i X h => ?_⟩
  · by_cases q : i = t
    · subst q
      refine ⟨g + x, setO_same _ _ _, ?_⟩
      have := hlt X h
      omega
    · obtain ⟨Y, hY, hl⟩ := M.mono i X h
      exact ⟨Y, by rw [setO_ne _ _ q]; exact hY, hl⟩
  · by_cases q : i = t
    · subst q
      rw [setO_same] at h
      have e : g + x = X := Option.some.inj h
      subst e
      exact .inr ⟨hlt, if_pos rfl, a, g, x, setO_same _ _ _, hF, hw, hd, rfl⟩
    · rw [setO_ne _ _ q] at h
      rcases M.each i X h with ⟨h1, h2, h3⟩ | ⟨h1, h2, a', g', x', h3, h4⟩
      · exact .inl ⟨h1, by rw [setO_ne _ _ q]; exact h2, by rw [← h3]; exact if_neg q⟩
      · exact .inr ⟨h1, by rw [← h2]; exact if_neg q, a', g', x', by rw [setO_ne _ _ q]; exact h3, h4⟩
  · by_cases q : i = t
    · subst q
      rw [setO_same] at h
      have e : g + x = X := Option.some.inj h
      subst e
      rcases lab_new d b L hF hw with ⟨_, e⟩ | ⟨_, h, Y, _, hT, h1, _⟩
      · have := (b.wc a i x hk hw).2
        have := d.p0 i ht
        omega
      · have := L.up h Y hT
        omega
    · rw [setO_ne _ _ q] at h
      exact M.up i X h
  · by_cases q : i = t
    · subst q
      rw [setO_same] at h
      have e : g + x = X := Option.some.inj h
      subst e
      have hm1 : B * (1 + qn I.n T) ≤ B * (1 + qn I.n (setO T i (g + x))) := Int.mul_le_mul_of_nonneg_left (by omega) b.b0
      cases e : T i with
      | some Z =>
        have h1 := M.lo i Z e
        have h2 := hc Z e
        omega
      | none =>
        have e1 := qn_set (x := g + x) ht e
        have hm2 : B * (1 + qn I.n T0) ≤ B * (1 + qn I.n T) := Int.mul_le_mul_of_nonneg_left (by omega) b.b0
        have hm3 : B * (1 + qn I.n (setO T i (g + x))) = B * (1 + qn I.n T) + B := by
          rw [e1, ← Int.add_assoc, Int.mul_add, Int.mul_one]
        have hm4 : 0 ≤ B * (1 + qn I.n T) := Int.mul_nonneg b.b0 (by omega)
        rcases lab_new d b L hF hw with ⟨_, e⟩ | ⟨_, h, Y, _, hT, _, h1⟩
        · have := (b.wc a i x hk hw).1
          have := b.pb i ht
          omega
        · have := L.lo h Y hT
          omega
    · rw [setO_ne _ _ q] at h
      have h1 := M.lo i X h
      have hm1 : B * (1 + qn I.n T) ≤ B * (1 + qn I.n (setO T t (g + x))) := Int.mul_le_mul_of_nonneg_left (by omega) b.b0
      omega

/-- the next round -/
theorem lab_next (d : Dual I k D u p) (b : Bds I k u p C B) (L : Lab I k D p C B F T0 K0 st0 r) (M : Mid I D p C B F T0 K0 st0 r T K st more) {F' : Nat → Option Int}
    (hF1 : ∀ a h X x, D a = some h → T h = some X → I.w a h = some x → F' a = some (X - x)) (hF2 : ∀ a, (∀ h, D a = some h → T h = none) → F' a = F a) :
    Lab I k D p C B F' T K st (r + 1) := by
  have hk : D k = none := d.out k (Nat.le_refl _)
  have ks : F' k = some 0 := by
    rw [hF2 k fun h e => (by rw [hk] at e; cases e), L.fs]
  -- the gain to an asker falls in no round
  have fm : ∀ a g, F a = some g → ∃ g', F' a = some g' ∧ g ≤ g' := fun a g h => by
    rcases L.fr a g h with e | ⟨ha, h', Y, x0, hd, hT, hx0, e⟩
    · subst e
      rw [L.fs] at h
      exact ⟨0, ks, by rw [← Option.some.inj h]; exact Int.le_refl _⟩
    · obtain ⟨Y', hY', hl⟩ := M.mono h' Y hT
      exact ⟨Y' - x0, hF1 a h' Y' x0 hd hY' hx0, by omega⟩
  refine ⟨ks, fun a g h => ?_, fun a h X x ha => hF1 a h X x, fun t X h => ?_, fun t X h => ?_, fun t X h => ?_, M.up, M.lo⟩
  · cases hd : D a with
    | none =>
      rw [hF2 a fun h' e => (by rw [hd] at e; cases e)] at h
      rcases L.fr a g h with e | ⟨ha, h', Y, x0, hd', _⟩
      · exact .inl e
      · rw [hd] at hd'
        cases hd'
    | some t =>
      cases hT : T t with
      | none =>
        rw [hF2 a fun h' e => (by rw [hd] at e; cases e; exact hT)] at h
        rcases L.fr a g h with e | ⟨ha, h', Y, x0, hd', hT0, _⟩
        · exact .inl e
        · obtain ⟨Y', hY', _⟩ := M.mono h' Y hT0
          rw [hd] at hd'
          cases hd'
          rw [hT] at hY'
          cases hY'
      | some X =>
        obtain ⟨x, hx⟩ := d.wi a t hd
        have e := hF1 a t X x hd hT hx
        rw [e] at h
        have ha : a < k := by
          by_cases q : a < k
          · exact q
          · have := d.out a (by omega)
            rw [hd] at this
            cases this
        exact .inr ⟨ha, t, X, x, rfl, hT, hx, (Option.some.inj h).symm⟩
  · rcases M.each t X h with ⟨h1, h2, _⟩ | ⟨_, _, a, g, x, h3, h4, h5, h6, h7⟩
    · obtain ⟨a, g, x, e1, e2, e3, e4, e5⟩ := L.tk t X h1
      obtain ⟨g', hg', hl⟩ := fm a g e2
      exact ⟨a, g', x, h2.trans e1, hg', e3, e4, by omega⟩
    · obtain ⟨g', hg', hl⟩ := fm a g h4
      exact ⟨a, g', x, h3, hg', h5, h6, by omega⟩
  · rcases M.each t X h with ⟨h1, h2, h3⟩ | ⟨h1, h2, a, g, x, h3, h4, h5, h6, h7⟩
    · obtain ⟨a, e1, e2⟩ := L.ac t X h1
      refine ⟨a, h2.trans e1, ?_⟩
      rcases e2 with e2 | ⟨h', Y, e3, e4, e5⟩
      · exact .inl e2
      · obtain ⟨Y', hY', hl⟩ := M.mono h' Y e4
        refine .inr ⟨h', Y', e3, hY', ?_⟩
        rcases M.each h' Y' hY' with ⟨f1, f2, f3⟩ | ⟨f1, f2, _⟩
        · rw [e4] at f1
          cases f1
          rw [h3, f3]
          exact e5
        · have := f1 Y e4
          left
          rcases e5 with e5 | ⟨e5, _⟩ <;> omega
    · refine ⟨a, h3, ?_⟩
      rcases lab_new d b L h4 h5 with ⟨e, _⟩ | ⟨_, h', Y, e3, e4, e5, _⟩
      · exact .inl e
      · right
        obtain ⟨Y', hY', hl⟩ := M.mono h' Y e4
        refine ⟨h', Y', e3, hY', ?_⟩
        rcases M.each h' Y' hY' with ⟨f1, f2, f3⟩ | ⟨f1, f2, _⟩
        · rw [e4] at f1
          cases f1
          right
          refine ⟨by omega, ?_⟩
          rw [h2, f3]
          exact L.sr h' Y e4
        · have := f1 Y e4
          left
          omega
  · rcases M.each t X h with ⟨h1, h2, h3⟩ | ⟨h1, h2, _⟩
    · rw [h3]
      exact Nat.lt_succ_of_lt (L.sr t X h1)
    · rw [h2]
      exact Nat.lt_succ_self r

/-! ### the rounds end -/
def muV (p : Nat → Int) (C BB : Int) (T : Nat → Option Int) (t : Nat) : Int := match T t with
  | some X => C - (X - p t)
  | none => C + BB + 1
def mu (I : Ins) (p : Nat → Int) (C B : Int) (T : Nat → Option Int) : Int := S I.n (muV p C (B * (1 + I.n)) T)
theorem mu_nn (b : Bds I k u p C B) (h : ∀ t X, T t = some X → X - p t ≤ C) : 0 ≤ mu I p C B T := S_nn fun t _ => by
  unfold muV
  cases e : T t with
  | some X =>
    have := h t X e
    show 0 ≤ C - (X - p t)
    omega
  | none =>
    show 0 ≤ C + B * (1 + I.n) + 1
    have := b.c0
    have : 0 ≤ B * (1 + (I.n : Int)) := Int.mul_nonneg b.b0 (by omega)
    omega
theorem mu_lt (b : Bds I k u p C B) (L : Lab I k D p C B F T0 K0 st0 r) (M : Mid I D p C B F T0 K0 st0 r T K st true) : mu I p C B T < mu I p C B T0 := by
  obtain ⟨j, X, hj, hl⟩ := M.chg rfl
  have lo : ∀ t X, T t = some X → C - (X - p t) < C + B * (1 + I.n) + 1 := fun t X h => by
    have h1 := M.lo t X h
    have h2 := qn_le I.n T
    have h3 : B * (1 + qn I.n T) ≤ B * (1 + I.n) := Int.mul_le_mul_of_nonneg_left (by omega) b.b0
    omega
  have hjn : j < I.n := by
    rcases M.each j X hj with ⟨h1, _⟩ | ⟨_, _, a, g, x, _, _, h5, _⟩
    · obtain ⟨a, g, x, _, _, e3, _⟩ := L.tk j X h1
      exact I.wn a j x e3
    · exact I.wn a j x h5
  refine S_lt (j := j) (fun t _ => ?_) hjn ?_
  · unfold muV
    cases e : T0 t with
    | some Z =>
      obtain ⟨Y, hY, hl⟩ := M.mono t Z e
      rw [hY]
      show C - (Y - p t) ≤ C - (Z - p t)
      omega
    | none =>
      cases e2 : T t with
      | none => exact Int.le_refl _
      | some X =>
        show C - (X - p t) ≤ C + B * (1 + I.n) + 1
        have := lo t X e2
        omega
  · unfold muV
    rw [hj]
    cases e : T0 j with
    | some Z =>
      show C - (X - p j) < C - (Z - p j)
      have := hl Z e
      omega
    | none =>
      show C - (X - p j) < C + B * (1 + I.n) + 1
      exact lo j X hj

/-! ### when nothing is reached better -/
structure Fin (I : Ins) (k : Nat) (D : Nat → Option Nat) (p : Nat → Int) (F T : Nat → Option Int) (K : Nat → Option Nat) (rho : Nat → Nat) : Prop where
  fs : F k = some 0
  fr : ∀ a g, F a = some g → a = k ∨ (a < k ∧ ∃ h X x, D a = some h ∧ T h = some X ∧ I.w a h = some x ∧ g = X - x)
  rf : ∀ a h X x, a < k → D a = some h → T h = some X → I.w a h = some x → F a = some (X - x)
  tk : ∀ t X, T t = some X → ∃ a g x, K t = some a ∧ F a = some g ∧ I.w a t = some x ∧ D a ≠ some t ∧ X = g + x
  cov : ∀ a g t x, F a = some g → I.w a t = some x → D a ≠ some t → ∃ Y, T t = some Y ∧ g + x ≤ Y
  ac : ∀ t X a, T t = some X → K t = some a → a = k ∨ ∃ h Y, D a = some h ∧ T h = some Y ∧ X - p t ≤ Y - p h ∧ rho h < rho t
theorem fin_of (L : Lab I k D p C B F T K st r) (cov : ∀ a g t x, F a = some g → I.w a t = some x → D a ≠ some t → ∃ Y, T t = some Y ∧ g + x ≤ Y) :
    Fin I k D p F T K fun t => match T t with
      | some X => (C - (X - p t)).toNat * r + st t
      | none => 0 := by
  refine ⟨L.fs, L.fr, L.rf, fun t X h => ?_, cov, fun t X a h hk => ?_⟩
  · obtain ⟨a, g, x, e1, e2, e3, e4, e5⟩ := L.tk t X h
    obtain ⟨Y, hY, hl⟩ := cov a g t x e2 e3 e4
    rw [h] at hY
    cases hY
    exact ⟨a, g, x, e1, e2, e3, e4, by omega⟩
  · obtain ⟨a', e1, e2⟩ := L.ac t X h
    rw [hk] at e1
    cases e1
    rcases e2 with e2 | ⟨h', Y, e3, e4, e5⟩
    · exact .inl e2
    · refine .inr ⟨h', Y, e3, e4, ?_, ?_⟩
      · rcases e5 with e5 | e5 <;> omega
      · rw [h, e4]
        show (C - (Y - p h')).toNat * r + st h' < (C - (X - p t)).toNat * r + st t
        have s1 := L.sr h' Y e4
        have u1 := L.up h' Y e4
        have u2 := L.up t X h
        rcases e5 with e5 | ⟨e5, e6⟩
        · have h1 : (C - (Y - p h')).toNat + 1 ≤ (C - (X - p t)).toNat := by omega
          have h2 : ((C - (Y - p h')).toNat + 1) * r ≤ (C - (X - p t)).toNat * r := Nat.mul_le_mul_right r h1
          rw [Nat.add_mul] at h2
          omega
        · have h1 : (C - (Y - p h')).toNat ≤ (C - (X - p t)).toNat := by omega
          have h2 : (C - (Y - p h')).toNat * r ≤ (C - (X - p t)).toNat * r := Nat.mul_le_mul_right r h1
          omega
end
end Wd
/-! The way that is done, and the asks and prices behind it. -/
namespace Wd

abbrev Way := List (Nat × Option Nat)
def setD (D : Nat → Option Nat) (b : Nat) (x : Option Nat) : Nat → Option Nat := fun a => if a = b then x else D a
def app (D : Nat → Option Nat) : Way → Nat → Option Nat
  | [] => D
  | (b, x) :: r => app (setD D b x) r
/-- each next asker has what the one ahead takes -/
def Chn (D : Nat → Option Nat) : Option Nat → Way → Prop
  | _, [] => True
  | h, (b, x) :: r => D b = h ∧ Chn D x r
def lastX : Option Nat → Way → Option Nat
  | h, [] => h
  | _, (_, x) :: r => lastX x r
theorem setD_same (D : Nat → Option Nat) (b : Nat) (x : Option Nat) : setD D b x b = x := if_pos rfl
theorem setD_ne (D : Nat → Option Nat) {b a : Nat} (x : Option Nat) (h : a ≠ b) : setD D b x a = D a := if_neg h
theorem chn_set {D : Nat → Option Nat} {b : Nat} {y : Option Nat} : ∀ {way : Way} {h : Option Nat}, (∀ e ∈ way, e.1 ≠ b) → Chn D h way → Chn (setD D b y) h way
  | [], _, _, _ => trivial
  | (a, x) :: r, h, hn, hc => ⟨by rw [setD_ne D y (hn (a, x) List.mem_cons_self)]; exact hc.1, chn_set (fun e he => hn e (List.mem_cons_of_mem _ he)) hc.2⟩
theorem app_out : ∀ {way : Way} {D : Nat → Option Nat} {a : Nat}, (∀ e ∈ way, e.1 ≠ a) → app D way a = D a
  | [], _, _, _ => rfl
  | (b, x) :: r, D, a, h => by
    show app (setD D b x) r a = D a
    rw [app_out fun e he => h e (List.mem_cons_of_mem _ he), setD_ne D x fun q => h (b, x) List.mem_cons_self q.symm]
theorem app_in : ∀ {way : Way} {D : Nat → Option Nat} {a : Nat} {x : Option Nat}, (way.map (·.1)).Nodup → (a, x) ∈ way → app D way a = x
  | [], _, _, _, _, h => by cases h
  | (b, y) :: r, D, a, x, hn, h => by
    have hn : (b :: r.map (·.1)).Nodup := hn
    obtain ⟨h1, h2⟩ := List.nodup_cons.mp hn
    show app (setD D b y) r a = x
    rcases List.mem_cons.mp h with e | e
    · cases e
      rw [app_out fun e he q => h1 (List.mem_map.mpr ⟨e, he, q⟩), setD_same]
    · exact app_in h2 e
theorem cnt_app {m : Nat} : ∀ {way : Way} {D : Nat → Option Nat} {h : Option Nat}, (way.map (·.1)).Nodup → (∀ e ∈ way, e.1 < m) → Chn D h way →
    ∀ t, cnt m (app D way) t = cnt m D t - isT h t + isT (lastX h way) t
  | [], D, h, _, _, _, t => by
    show cnt m D t = cnt m D t - isT h t + isT h t
    omega
  | (b, x) :: r, D, h, hn, hm, hc, t => by
    have hn : (b :: r.map (·.1)).Nodup := hn
    obtain ⟨h1, h2⟩ := List.nodup_cons.mp hn
    have c2 : Chn (setD D b x) x r := chn_set (fun e he q => h1 (List.mem_map.mpr ⟨e, he, q⟩)) hc.2
    have e1 := cnt_app h2 (fun e he => hm e (List.mem_cons_of_mem _ he)) c2 t
    have e2 := cnt_upd (D := D) (D' := setD D b x) (b := b) (x := x) (fun a => rfl) (hm (b, x) List.mem_cons_self) t
    show cnt m (app (setD D b x) r) t = cnt m D t - isT h t + isT (lastX x r) t
    rw [e1, e2, hc.1]
    omega

section
variable {I : Ins} {k : Nat} {D : Nat → Option Nat} {u p : Nat → Int} {F T : Nat → Option Int} {K : Nat → Option Nat} {rho : Nat → Nat}

/-- a way from k, its end told by g, the gain -/
structure WayOk (I : Ins) (k : Nat) (D : Nat → Option Nat) (p : Nat → Int) (F T : Nat → Option Int) (K : Nat → Option Nat) (g : Int) (way : Way) : Prop where
  nd : (way.map (·.1)).Nodup
  lt : ∀ e ∈ way, e.1 ≤ k
  ch : Chn D none way
  some_ : ∀ a t, (a, some t) ∈ way → K t = some a ∧ ∃ X, T t = some X ∧ g ≤ X - p t
  none_ : ∀ a, (a, none) ∈ way → F a = some g
  k_in : ∃ x, (k, x) ∈ way
  last : ∀ t, lastX none way = some t → T t = some g ∧ cnt I.m D t < I.c t

/-- the greatest gain -/
structure MaxG (I : Ins) (D : Nat → Option Nat) (F T : Nat → Option Int) (g : Int) : Prop where
  g0 : 0 ≤ g
  fF : ∀ a x, F a = some x → x ≤ g
  fT : ∀ t x, T t = some x → cnt I.m D t < I.c t → x ≤ g

def p2 (p : Nat → Int) (T : Nat → Option Int) (g : Int) (t : Nat) : Int := match T t with
  | some X => max (p t) (X - g)
  | none => p t
def u2 (k : Nat) (D : Nat → Option Nat) (u p : Nat → Int) (T : Nat → Option Int) (g : Int) (a : Nat) : Int := if a = k then g else match D a with
  | some h => (match T h with
    | some X => u a - max 0 (X - p h - g)
    | none => u a)
  | none => u a
theorem p2_some {t : Nat} {g X : Int} (h : T t = some X) : p2 p T g t = max (p t) (X - g) := by
  unfold p2
  rw [h]
theorem p2_none {t : Nat} {g : Int} (h : T t = none) : p2 p T g t = p t := by
  unfold p2
  rw [h]
theorem p2_ge (t : Nat) (g : Int) : p t ≤ p2 p T g t := by
  cases h : T t with
  | none =>
    rw [p2_none h]
    exact Int.le_refl _
  | some X =>
    rw [p2_some h]
    omega
theorem u2_k {g : Int} : u2 k D u p T g k = g := if_pos rfl
theorem u2_none {a : Nat} {g : Int} (ha : a ≠ k) (h : D a = none) : u2 k D u p T g a = u a := by
  unfold u2
  rw [if_neg ha, h]
theorem u2_out {a h : Nat} {g : Int} (ha : a ≠ k) (hd : D a = some h) (hT : T h = none) : u2 k D u p T g a = u a := by
  unfold u2
  rw [if_neg ha, hd]
  show (match T h with
    | some X => u a - max 0 (X - p h - g)
    | none => u a) = u a
  rw [hT]
theorem u2_in {a h : Nat} {g X : Int} (ha : a ≠ k) (hd : D a = some h) (hT : T h = some X) : u2 k D u p T g a = u a - max 0 (X - p h - g) := by
  unfold u2
  rw [if_neg ha, hd]
  show (match T h with
    | some X => u a - max 0 (X - p h - g)
    | none => u a) = _
  rw [hT]

/-- what is dealt and not on the way stays tight -/
theorem tight_stay (d : Dual I k D u p) {a h : Nat} {x g : Int} (ha : a < k) (hd : D a = some h) (hx : I.w a h = some x) : u2 k D u p T g a + p2 p T g h = x := by
  have e := d.ti a h x ha hd hx
  cases hT : T h with
  | none =>
    rw [u2_out (Nat.ne_of_lt ha) hd hT, p2_none hT]
    exact e
  | some X =>
    rw [u2_in (Nat.ne_of_lt ha) hd hT, p2_some hT]
    omega

theorem feas2 (d : Dual I k D u p) (f : Fin I k D p F T K rho) {g : Int} (mg : MaxG I D F T g) : ∀ a t x, a < k + 1 → I.w a t = some x → x ≤ u2 k D u p T g a + p2 p T g t := fun a t x ha hw => by
  by_cases e : a = k
  · subst e
    rw [u2_k]
    obtain ⟨Y, hY, hl⟩ := f.cov a 0 t x f.fs hw (by rw [d.out a (Nat.le_refl _)]; intro q; cases q)
    rw [p2_some hY]
    omega
  · have ha : a < k := by omega
    have h0 := d.fe a t x ha hw
    have hg := p2_ge (p := p) (T := T) t g
    cases hd : D a with
    | none =>
      rw [u2_none e hd]
      omega
    | some h =>
      cases hT : T h with
      | none =>
        rw [u2_out e hd hT]
        omega
      | some X =>
        obtain ⟨x0, hx0⟩ := d.wi a h hd
        by_cases q : t = h
        · subst q
          rw [tight_stay d ha hd hw]
          exact Int.le_refl _
        · have hF := f.rf a h X x0 ha hd hT hx0
          obtain ⟨Y, hY, hl⟩ := f.cov a _ t x hF hw (by rw [hd]; intro z; exact q (Option.some.inj z).symm)
          have h1 := d.ti a h x0 ha hd hx0
          rw [u2_in e hd hT, p2_some hY]
          omega

/-- behind the way the first k + 1 askers have asks and prices again -/
theorem dual_next (d : Dual I k D u p) (hk : k < I.m) (f : Fin I k D p F T K rho) {g : Int} (mg : MaxG I D F T g) {way : Way} (W : WayOk I k D p F T K g way) :
    Dual I (k + 1) (app D way) (u2 k D u p T g) (p2 p T g) := by
  have cc : ∀ t, cnt I.m (app D way) t = cnt I.m D t + isT (lastX none way) t := fun t => by
    have := cnt_app (m := I.m) W.nd (fun e he => Nat.lt_of_le_of_lt (W.lt e he) hk) W.ch t
    have z : isT none t = 0 := if_neg (by intro q; cases q)
    rw [z] at this
    omega
  have kin : ∀ a, (∀ e ∈ way, e.1 ≠ a) → a ≠ k := fun a h q => by
    obtain ⟨x, hx⟩ := W.k_in
    exact h (k, x) hx q.symm
  -- an asker is on the way or not
  have cases_ : ∀ a, (∃ x, (a, x) ∈ way) ∨ ∀ e ∈ way, e.1 ≠ a := fun a => by
    by_cases q : a ∈ way.map (·.1)
    · obtain ⟨e, he, h⟩ := List.mem_map.mp q
      exact .inl ⟨e.2, by rw [← h]; exact he⟩
    · exact .inr fun e he h => q (List.mem_map.mpr ⟨e, he, h⟩)
  -- the askers of the way, their asks
  have uw : ∀ a g', F a = some g' → (a = k ∨ ∃ h X, D a = some h ∧ T h = some X ∧ g ≤ X - p h) → u2 k D u p T g a = g - g' := fun a g' hF hh => by
    by_cases e : a = k
    · subst e
      rw [f.fs] at hF
      have := Option.some.inj hF
      rw [u2_k]
      omega
    · rcases hh with hh | ⟨h, X, hd, hT, hg⟩
      · exact absurd hh e
      · rcases f.fr a g' hF with q | ⟨ha, h', X', x, hd', hT', hx, e1⟩
        · exact absurd q e
        · rw [hd] at hd'
          cases hd'
          rw [hT] at hT'
          cases hT'
          have := d.ti a h x ha hd hx
          rw [u2_in e hd hT]
          omega
  refine ⟨hk, fun t ht => ?_, fun a ha => ?_, feas2 d f mg, fun a t x ha hd hw => ?_, fun a ha hd => ?_, fun t ht hl => ?_, fun a ha => ?_, fun a t hd => ?_, fun t ht => ?_⟩
  · have := d.p0 t ht
    have := p2_ge (p := p) (T := T) t g
    omega
  · by_cases e : a = k
    · rw [e, u2_k]
      exact mg.g0
    · have ha : a < k := by omega
      have h0 := d.u0 a ha
      cases hd : D a with
      | none =>
        rw [u2_none e hd]
        exact h0
      | some h =>
        cases hT : T h with
        | none =>
          rw [u2_out e hd hT]
          exact h0
        | some X =>
          obtain ⟨x, hx⟩ := d.wi a h hd
          have h1 := d.ti a h x ha hd hx
          have h2 := mg.fF a _ (f.rf a h X x ha hd hT hx)
          rw [u2_in e hd hT]
          omega
  · rcases cases_ a with ⟨y, hy⟩ | hn
    · rw [app_in W.nd hy] at hd
      subst hd
      obtain ⟨hK, X, hT, hg⟩ := W.some_ a t hy
      obtain ⟨a', g', x', e1, e2, e3, e4, e5⟩ := f.tk t X hT
      rw [hK] at e1
      cases e1
      rw [hw] at e3
      cases e3
      have hh : a = k ∨ ∃ h X, D a = some h ∧ T h = some X ∧ g ≤ X - p h := by
        rcases f.ac t X a hT hK with q | ⟨h, Y, q1, q2, q3, _⟩
        · exact .inl q
        · exact .inr ⟨h, Y, q1, q2, by omega⟩
      rw [uw a g' e2 hh, p2_some hT]
      omega
    · rw [app_out hn] at hd
      have e := kin a hn
      exact tight_stay d (by omega) hd hw
  · rcases cases_ a with ⟨y, hy⟩ | hn
    · rw [app_in W.nd hy] at hd
      subst hd
      have hF := W.none_ a hy
      by_cases e : a = k
      · subst e
        rw [f.fs] at hF
        rw [u2_k]
        exact (Option.some.inj hF).symm
      · rcases f.fr a g hF with q | ⟨ha', h, X, x, hd', hT, hx, e1⟩
        · exact absurd q e
        · have h1 := d.ti a h x ha' hd' hx
          have h2 := d.u0 a ha'
          rw [u2_in e hd' hT]
          omega
    · rw [app_out hn] at hd
      have e := kin a hn
      rw [u2_none e hd]
      exact d.un a (by omega) hd
  · rw [cc t] at hl
    have h0 : 0 ≤ isT (lastX none way) t := by
      unfold isT
      split <;> decide
    have hl' : cnt I.m D t < I.c t := by omega
    have h1 := d.le t ht hl'
    cases hT : T t with
    | none =>
      rw [p2_none hT]
      exact h1
    | some X =>
      have := mg.fT t X hT hl'
      rw [p2_some hT]
      omega
  · rcases cases_ a with ⟨y, hy⟩ | hn
    · have := W.lt (a, y) hy
      have : a ≤ k := this
      omega
    · rw [app_out hn]
      exact d.out a (by omega)
  · rcases cases_ a with ⟨y, hy⟩ | hn
    · rw [app_in W.nd hy] at hd
      subst hd
      obtain ⟨hK, X, hT, hg⟩ := W.some_ a t hy
      obtain ⟨a', g', x', e1, e2, e3, e4, e5⟩ := f.tk t X hT
      rw [hK] at e1
      cases e1
      exact ⟨x', e3⟩
    · rw [app_out hn] at hd
      exact d.wi a t hd
  · rw [cc t]
    by_cases e : lastX none way = some t
    · have := (W.last t e).2
      rw [e]
      have z : isT (some t) t = 1 := if_pos rfl
      omega
    · have z : isT (lastX none way) t = 0 := if_neg e
      have := d.co t ht
      omega

/-- where no way gains, the asker gets nothing -/
theorem dual_none (d : Dual I k D u p) (hk : k < I.m) (f : Fin I k D p F T K rho) (mg : MaxG I D F T 0) : Dual I (k + 1) D (u2 k D u p T 0) (p2 p T 0) := by
  have h := dual_next (way := [(k, none)]) d hk f mg ⟨by simp, fun e he => by simp at he; rw [he]; exact Nat.le_refl _, ⟨d.out k (Nat.le_refl _), trivial⟩, fun a t h => by simp at h, fun a h => by
    simp at h
    rw [h, f.fs], ⟨none, by simp⟩, fun t h => by cases h⟩
  have e : app D [(k, none)] = D := by
    funext a
    show setD D k none a = D a
    unfold setD
    by_cases q : a = k
    · rw [if_pos q, q, d.out k (Nat.le_refl _)]
    · rw [if_neg q]
  rw [e] at h
  exact h

/-! ### the way that is gone back from its end -/
/-- a way so far: from its first asker on -/
structure Back (I : Ins) (k : Nat) (D : Nat → Option Nat) (p : Nat → Int) (F T : Nat → Option Int) (K : Nat → Option Nat) (rho : Nat → Nat) (g : Int) (way : Way) : Prop where
  ne : way ≠ []
  nd : (way.map (·.1)).Nodup
  lt : ∀ e ∈ way, e.1 ≤ k
  ch : ∃ b x r, way = (b, x) :: r ∧ Chn D (D b) way ∧ (b = k ∨ ∃ h X, D b = some h ∧ T h = some X ∧ g ≤ X - p h ∧ ∀ e ∈ r, ∃ h', D e.1 = some h' ∧ rho h < rho h')
  some_ : ∀ a t, (a, some t) ∈ way → K t = some a ∧ ∃ X, T t = some X ∧ g ≤ X - p t
  none_ : ∀ a, (a, none) ∈ way → F a = some g
  last : ∀ h t, lastX h way = some t → T t = some g ∧ cnt I.m D t < I.c t

theorem back_start_thing (d : Dual I k D u p) (f : Fin I k D p F T K rho) {g : Int} {a t : Nat} (hT : T t = some g) (hl : cnt I.m D t < I.c t) (hK : K t = some a) : Back I k D p F T K rho g [(a, some t)] := by
  obtain ⟨a', g', x, e1, e2, e3, e4, e5⟩ := f.tk t g hT
  rw [hK] at e1
  cases e1
  have hpt := d.le t (I.wn a t x e3) hl
  have hak : a ≤ k := by
    rcases f.fr a g' e2 with q | ⟨q, _⟩ <;> omega
  refine ⟨by simp, by simp, fun e he => by simp at he; rw [he]; exact hak, ⟨a, some t, [], rfl, ⟨rfl, trivial⟩, ?_⟩, fun b y h => ?_, fun b h => by simp at h, fun h t' e => ?_⟩
  · rcases f.ac t g a hT hK with q | ⟨h, Y, q1, q2, q3, _⟩
    · exact .inl q
    · exact .inr ⟨h, Y, q1, q2, by omega, fun e he => by cases he⟩
  · simp at h
    obtain ⟨rfl, rfl⟩ := h
    exact ⟨hK, g, hT, by omega⟩
  · have : t = t' := Option.some.inj e
    subst this
    exact ⟨hT, hl⟩
theorem back_start_none (d : Dual I k D u p) (f : Fin I k D p F T K rho) {g : Int} {a : Nat} (hF : F a = some g) : Back I k D p F T K rho g [(a, none)] := by
  have hak : a ≤ k := by
    rcases f.fr a g hF with q | ⟨q, _⟩ <;> omega
  refine ⟨by simp, by simp, fun e he => by simp at he; rw [he]; exact hak, ⟨a, none, [], rfl, ⟨rfl, trivial⟩, ?_⟩, fun b y h => by simp at h, fun b h => ?_, fun h t' e => by cases e⟩
  · rcases f.fr a g hF with q | ⟨q, h, X, x, q1, q2, q3, q4⟩
    · exact .inl q
    · have h1 := d.ti a h x q q1 q3
      have h2 := d.u0 a q
      exact .inr ⟨h, X, q1, q2, by omega, fun e he => by cases he⟩
  · simp at h
    rw [h]
    exact hF
/-- one step further back: h what the first asker has, c its taker; rho falls -/
theorem back_step (d : Dual I k D u p) (f : Fin I k D p F T K rho) {g : Int} {b : Nat} {x : Option Nat} {r : Way} (B : Back I k D p F T K rho g ((b, x) :: r)) (hb : b ≠ k) :
    ∃ h c, D b = some h ∧ K h = some c ∧ Back I k D p F T K rho g ((c, some h) :: (b, x) :: r) ∧ (c = k ∨ ∃ h', D c = some h' ∧ rho h' < rho h) := by
  obtain ⟨b', x', r', e, hc, hh⟩ := B.ch
  cases e
  rcases hh with hh | ⟨h, X, hd, hT, hg, hr⟩
  · exact absurd hh hb
  · obtain ⟨c, g', y, e1, e2, e3, e4, e5⟩ := f.tk h X hT
    have ac := f.ac h X c hT e1
    have hck : c ≤ k := by
      rcases f.fr c g' e2 with q | ⟨q, _⟩ <;> omega
    have dk := d.out k (Nat.le_refl _)
    -- all askers of the way have things whose rho is at least h's
    have allr : ∀ e ∈ (b, x) :: r, ∃ h', D e.1 = some h' ∧ rho h ≤ rho h' := fun e he => by
      rcases List.mem_cons.mp he with q | q
      · subst q
        exact ⟨h, hd, Nat.le_refl _⟩
      · obtain ⟨h', q1, q2⟩ := hr e q
        exact ⟨h', q1, Nat.le_of_lt q2⟩
    have cn : ∀ e ∈ (b, x) :: r, e.1 ≠ c := fun e he q => by
      obtain ⟨h', q1, q2⟩ := allr e he
      rw [q] at q1
      rcases ac with z | ⟨h2, Y, z1, z2, z3, z4⟩
      · rw [z, dk] at q1
        cases q1
      · rw [z1] at q1
        cases q1
        omega
    refine ⟨h, c, hd, e1, ⟨by simp, ?_, fun e he => ?_, ⟨c, some h, (b, x) :: r, rfl, ⟨rfl, by rw [← hd]; exact hc⟩, ?_⟩, fun a t ha => ?_, fun a ha => ?_, fun h' t e => B.last h' t e⟩, ?_⟩
    · show (c :: ((b, x) :: r).map (·.1)).Nodup
      refine List.nodup_cons.mpr ⟨fun q => ?_, B.nd⟩
      obtain ⟨e, he, q⟩ := List.mem_map.mp q
      exact cn e he q
    · rcases List.mem_cons.mp he with q | q
      · subst q
        exact hck
      · exact B.lt e q
    · rcases ac with z | ⟨h2, Y, z1, z2, z3, z4⟩
      · exact .inl z
      · refine .inr ⟨h2, Y, z1, z2, by omega, fun e he => ?_⟩
        obtain ⟨h', q1, q2⟩ := allr e he
        exact ⟨h', q1, by omega⟩
    · rcases List.mem_cons.mp ha with q | q
      · cases q
        exact ⟨e1, X, hT, hg⟩
      · exact B.some_ a t q
    · rcases List.mem_cons.mp ha with q | q
      · cases q
      · exact B.none_ a q
    · rcases ac with z | ⟨h2, Y, z1, z2, z3, z4⟩
      · exact .inl z
      · exact .inr ⟨h2, z1, z4⟩
theorem back_end (d : Dual I k D u p) {g : Int} {x : Option Nat} {r : Way} (B : Back I k D p F T K rho g ((k, x) :: r)) : WayOk I k D p F T K g ((k, x) :: r) := by
  obtain ⟨b', x', r', e, hc, hh⟩ := B.ch
  cases e
  rw [d.out k (Nat.le_refl _)] at hc
  exact ⟨B.nd, B.lt, hc, B.some_, B.none_, ⟨x, List.mem_cons_self⟩, fun t e => B.last none t e⟩
end
end Wd
/-! Prices raised until none has to be raised. -/
namespace Wd

/-- what an asker's thing is worth beyond its price -/
def rst (I : Ins) (D : Nat → Option Nat) (P : Nat → Int) (a : Nat) : Int := match D a with
  | some h => (I.w a h).getD 0 - P h
  | none => 0
theorem rst_some {I : Ins} {D : Nat → Option Nat} {P : Nat → Int} {a h : Nat} {x : Int} (hd : D a = some h) (hx : I.w a h = some x) : rst I D P a = x - P h := by
  unfold rst
  rw [hd]
  show (I.w a h).getD 0 - P h = x - P h
  rw [hx]
  rfl
theorem rst_none {I : Ins} {D : Nat → Option Nat} {P : Nat → Int} {a : Nat} (hd : D a = none) : rst I D P a = 0 := by
  unfold rst
  rw [hd]

/-- prices so far: never above those of (u, p); raisers have no round: st when a price was raised last -/
structure Prc (I : Ins) (D : Nat → Option Nat) (p : Nat → Int) (P : Nat → Int) (R : Nat → Option Nat) (st : Nat → Nat) (r : Nat) : Prop where
  p0 : ∀ t, t < I.n → 0 ≤ P t
  le : ∀ t, t < I.n → P t ≤ p t
  ra : ∀ t a, R t = some a → t < I.n ∧ a < I.m
  ac : ∀ t a h, R t = some a → D a = some h → P t - p t ≤ P h - p h ∧ (R h ≠ none → P t - p t < P h - p h ∨ st h < st t)
  sr : ∀ t, R t ≠ none → st t < r

def setP (P : Nat → Int) (t : Nat) (x : Int) : Nat → Int := fun i => if i = t then x else P i
theorem setP_same (P : Nat → Int) (t : Nat) (x : Int) : setP P t x t = x := if_pos rfl
theorem setP_ne (P : Nat → Int) {t i : Nat} (x : Int) (h : i ≠ t) : setP P t x i = P i := if_neg h

section
variable {I : Ins} {D : Nat → Option Nat} {u p P : Nat → Int} {R : Nat → Option Nat} {st : Nat → Nat} {r : Nat}
theorem prc_start (d : Dual I I.m D u p) : Prc I D p (fun _ => 0) (fun _ => none) (fun _ => 0) 0 :=
  ⟨fun t _ => Int.le_refl _, fun t ht => d.p0 t ht, fun t a h => (nomatch h), fun t a h e => (nomatch e), fun t h => absurd rfl h⟩
/-- what is rest never lies below the asks -/
theorem rst_ge (d : Dual I I.m D u p) (c : Prc I D p P R st r) {a : Nat} (ha : a < I.m) : u a ≤ rst I D P a := by
  cases hd : D a with
  | none =>
    rw [rst_none hd, d.un a ha hd]
    exact Int.le_refl _
  | some h =>
    obtain ⟨x, hx⟩ := d.wi a h hd
    have h1 := d.ti a h x ha hd hx
    have h2 := c.le h (I.wn a h x hx)
    rw [rst_some hd hx]
    omega
theorem rst_nn (d : Dual I I.m D u p) (c : Prc I D p P R st r) {a : Nat} (ha : a < I.m) : 0 ≤ rst I D P a := by
  have := rst_ge d c ha
  have := d.u0 a ha
  omega
theorem prc_step (d : Dual I I.m D u p) (c : Prc I D p P R st r) {a t : Nat} {x : Int} (ha : a < I.m) (hw : I.w a t = some x) (hg : P t < x - rst I D P a) :
    Prc I D p (setP P t (x - rst I D P a)) (setO R t a) (fun i => if i = t then r else st i) (r + 1) := by
  have ht := I.wn a t x hw
  have hge := rst_ge d c ha
  have hfe := d.fe a t x ha hw
  have hp0 := c.p0 t ht
  refine ⟨fun i hi => ?_, fun i hi => ?_, fun i b h => ?_, fun i b h hb hd => ?_, fun i h => ?_⟩
  · by_cases q : i = t
    · subst q
      rw [setP_same]
      omega
    · rw [setP_ne _ _ q]
      exact c.p0 i hi
  · by_cases q : i = t
    · subst q
      rw [setP_same]
      omega
    · rw [setP_ne _ _ q]
      exact c.le i hi
  · by_cases q : i = t
    · subst q
      rw [setO_same] at h
      cases h
      exact ⟨ht, ha⟩
    · rw [setO_ne _ _ q] at h
      exact c.ra i b h
  · by_cases q : i = t
    · subst q
      rw [setO_same] at hb
      cases hb
      have hti : h ≠ i := fun z => by
        subst z
        rw [rst_some hd hw] at hg
        omega
      obtain ⟨x0, hx0⟩ := d.wi a h hd
      have h1 := d.ti a h x0 ha hd hx0
      have er := rst_some (P := P) hd hx0
      rw [setP_same, setP_ne _ _ hti]
      refine ⟨by omega, fun hR => .inr ?_⟩
      rw [setO_ne _ _ hti] at hR
      have := c.sr h hR
      show (if h = i then r else st h) < if i = i then r else st i
      rw [if_neg hti, if_pos rfl]
      exact this
    · rw [setO_ne _ _ q] at hb
      obtain ⟨h1, h2⟩ := c.ac i b h hb hd
      rw [setP_ne _ _ q]
      by_cases z : h = t
      · subst z
        rw [setP_same]
        exact ⟨by omega, fun _ => .inl (by omega)⟩
      · rw [setP_ne _ _ z]
        refine ⟨h1, fun hR => ?_⟩
        rw [setO_ne _ _ z] at hR
        rcases h2 hR with e | e
        · exact .inl e
        · right
          show (if h = t then r else st h) < if i = t then r else st i
          rw [if_neg z, if_neg q]
          exact e
  · by_cases q : i = t
    · show (if i = t then r else st i) < r + 1
      rw [if_pos q]
      exact Nat.lt_succ_self r
    · rw [setO_ne _ _ q] at h
      have := c.sr i h
      show (if i = t then r else st i) < r + 1
      rw [if_neg q]
      omega
/-- along raisers this falls -/
def rhoP (p P : Nat → Int) (st : Nat → Nat) (r : Nat) (t : Nat) : Nat := (p t - P t).toNat * r + st t
theorem rhoP_lt (c : Prc I D p P R st r) {t a h : Nat} (hR : R t = some a) (hd : D a = some h) (hh : R h ≠ none) : rhoP p P st r h < rhoP p P st r t := by
  obtain ⟨h1, h2⟩ := c.ac t a h hR hd
  have s1 := c.sr h hh
  have hhn : h < I.n := by
    cases e : R h with
    | none => exact absurd e hh
    | some b => exact (c.ra h b e).1
  have u1 := c.le h hhn
  have u2 := c.le t (c.ra t a hR).1
  unfold rhoP
  have le1 : (p h - P h).toNat ≤ (p t - P t).toNat := by omega
  have le2 : (p h - P h).toNat * r ≤ (p t - P t).toNat * r := Nat.mul_le_mul_right r le1
  rcases h2 hh with e | e
  · have h3 : (p h - P h).toNat + 1 ≤ (p t - P t).toNat := by omega
    have h4 : ((p h - P h).toNat + 1) * r ≤ (p t - P t).toNat * r := Nat.mul_le_mul_right r h3
    rw [Nat.add_mul] at h4
    omega
  · omega
/-- no copy is left of a thing whose price is raised -/
theorem full_of (d : Dual I I.m D u p) (c : Prc I D p P R st r) {t : Nat} (ht : t < I.n) (h : 0 < P t) : ¬ cnt I.m D t < I.c t := fun q => by
  have := d.le t ht q
  have := c.le t ht
  omega
/-- all is settled -/
theorem settled (d : Dual I I.m D u p) (c : Prc I D p P R st r) (h : ∀ a t x, a < I.m → I.w a t = some x → x - rst I D P a ≤ P t) : Dual I I.m D (rst I D P) P := by
  refine ⟨Nat.le_refl _, c.p0, fun a ha => rst_nn d c ha, fun a t x ha hw => by have := h a t x ha hw; omega, fun a t x ha hd hw => ?_, fun a ha hd => rst_none hd, fun t ht hl => ?_, d.out, d.wi, d.co⟩
  · rw [rst_some hd hw]
    omega
  · have h1 := d.le t ht hl
    have h2 := c.le t ht
    have h3 := c.p0 t ht
    omega
/-- how far prices may still rise -/
def gap (I : Ins) (p P : Nat → Int) : Int := S I.n fun t => p t - P t
theorem gap_nn (c : Prc I D p P R st r) : 0 ≤ gap I p P := S_nn fun t ht => by
  have := c.le t ht
  omega
theorem gap_lt {P' : Nat → Int} {j : Nat} (h : ∀ t, t < I.n → P t ≤ P' t) (hj : j < I.n) (hl : P j < P' j) : gap I p P' < gap I p P :=
  S_lt (j := j) (fun t ht => by have := h t ht; omega) hj (by omega)
end
end Wd
/-! The strict paper: met just where every paper that claims the best worth is met. -/
namespace Wd

theorem sub_len {l1 l2 : List Nat} (h : l1.Nodup) (s : ∀ x ∈ l1, x ∈ l2) : l1.length ≤ l2.length := by
  induction l1 generalizing l2 with
  | nil => exact Nat.zero_le _
  | cons a r ih =>
    obtain ⟨h1, h2⟩ := List.nodup_cons.mp h
    have ha := s a List.mem_cons_self
    have h3 := ih (l2 := l2.erase a) h2 fun x hx => by
      have : x ≠ a := fun q => h1 (by rw [← q]; exact hx)
      exact (List.mem_erase_of_ne this).mpr (s x (List.mem_cons_of_mem _ hx))
    rw [List.length_erase_of_mem ha] at h3
    have : 0 < l2.length := List.length_pos_of_mem ha
    rw [List.length_cons]
    omega
theorem sub_all {l1 l2 : List Nat} (h : l1.Nodup) (s : ∀ x ∈ l1, x ∈ l2) (hl : l2.length ≤ l1.length) : ∀ x ∈ l2, x ∈ l1 := fun x hx => by
  by_cases q : x ∈ l1
  · exact q
  · have h3 := sub_len (l2 := l2.erase x) h fun y hy => by
      have : y ≠ x := fun z => q (by rw [← z]; exact hy)
      exact (List.mem_erase_of_ne this).mpr (s y hy)
    rw [List.length_erase_of_mem hx] at h3
    have : 0 < l2.length := List.length_pos_of_mem hx
    omega

inductive Rch (A : Nat → Nat → Prop) : Nat → Nat → Prop
  | refl (x : Nat) : Rch A x x
  | tail {x y z : Nat} : Rch A x y → A y z → Rch A x z
theorem Rch.trans {A : Nat → Nat → Prop} {x y z : Nat} (h : Rch A x y) (g : Rch A y z) : Rch A x z := by
  induction g with
  | refl => exact h
  | tail _ a ih => exact .tail ih a
theorem Rch.one {A : Nat → Nat → Prop} {x y : Nat} (h : A x y) : Rch A x y := .tail (.refl x) h
/-- what falls along arcs falls along ways -/
theorem Rch.falls {A : Nat → Nat → Prop} {f : Nat → Int} (h : ∀ x y, A x y → f y ≤ f x) {x y : Nat} (r : Rch A x y) : f y ≤ f x := by
  induction r with
  | refl => exact Int.le_refl _
  | tail _ a ih => exact Int.le_trans (h _ _ a) ih

/-- the arcs: askers 0 .., things from m on, nothing last -/
def ArcP (I : Ins) (D : Nat → Option Nat) (u p : Nat → Int) (x y : Nat) : Prop :=
  (∃ t v, x < I.m ∧ y = I.m + t ∧ I.w x t = some v ∧ u x + p t = v) ∨ (x < I.m ∧ y = I.m + I.n ∧ u x = 0) ∨ (x = I.m + I.n ∧ y < I.m ∧ D y = none) ∨
    (∃ t, x = I.m + t ∧ y < I.m ∧ D y = some t) ∨ (∃ t, t < I.n ∧ x = I.m + I.n ∧ y = I.m + t ∧ p t = 0) ∨ (∃ t, t < I.n ∧ x = I.m + t ∧ y = I.m + I.n ∧ cnt I.m D t < I.c t)

/-- how another paper lies beside this one -/
def phi (I : Ins) (k : Int) (u p u' p' : Nat → Int) (x : Nat) : Int := if x < I.m then u' x - k * u x else if x < I.m + I.n then k * p (x - I.m) - p' (x - I.m) else 0
section
variable {I : Ins} {D : Nat → Option Nat} {u p u' p' : Nat → Int} {k : Int}
theorem phi_a {a : Nat} (h : a < I.m) : phi I k u p u' p' a = u' a - k * u a := if_pos h
theorem phi_t {t : Nat} (h : t < I.n) : phi I k u p u' p' (I.m + t) = k * p t - p' t := by
  unfold phi
  rw [if_neg (by omega), if_pos (by omega), Nat.add_sub_cancel_left]
theorem phi_last : phi I k u p u' p' (I.m + I.n) = 0 := by
  unfold phi
  rw [if_neg (by omega), if_neg (by omega)]
theorem phi_falls (d : Dual I I.m D u p) (P : Pap I k u' p') (M : Met I k D u' p') (x y : Nat) (h : ArcP I D u p x y) : phi I k u p u' p' y ≤ phi I k u p u' p' x := by
  rcases h with ⟨t, v, hx, rfl, hw, e⟩ | ⟨hx, rfl, e⟩ | ⟨rfl, hy, e⟩ | ⟨t, rfl, hy, e⟩ | ⟨t, ht, rfl, rfl, e⟩ | ⟨t, ht, rfl, rfl, e⟩
  · have ht := I.wn x t v hw
    have h1 := P.fe x t v hx hw
    rw [phi_a hx, phi_t ht]
    rw [← e, Int.mul_add] at h1
    omega
  · have h1 := P.u0 x hx
    rw [phi_a hx, phi_last, e]
    omega
  · have h1 := M.un y hy e
    have h2 := d.un y hy e
    rw [phi_a hy, phi_last, h1, h2]
    omega
  · obtain ⟨v, hv⟩ := d.wi y t e
    have ht := I.wn y t v hv
    have h1 := M.ti y t v hy e hv
    have h2 := d.ti y t v hy e hv
    rw [phi_a hy, phi_t ht]
    rw [← h2, Int.mul_add] at h1
    omega
  · have h1 := P.p0 t ht
    rw [phi_t ht, phi_last, e]
    omega
  · have h1 := M.le t ht e
    have h2 := d.le t ht e
    rw [phi_t ht, phi_last, h1, h2]
    omega

/-- for each node all nodes that are led to, and how many they are -/
structure Pla (I : Ins) (D : Nat → Option Nat) (u p : Nat → Int) (L : Nat → Nat) : Prop where
  ks : ∀ x, x < I.m + I.n + 1 → ∃ l : List Nat, l.Nodup ∧ (∀ y, y ∈ l ↔ Rch (ArcP I D u p) x y) ∧ L x = l.length
theorem arc_lt (d : Dual I I.m D u p) {x y : Nat} (h : ArcP I D u p x y) : x < I.m + I.n + 1 ∧ y < I.m + I.n + 1 := by
  rcases h with ⟨t, v, hx, rfl, hw, e⟩ | ⟨hx, rfl, e⟩ | ⟨rfl, hy, e⟩ | ⟨t, rfl, hy, e⟩ | ⟨t, ht, rfl, rfl, e⟩ | ⟨t, ht, rfl, rfl, e⟩
  · have ht := I.wn x t v hw
    omega
  · omega
  · omega
  · obtain ⟨v, hv⟩ := d.wi y t e
    have ht := I.wn y t v hv
    omega
  · omega
  · omega
theorem rch_lt (d : Dual I I.m D u p) {x y : Nat} (hx : x < I.m + I.n + 1) (h : Rch (ArcP I D u p) x y) : y < I.m + I.n + 1 := by
  induction h with
  | refl => exact hx
  | tail _ a _ => exact (arc_lt d a).2
section
variable {L : Nat → Nat} (d : Dual I I.m D u p) (pl : Pla I D u p L)
include d pl
theorem pla_pos {x : Nat} (hx : x < I.m + I.n + 1) : 1 ≤ L x := by
  obtain ⟨l, _, h2, h3⟩ := pl.ks x hx
  rw [h3]
  exact List.length_pos_of_mem ((h2 x).mpr (.refl x))
theorem pla_le {x : Nat} (hx : x < I.m + I.n + 1) : L x ≤ I.m + I.n + 1 := by
  obtain ⟨l, h1, h2, h3⟩ := pl.ks x hx
  rw [h3]
  have := sub_len (l2 := List.range (I.m + I.n + 1)) h1 fun y hy => List.mem_range.mpr (rch_lt d hx ((h2 y).mp hy))
  rw [List.length_range] at this
  exact this
theorem pla_arc {x y : Nat} (h : ArcP I D u p x y) : L y ≤ L x := by
  obtain ⟨hx, hy⟩ := arc_lt d h
  obtain ⟨l, h1, h2, h3⟩ := pl.ks x hx
  obtain ⟨l', h1', h2', h3'⟩ := pl.ks y hy
  rw [h3, h3']
  exact sub_len h1' fun z hz => (h2 z).mpr ((Rch.one h).trans ((h2' z).mp hz))
theorem pla_back {x y : Nat} (h : ArcP I D u p x y) (e : L x = L y) : Rch (ArcP I D u p) y x := by
  obtain ⟨hx, hy⟩ := arc_lt d h
  obtain ⟨l, h1, h2, h3⟩ := pl.ks x hx
  obtain ⟨l', h1', h2', h3'⟩ := pl.ks y hy
  refine (h2' x).mp (sub_all h1' (fun z hz => (h2 z).mpr ((Rch.one h).trans ((h2' z).mp hz))) ?_ x ((h2 x).mpr (.refl x)))
  omega
end

def sz (I : Ins) : Int := ((I.m + I.n + 1 : Nat) : Int)
def sA (I : Ins) (u : Nat → Int) (L : Nat → Nat) (a : Nat) : Int := sz I * u a + L a - L (I.m + I.n)
def sQ (I : Ins) (p : Nat → Int) (L : Nat → Nat) (t : Nat) : Int := sz I * p t + L (I.m + I.n) - L (I.m + t)
theorem sz_pos (I : Ins) : 0 < sz I := by
  unfold sz
  omega
theorem sz_one {x : Int} (h : 1 ≤ x) : sz I ≤ sz I * x := by
  have := Int.mul_le_mul_of_nonneg_left h (Int.le_of_lt (sz_pos I))
  rw [Int.mul_one] at this
  exact this
section
variable {L : Nat → Nat} (d : Dual I I.m D u p) (pl : Pla I D u p L)
include d pl
theorem dif_lt {x y : Nat} (hx : x < I.m + I.n + 1) (hy : y < I.m + I.n + 1) : (L y : Int) - L x < sz I := by
  have h1 := pla_pos d pl hx
  have h2 := pla_le d pl hy
  unfold sz
  omega
/-- the asks of a are 0 just where they were and a and nothing lead to one another -/
theorem sA_zero {a : Nat} (ha : a < I.m) : 0 ≤ sA I u L a ∧ (sA I u L a = 0 → u a = 0 ∧ L a = L (I.m + I.n)) := by
  have h1 := dif_lt d pl (x := a) (y := I.m + I.n) (by omega) (by omega)
  have h0 := d.u0 a ha
  unfold sA
  by_cases e : u a = 0
  · have h2 := pla_arc d pl (x := a) (y := I.m + I.n) (.inr (.inl ⟨ha, rfl, e⟩))
    rw [e, Int.mul_zero]
    exact ⟨by omega, fun q => ⟨rfl, by omega⟩⟩
  · have h3 := sz_one (I := I) (show 1 ≤ u a by omega)
    exact ⟨by omega, fun q => by omega⟩
theorem sQ_zero {t : Nat} (ht : t < I.n) : 0 ≤ sQ I p L t ∧ (sQ I p L t = 0 → p t = 0 ∧ L (I.m + t) = L (I.m + I.n)) := by
  have h1 := dif_lt d pl (x := I.m + I.n) (y := I.m + t) (by omega) (by omega)
  have h0 := d.p0 t ht
  unfold sQ
  by_cases e : p t = 0
  · have h2 := pla_arc d pl (x := I.m + I.n) (y := I.m + t) (.inr (.inr (.inr (.inr (.inl ⟨t, ht, rfl, rfl, e⟩)))))
    rw [e, Int.mul_zero]
    exact ⟨by omega, fun q => ⟨rfl, by omega⟩⟩
  · have h3 := sz_one (I := I) (show 1 ≤ p t by omega)
    exact ⟨by omega, fun q => by omega⟩
theorem sT {a t : Nat} {x : Int} (ha : a < I.m) (hw : I.w a t = some x) : sz I * x ≤ sA I u L a + sQ I p L t ∧ (sA I u L a + sQ I p L t = sz I * x → u a + p t = x ∧ L a = L (I.m + t)) := by
  have ht := I.wn a t x hw
  have h1 := dif_lt d pl (x := a) (y := I.m + t) (by omega) (by omega)
  have h0 := d.fe a t x ha hw
  have e1 : sA I u L a + sQ I p L t = sz I * (u a + p t - x) + sz I * x + (L a - L (I.m + t)) := by
    unfold sA sQ
    rw [Int.mul_sub, Int.mul_add]
    omega
  rw [e1]
  by_cases e : u a + p t = x
  · have h2 := pla_arc d pl (x := a) (y := I.m + t) (.inl ⟨t, x, ha, rfl, hw, e⟩)
    have z : u a + p t - x = 0 := by omega
    rw [z, Int.mul_zero]
    exact ⟨by omega, fun q => ⟨e, by omega⟩⟩
  · have h3 := sz_one (I := I) (show 1 ≤ u a + p t - x by omega)
    exact ⟨by omega, fun q => by omega⟩
theorem strict_pap : Pap I (sz I) (sA I u L) (sQ I p L) :=
  ⟨fun a ha => (sA_zero d pl ha).1, fun t ht => (sQ_zero d pl ht).1, fun a t x ha hw => (sT d pl ha hw).1⟩
theorem same_place {x y : Nat} (h1 : ArcP I D u p x y) (h2 : ArcP I D u p y x) : L x = L y := by
  have := pla_arc d pl h1
  have := pla_arc d pl h2
  omega
theorem strict_met : Met I (sz I) D (sA I u L) (sQ I p L) := by
  refine ⟨fun a t x ha hd hw => ?_, fun a ha hd => ?_, fun t ht hl => ?_⟩
  · have e := d.ti a t x ha hd hw
    have s := same_place d pl (x := a) (y := I.m + t) (.inl ⟨t, x, ha, rfl, hw, e⟩) (.inr (.inr (.inr (.inl ⟨t, rfl, ha, hd⟩))))
    unfold sA sQ
    rw [← e, Int.mul_add]
    omega
  · have e := d.un a ha hd
    have s := same_place d pl (x := a) (y := I.m + I.n) (.inr (.inl ⟨ha, rfl, e⟩)) (.inr (.inr (.inl ⟨rfl, ha, hd⟩)))
    unfold sA
    rw [e, Int.mul_zero]
    omega
  · have e := d.le t ht hl
    have s := same_place d pl (x := I.m + t) (y := I.m + I.n) (.inr (.inr (.inr (.inr (.inr ⟨t, ht, rfl, rfl, hl⟩))))) (.inr (.inr (.inr (.inr (.inl ⟨t, ht, rfl, rfl, e⟩)))))
    unfold sQ
    rw [e, Int.mul_zero]
    omega
/-- the ways back that a tight wish, asks or a price of 0 tell -/
theorem back_tight {a t : Nat} {x : Int} (ha : a < I.m) (hw : I.w a t = some x) (h : sA I u L a + sQ I p L t = sz I * x) : Rch (ArcP I D u p) (I.m + t) a := by
  obtain ⟨e, s⟩ := (sT d pl ha hw).2 h
  exact pla_back d pl (.inl ⟨t, x, ha, rfl, hw, e⟩) s
theorem back_ask {a : Nat} (ha : a < I.m) (h : sA I u L a = 0) : Rch (ArcP I D u p) (I.m + I.n) a := by
  obtain ⟨e, s⟩ := (sA_zero d pl ha).2 h
  exact pla_back d pl (.inr (.inl ⟨ha, rfl, e⟩)) s
theorem back_price {t : Nat} (ht : t < I.n) (h : sQ I p L t = 0) : Rch (ArcP I D u p) (I.m + t) (I.m + I.n) := by
  obtain ⟨e, s⟩ := (sQ_zero d pl ht).2 h
  exact pla_back d pl (.inr (.inr (.inr (.inr (.inl ⟨t, ht, rfl, rfl, e⟩))))) s.symm
/-- tight there is tight in every paper that the dealing meets -/
theorem strict_tight (P : Pap I k u' p') (M : Met I k D u' p') {a t : Nat} {x : Int} (ha : a < I.m) (hw : I.w a t = some x) (h : sA I u L a + sQ I p L t = sz I * x) : u' a + p' t = k * x := by
  obtain ⟨e, s⟩ := (sT d pl ha hw).2 h
  have ht := I.wn a t x hw
  have f := (back_tight d pl ha hw h).falls (f := phi I k u p u' p') fun x y q => phi_falls d P M x y q
  rw [phi_a ha, phi_t ht] at f
  have h1 := P.fe a t x ha hw
  have : k * x = k * u a + k * p t := by rw [← e, Int.mul_add]
  omega
theorem strict_ask (P : Pap I k u' p') (M : Met I k D u' p') {a : Nat} (ha : a < I.m) (h : sA I u L a = 0) : u' a = 0 := by
  obtain ⟨e, s⟩ := (sA_zero d pl ha).2 h
  have f := (back_ask d pl ha h).falls (f := phi I k u p u' p') fun x y q => phi_falls d P M x y q
  rw [phi_a ha, phi_last, e] at f
  have h1 := P.u0 a ha
  omega
end
end
end Wd
/-! Things in copies, and the copies told as things of their own. -/
namespace Wd

/-- J: the single copies of I; own tells whose copy each is -/
structure Sgl (I J : Ins) (own : Nat → Nat) : Prop where
  m : J.m = I.m
  c1 : ∀ i, i < J.n → J.c i = 1
  on : ∀ i, i < J.n → own i < I.n
  w : ∀ a i, i < J.n → J.w a i = I.w a (own i)
  ct : ∀ t, t < I.n → I.c t = S J.n fun i => if own i = t then 1 else 0

section
variable {I J : Ins} {own : Nat → Nat}
/-- a sum over copies, by things -/
theorem Sgl.sum (s : Sgl I J own) (f : Nat → Int) : S J.n (fun i => f (own i)) = S I.n fun t => I.c t * f t := by
  have e1 : S J.n (fun i => f (own i)) = S J.n fun i => S I.n fun t => if own i = t then f t else 0 := S_congr fun i hi => by
    have := S_point (own i) (f (own i)) (s.on i hi)
    rw [← this]
    refine S_congr fun t _ => ?_
    by_cases q : t = own i
    · rw [if_pos q, if_pos q.symm, q]
    · rw [if_neg q, if_neg fun z => q z.symm]
  rw [e1, S_swap]
  refine S_congr fun t ht => ?_
  rw [s.ct t ht, Int.mul_comm, ← S_mul]
  refine S_congr fun i _ => ?_
  by_cases q : own i = t
  · rw [if_pos q, if_pos q, Int.mul_one]
  · rw [if_neg q, if_neg q, Int.mul_zero]

/-- a dealing told back -/
def backD (own : Nat → Nat) (E : Nat → Option Nat) (a : Nat) : Option Nat := (E a).map own
theorem Sgl.back_wOf (s : Sgl I J own) {E : Nat → Option Nat} (h : ∀ a i, a < J.m → E a = some i → i < J.n) {a : Nat} (ha : a < J.m) : wOf I a (backD own E a) = wOf J a (E a) := by
  unfold backD
  cases e : E a with
  | none => rfl
  | some i =>
    show (I.w a (own i)).getD 0 = (J.w a i).getD 0
    rw [s.w a i (h a i ha e)]
theorem Sgl.back_val (s : Sgl I J own) {E : Nat → Option Nat} (h : ∀ a i, a < J.m → E a = some i → i < J.n) : val I (backD own E) = val J E := by
  unfold val
  rw [← s.m]
  exact S_congr fun a ha => s.back_wOf h ha
theorem Sgl.back_cnt (s : Sgl I J own) {E : Nat → Option Nat} (h : ∀ a i, a < J.m → E a = some i → i < J.n) (t : Nat) : cnt I.m (backD own E) t = S J.n fun i => if own i = t then cnt J.m E i else 0 := by
  have e1 : cnt I.m (backD own E) t = S J.m fun a => S J.n fun i => if own i = t then isT (E a) i else 0 := by
    unfold cnt
    rw [← s.m]
    refine S_congr fun a ha => ?_
    unfold backD
    cases e : E a with
    | none =>
      show isT none t = _
      rw [S_congr (g := fun _ => 0) fun i _ => ?_, S_zero]
      · rfl
      · have : isT none i = 0 := rfl
        rw [this]
        split <;> rfl
    | some j =>
      show isT (some (own j)) t = _
      have hj := h a j ha e
      rw [S_congr (g := fun i => if i = j then (if own j = t then 1 else 0) else 0) fun i _ => ?_, S_point j _ hj]
      · unfold isT
        by_cases q : own j = t
        · rw [if_pos q, if_pos (by rw [q])]
        · rw [if_neg q, if_neg fun z => q (Option.some.inj z)]
      · unfold isT
        by_cases q : i = j
        · subst q
          rw [if_pos rfl, if_pos rfl]
        · rw [if_neg (show ¬ some j = some i from fun z => q (Option.some.inj z).symm), if_neg q]
          split <;> rfl
  rw [e1, S_swap]
  refine S_congr fun i _ => ?_
  by_cases q : own i = t
  · rw [if_pos q]
    exact S_congr fun a _ => if_pos q
  · rw [if_neg q, S_congr (g := fun _ => 0) fun a _ => if_neg q, S_zero]
theorem Sgl.back_deal (s : Sgl I J own) {E : Nat → Option Nat} (d : Deal J E) : Deal I (backD own E) := by
  refine ⟨fun a t ha e => ?_, fun t ht => ?_⟩
  · rw [← s.m] at ha
    unfold backD at e
    cases h : E a with
    | none =>
      rw [h] at e
      cases e
    | some i =>
      rw [h] at e
      have e : own i = t := Option.some.inj e
      obtain ⟨x, hx⟩ := d.wi a i ha h
      refine ⟨x, ?_⟩
      rw [← e, ← s.w a i (d.tn a i ha h)]
      exact hx
  · rw [s.back_cnt d.tn, s.ct t ht]
    refine S_le fun i hi => ?_
    by_cases q : own i = t
    · rw [if_pos q, if_pos q]
      have := d.co i hi
      rw [s.c1 i hi] at this
      exact this
    · rw [if_neg q, if_neg q]
      exact Int.le_refl _

theorem Dual.deal {D : Nat → Option Nat} {u p : Nat → Int} (d : Dual I I.m D u p) : Deal I D := ⟨fun a t _ h => d.wi a t h, d.co⟩
theorem Dual.pap {D : Nat → Option Nat} {u p : Nat → Int} (d : Dual I I.m D u p) : Pap I 1 u p := ⟨d.u0, d.p0, fun a t x ha hw => by
  have := d.fe a t x ha hw
  omega⟩
theorem Dual.met {D : Nat → Option Nat} {u p : Nat → Int} (d : Dual I I.m D u p) : Met I 1 D u p := ⟨fun a t x ha hd hw => by
  have := d.ti a t x ha hd hw
  omega, d.un, d.le⟩
/-- no dealing is worth more than one that has asks and prices -/
theorem Dual.best {D E : Nat → Option Nat} {u p : Nat → Int} (d : Dual I I.m D u p) (e : Deal I E) : val I E ≤ val I D := by
  have h1 := weak e d.pap
  have h2 := claim_of_met d.deal d.met
  omega
/-- all four are worth the same -/
theorem Sgl.all_same (s : Sgl I J own) {D E T : Nat → Option Nat} {u p v q : Nat → Int} (d : Dual I I.m D u p) (e : Dual J J.m E v q) (hT : Deal J T) (hD : ∀ a, a < I.m → D a = backD own T a) :
    val J T = val I D ∧ val J E = val I D ∧ val I (backD own E) = val I D := by
  have h1 : val I (backD own T) = val J T := s.back_val hT.tn
  have h2 : val I D = val I (backD own T) := S_congr fun a ha => by rw [hD a ha]
  have h3 := e.best hT
  have h4 := s.back_val e.deal.tn
  have h5 := d.best (s.back_deal e.deal)
  omega

/-- the least of a thing's copies' prices -/
def mnQ (own : Nat → Nat) (Q : Nat → Int) (big : Int) (t : Nat) : Nat → Int
  | 0 => big
  | i + 1 => if own i = t then min (mnQ own Q big t i) (Q i) else mnQ own Q big t i
theorem mnQ_le {Q : Nat → Int} {big : Int} {t : Nat} : ∀ {N i : Nat}, i < N → own i = t → mnQ own Q big t N ≤ Q i
  | 0, i, h, _ => absurd h (Nat.not_lt_zero _)
  | N + 1, i, h, e => by
    show (if own N = t then min (mnQ own Q big t N) (Q N) else mnQ own Q big t N) ≤ Q i
    by_cases q : i = N
    · subst q
      rw [if_pos e]
      omega
    · have := mnQ_le (Q := Q) (big := big) (show i < N by omega) e
      split <;> omega
theorem mnQ_is {Q : Nat → Int} {big : Int} {t : Nat} : ∀ N : Nat, mnQ own Q big t N = big ∨ ∃ i, i < N ∧ own i = t ∧ mnQ own Q big t N = Q i
  | 0 => .inl rfl
  | N + 1 => by
    show (if own N = t then min (mnQ own Q big t N) (Q N) else mnQ own Q big t N) = big ∨ _
    by_cases e : own N = t
    · rw [if_pos e]
      by_cases q : mnQ own Q big t N ≤ Q N
      · rcases mnQ_is (Q := Q) (big := big) (t := t) N with h | ⟨i, h1, h2, h3⟩
        · exact .inl (by omega)
        · refine .inr ⟨i, by omega, h2, ?_⟩
          show (if own N = t then min (mnQ own Q big t N) (Q N) else mnQ own Q big t N) = Q i
          rw [if_pos e]
          omega
      · refine .inr ⟨N, by omega, e, ?_⟩
        show (if own N = t then min (mnQ own Q big t N) (Q N) else mnQ own Q big t N) = Q N
        rw [if_pos e]
        omega
    · rw [if_neg e]
      rcases mnQ_is (Q := Q) (big := big) (t := t) N with h | ⟨i, h1, h2, h3⟩
      · exact .inl h
      · refine .inr ⟨i, by omega, h2, ?_⟩
        show (if own N = t then min (mnQ own Q big t N) (Q N) else mnQ own Q big t N) = Q i
        rw [if_neg e]
        exact h3

/-- a paper of the copies that claims the best worth, as one of the things -/
theorem Sgl.down (s : Sgl I J own) {D E : Nat → Option Nat} {A Q : Nat → Int} {k big : Int} (hD : Deal I D) (hE : Deal J E) (P : Pap J k A Q) (M : Met J k E A Q) (hv : val J E = val I D) (hb : ∀ a t x, a < I.m → I.w a t = some x → k * x ≤ big) (hb0 : 0 ≤ big) :
    Pap I k A (fun t => mnQ own Q big t J.n) ∧ Met I k D A (fun t => mnQ own Q big t J.n) := by
  have P' : Pap I k A (fun t => mnQ own Q big t J.n) := by
    refine ⟨fun a ha => P.u0 a (by rw [s.m]; exact ha), fun t ht => ?_, fun a t x ha hw => ?_⟩
    · show 0 ≤ mnQ own Q big t J.n
      rcases mnQ_is (own := own) (Q := Q) (big := big) (t := t) J.n with h | ⟨i, h1, h2, h3⟩
      · rw [h]
        exact hb0
      · rw [h3]
        exact P.p0 i h1
    · show k * x ≤ A a + mnQ own Q big t J.n
      have ha' : a < J.m := by rw [s.m]; exact ha
      rcases mnQ_is (own := own) (Q := Q) (big := big) (t := t) J.n with h | ⟨i, h1, h2, h3⟩
      · have := hb a t x ha hw
        have := P.u0 a ha'
        omega
      · rw [h3]
        exact P.fe a i x ha' (by rw [s.w a i h1, h2]; exact hw)
  refine ⟨P', met_of hD P' ?_⟩
  have e := claim_of_met hE M
  rw [hv] at e
  rw [← e]
  unfold claim
  have h1 : S I.n (fun t => I.c t * mnQ own Q big t J.n) = S J.n fun i => mnQ own Q big (own i) J.n := (s.sum fun t => mnQ own Q big t J.n).symm
  have h2 : S J.n (fun i => mnQ own Q big (own i) J.n) ≤ S J.n fun i => J.c i * Q i := S_le fun i hi => by
    rw [s.c1 i hi, Int.one_mul]
    exact mnQ_le hi rfl
  have h3 : S J.m A = S I.m A := by rw [s.m]
  show S I.m A + S I.n (fun t => I.c t * mnQ own Q big t J.n) ≤ S J.m A + S J.n fun i => J.c i * Q i
  omega
/-- a paper of the things that claims the best worth, as one of the copies -/
theorem Sgl.up (s : Sgl I J own) {D E : Nat → Option Nat} {A Q : Nat → Int} {k : Int} (hD : Deal I D) (hE : Deal J E) (P : Pap I k A Q) (M : Met I k D A Q) (hv : val J E = val I D) :
    Pap J k A (fun i => Q (own i)) ∧ Met J k E A (fun i => Q (own i)) := by
  have P' : Pap J k A (fun i => Q (own i)) := by
    refine ⟨fun a ha => P.u0 a (by rw [← s.m]; exact ha), fun i hi => P.p0 (own i) (s.on i hi), fun a i x ha hw => ?_⟩
    exact P.fe a (own i) x (by rw [← s.m]; exact ha) (by rw [← s.w a i (J.wn a i x hw)]; exact hw)
  refine ⟨P', met_of hE P' ?_⟩
  have e := claim_of_met hD M
  rw [hv, ← e]
  unfold claim
  have h1 := s.sum Q
  have h2 : S J.n (fun i => J.c i * Q (own i)) = S J.n fun i => Q (own i) := S_congr fun i hi => by rw [s.c1 i hi, Int.one_mul]
  have h3 : S J.m A = S I.m A := by rw [s.m]
  show S J.m A + S J.n (fun i => J.c i * Q (own i)) ≤ S I.m A + S I.n fun t => I.c t * Q t
  omega

section
variable {D E : Nat → Option Nat} {u p v q : Nat → Int} {L L' : Nat → Nat}
/-- what an asker may get are the things of which it may get a copy -/
theorem Sgl.may (s : Sgl I J own) (d : Dual I I.m D u p) (e : Dual J J.m E v q) (pl : Pla I D u p L) (pl' : Pla J E v q L') (hv : val J E = val I D) {C : Int} (hC : 0 ≤ C) (hw : ∀ a t x, a < I.m → I.w a t = some x → x ≤ C) {a t : Nat} {x : Int} (ha : a < I.m) (hx : I.w a t = some x) :
    sA I u L a + sQ I p L t = sz I * x ↔ ∃ i, i < J.n ∧ own i = t ∧ sA J v L' a + sQ J q L' i = sz J * x := by
  have ha' : a < J.m := by rw [s.m]; exact ha
  constructor
  · intro h
    have hb : ∀ a t x, a < I.m → I.w a t = some x → sz J * x ≤ sz J * C + 1 := fun a t x ha hx => by
      have := Int.mul_le_mul_of_nonneg_left (hw a t x ha hx) (Int.le_of_lt (sz_pos J))
      omega
    have hb0 : 0 ≤ sz J * C + 1 := by
      have := Int.mul_nonneg (Int.le_of_lt (sz_pos J)) hC
      omega
    obtain ⟨P, M⟩ := s.down (big := sz J * C + 1) d.deal e.deal (strict_pap e pl') (strict_met e pl') hv hb hb0
    have ht := strict_tight d pl P M ha hx h
    have ht : sA J v L' a + mnQ own (sQ J q L') (sz J * C + 1) t J.n = sz J * x := ht
    rcases mnQ_is (own := own) (Q := sQ J q L') (big := sz J * C + 1) (t := t) J.n with z | ⟨i, h1, h2, h3⟩
    · have h4 := (strict_pap e pl').u0 a ha'
      have h5 := Int.mul_le_mul_of_nonneg_left (hw a t x ha hx) (Int.le_of_lt (sz_pos J))
      omega
    · exact ⟨i, h1, h2, by rw [← h3]; exact ht⟩
  · rintro ⟨i, h1, h2, h3⟩
    obtain ⟨P, M⟩ := s.up d.deal e.deal (strict_pap d pl) (strict_met d pl) hv
    have hx' : J.w a i = some x := by rw [s.w a i h1, h2]; exact hx
    have ht := strict_tight e pl' P M ha' hx' h3
    rw [← h2]
    exact ht
theorem Sgl.may_none (s : Sgl I J own) (d : Dual I I.m D u p) (e : Dual J J.m E v q) (pl : Pla I D u p L) (pl' : Pla J E v q L') (hv : val J E = val I D) {C : Int} (hC : 0 ≤ C) (hw : ∀ a t x, a < I.m → I.w a t = some x → x ≤ C) {a : Nat} (ha : a < I.m) :
    sA I u L a = 0 ↔ sA J v L' a = 0 := by
  have ha' : a < J.m := by rw [s.m]; exact ha
  constructor
  · intro h
    have hb : ∀ a t x, a < I.m → I.w a t = some x → sz J * x ≤ sz J * C + 1 := fun a t x ha hx => by
      have := Int.mul_le_mul_of_nonneg_left (hw a t x ha hx) (Int.le_of_lt (sz_pos J))
      omega
    have hb0 : 0 ≤ sz J * C + 1 := by
      have := Int.mul_nonneg (Int.le_of_lt (sz_pos J)) hC
      omega
    obtain ⟨P, M⟩ := s.down (big := sz J * C + 1) d.deal e.deal (strict_pap e pl') (strict_met e pl') hv hb hb0
    exact strict_ask d pl P M ha h
  · intro h
    obtain ⟨P, M⟩ := s.up d.deal e.deal (strict_pap d pl) (strict_met d pl) hv
    exact strict_ask e pl' P M ha' h
end
end
end Wd
/-! A dealing's worth tells its counts. -/
namespace Wd

/-- powers -/
def bp (B : Int) : Nat → Int
  | 0 => 1
  | n + 1 => bp B n * B
theorem bp_pos {B : Int} (h : 0 < B) : ∀ n, 0 < bp B n
  | 0 => (show (0 : Int) < 1 by decide)
  | n + 1 => Int.mul_pos (bp_pos h n) h
theorem bp_le {B : Int} (h : 0 < B) : ∀ {i n : Nat}, i ≤ n → bp B i ≤ bp B n
  | i, 0, hi => by
    have : i = 0 := by omega
    subst this
    exact Int.le_refl _
  | i, n + 1, hi => by
    by_cases e : i = n + 1
    · subst e
      exact Int.le_refl _
    · have h1 := bp_le h (show i ≤ n by omega)
      have h2 := bp_pos h n
      have h3 : bp B n * 1 ≤ bp B n * B := Int.mul_le_mul_of_nonneg_left (by omega) (Int.le_of_lt h2)
      show bp B i ≤ bp B n * B
      omega
/-- the worth of a rank by an order: 0 firsts, 1 full, 2 lasts -/
def byO (o : Nat) (B : Int) (R i : Nat) : Int := match o with
  | 0 => bp B (R - i)
  | 1 => bp B (R - i) + bp B R
  | _ => bp B R - bp B (i - 1)
/-- a quotient and a rest are one -/
theorem qr_one {B q q' r r' : Int} (hB : 0 < B) (h1 : 0 ≤ r) (h2 : r < B) (h1' : 0 ≤ r') (h2' : r' < B) (e : q * B + r = q' * B + r') : q = q' ∧ r = r' := by
  have key : ∀ {a b : Int}, a < b → a * B + B ≤ b * B := fun {a b} h => by
    have : (a + 1) * B ≤ b * B := Int.mul_le_mul_of_nonneg_right (by omega) (Int.le_of_lt hB)
    rw [Int.add_mul, Int.one_mul] at this
    exact this
  by_cases a : q < q'
  · have := key a
    omega
  · by_cases b : q' < q
    · have := key b
      omega
    · have : q = q' := by omega
      subst this
      exact ⟨rfl, by omega⟩
/-- digits, the first one heaviest -/
def hi (B : Int) (x : Nat → Int) (k : Nat) : Int := S k fun j => x (j + 1) * bp B (k - (j + 1))
theorem hi_succ (B : Int) (x : Nat → Int) (k : Nat) : hi B x (k + 1) = hi B x k * B + x (k + 1) := by
  show S k (fun j => x (j + 1) * bp B (k + 1 - (j + 1))) + x (k + 1) * bp B (k + 1 - (k + 1)) = S k (fun j => x (j + 1) * bp B (k - (j + 1))) * B + x (k + 1)
  rw [Nat.sub_self, Int.mul_comm (S k _) B, ← S_mul]
  have e : S k (fun j => x (j + 1) * bp B (k + 1 - (j + 1))) = S k fun j => B * (x (j + 1) * bp B (k - (j + 1))) := S_congr fun j hj => by
    have : k + 1 - (j + 1) = (k - (j + 1)) + 1 := by omega
    rw [this]
    show x (j + 1) * (bp B (k - (j + 1)) * B) = B * (x (j + 1) * bp B (k - (j + 1)))
    rw [← Int.mul_assoc, Int.mul_comm]
  rw [e]
  show _ + x (k + 1) * 1 = _
  rw [Int.mul_one]
theorem hi_bd {B : Int} {x : Nat → Int} (hB : 0 < B) : ∀ {k : Nat}, (∀ i, i < k → 0 ≤ x (i + 1) ∧ x (i + 1) < B) → 0 ≤ hi B x k ∧ hi B x k < bp B k
  | 0, _ => ⟨Int.le_refl _, by show (0 : Int) < 1; decide⟩
  | k + 1, h => by
    obtain ⟨h1, h2⟩ := hi_bd hB fun i hi => h i (Nat.lt_succ_of_lt hi)
    obtain ⟨h3, h4⟩ := h k (Nat.lt_succ_self k)
    rw [hi_succ]
    have h5 := Int.mul_nonneg h1 (Int.le_of_lt hB)
    have h6 : (hi B x k + 1) * B ≤ bp B k * B := Int.mul_le_mul_of_nonneg_right (by omega) (Int.le_of_lt hB)
    rw [Int.add_mul, Int.one_mul] at h6
    show 0 ≤ _ ∧ _ < bp B k * B
    omega
theorem hi_inj {B : Int} {x y : Nat → Int} (hB : 0 < B) : ∀ {k : Nat}, (∀ i, i < k → 0 ≤ x (i + 1) ∧ x (i + 1) < B) → (∀ i, i < k → 0 ≤ y (i + 1) ∧ y (i + 1) < B) → hi B x k = hi B y k → ∀ i, i < k → x (i + 1) = y (i + 1)
  | 0, _, _, _ => fun i h => absurd h (Nat.not_lt_zero _)
  | k + 1, hx, hy, e => fun i h => by
    rw [hi_succ, hi_succ] at e
    obtain ⟨e1, e2⟩ := qr_one hB (hx k (Nat.lt_succ_self k)).1 (hx k (Nat.lt_succ_self k)).2 (hy k (Nat.lt_succ_self k)).1 (hy k (Nat.lt_succ_self k)).2 e
    by_cases q : i = k
    · subst q
      exact e2
    · exact hi_inj hB (fun i hi => hx i (Nat.lt_succ_of_lt hi)) (fun i hi => hy i (Nat.lt_succ_of_lt hi)) e1 i (by omega)
/-- digits, the last one heaviest -/
def lo (B : Int) (x : Nat → Int) (k : Nat) : Int := S k fun j => x (j + 1) * bp B j
theorem lo_bd {B : Int} {x : Nat → Int} (hB : 0 < B) : ∀ {k : Nat}, (∀ i, i < k → 0 ≤ x (i + 1) ∧ x (i + 1) < B) → 0 ≤ lo B x k ∧ lo B x k < bp B k
  | 0, _ => ⟨Int.le_refl _, by show (0 : Int) < 1; decide⟩
  | k + 1, h => by
    obtain ⟨h1, h2⟩ := lo_bd hB fun i hi => h i (Nat.lt_succ_of_lt hi)
    obtain ⟨h3, h4⟩ := h k (Nat.lt_succ_self k)
    have e : lo B x (k + 1) = lo B x k + x (k + 1) * bp B k := rfl
    have h5 := Int.mul_nonneg h3 (Int.le_of_lt (bp_pos hB k))
    have h6 : (x (k + 1) + 1) * bp B k ≤ B * bp B k := Int.mul_le_mul_of_nonneg_right (by omega) (Int.le_of_lt (bp_pos hB k))
    rw [Int.add_mul, Int.one_mul, Int.mul_comm B] at h6
    rw [e]
    show 0 ≤ _ ∧ _ < bp B k * B
    omega
theorem lo_inj {B : Int} {x y : Nat → Int} (hB : 0 < B) : ∀ {k : Nat}, (∀ i, i < k → 0 ≤ x (i + 1) ∧ x (i + 1) < B) → (∀ i, i < k → 0 ≤ y (i + 1) ∧ y (i + 1) < B) → lo B x k = lo B y k → ∀ i, i < k → x (i + 1) = y (i + 1)
  | 0, _, _, _ => fun i h => absurd h (Nat.not_lt_zero _)
  | k + 1, hx, hy, e => fun i h => by
    obtain ⟨a1, a2⟩ := lo_bd hB fun i hi => hx i (Nat.lt_succ_of_lt hi)
    obtain ⟨b1, b2⟩ := lo_bd hB fun i hi => hy i (Nat.lt_succ_of_lt hi)
    have e : lo B x k + x (k + 1) * bp B k = lo B y k + y (k + 1) * bp B k := e
    obtain ⟨e1, e2⟩ := qr_one (q := x (k + 1)) (q' := y (k + 1)) (bp_pos hB k) a1 a2 b1 b2 (by omega)
    by_cases q : i = k
    · subst q
      exact e1
    · exact lo_inj hB (fun i hi => hx i (Nat.lt_succ_of_lt hi)) (fun i hi => hy i (Nat.lt_succ_of_lt hi)) e2 i (by omega)

/-- how many have the rank i -/
def rkN (m : Nat) (r : Nat → Nat) (i : Nat) : Int := S m fun a => if r a = i then 1 else 0
theorem rkN_nn (m : Nat) (r : Nat → Nat) (i : Nat) : 0 ≤ rkN m r i := S_nn fun a _ => by split <;> decide
theorem rkN_le (m : Nat) (r : Nat → Nat) (i : Nat) : rkN m r i ≤ m := by
  have h := S_le (k := m) (f := fun a => if r a = i then 1 else 0) (g := fun _ => 1) fun a _ => by
    show (if r a = i then (1 : Int) else 0) ≤ 1
    split <;> decide
  rw [S_const] at h
  show S m _ ≤ _
  omega
theorem S_shift (f : Nat → Int) : ∀ k : Nat, S (k + 1) f = f 0 + S k fun j => f (j + 1)
  | 0 => by
    show 0 + f 0 = f 0 + 0
    omega
  | k + 1 => by
    show S (k + 1) f + f (k + 1) = f 0 + (S k (fun j => f (j + 1)) + f (k + 1))
    rw [S_shift f k]
    omega
/-- a sum over askers, by ranks -/
theorem rk_sum {m R : Nat} {r : Nat → Nat} (h : ∀ a, a < m → r a ≤ R) (g : Nat → Int) : S m (fun a => g (r a)) = rkN m r 0 * g 0 + S R fun j => rkN m r (j + 1) * g (j + 1) := by
  have e1 : S m (fun a => g (r a)) = S m fun a => S (R + 1) fun i => (if r a = i then 1 else 0) * g i := S_congr fun a ha => by
    have := S_point (r a) (g (r a)) (show r a < R + 1 by have := h a ha; omega)
    rw [← this]
    refine S_congr fun i _ => ?_
    by_cases q : i = r a
    · rw [if_pos q, if_pos q.symm, Int.one_mul, q]
    · rw [if_neg q, if_neg fun z => q z.symm, Int.zero_mul]
  rw [e1, S_swap]
  have e2 : S (R + 1) (fun i => S m fun a => (if r a = i then 1 else 0) * g i) = S (R + 1) fun i => rkN m r i * g i := S_congr fun i _ => by
    show S m (fun a => (if r a = i then 1 else 0) * g i) = rkN m r i * g i
    rw [S_congr (g := fun a => g i * (if r a = i then 1 else 0)) fun a _ => Int.mul_comm _ _, S_mul, Int.mul_comm]
    rfl
  rw [e2, S_shift]
/-- worth as much, counted alike -/
theorem counts_same {o m R : Nat} {r s : Nat → Nat} (hr : ∀ a, a < m → r a ≤ R) (hs : ∀ a, a < m → s a ≤ R)
    (e : S m (fun a => if r a = 0 then 0 else byO o ((m + 1 : Nat) : Int) R (r a) * ((m + 1 : Nat) : Int)) = S m (fun a => if s a = 0 then 0 else byO o ((m + 1 : Nat) : Int) R (s a) * ((m + 1 : Nat) : Int))) :
    ∀ i, i ≤ R → rkN m r i = rkN m s i := by
  generalize hB : ((m + 1 : Nat) : Int) = B at e
  have hB0 : 0 < B := by omega
  have bd : ∀ (r : Nat → Nat) (i : Nat), i < R → 0 ≤ rkN m r (i + 1) ∧ rkN m r (i + 1) < B := fun r i _ => by
    have h1 := rkN_nn m r (i + 1)
    have h2 := rkN_le m r (i + 1)
    omega
  have tot : ∀ (r : Nat → Nat), (∀ a, a < m → r a ≤ R) → (m : Int) = rkN m r 0 + S R fun j => rkN m r (j + 1) := fun r h => by
    have z := rk_sum h fun _ => 1
    rw [S_const] at z
    have z2 : S R (fun j => rkN m r (j + 1) * 1) = S R fun j => rkN m r (j + 1) := S_congr fun j _ => Int.mul_one _
    rw [z2] at z
    omega
  have sm : ∀ (r : Nat → Nat), (∀ a, a < m → r a ≤ R) → S m (fun a => if r a = 0 then 0 else byO o B R (r a) * B) = B * S R fun j => rkN m r (j + 1) * byO o B R (j + 1) := fun r h => by
    have z := rk_sum h fun i => if i = 0 then 0 else byO o B R i * B
    rw [if_pos rfl, Int.mul_zero, Int.zero_add] at z
    rw [z, ← S_mul]
    refine S_congr fun j _ => ?_
    rw [if_neg (Nat.succ_ne_zero j), ← Int.mul_assoc, Int.mul_comm]
  rw [sm r hr, sm s hs] at e
  have e := Int.eq_of_mul_eq_mul_left (Int.ne_of_gt hB0) e
  have fin : (∀ i, i < R → rkN m r (i + 1) = rkN m s (i + 1)) → ∀ i, i ≤ R → rkN m r i = rkN m s i := fun h i hi => by
    cases i with
    | zero =>
      have h1 := tot r hr
      have h2 := tot s hs
      have h3 : S R (fun j => rkN m r (j + 1)) = S R fun j => rkN m s (j + 1) := S_congr h
      omega
    | succ i => exact h i (by omega)
  refine fin ?_
  have hb := bp_pos hB0 R
  match o, e with
  | 0, e => exact hi_inj hB0 (bd r) (bd s) e
  | 1, e =>
    have sp : ∀ r : Nat → Nat, S R (fun j => rkN m r (j + 1) * byO 1 B R (j + 1)) = (S R fun j => rkN m r (j + 1)) * bp B R + hi B (rkN m r) R := fun r => by
      rw [Int.mul_comm (S R _), ← S_mul]
      unfold hi
      rw [← S_add]
      refine S_congr fun j _ => ?_
      show rkN m r (j + 1) * (bp B (R - (j + 1)) + bp B R) = bp B R * rkN m r (j + 1) + rkN m r (j + 1) * bp B (R - (j + 1))
      rw [Int.mul_add, Int.mul_comm (bp B R)]
      omega
    rw [sp r, sp s] at e
    obtain ⟨a1, a2⟩ := hi_bd hB0 (bd r)
    obtain ⟨b1, b2⟩ := hi_bd hB0 (bd s)
    exact hi_inj hB0 (bd r) (bd s) (qr_one hb a1 a2 b1 b2 e).2
  | o + 2, e =>
    have sp : ∀ r : Nat → Nat, S R (fun j => rkN m r (j + 1) * byO (o + 2) B R (j + 1)) = (S R fun j => rkN m r (j + 1)) * bp B R - lo B (rkN m r) R := fun r => by
      rw [Int.mul_comm (S R _), ← S_mul]
      unfold lo
      rw [← S_sub]
      refine S_congr fun j _ => ?_
      show rkN m r (j + 1) * (bp B R - bp B (j + 1 - 1)) = bp B R * rkN m r (j + 1) - rkN m r (j + 1) * bp B j
      rw [Int.mul_sub, Int.mul_comm (bp B R)]
      rfl
    rw [sp r, sp s] at e
    obtain ⟨a1, a2⟩ := lo_bd hB0 (bd r)
    obtain ⟨b1, b2⟩ := lo_bd hB0 (bd s)
    have e2 : (S R fun j => rkN m r (j + 1)) * bp B R + lo B (rkN m s) R = (S R fun j => rkN m s (j + 1)) * bp B R + lo B (rkN m r) R := by omega
    exact fun i hi => (lo_inj hB0 (bd s) (bd r) (qr_one hb b1 b2 a1 a2 e2).2 i hi).symm
end Wd
/-! The text by places; facts of the top; short words. -/
namespace Wd
open PySem PySem.Spec PyProof.Rows L2

def top (i : Nat) : Stmt := PySem.Challenge.pw_wishdeal_k83_whole_single_copies_are_dea.main.body.getD i (.Pass ⟨0, 0, 0, 0⟩)
abbrev s_is_whole : Stmt := top 6
abbrev s_need_row : Stmt := top 12
abbrev s_is_many : Stmt := top 13
abbrev s_is_thing : Stmt := top 14
abbrev s_are_ranks : Stmt := top 15
abbrev s_look_at_wishes : Stmt := top 16
abbrev s_longest : Stmt := top 17
abbrev s_look_at_singles : Stmt := top 20
abbrev s_numbers_of : Stmt := top 21
abbrev s_singled : Stmt := top 22
abbrev s_singled_dealing : Stmt := top 23
abbrev s_whole_dealing : Stmt := top 24
abbrev s_is_row_of : Stmt := top 26
abbrev s_rank_among : Stmt := top 27
abbrev s_what_is_wrong : Stmt := top 28
abbrev s_counts_of : Stmt := top 29
abbrev s_copies_left : Stmt := top 30
abbrev s_is_order : Stmt := top 32
abbrev s_is_old : Stmt := top 33
abbrev s_are_turns : Stmt := top 34
abbrev s_fault_of : Stmt := top 35
abbrev s_look_at_aim : Stmt := top 36
abbrev s_powers_of : Stmt := top 38
abbrev s_Scale_init : Stmt := inClass (top 39) 0
abbrev s_Scale_by_order : Stmt := inClass (top 39) 1
abbrev s_Scale_pick_of : Stmt := inClass (top 39) 2
abbrev s_Scale_of : Stmt := inClass (top 39) 3
abbrev s_worths_of : Stmt := top 40
abbrev s_all_worths : Stmt := top 41
abbrev s_worth_of : Stmt := top 42
abbrev s_rows_by : Stmt := top 44
abbrev s_left_by : Stmt := top 45
abbrev s_Reach_init : Stmt := inClass (top 46) 0
abbrev s_Reach_to_things : Stmt := inClass (top 46) 1
abbrev s_Reach_to_askers : Stmt := inClass (top 46) 2
abbrev s_Reach_go_on : Stmt := inClass (top 46) 3
abbrev s_Reach_end_by : Stmt := inClass (top 46) 4
abbrev s_Reach_way_to : Stmt := inClass (top 46) 5
abbrev s_best_way : Stmt := top 47
abbrev s_dealt_best : Stmt := top 48
abbrev s_Prices_init : Stmt := inClass (top 50) 0
abbrev s_Prices_rest : Stmt := inClass (top 50) 1
abbrev s_Prices_chain : Stmt := inClass (top 50) 2
abbrev s_Prices_way_by : Stmt := inClass (top 50) 3
abbrev s_Prices_raised_by : Stmt := inClass (top 50) 4
abbrev s_Prices_settle : Stmt := inClass (top 50) 5
abbrev s_Prices_told : Stmt := inClass (top 50) 6
abbrev s_best_dealing : Stmt := top 51
abbrev s_met_arcs : Stmt := top 53
abbrev s_led_to : Stmt := top 54
abbrev s_places_of : Stmt := top 55
abbrev s_strict_paper : Stmt := top 56
abbrev s_moved_round : Stmt := top 57
abbrev s_tight_wishes : Stmt := top 59
abbrev s_has_dealt : Stmt := top 60
abbrev s_has_left : Stmt := top 61
abbrev s_web_of : Stmt := top 63
abbrev s_possible : Stmt := top 64
abbrev s_may_get : Stmt := top 65
abbrev s_law_cell_at : Stmt := top 67
abbrev s_law_numbers : Stmt := top 68
abbrev s_law_wishes : Stmt := top 69
abbrev s_law_cut : Stmt := top 70
abbrev s_law_alike : Stmt := top 71
abbrev s_law_may : Stmt := top 72
abbrev s_law : Stmt := top 73
def d_is_whole : He.DefD := ⟨("is_whole", none), "is_whole", "is_whole", defArgs s_is_whole, defBody s_is_whole, defScope s_is_whole, [], []⟩
def d_need_row : He.DefD := ⟨("need_row", none), "need_row", "need_row", defArgs s_need_row, defBody s_need_row, defScope s_need_row, [], []⟩
def d_is_many : He.DefD := ⟨("is_many", none), "is_many", "is_many", defArgs s_is_many, defBody s_is_many, defScope s_is_many, [], []⟩
def d_is_thing : He.DefD := ⟨("is_thing", none), "is_thing", "is_thing", defArgs s_is_thing, defBody s_is_thing, defScope s_is_thing, [], []⟩
def d_are_ranks : He.DefD := ⟨("are_ranks", none), "are_ranks", "are_ranks", defArgs s_are_ranks, defBody s_are_ranks, defScope s_are_ranks, [], []⟩
def d_look_at_wishes : He.DefD := ⟨("look_at_wishes", none), "look_at_wishes", "look_at_wishes", defArgs s_look_at_wishes, defBody s_look_at_wishes, defScope s_look_at_wishes, [], []⟩
def d_longest : He.DefD := ⟨("longest", none), "longest", "longest", defArgs s_longest, defBody s_longest, defScope s_longest, [], []⟩
def d_look_at_singles : He.DefD := ⟨("look_at_singles", none), "look_at_singles", "look_at_singles", defArgs s_look_at_singles, defBody s_look_at_singles, defScope s_look_at_singles, [], []⟩
def d_numbers_of : He.DefD := ⟨("numbers_of", none), "numbers_of", "numbers_of", defArgs s_numbers_of, defBody s_numbers_of, defScope s_numbers_of, [], []⟩
def d_singled : He.DefD := ⟨("singled", none), "singled", "singled", defArgs s_singled, defBody s_singled, defScope s_singled, [], []⟩
def d_singled_dealing : He.DefD := ⟨("singled_dealing", none), "singled_dealing", "singled_dealing", defArgs s_singled_dealing, defBody s_singled_dealing, defScope s_singled_dealing, [], []⟩
def d_whole_dealing : He.DefD := ⟨("whole_dealing", none), "whole_dealing", "whole_dealing", defArgs s_whole_dealing, defBody s_whole_dealing, defScope s_whole_dealing, [], []⟩
def d_is_row_of : He.DefD := ⟨("is_row_of", none), "is_row_of", "is_row_of", defArgs s_is_row_of, defBody s_is_row_of, defScope s_is_row_of, [], []⟩
def d_rank_among : He.DefD := ⟨("rank_among", none), "rank_among", "rank_among", defArgs s_rank_among, defBody s_rank_among, defScope s_rank_among, [], []⟩
def d_what_is_wrong : He.DefD := ⟨("what_is_wrong", none), "what_is_wrong", "what_is_wrong", defArgs s_what_is_wrong, defBody s_what_is_wrong, defScope s_what_is_wrong, [], []⟩
def d_counts_of : He.DefD := ⟨("counts_of", none), "counts_of", "counts_of", defArgs s_counts_of, defBody s_counts_of, defScope s_counts_of, [], []⟩
def d_copies_left : He.DefD := ⟨("copies_left", none), "copies_left", "copies_left", defArgs s_copies_left, defBody s_copies_left, defScope s_copies_left, [], []⟩
def d_is_order : He.DefD := ⟨("is_order", none), "is_order", "is_order", defArgs s_is_order, defBody s_is_order, defScope s_is_order, [], []⟩
def d_is_old : He.DefD := ⟨("is_old", none), "is_old", "is_old", defArgs s_is_old, defBody s_is_old, defScope s_is_old, [], []⟩
def d_are_turns : He.DefD := ⟨("are_turns", none), "are_turns", "are_turns", defArgs s_are_turns, defBody s_are_turns, defScope s_are_turns, [], []⟩
def d_fault_of : He.DefD := ⟨("fault_of", none), "fault_of", "fault_of", defArgs s_fault_of, defBody s_fault_of, defScope s_fault_of, [], []⟩
def d_look_at_aim : He.DefD := ⟨("look_at_aim", none), "look_at_aim", "look_at_aim", defArgs s_look_at_aim, defBody s_look_at_aim, defScope s_look_at_aim, [], []⟩
def d_powers_of : He.DefD := ⟨("powers_of", none), "powers_of", "powers_of", defArgs s_powers_of, defBody s_powers_of, defScope s_powers_of, [], []⟩
def d_Scale_init : He.DefD := ⟨("Scale", some "__init__"), "__init__", "Scale.__init__", defArgs s_Scale_init, defBody s_Scale_init, defScope s_Scale_init, [], []⟩
def d_Scale_by_order : He.DefD := ⟨("Scale", some "by_order"), "by_order", "Scale.by_order", defArgs s_Scale_by_order, defBody s_Scale_by_order, defScope s_Scale_by_order, [], []⟩
def d_Scale_pick_of : He.DefD := ⟨("Scale", some "pick_of"), "pick_of", "Scale.pick_of", defArgs s_Scale_pick_of, defBody s_Scale_pick_of, defScope s_Scale_pick_of, [], []⟩
def d_Scale_of : He.DefD := ⟨("Scale", some "of"), "of", "Scale.of", defArgs s_Scale_of, defBody s_Scale_of, defScope s_Scale_of, [], []⟩
def d_worths_of : He.DefD := ⟨("worths_of", none), "worths_of", "worths_of", defArgs s_worths_of, defBody s_worths_of, defScope s_worths_of, [], []⟩
def d_all_worths : He.DefD := ⟨("all_worths", none), "all_worths", "all_worths", defArgs s_all_worths, defBody s_all_worths, defScope s_all_worths, [], []⟩
def d_worth_of : He.DefD := ⟨("worth_of", none), "worth_of", "worth_of", defArgs s_worth_of, defBody s_worth_of, defScope s_worth_of, [], []⟩
def d_rows_by : He.DefD := ⟨("rows_by", none), "rows_by", "rows_by", defArgs s_rows_by, defBody s_rows_by, defScope s_rows_by, [], []⟩
def d_left_by : He.DefD := ⟨("left_by", none), "left_by", "left_by", defArgs s_left_by, defBody s_left_by, defScope s_left_by, [], []⟩
def d_Reach_init : He.DefD := ⟨("Reach", some "__init__"), "__init__", "Reach.__init__", defArgs s_Reach_init, defBody s_Reach_init, defScope s_Reach_init, [], []⟩
def d_Reach_to_things : He.DefD := ⟨("Reach", some "to_things"), "to_things", "Reach.to_things", defArgs s_Reach_to_things, defBody s_Reach_to_things, defScope s_Reach_to_things, [], []⟩
def d_Reach_to_askers : He.DefD := ⟨("Reach", some "to_askers"), "to_askers", "Reach.to_askers", defArgs s_Reach_to_askers, defBody s_Reach_to_askers, defScope s_Reach_to_askers, [], []⟩
def d_Reach_go_on : He.DefD := ⟨("Reach", some "go_on"), "go_on", "Reach.go_on", defArgs s_Reach_go_on, defBody s_Reach_go_on, defScope s_Reach_go_on, [], []⟩
def d_Reach_end_by : He.DefD := ⟨("Reach", some "end_by"), "end_by", "Reach.end_by", defArgs s_Reach_end_by, defBody s_Reach_end_by, defScope s_Reach_end_by, [], []⟩
def d_Reach_way_to : He.DefD := ⟨("Reach", some "way_to"), "way_to", "Reach.way_to", defArgs s_Reach_way_to, defBody s_Reach_way_to, defScope s_Reach_way_to, [], []⟩
def d_best_way : He.DefD := ⟨("best_way", none), "best_way", "best_way", defArgs s_best_way, defBody s_best_way, defScope s_best_way, [], []⟩
def d_dealt_best : He.DefD := ⟨("dealt_best", none), "dealt_best", "dealt_best", defArgs s_dealt_best, defBody s_dealt_best, defScope s_dealt_best, [], []⟩
def d_Prices_init : He.DefD := ⟨("Prices", some "__init__"), "__init__", "Prices.__init__", defArgs s_Prices_init, defBody s_Prices_init, defScope s_Prices_init, [], []⟩
def d_Prices_rest : He.DefD := ⟨("Prices", some "rest"), "rest", "Prices.rest", defArgs s_Prices_rest, defBody s_Prices_rest, defScope s_Prices_rest, [], []⟩
def d_Prices_chain : He.DefD := ⟨("Prices", some "chain"), "chain", "Prices.chain", defArgs s_Prices_chain, defBody s_Prices_chain, defScope s_Prices_chain, [], []⟩
def d_Prices_way_by : He.DefD := ⟨("Prices", some "way_by"), "way_by", "Prices.way_by", defArgs s_Prices_way_by, defBody s_Prices_way_by, defScope s_Prices_way_by, [], []⟩
def d_Prices_raised_by : He.DefD := ⟨("Prices", some "raised_by"), "raised_by", "Prices.raised_by", defArgs s_Prices_raised_by, defBody s_Prices_raised_by, defScope s_Prices_raised_by, [], []⟩
def d_Prices_settle : He.DefD := ⟨("Prices", some "settle"), "settle", "Prices.settle", defArgs s_Prices_settle, defBody s_Prices_settle, defScope s_Prices_settle, [], []⟩
def d_Prices_told : He.DefD := ⟨("Prices", some "told"), "told", "Prices.told", defArgs s_Prices_told, defBody s_Prices_told, defScope s_Prices_told, [], []⟩
def d_best_dealing : He.DefD := ⟨("best_dealing", none), "best_dealing", "best_dealing", defArgs s_best_dealing, defBody s_best_dealing, defScope s_best_dealing, [], []⟩
def d_met_arcs : He.DefD := ⟨("met_arcs", none), "met_arcs", "met_arcs", defArgs s_met_arcs, defBody s_met_arcs, defScope s_met_arcs, [], []⟩
def d_led_to : He.DefD := ⟨("led_to", none), "led_to", "led_to", defArgs s_led_to, defBody s_led_to, defScope s_led_to, [], []⟩
def d_places_of : He.DefD := ⟨("places_of", none), "places_of", "places_of", defArgs s_places_of, defBody s_places_of, defScope s_places_of, [], []⟩
def d_strict_paper : He.DefD := ⟨("strict_paper", none), "strict_paper", "strict_paper", defArgs s_strict_paper, defBody s_strict_paper, defScope s_strict_paper, [], []⟩
def d_moved_round : He.DefD := ⟨("moved_round", none), "moved_round", "moved_round", defArgs s_moved_round, defBody s_moved_round, defScope s_moved_round, [], []⟩
def d_tight_wishes : He.DefD := ⟨("tight_wishes", none), "tight_wishes", "tight_wishes", defArgs s_tight_wishes, defBody s_tight_wishes, defScope s_tight_wishes, [], []⟩
def d_has_dealt : He.DefD := ⟨("has_dealt", none), "has_dealt", "has_dealt", defArgs s_has_dealt, defBody s_has_dealt, defScope s_has_dealt, [], []⟩
def d_has_left : He.DefD := ⟨("has_left", none), "has_left", "has_left", defArgs s_has_left, defBody s_has_left, defScope s_has_left, [], []⟩
def d_web_of : He.DefD := ⟨("web_of", none), "web_of", "web_of", defArgs s_web_of, defBody s_web_of, defScope s_web_of, [], []⟩
def d_possible : He.DefD := ⟨("possible", none), "possible", "possible", defArgs s_possible, defBody s_possible, defScope s_possible, [], []⟩
def d_may_get : He.DefD := ⟨("may_get", none), "may_get", "may_get", defArgs s_may_get, defBody s_may_get, defScope s_may_get, [], []⟩
def d_law_cell_at : He.DefD := ⟨("_law_cell_at", none), "_law_cell_at", "_law_cell_at", defArgs s_law_cell_at, defBody s_law_cell_at, defScope s_law_cell_at, [], []⟩
def d_law_numbers : He.DefD := ⟨("_law_numbers", none), "_law_numbers", "_law_numbers", defArgs s_law_numbers, defBody s_law_numbers, defScope s_law_numbers, [], []⟩
def d_law_wishes : He.DefD := ⟨("_law_wishes", none), "_law_wishes", "_law_wishes", defArgs s_law_wishes, defBody s_law_wishes, defScope s_law_wishes, [], []⟩
def d_law_cut : He.DefD := ⟨("_law_cut", none), "_law_cut", "_law_cut", defArgs s_law_cut, defBody s_law_cut, defScope s_law_cut, [], []⟩
def d_law_alike : He.DefD := ⟨("_law_alike", none), "_law_alike", "_law_alike", defArgs s_law_alike, defBody s_law_alike, defScope s_law_alike, [], []⟩
def d_law_may : He.DefD := ⟨("_law_may", none), "_law_may", "_law_may", defArgs s_law_may, defBody s_law_may, defScope s_law_may, [], []⟩
def d_law : He.DefD := ⟨("law", none), "law", "law", defArgs s_law, defBody s_law, defScope s_law, [], []⟩
def fn : List He.DefD := [d_is_whole, d_need_row, d_is_many, d_is_thing, d_are_ranks, d_look_at_wishes, d_longest, d_look_at_singles, d_numbers_of, d_singled, d_singled_dealing, d_whole_dealing, d_is_row_of, d_rank_among, d_what_is_wrong, d_counts_of, d_copies_left, d_is_order, d_is_old, d_are_turns, d_fault_of, d_look_at_aim, d_powers_of, d_Scale_init, d_Scale_by_order, d_Scale_pick_of, d_Scale_of, d_worths_of, d_all_worths, d_worth_of, d_rows_by, d_left_by, d_Reach_init, d_Reach_to_things, d_Reach_to_askers, d_Reach_go_on, d_Reach_end_by, d_Reach_way_to, d_best_way, d_dealt_best, d_Prices_init, d_Prices_rest, d_Prices_chain, d_Prices_way_by, d_Prices_raised_by, d_Prices_settle, d_Prices_told, d_best_dealing, d_met_arcs, d_led_to, d_places_of, d_strict_paper, d_moved_round, d_tight_wishes, d_has_dealt, d_has_left, d_web_of, d_possible, d_may_get, d_law_cell_at, d_law_numbers, d_law_wishes, d_law_cut, d_law_alike, d_law_may, d_law]
def fa : List He.Fa := [.glo "is_whole", .glo "need_row", .glo "is_many", .glo "is_thing", .glo "are_ranks", .glo "look_at_wishes", .glo "longest", .glo "look_at_singles", .glo "numbers_of", .glo "singled", .glo "singled_dealing", .glo "whole_dealing", .glo "is_row_of", .glo "rank_among", .glo "what_is_wrong", .glo "counts_of", .glo "copies_left", .glo "is_order", .glo "is_old", .glo "are_turns", .glo "fault_of", .glo "look_at_aim", .glo "powers_of", .glo "worths_of", .glo "all_worths", .glo "worth_of", .glo "rows_by", .glo "left_by", .glo "best_way", .glo "dealt_best", .glo "best_dealing", .glo "met_arcs", .glo "led_to", .glo "places_of", .glo "strict_paper", .glo "moved_round", .glo "tight_wishes", .glo "has_dealt", .glo "has_left", .glo "web_of", .glo "possible", .glo "may_get", .glo "_law_cell_at", .glo "_law_numbers", .glo "_law_wishes", .glo "_law_cut", .glo "_law_alike", .glo "_law_may", .glo "law", .glo "Scale", .glo "Reach", .glo "Prices", .free "all", .free "bool", .free "enumerate", .free "int", .free "isinstance", .free "len", .free "list", .free "max", .free "min", .free "range", .free "set", .free "sorted", .free "str", .free "sum", .free "tuple", .int "MOST_THINGS_wishes" 6, .int "MOST_COPIES" 7, .int "MOST_ASKERS" 7, .int "MOST_RANKS" 5, .int "MOST_THINGS_singles" 6, .cls "Scale", .mkr "Scale", .noat "Scale" "order", .noat "Scale" "old", .noat "Scale" "turns", .noat "Scale" "base", .noat "Scale" "ranks", .noat "Scale" "steps", .noat "Scale" "picks", .meth "Scale" "by_order", .meth "Scale" "pick_of", .meth "Scale" "of", .cls "Reach", .mkr "Reach", .noat "Reach" "rows", .noat "Reach" "dealt", .noat "Reach" "start", .noat "Reach" "freed", .noat "Reach" "taken", .noat "Reach" "takers", .meth "Reach" "to_things", .meth "Reach" "to_askers", .meth "Reach" "go_on", .meth "Reach" "end_by", .meth "Reach" "way_to", .cls "Prices", .mkr "Prices", .noat "Prices" "rows", .noat "Prices" "dealt", .noat "Prices" "left", .noat "Prices" "prices", .noat "Prices" "raisers", .meth "Prices" "rest", .meth "Prices" "chain", .meth "Prices" "way_by", .meth "Prices" "raised_by", .meth "Prices" "settle", .meth "Prices" "told"]
def names0 : List PySem.Str := ["DealError", "NoWishes", "NoAim", "NoJoin", "is_whole", "MOST_THINGS_wishes", "MOST_COPIES", "MOST_ASKERS", "MOST_RANKS", "need_row", "is_many", "is_thing", "are_ranks", "look_at_wishes", "longest", "MOST_THINGS_singles", "look_at_singles", "numbers_of", "singled", "singled_dealing", "whole_dealing", "is_row_of", "rank_among", "what_is_wrong", "counts_of", "copies_left", "is_order", "is_old", "are_turns", "fault_of"]
def names1 : List PySem.Str := ["look_at_aim", "powers_of", "Scale", "worths_of", "all_worths", "worth_of", "rows_by", "left_by", "Reach", "best_way", "dealt_best", "Prices", "best_dealing", "met_arcs", "led_to", "places_of", "strict_paper", "moved_round", "tight_wishes", "has_dealt", "has_left", "web_of", "possible", "may_get", "_law_cell_at", "_law_numbers", "_law_wishes", "_law_cut", "_law_alike", "_law_may"]
def names : List PySem.Str := names0 ++ names1

/-! ### facts of the module's names -/
structure Txt (K : PySem.W.Frag) (mg : Str → Option Value) : Prop where
  all : mg "all" = Option.none
  bool : mg "bool" = Option.none
  enumerate : mg "enumerate" = Option.none
  int : mg "int" = Option.none
  isinstance : mg "isinstance" = Option.none
  len : mg "len" = Option.none
  list : mg "list" = Option.none
  max : mg "max" = Option.none
  min : mg "min" = Option.none
  range : mg "range" = Option.none
  set : mg "set" = Option.none
  sorted : mg "sorted" = Option.none
  str : mg "str" = Option.none
  sum : mg "sum" = Option.none
  tuple : mg "tuple" = Option.none
  i_MOST_THINGS_wishes : ∃ t, mg "MOST_THINGS_wishes" = some (.int 6 t)
  i_MOST_COPIES : ∃ t, mg "MOST_COPIES" = some (.int 7 t)
  i_MOST_ASKERS : ∃ t, mg "MOST_ASKERS" = some (.int 7 t)
  i_MOST_RANKS : ∃ t, mg "MOST_RANKS" = some (.int 5 t)
  i_MOST_THINGS_singles : ∃ t, mg "MOST_THINGS_singles" = some (.int 6 t)
  cl_Scale : Cls K (He.ga K "Scale")
  mg_Scale : mg "Scale" = some (.ref (He.ga K "Scale"))
  mk_Scale : Mk K (He.ga K "Scale") (He.ma K (He.ga K "Scale") "__init__")
  n_Scale_order : NoAttr K (He.ga K "Scale") "order"
  n_Scale_old : NoAttr K (He.ga K "Scale") "old"
  n_Scale_turns : NoAttr K (He.ga K "Scale") "turns"
  n_Scale_base : NoAttr K (He.ga K "Scale") "base"
  n_Scale_ranks : NoAttr K (He.ga K "Scale") "ranks"
  n_Scale_steps : NoAttr K (He.ga K "Scale") "steps"
  n_Scale_picks : NoAttr K (He.ga K "Scale") "picks"
  m_Scale_by_order : Meth K (He.ga K "Scale") "by_order" (He.ma K (He.ga K "Scale") "by_order")
  m_Scale_pick_of : Meth K (He.ga K "Scale") "pick_of" (He.ma K (He.ga K "Scale") "pick_of")
  m_Scale_of : Meth K (He.ga K "Scale") "of" (He.ma K (He.ga K "Scale") "of")
  cl_Reach : Cls K (He.ga K "Reach")
  mg_Reach : mg "Reach" = some (.ref (He.ga K "Reach"))
  mk_Reach : Mk K (He.ga K "Reach") (He.ma K (He.ga K "Reach") "__init__")
  n_Reach_rows : NoAttr K (He.ga K "Reach") "rows"
  n_Reach_dealt : NoAttr K (He.ga K "Reach") "dealt"
  n_Reach_start : NoAttr K (He.ga K "Reach") "start"
  n_Reach_freed : NoAttr K (He.ga K "Reach") "freed"
  n_Reach_taken : NoAttr K (He.ga K "Reach") "taken"
  n_Reach_takers : NoAttr K (He.ga K "Reach") "takers"
  m_Reach_to_things : Meth K (He.ga K "Reach") "to_things" (He.ma K (He.ga K "Reach") "to_things")
  m_Reach_to_askers : Meth K (He.ga K "Reach") "to_askers" (He.ma K (He.ga K "Reach") "to_askers")
  m_Reach_go_on : Meth K (He.ga K "Reach") "go_on" (He.ma K (He.ga K "Reach") "go_on")
  m_Reach_end_by : Meth K (He.ga K "Reach") "end_by" (He.ma K (He.ga K "Reach") "end_by")
  m_Reach_way_to : Meth K (He.ga K "Reach") "way_to" (He.ma K (He.ga K "Reach") "way_to")
  cl_Prices : Cls K (He.ga K "Prices")
  mg_Prices : mg "Prices" = some (.ref (He.ga K "Prices"))
  mk_Prices : Mk K (He.ga K "Prices") (He.ma K (He.ga K "Prices") "__init__")
  n_Prices_rows : NoAttr K (He.ga K "Prices") "rows"
  n_Prices_dealt : NoAttr K (He.ga K "Prices") "dealt"
  n_Prices_left : NoAttr K (He.ga K "Prices") "left"
  n_Prices_prices : NoAttr K (He.ga K "Prices") "prices"
  n_Prices_raisers : NoAttr K (He.ga K "Prices") "raisers"
  m_Prices_rest : Meth K (He.ga K "Prices") "rest" (He.ma K (He.ga K "Prices") "rest")
  m_Prices_chain : Meth K (He.ga K "Prices") "chain" (He.ma K (He.ga K "Prices") "chain")
  m_Prices_way_by : Meth K (He.ga K "Prices") "way_by" (He.ma K (He.ga K "Prices") "way_by")
  m_Prices_raised_by : Meth K (He.ga K "Prices") "raised_by" (He.ma K (He.ga K "Prices") "raised_by")
  m_Prices_settle : Meth K (He.ga K "Prices") "settle" (He.ma K (He.ga K "Prices") "settle")
  m_Prices_told : Meth K (He.ga K "Prices") "told" (He.ma K (He.ga K "Prices") "told")

/-! ### a def that is called, by its promise -/
abbrev FnP (K : PySem.W.Frag) (x q : Str) (st : Stmt) (f : Addr) (fd : FuncData) : Prop := FunD K x q (defArgs st) (defBody st) (defScope st) [] [] f fd
structure Cal (P : Program) (w : World) (K : PySem.W.Frag) (mg : Str → Option Value) (base : Heap) (x : Str) (k : Nat) (ps : List Str) (sp : Sp) : Type where
  f : Addr
  fd : FuncData
  ok : FnOk P w K mg base CX0 k f fd ps sp
  g : mg x = some (.ref f)
  kp : PySem.W.keepIn K (.ref f) = true
  b : Binds K fd ps []
structure CalM (P : Program) (w : World) (K : PySem.W.Frag) (mg : Str → Option Value) (base : Heap) (C : Addr) (m : Str) (k : Nat) (ps : List Str) (sp : Sp) : Type where
  f : Addr
  fd : FuncData
  ok : FnOk P w K mg base CX0 k f fd ps sp
  m : Meth K C m f
  b : Binds K fd ps []
structure CalN (P : Program) (w : World) (K : PySem.W.Frag) (mg : Str → Option Value) (base : Heap) (x : Str) (C : Addr) (k : Nat) (ps : List Str) (sp : Sp) : Type where
  f : Addr
  fd : FuncData
  ok : FnOk P w K mg base CX0 k f fd ps sp
  mkr : Mk K C f
  g : mg x = some (.ref C)
  b : Binds K fd ps []
section
variable {X : Cx} {k : Nat} {ps : List Str} {sp : Sp} {x m : Str} {C : Addr} {e o : Expr} {es : List Expr} {t : TA} {to : TE} {p pos apos : Pos}
def tNo : TE := fun _ _ _ => False
theorem pe_never {e : Expr} : PE X e tNo := ⟨fun _ _ _ _ _ _ h => h.elim⟩
def tNoT : TT := fun _ _ _ => False
theorem pt_never {e : Expr} : PT X e tNoT := ⟨fun _ _ _ _ _ _ h => h.elim⟩
theorem pe_ci {i : Int} (h : ∃ u, X.mg x = some (.int i u)) (hg : Gl X x) (hd : (x == ("__debug__" : Str)) = false := by decide) : PE X (.Name x pos) (tC (.int i)) := by
  obtain ⟨u, h⟩ := h
  exact pe_glob hg h ⟨u, rfl⟩ hd
end
end Wd
/-! Rules of our own: sum of lists, set of a list of ints, count in a list of ints and None, an item as an operand. -/
namespace Wd
open PySem PySem.Spec PyProof.Rows L2

/-! ### sum(lists, []) -/
theorem args_sum2 (a b : Value) : argsOk "sum" ⟨[a, b], []⟩ := by
  unfold argsOk
  kernel_rfl
theorem subLS : isSubtype (.type "list") (.type "str") = pure false := by
  rw [isSubtype_type]
  kernel_rfl
theorem subLB : isSubtype (.type "list") (.type "bytes") = pure false := by
  rw [isSubtype_type]
  kernel_rfl
theorem subLA : isSubtype (.type "list") (.type "bytearray") = pure false := by
  rw [isSubtype_type]
  kernel_rfl
abbrev lobj (vs : List Value) (n : Nat) : Obj := { cls := .type "list", dict := Option.none, data := .seq vs.toArray n, slots := #[] }
/-- what is left of h0 in a shared state, and how the rest of it stands -/
structure Keeps (s s' : Shared) : Prop where
  heap : ∀ b o, s.heap.get? b = some o → s'.heap.get? b = some o
  gens : s'.gens = s.gens
  drawn : s'.drawn = s.drawn
  os : s'.os = s.os
section
variable {P : Program} {w : World} {A : Around} {E : Value → Shared → Prop}
/-- one turn after another: cur is the list so far -/
theorem sum_turns {R : Result → Shared → Prop} {I l S : Addr} {ps : List Addr} {vss : List (List Value)} (hh : A.in1.handled = Option.none) (hlI : l ≠ I) (hSI : S ≠ I) (hSl : S ≠ l) (hn : ps.length = vss.length) (s0 : Shared)
    (hfit : vss.flatten.length ≤ sizeLine) (h0 : ∀ (i : Nat) (p : Addr) (vs : List Value), ps[i]? = some p → vss[i]? = some vs → ∃ n, s0.heap.get? p = some (lobj vs n)) (hs0 : ∀ b o, s0.heap.get? b = some o → b ≠ S ∧ b ≠ I) (hSz : s0.heap.objs.size ≤ S) :
    ∀ (k i : Nat) (s : Shared) (cur : Addr) (acc : List Value) (n c : Nat), vss.length - i = k → i ≤ vss.length → (s.heap.IsListIter I l i ∧ s.heap.IsList l (ps.map Value.ref).toArray) → Keeps s0 s → s.heap.get? S = some (lobj [.ref cur] c) →
      s.heap.get? cur = some (lobj acc n) → acc = (vss.take i).flatten → cur ≠ S → cur ≠ I →
      (∀ s' cur' n', Keeps s0 s' → s'.heap.get? cur' = some (lobj vss.flatten n') → (i = vss.length ∧ cur' = cur ∨ s0.heap.objs.size ≤ cur') → R (.ok (.ret (.ref cur'))) s') →
      codeAny (model P w) A (.builtin "sum.loop" ⟨[.ref I, .ref S, rawInt 2, rawInt 0], []⟩) R s := by
  have W := (Walks.list (prog := P) (w := w) hh I l hlI (ps.map Value.ref).toArray).toS
  have hsz : (ps.map Value.ref).toArray.size = vss.length := by simp [hn]
  have hSf : S ∉ [I, l] := by simp [hSI, hSl]
  intro k
  induction k with
  | zero =>
    intro i s cur acc n c hk hi hst K hS hcur ha c1 c2 hR
    have e : i = vss.length := by omega
    subst e
    refine codeAny_builtin PySem.F.entry_sum_loop ?_
    rw [Around.under_plainId PySem.F.plain_sum_loop _]
    show wpAny _ A.in1 (seqItems? (.ref S) >>= _) _ _ s
    refine wpAny_bind (wpAny_seqItems hS rfl ?_)
    show wpAny _ A.in1 (Sem.tryCatch (pyNext (.ref I)) _ >>= _) _ _ s
    refine wpAny_bind (wpAny_tryCatch (W.done s _ _ (by rw [hsz]; exact hst) fun s' hm => ?_))
    refine wpAny_pure (hR s' cur n ⟨fun b o e => hm.heap b o (by simp [(hs0 b o e).2]) (K.heap b o e), hm.gens.trans K.gens, hm.drawn.trans K.drawn, hm.os.trans K.os⟩ ?_ (.inl ⟨rfl, rfl⟩))
    have e : acc = vss.flatten := by rw [ha, List.take_length]
    rw [← e]
    exact hm.heap cur _ (by simp [c2]) hcur
  | succ k ih =>
    intro i s cur acc n c hk hi hst K hS hcur ha c1 c2 hR
    have hlt : i < vss.length := by omega
    have hlp : i < ps.length := by omega
    refine codeAny_builtin PySem.F.entry_sum_loop ?_
    rw [Around.under_plainId PySem.F.plain_sum_loop _]
    show wpAny _ A.in1 (seqItems? (.ref S) >>= _) _ _ s
    refine wpAny_bind (wpAny_seqItems hS rfl ?_)
    show wpAny _ A.in1 (Sem.tryCatch (pyNext (.ref I)) _ >>= _) _ _ s
    refine wpAny_bind (wpAny_tryCatch (W.item i s _ _ (by rw [hsz]; exact hlt) hst fun v s' hP hst' hm => ?_))
    have hv : v = .ref ps[i] := by
      have z : (ps.map Value.ref).toArray[i]? = some v := hP
      rw [List.getElem?_toArray, List.getElem?_map, List.getElem?_eq_getElem hlp] at z
      exact (Option.some.inj z).symm
    subst hv
    obtain ⟨n2, e2⟩ := h0 i ps[i] vss[i] (List.getElem?_eq_getElem hlp) (List.getElem?_eq_getElem hlt)
    have b2 := hs0 _ _ e2
    have K1 : Keeps s0 s' := ⟨fun b o e => hm.heap b o (by simp [(hs0 b o e).2]) (K.heap b o e), hm.gens.trans K.gens, hm.drawn.trans K.drawn, hm.os.trans K.os⟩
    have hS1 : s'.heap.get? S = some (lobj [.ref cur] c) := hm.heap S _ (by simp [hSI]) hS
    have hc1 : s'.heap.get? cur = some (lobj acc n) := hm.heap cur _ (by simp [c2]) hcur
    have hp1 : s'.heap.get? ps[i] = some (lobj vss[i] n2) := K1.heap _ _ e2
    have elen : (vss.take (i + 1)).flatten = acc ++ vss[i] := by
      rw [List.take_add_one, List.getElem?_eq_getElem hlt, List.flatten_append, ha]
      show _ ++ ([vss[i]] : List (List Value)).flatten = _
      rw [List.flatten_singleton]
    have hle : acc.length + vss[i].length ≤ sizeLine := by
      have : ((vss.take (i + 1)).flatten ++ (vss.drop (i + 1)).flatten).length = vss.flatten.length := by
        rw [← List.flatten_append, List.take_append_drop]
      rw [elen, List.length_append, List.length_append] at this
      omega
    have hSlt := Heap.lt_size hS1
    have hIlt : I < s'.heap.objs.size := by
      obtain ⟨o, ho, _⟩ := hst'.1
      exact Heap.lt_size ho
    show wpAny _ A.in1 ((holding [Value.ref ps[i]] (binaryOp .Add (.ref cur) (.ref ps[i]))).attempt >>= _) _ _ _
    refine wpAny_bind (wpAny_attempt (wpAny_holding (PySem.P.add_list hc1 hp1 ?_ (by rw [List.size_toArray, List.size_toArray]; exact hle))))
    generalize hA : s'.heap.objs.size = a
    have eA : (acc.toArray ++ vss[i].toArray : Array Value) = (acc ++ vss[i]).toArray := by simp
    rw [eA]
    have keep1 : ∀ b o, s'.heap.get? b = some o → (s'.heap.push (lobj (acc ++ vss[i]) 0)).get? b = some o := fun b o e => Heap.get?_push_of_some _ e
    have new1 : (s'.heap.push (lobj (acc ++ vss[i]) 0)).get? a = some (lobj (acc ++ vss[i]) 0) := by
      rw [← hA]
      exact Heap.get?_push_size _ rfl
    show wpAny _ A.in1 (updateSeq S (fun _ => #[Value.ref a]) >>= _) _ _ { s' with heap := s'.heap.push (lobj (acc ++ vss[i]) 0) }
    refine wpAny_bind (wpAny_updateSeq (keep1 S _ hS1) rfl ?_)
    have hS2 := Heap.get?_update_self (Obj.mapSeq fun _ => #[Value.ref a]) (keep1 S _ hS1) rfl
    refine wpAny_bind (wpAny_letGo ?_)
    have aS : a ≠ S := fun z => Nat.lt_irrefl _ (by rw [← hA] at z; rw [← z] at hSlt; exact hSlt)
    have aI : a ≠ I := fun z => Nat.lt_irrefl _ (by rw [← hA] at z; rw [← z] at hIlt; exact hIlt)
    have aZ : s0.heap.objs.size ≤ a := by
      rw [← hA]
      exact Nat.le_of_lt (Nat.lt_of_le_of_lt hSz hSlt)
    have off : ∀ b o, b ≠ S → (s'.heap.push (lobj (acc ++ vss[i]) 0)).get? b = some o → (((s'.heap.push (lobj (acc ++ vss[i]) 0)).update S (Obj.mapSeq fun _ => #[Value.ref a])).update S (Obj.mapSeq fun _ => #[Value.ref a])).get? b = some o := fun b o hb e =>
      (Heap.get?_update_other _ _ (Ne.symm hb)).trans ((Heap.get?_update_other _ _ (Ne.symm hb)).trans e)
    refine wpAny_bind (wpAny_updateSeq hS2 rfl (wpAny_pure ⟨plainId_quiet PySem.F.plain_sum_loop _, ih (i + 1) _ a (acc ++ vss[i]) 0 _ (by omega) hlt ?_ ?_ (Heap.get?_update_self _ hS2 rfl) (off a _ aS new1) elen.symm aS aI fun s'' cur' n' k1 k2 k3 => ?_⟩))
    · exact W.frame (i + 1) s' _ _ hst' (Nat.le_refl _) fun b hb o e => off b o (fun z => hSf (by rw [← z]; exact hb)) (keep1 b o e)
    · exact ⟨fun b o e => off b o (hs0 b o e).1 (keep1 b o (K1.heap b o e)), K1.gens, K1.drawn, K1.os⟩
    · refine hR s'' cur' n' k1 k2 (.inr ?_)
      rcases k3 with ⟨_, k3⟩ | k3
      · rw [k3]
        exact aZ
      · exact k3
theorem call_sumL {l b : Addr} {ps : List Addr} {vss : List (List Value)} {s : Shared} {Q : Value → Shared → Prop} (hh : A.handled = Option.none) (hl : s.heap.IsList l (ps.map Value.ref).toArray) {nb : Nat} (hb : s.heap.get? b = some (lobj [] nb))
    (hn : ps.length = vss.length) (h0 : ∀ (i : Nat) (p : Addr) (vs : List Value), ps[i]? = some p → vss[i]? = some vs → ∃ n, s.heap.get? p = some (lobj vs n)) (hfit : vss.flatten.length ≤ sizeLine)
    (hR : ∀ s' cur' n', Keeps s s' → s'.heap.get? cur' = some (lobj vss.flatten n') → (vss = [] ∧ cur' = b ∨ s.heap.objs.size ≤ cur') → Q (.ref cur') s') :
    wpAny (model P w) A (call (.builtin "sum") [.ref l, .ref b]) Q E s := by
  refine call_function_tree PySem.F.kind_sum PySem.F.plain_sum PySem.F.entry_sum (args_sum2 _ _) ?_
  unfold Builtin.«sum»
  simp only [List.length_cons, List.length_nil]
  rw [if_neg (by decide)]
  refine wpAny_bind (wpAny_of_eq (show Builtin.Builtins.bindParams "sum" ["start"] 0 ⟨[Value.ref b], []⟩ = pure [some (Value.ref b)] from rfl) ?_)
  refine wpAny_bind (wpAny_pyIter_list hl ?_)
  have hb1 : (s.heap.push { cls := .type "list_iterator", data := .fields #[.ref l, .int 0 0] }).get? b = some (lobj [] nb) := Heap.get?_push_of_some _ hb
  have hT : Shared.TypeIs { s with heap := s.heap.push { cls := .type "list_iterator", data := .fields #[.ref l, .int 0 0] } } (.ref b) "list" := ⟨_, hb1, rfl⟩
  refine wpAny_bind (wpAny_pure ?_)
  simp only [List.forIn_cons, List.forIn_nil]
  refine wpAny_bind (wpAny_bind (wpAny_bind (wpAny_isInstance (T := "list") (b := false) hT subLS ?_)))
  simp only [Bool.false_eq_true, if_false]
  refine wpAny_pure (wpAny_bind (wpAny_bind (wpAny_isInstance (T := "list") (b := false) hT subLB ?_)))
  simp only [Bool.false_eq_true, if_false]
  refine wpAny_pure (wpAny_bind (wpAny_bind (wpAny_isInstance (T := "list") (b := false) hT subLA ?_)))
  simp only [Bool.false_eq_true, if_false]
  refine wpAny_pure (wpAny_pure ?_)
  refine wpAny_bind (wpAny_newObj_type ?_)
  have hlt : l < s.heap.objs.size := by
    obtain ⟨o, ho, _⟩ := hl
    exact Heap.lt_size ho
  have z1 : (s.heap.push { cls := .type "list_iterator", data := .fields #[.ref l, .int 0 0] }).objs.size = s.heap.objs.size + 1 := Heap.size_push ..
  refine wpAny_pure ⟨plainId_quiet PySem.F.plain_sum_loop _, sum_turns (I := s.heap.objs.size) (l := l) (S := (s.heap.push { cls := .type "list_iterator", data := .fields #[.ref l, .int 0 0] }).objs.size) (by simp [hh]) (Nat.ne_of_lt hlt) ?_ ?_ hn s hfit h0 ?_ ?_ vss.length 0 _ b [] nb 0 rfl (Nat.zero_le _)
    ⟨⟨_, Heap.get?_push_of_some _ (Heap.get?_push_size _ rfl), rfl, rfl⟩, (hl.push _).push _⟩ ⟨fun a o e => Heap.get?_push_of_some _ (Heap.get?_push_of_some _ e), rfl, rfl, rfl⟩ (Heap.get?_push_size _ rfl) (Heap.get?_push_of_some _ hb1) rfl ?_ ?_ fun s' cur' n' k1 k2 k3 => ?_⟩
  · rw [z1]
    exact Nat.ne_of_gt (Nat.lt_succ_self _)
  · rw [z1]
    exact Nat.ne_of_gt (Nat.lt_succ_of_lt hlt)
  · intro a o e
    have := Heap.lt_size e
    rw [z1]
    exact ⟨Nat.ne_of_lt (Nat.lt_succ_of_lt this), Nat.ne_of_lt this⟩
  · rw [z1]
    exact Nat.le_succ _
  · rw [z1]
    exact Nat.ne_of_lt (Nat.lt_succ_of_lt (Heap.lt_size hb))
  · exact Nat.ne_of_lt (Heap.lt_size hb)
  · refine hR s' cur' n' k1 k2 ?_
    rcases k3 with ⟨k3, k4⟩ | k3
    · exact .inl ⟨List.length_eq_zero_iff.mp k3.symm, k4⟩
    · exact .inr k3
end
theorem vals_refs_eq : ∀ {as : List Addr} {us : List Value}, Vals (as.map V.ref) us → us = as.map Value.ref
  | [], _, .nil => rfl
  | a :: r, _, .cons h t => by
    have h : _ = Value.ref a := h
    rw [h, vals_refs_eq t]
    rfl
theorem lists_at {X : Cx} {pins : List (Addr × Obj)} {σ : L2.St} {H : Hp} {s : Shared} (I : Inv X pins σ H s) : ∀ {as : List Addr} {xss : List (List V)}, as.length = xss.length →
    (∀ (i : Nat) (p : Addr) (xs : List V), as[i]? = some p → xss[i]? = some xs → H p = some (.lst xs)) →
    ∃ vss : List (List Value), as.length = vss.length ∧ (∀ (i : Nat) (p : Addr) (vs : List Value), as[i]? = some p → vss[i]? = some vs → ∃ n, s.heap.get? p = some (lobj vs n)) ∧ Vals xss.flatten vss.flatten
  | [], [], _, _ => ⟨[], rfl, fun i p vs h => by simp at h, .nil⟩
  | [], _ :: _, h, _ => by simp at h
  | _ :: _, [], h, _ => by simp at h
  | a :: as, xs :: xss, hl, h => by
    obtain ⟨vss, h1, h2, h3⟩ := lists_at I (as := as) (xss := xss) (by simpa using hl) fun i p ys e1 e2 => h (i + 1) p ys (by simpa using e1) (by simpa using e2)
    obtain ⟨its, n, r, e, _⟩ := I.lst (h 0 a xs rfl rfl)
    refine ⟨its :: vss, by simp [h1], fun i p vs e1 e2 => ?_, ?_⟩
    · cases i with
      | zero =>
        cases e1
        cases e2
        exact ⟨n, e⟩
      | succ i => exact h2 i p vs (by simpa using e1) (by simpa using e2)
    · rw [List.flatten_cons, List.flatten_cons]
      exact r.append h3
/-- sum(lists, []): of no lists the second argument itself -/
def rSumL (K : PySem.W.Frag) : List V → Hp → VK → Prop := fun vs H Q => ∃ (a b : Addr) (as : List Addr) (xss : List (List V)), vs = [.ref a, .ref b] ∧ SqL K H a (as.map V.ref) ∧
  H b = some (.lst []) ∧ as.length = xss.length ∧ (∀ (i : Nat) (p : Addr) (xs : List V), as[i]? = some p → xss[i]? = some xs → H p = some (.lst xs)) ∧ xss.flatten.length ≤ sizeLine ∧
  (xss = [] → Q (.ref b) H) ∧ ∀ p, H p = none → Q (.ref p) (upd H p (.lst xss.flatten))
theorem cr_sumL {X : Cx} (hc : X.calm = true) : CallR X (.builtin "sum") (rSumL X.K) := by
  intro pins s σ H vs us Q I r h
  obtain ⟨a, b, as, xss, rfl, hs, hb, hn, hx, hz, q0, q1⟩ := h
  obtain ⟨u1, u2, rfl, r1, r2⟩ := vals2 r
  cases (show u1 = Value.ref a from r1)
  cases (show u2 = Value.ref b from r2)
  obtain ⟨its, rv, pl, _⟩ := I.list hs
  have e := vals_refs_eq rv
  subst e
  obtain ⟨vss, h1, h2, h3⟩ := lists_at I hn hx
  obtain ⟨itb, nb, rb, eb, _⟩ := I.lst hb
  cases rb
  have e3 := h3.length
  refine call_sumL (I.ok.hd hc) pl.isList eb h1 h2 (by rw [← e3]; exact hz) fun s' cur' n' k1 k2 k3 => ?_
  obtain ⟨h', g', d', t', o'⟩ := s'
  obtain ⟨kh, kg, kd, ko⟩ := k1
  simp only at kg kd ko k2
  subst kg kd ko
  rcases k3 with ⟨k3, rfl⟩ | k3
  · have ex : xss = [] := List.length_eq_zero_iff.mp (by rw [← hn, h1, k3]; rfl)
    exact ⟨.ref cur', H, I.kept (t' := t') kh, rfl, q0 ex⟩
  · exact ⟨.ref cur', _, I.laid (t' := t') kh k3 (o := .lst xss.flatten) ⟨hz, vss.flatten, n', h3, k2⟩, rfl, q1 cur' (I.hok.fresh k3)⟩

/-! ### list.count of a number, in a list of numbers and None -/
def oV : Option Int → V
  | some i => .int i
  | Option.none => .non
def rCntF (K : PySem.W.Frag) : V → List V → Hp → VK → Prop := fun x xs H Q => ∃ (p : Addr) (d : List (Option Int)) (k : Int), x = .ref p ∧ xs = [.int k] ∧ SqL K H p (d.map oV) ∧ Q (.int (d.count (some k) : Nat)) H
def eqN (k : Int) : Value → Bool
  | .int n _ => n == k
  | _ => false
theorem eqN_at {k : Int} {t : Tok} {A : Around} {s : Shared} : ∀ {d : List (Option Int)} {us : List Value}, Vals (d.map oV) us → ∀ y ∈ us, SeqAt.EqAt A s y (.int k t) (eqN k y)
  | [], _, .nil => fun y hy => by cases hy
  | o :: d, _, .cons (b := u) h r => fun y hy => by
    rcases List.mem_cons.mp hy with e | e
    · subst e
      cases o with
      | none =>
        have h : y = Value.none := h
        subst h
        exact SeqAt.EqAt.none_int k t
      | some i =>
        obtain ⟨ti, h⟩ := (show ∃ t, y = Value.int i t from h)
        subst h
        exact SeqAt.EqAt.int_int i ti k t
    · exact eqN_at r y e
theorem eqN_count {k : Int} : ∀ {d : List (Option Int)} {us : List Value}, Vals (d.map oV) us → us.countP (eqN k) = d.count (some k)
  | [], _, .nil => rfl
  | o :: d, _, .cons (b := u) h r => by
    have ih := eqN_count (k := k) r
    rw [List.countP_cons, List.count_cons, ih]
    congr 1
    cases o with
    | none =>
      have h : u = Value.none := h
      subst h
      rfl
    | some i =>
      obtain ⟨ti, h⟩ := (show ∃ t, u = Value.int i t from h)
      subst h
      show (if (i == k) = true then 1 else 0) = if (some i == some k) = true then 1 else 0
      simp
theorem mt_countF {X : Cx} : MtR X "list.count" (rCntF X.K) := by
  intro pins s σ H x xs v us Q I rx rxs h
  obtain ⟨p, d, k, rfl, rfl, hs, q⟩ := h
  cases (show v = Value.ref p from rx)
  obtain ⟨u, rfl, t, rfl⟩ := rxs.one
  obtain ⟨its, rv, ⟨⟨cls, dd, data, sl⟩, n, ho, hc, hdn, hd⟩, _⟩ := I.list hs
  simp only at hc hd
  subst hc hd
  have g := SeqAt.list_countAt p its.toArray n dd sl (.int k t) (eqN k)
  refine call_meets PySem.F.slot_list_count ⟨_, ho, rfl⟩ PySem.F.entry_list_count (PySem.F.args_list_count_2 _ _) g ⟨ho, fun y hy => eqN_at rv y (by simpa using hy), ?_⟩
  refine ⟨.int (d.count (some k) : Nat), H, I.tok _, ⟨s.toks, ?_⟩, q⟩
  have e : its.toArray.toList.countP (eqN k) = d.count (some k) := eqN_count rv
  rw [e]

/-! ### an item as an operand of x[i] += .. -/
theorem get_list {X : Cx} : PGet X (rIxL X.K) := by
  intro pins s σ H o i ov iv Q I ro ri h
  obtain ⟨p, xs, j, z, rfl, rfl, hq, he, q⟩ := h
  cases (show ov = Value.ref p from ro)
  obtain ⟨t, rfl⟩ := (show ∃ t, iv = Value.int j t from ri)
  obtain ⟨its, r, pl, hz⟩ := I.list hq
  obtain ⟨k, h1, h2, h3, h4, h5⟩ := atI_get he
  obtain ⟨u, eu, ru⟩ := r.get h2
  have hl := r.length
  have hn := line63
  by_cases h0 : 0 ≤ j
  · have hj : j.toNat = k := by
      rw [seqIndex_of h0 h5] at h1
      exact Option.some.inj h1
    exact wpAny_getItem_list pl.isList h0 (by omega) (x := u) (by rw [hj]; simpa using eu) ⟨z, H, I, ru, q⟩
  · have hj : (j + (its.toArray.size : Int)).toNat = k := by
      rw [seqIndex_neg (by omega) h4] at h1
      rw [List.size_toArray, ← hl]
      exact Option.some.inj h1
    exact wpAny_getItem_list_neg pl.isList (by omega) (by rw [List.size_toArray]; omega) (by omega) (x := u) (by rw [hj]; simpa using eu) ⟨z, H, I, ru, q⟩
end Wd
/-! set(xs) of a list of ints. -/
namespace Wd
open PySem PySem.Spec PyProof.Rows L2
abbrev sobj (w : World) : Obj := { cls := .type "set", dict := Option.none, data := .set #[] 0 (.fresh 0 0 (!w.params.followText "set-order")) }
section
variable {P : Program} {w : World} {A : Around} {E : Value → Shared → Prop} {s : Shared}
/-- what the set's making leaves -/
def Made (w : World) (s : Shared) (ns : List Int) (s2 : Shared) : Prop := ∃ h' tk c, s2 = { s with heap := h', toks := tk } ∧ SetR w h' s.heap.objs.size (fun j => decide (j ∈ ns)) c ∧ c ≤ ns.length ∧ ∀ b o, s.heap.get? b = some o → h'.get? b = some o
theorem call_setL {l : Addr} {items : Array Value} (ns : List Int) {Q : Value → Shared → Prop} (hh : A.handled = Option.none) (hl : s.heap.IsList l items) (hit : IntsAre items.toList ns) (hb : ns.length + 1 < scanBound)
    (h : ∀ s2, Made w s ns s2 → Q (.ref s.heap.objs.size) s2) : wpAny (model P w) A (call (.type "set") [.ref l]) Q E s := by
  have hisz : items.size = ns.length := by
    have q := IntsAre.length hit
    rw [Array.length_toList] at q
    exact q
  have hlS : l < s.heap.objs.size := by
    obtain ⟨o, ho, _⟩ := hl
    exact Heap.lt_size ho
  obtain ⟨c, tl, hmro⟩ := PySem.F.called_set.mro
  have hmade := PySem.F.called_set.made
  have hsub := PySem.F.called_set.sub
  refine wpAny_call (codeAny_of_tree ?_)
  show wpAny _ _ (callAny (.type "set") _) _ _ _
  refine wpAny_pure ⟨Code.quiet_builtin _ (by decide +kernel), codeAny_builtin PySem.F.entry_type_call ?_⟩
  rw [Around.under_plain (weight_type_call_type "set" [.ref l] []) rfl]
  have h1 := PySem.F.called_set.notType
  have h2 := PySem.F.called_set.canCreate
  have hct := PySem.F.typeCall_set_1 (.ref l)
  repeat (any_goals (first | assumption | wp_step))
  refine codeAny_mono (code_set_led1 (.ref l) (E := E) (Q₁ := fun v s1 => v = .ref s.heap.objs.size ∧ s1 = { s with heap := s.heap.push (sobj w) }) ⟨rfl, rfl⟩) fun r s1 hr => ?_
  cases r with
  | error e => exact hr
  | ok fl =>
    cases fl with
    | ret v =>
      obtain ⟨rfl, rfl⟩ := hr
      generalize hh1 : s.heap.push (sobj w) = h1'
      have hS : h1'.get? s.heap.objs.size = some (sobj w) := by
        rw [← hh1]
        exact Heap.get?_push_size _ rfl
      have kp : ∀ b o, s.heap.get? b = some o → h1'.get? b = some o := fun b o e => by
        rw [← hh1]
        exact Heap.get?_push_of_some _ e
      have z1 : h1'.objs.size = s.heap.objs.size + 1 := by
        rw [← hh1]
        exact Heap.size_push ..
      have hT : Shared.TypeIs { s with heap := h1' } (.ref s.heap.objs.size) "set" := ⟨_, hS, rfl⟩
      have hli := PySem.F.called_set.init.lookup
      have hbi := PySem.F.called_set.init.bind (.ref s.heap.objs.size)
      repeat (any_goals (first | assumption | wp_step))
      refine codeAny_mono (codeAny_call_builtin (R := wants (fun r s2 => r = .none ∧ Made w s ns s2) E) PySem.F.called_set.init.plain PySem.F.entry_set_init (check_set_init_1 hT ?_)) fun r2 s2 hr2 => ?_
      · obtain ⟨⟨ocls, odict, odata, oslots⟩, hol, hcl, nl, hdl⟩ := hl
        simp only at hcl hdl
        subst hcl hdl
        have hol' := kp _ _ hol
        have hsls := PySem.F.sub_list_set
        have hslf := PySem.F.sub_list_frozenset
        have hne : (Value.type "list" == Value.type "dict") = false := by decide
        have hl1 : h1'.IsList l items := ⟨_, hol', rfl, nl, rfl⟩
        unfold Builtin.«set.__init__» noKeywords Builtin.Frozenset.updateFrom
        generalize hPI : pyIter = PI
        wp_walk
        subst hPI
        refine wpAny_pyIter_list hl1 ?_
        refine wpAny_bind (wpAny_runValue ?_)
        have hh3 : A.in1.in1.in1.handled = Option.none := by simp [hh]
        have hneI : l ≠ h1'.objs.size := by
          rw [z1]
          exact Nat.ne_of_lt (Nat.lt_succ_of_lt hlS)
        have hSf : s.heap.objs.size ∉ [h1'.objs.size, l] := by
          simp only [List.mem_cons, List.not_mem_nil, or_false, not_or]
          rw [z1]
          exact ⟨Nat.ne_of_lt (Nat.lt_succ_self _), Nat.ne_of_gt hlS⟩
        have hval : ∀ (i : Nat) (v : Value), items[i]? = some v → ∃ k t, ns[i]? = some k ∧ v = .int k t := fun i v hv => by
          have hi : i < ns.length := by rw [← hisz]; exact (Array.getElem?_eq_some_iff.mp hv).1
          obtain ⟨t, e⟩ := PyProof.Rows.IntsAre.int_at hit i v (by rw [Array.getElem?_toList]; exact hv)
          refine ⟨ns[i], t, List.getElem?_eq_getElem hi, ?_⟩
          rw [e, List.getD_eq_getElem?_getD, List.getElem?_eq_getElem hi]
          rfl
        refine set_update_ints ((Walks.list hh3 _ l hneI items).toS) s.heap.objs.size hSf ns hisz hb hval (items.size - 0) 0 _ (by omega) (Nat.zero_le _)
          ⟨⟨_, Heap.get?_push_size _ rfl, rfl, rfl⟩, hl1.push _⟩ ⟨0, Nat.le_refl 0, setR_new_at (Heap.get?_push_of_some _ hS)⟩ fun s' c' hm hc' hS' => ?_
        obtain ⟨h', g2, d', tk', os'⟩ := s'
        have eg : g2 = s.gens := hm.gens
        have ed : d' = s.drawn := hm.drawn
        have eo : os' = s.os := hm.os
        subst eg ed eo
        show wpAny _ _ _ _ _ _
        refine wpAny_pure ?_
        show wpAny _ _ (ret Value.none) _ _ _
        rw [hisz] at hc'
        refine wpAny_pure ⟨rfl, h', tk', c', rfl, hS', hc', fun b o e => ?_⟩
        have hb0 : b < s.heap.objs.size := Heap.lt_size e
        refine hm.heap b o ?_ (Heap.get?_push_of_some _ (kp b o e))
        simp only [List.mem_cons, List.not_mem_nil, or_false, not_or]
        rw [z1]
        exact ⟨Nat.ne_of_lt hb0, Nat.ne_of_lt (Nat.lt_succ_of_lt hb0)⟩
      · cases r2 with
        | error e => exact hr2
        | ok fl2 =>
          cases fl2 with
          | ret r =>
            obtain ⟨rfl, hM⟩ := hr2
            repeat (any_goals (first | assumption | wp_step))
            exact h _ hM
          | _ => exact hr2.elim
    | _ => exact hr.elim
end
def rSetL (K : PySem.W.Frag) (w : World) : List V → Hp → VK → Prop := fun vs H Q => ∃ (a : Addr) (ns : List Int), vs = [.ref a] ∧ SqL K H a (ns.map V.int) ∧ ns.length ≤ 1000 ∧
  ∀ p n, n ≤ ns.length → H p = none → Q (.ref p) (upd H p (SetO w p (fun j => decide (j ∈ ns)) n))
theorem cr_setL {X : Cx} (hc : X.calm = true) : CallR X (.type "set") (rSetL X.K X.w) := by
  intro pins s σ H vs us Q I r h
  obtain ⟨a, ns, rfl, hs, hn, q⟩ := h
  obtain ⟨its, rv, pl, _⟩ := I.list hs
  rw [Vals.ref1 r]
  refine call_setL ns (I.ok.hd hc) pl.isList rv.ints (by unfold scanBound; omega) fun s2 hM => ?_
  obtain ⟨h', tk, c, rfl, hR, hc', hk⟩ := hM
  exact ⟨.ref _, _, I.laid (t' := tk) hk (Nat.le_refl _) (setO_new hR), rfl, q _ c hc' I.fresh⟩
end Wd
/-! What the walks share: heaps, wishes as they stand in a heap. -/
namespace Wd
open PySem PySem.Spec PyProof.Rows L2
abbrev rLenD : List V → Hp → VK → Prop := fun xs H Q => ∃ a kvs, xs = [V.ref a] ∧ H a = some (.dK kvs) ∧ Q (.int kvs.length) H
abbrev rLen2 (K : PySem.W.Frag) : List V → Hp → VK → Prop := fun xs H Q => ∃ p ys, xs = [.ref p] ∧ (SqL K H p ys ∨ SqT K H p ys) ∧ Q (.int ys.length) H
theorem pe_bty {X : Cx} {x : Str} {n : String} {pos : Pos} (hg : Gl X x) (hm : X.mg x = Option.none) (hv : bootBuiltins x = some (.type n)) (hn : x ≠ ("__name__" : Str) := by decide) (hd : (x == ("__debug__" : Str)) = false := by decide) :
    PE X (.Name x pos) (tC (.ty n)) := pe_bltn hg hm hv rfl hn hd

/-! ### heaps -/
theorem same_new {H : Hp} {p : Addr} {o : HO} (h : H p = Option.none) : Same H (upd H p o) := fun b u e => by
  rw [upd_ne (ne_of_none e h)]
  exact e
theorem same_mut {H H' : Hp} {p : Addr} {o : HO} (s : Same H H') (h : H p = Option.none) : Same H (upd H' p o) := fun b u e => by
  rw [upd_ne (ne_of_none e h)]
  exact s b u e
theorem same_and {H H' : Hp} {p : Addr} {o : HO} (s : Same H H') (h : H' p = Option.none) : Same H (upd H' p o) := s.trans (same_new h)
theorem same_rd {H H' : Hp} {a : Addr} {u : HO} (s : Same H H') (h : Rd H a u) : Rd H' a u := by
  rcases h with h | ⟨o, h⟩
  · exact .inl (s _ _ h)
  · exact .inr ⟨o, s _ _ h⟩
/-- all that was tracked is as it was, but what stands at some places -/
def SameX (S : List Addr) (H H' : Hp) : Prop := ∀ b o, b ∉ S → H b = some o → H' b = some o
theorem SameX.refl (S : List Addr) (H : Hp) : SameX S H H := fun _ _ _ h => h
theorem SameX.trans {S : List Addr} {H H1 H2 : Hp} (a : SameX S H H1) (b : SameX S H1 H2) : SameX S H H2 := fun c o n h => b c o n (a c o n h)
theorem SameX.of {S : List Addr} {H H' : Hp} (s : Same H H') : SameX S H H' := fun b o _ h => s b o h
theorem SameX.upd_in {S : List Addr} {H H' : Hp} {p : Addr} {o : HO} (s : SameX S H H') (h : p ∈ S) : SameX S H (upd H' p o) := fun b u n e => by
  rw [upd_ne (fun z => n (by rw [z]; exact h))]
  exact s b u n e
theorem SameX.upd_new {S : List Addr} {H H' : Hp} {p : Addr} {o : HO} (s : SameX S H H') (h : H p = Option.none) : SameX S H (upd H' p o) := fun b u n e => by
  rw [upd_ne (ne_of_none e h)]
  exact s b u n e
theorem SameX.rd {S : List Addr} {H H' : Hp} {a : Addr} {u : HO} (s : SameX S H H') (n : a ∉ S) (h : Rd H a u) : Rd H' a u := by
  rcases h with h | ⟨o, h⟩
  · exact .inl (s _ _ n h)
  · exact .inr ⟨o, s _ _ n h⟩
theorem sz100 {n : Nat} (h : n ≤ 100000) : n ≤ sizeLine := Nat.le_trans h (by decide)
theorem sl100 {n : Nat} (h : n < 100000) : n < sizeLine := Nat.lt_of_lt_of_le h (by decide)

/-! ### values -/
abbrev nV (n : Nat) : V := .int (n : Int)
def onV : Option Nat → V
  | some n => .int (n : Int)
  | Option.none => .non
theorem onV_oV (o : Option Nat) : onV o = oV (o.map fun n => (n : Int)) := by
  cases o <;> rfl
theorem nV_ne {a b : Nat} (h : a ≠ b) : ¬ nV a = nV b := fun e => by
  injection e with e
  exact h (Int.ofNat.inj e)
theorem nV_inj {a b : Nat} (e : nV a = nV b) : a = b := by
  injection e with e
  exact Int.ofNat.inj e
theorem onV_inj : ∀ {a b : Option Nat}, onV a = onV b → a = b
  | Option.none, Option.none, _ => rfl
  | some a, some b, e => by rw [nV_inj e]
  | Option.none, some b, e => by cases e
  | some a, Option.none, e => by cases e
theorem dec_nV (a b : Nat) : decide (nV a = nV b) = decide (a = b) := by
  by_cases h : a = b
  · subst h
    rw [decide_eq_true rfl, decide_eq_true rfl]
  · rw [decide_eq_false (nV_ne h), decide_eq_false h]
theorem dec_onV (a b : Option Nat) : decide (onV a = onV b) = decide (a = b) := by
  by_cases h : a = b
  · subst h
    rw [decide_eq_true rfl, decide_eq_true rfl]
  · rw [decide_eq_false (fun e => h (onV_inj e)), decide_eq_false h]
theorem flat_nV (ns : List Nat) : (ns.map nV).all flatV = true := by
  induction ns with
  | nil => rfl
  | cons a r ih =>
    rw [List.map_cons, List.all_cons, ih]
    rfl
theorem flat_onV (ds : List (Option Nat)) : (ds.map onV).all flatV = true := by
  induction ds with
  | nil => rfl
  | cons a r ih =>
    rw [List.map_cons, List.all_cons, ih]
    cases a <;> rfl
theorem inV_nV (t : Nat) (ns : List Nat) : inV (nV t) (ns.map nV) = decide (t ∈ ns) := by
  induction ns with
  | nil => rfl
  | cons a r ih =>
    show (eqV (nV a) (nV t) || inV (nV t) (r.map nV)) = _
    rw [ih]
    show (((a : Int) == (t : Int)) || decide (t ∈ r)) = _
    by_cases h : a = t
    · subst h
      simp
    · have : ((a : Int) == (t : Int)) = false := beq_eq_false_iff_ne.mpr fun e => h (Int.ofNat.inj e)
      rw [this]
      simp [Ne.symm h]
theorem get_nV {ns : List Nat} {i : Nat} {x : V} (h : (ns.map nV)[i]? = some x) : ∃ n, ns[i]? = some n ∧ x = nV n := by
  rw [List.getElem?_map] at h
  cases e : ns[i]? with
  | none =>
    rw [e] at h
    cases h
  | some n =>
    rw [e] at h
    exact ⟨n, rfl, (Option.some.inj h).symm⟩
theorem get_map {α β : Type} {f : α → β} {xs : List α} {i : Nat} {x : β} (h : (xs.map f)[i]? = some x) : ∃ n, xs[i]? = some n ∧ x = f n := by
  rw [List.getElem?_map] at h
  cases e : xs[i]? with
  | none =>
    rw [e] at h
    cases h
  | some n =>
    rw [e] at h
    exact ⟨n, rfl, (Option.some.inj h).symm⟩
theorem map_get {α β : Type} (f : α → β) {xs : List α} {i : Nat} {x : α} (h : xs[i]? = some x) : (xs.map f)[i]? = some (f x) := by
  rw [List.getElem?_map, h]
  rfl
theorem lt_of_get {α : Type} {xs : List α} {i : Nat} {x : α} (h : xs[i]? = some x) : i < xs.length := (List.getElem?_eq_some_iff.mp h).1
theorem at_nat {α : Type} (f : α → V) {xs : List α} {i : Nat} {x : α} (h : xs[i]? = some x) : atI (xs.map f) (i : Int) = some (f x) := atI_nat (map_get f h)

/-! ### wishes as they stand in a heap -/
/-- the lists at these places -/
def RowsAt (H : Hp) (as : List Addr) (rows : List (List Nat)) : Prop := as.length = rows.length ∧ ∀ (i : Nat) (a : Addr) (r : List Nat), as[i]? = some a → rows[i]? = some r → H a = some (.lst (r.map nV))
def RanksAt (H : Hp) (a : Addr) (ranks : List (List Nat)) : Prop := ∃ as : List Addr, H a = some (.lst (as.map V.ref)) ∧ RowsAt H as ranks
def ListsAt (H : Hp) (a : Addr) (lists : List (List (List Nat))) : Prop := ∃ as : List Addr, H a = some (.lst (as.map V.ref)) ∧ as.length = lists.length ∧ ∀ (i : Nat) (a : Addr) (r : List (List Nat)), as[i]? = some a → lists[i]? = some r → RanksAt H a r
structure Wi where
  c : List Nat
  l : List (List (List Nat))
def WAt (H : Hp) (a : Addr) (w : Wi) : Prop := ∃ c l : Addr, H a = some (.tup [.ref c, .ref l]) ∧ H c = some (.lst (w.c.map nV)) ∧ ListsAt H l w.l
def ordS : Nat → Str
  | 0 => "firsts"
  | 1 => "full"
  | _ => "lasts"
def AimAt (H : Hp) (a : Addr) (o : Nat) : Prop := ∃ t : Addr, H a = some (.tup [.str (ordS o), .non, .ref t]) ∧ H t = some (.lst [])
theorem RowsAt.mono {H H' : Hp} {as : List Addr} {rows : List (List Nat)} (s : Same H H') (h : RowsAt H as rows) : RowsAt H' as rows := ⟨h.1, fun i a r e1 e2 => s _ _ (h.2 i a r e1 e2)⟩
theorem RanksAt.mono {H H' : Hp} {a : Addr} {ranks : List (List Nat)} (s : Same H H') (h : RanksAt H a ranks) : RanksAt H' a ranks := by
  obtain ⟨as, h1, h2⟩ := h
  exact ⟨as, s _ _ h1, h2.mono s⟩
theorem ListsAt.mono {H H' : Hp} {a : Addr} {lists : List (List (List Nat))} (s : Same H H') (h : ListsAt H a lists) : ListsAt H' a lists := by
  obtain ⟨as, h1, h2, h3⟩ := h
  exact ⟨as, s _ _ h1, h2, fun i a r e1 e2 => (h3 i a r e1 e2).mono s⟩
theorem WAt.mono {H H' : Hp} {a : Addr} {w : Wi} (s : Same H H') (h : WAt H a w) : WAt H' a w := by
  obtain ⟨c, l, h1, h2, h3⟩ := h
  exact ⟨c, l, s _ _ h1, s _ _ h2, h3.mono s⟩
theorem AimAt.mono {H H' : Hp} {a : Addr} {o : Nat} (s : Same H H') (h : AimAt H a o) : AimAt H' a o := by
  obtain ⟨t, h1, h2⟩ := h
  exact ⟨t, s _ _ h1, s _ _ h2⟩
/-- an asker's list of ranks that is one, of n things -/
structure RkOk (n : Nat) (r : List (List Nat)) : Prop where
  len : r.length ≤ 5
  ne : ∀ row ∈ r, row ≠ []
  lt : ∀ row ∈ r, ∀ t ∈ row, t < n
  nd : r.flatten.Nodup
structure Wi.Ok (w : Wi) : Prop where
  c1 : 1 ≤ w.c.length
  c6 : w.c.length ≤ 6
  c7 : ∀ x ∈ w.c, x ≤ 7
  l1 : 1 ≤ w.l.length
  l7 : w.l.length ≤ 7
  rk : ∀ r ∈ w.l, RkOk w.c.length r

/-! ### a test's answer -/
theorem ifT {c : Bool} {A B : Prop} (h : c = true) (g : A) : if c = true then A else B := by
  rw [if_pos h]
  exact g
theorem ifF {c : Bool} {A B : Prop} (h : c = false) (g : B) : if c = true then A else B := by
  rw [if_neg (by rw [h]; decide)]
  exact g
theorem if2 {c : Bool} {A B : Prop} (h1 : c = true → A) (h2 : c = false → B) : if c = true then A else B := by
  cases c with
  | true => exact ifT rfl (h1 rfl)
  | false => exact ifF rfl (h2 rfl)

/-! ### == of lists -/
section
variable {K : PySem.W.Frag} {H : Hp} {Q : VK}
theorem dp_ints : ∀ is : List Int, DpAll K H (is.map V.int) (is.map PyData.int)
  | [] => .nil
  | i :: r => .cons (.int i) (dp_ints r)
theorem dp_nats (ns : List Nat) : DpAll K H (ns.map nV) ((ns.map fun n : Nat => (n : Int)).map PyData.int) := by
  have h := dp_ints (K := K) (H := H) (ns.map fun n : Nat => (n : Int))
  have e : (ns.map fun n : Nat => (n : Int)).map V.int = ns.map nV := by simp
  rw [e] at h
  exact h
def onD : Option Nat → PyData
  | some n => .int n
  | Option.none => .none
theorem dp_ons : ∀ ds : List (Option Nat), DpAll K H (ds.map onV) (ds.map onD)
  | [] => .nil
  | some n :: r => .cons (.int _) (dp_ons r)
  | Option.none :: r => .cons .non (dp_ons r)
theorem lay_ints : ∀ is : List Int, PyData.canLayAll0 (is.map PyData.int) = true ∧ PyData.depthAll (is.map PyData.int) = 0
  | [] => ⟨rfl, rfl⟩
  | i :: r => by
    obtain ⟨h1, h2⟩ := lay_ints r
    exact ⟨by simp [PyData.canLayAll0, PyData.canLay0, h1], by simp [PyData.depthAll, PyData.depth, h2]⟩
theorem lay_ons : ∀ ds : List (Option Nat), PyData.canLayAll0 (ds.map onD) = true ∧ PyData.depthAll (ds.map onD) = 0
  | [] => ⟨rfl, rfl⟩
  | some n :: r => by
    obtain ⟨h1, h2⟩ := lay_ons r
    exact ⟨by simp [PyData.canLayAll0, PyData.canLay0, h1, onD], by simp [PyData.depthAll, PyData.depth, h2, onD]⟩
  | Option.none :: r => by
    obtain ⟨h1, h2⟩ := lay_ons r
    exact ⟨by simp [PyData.canLayAll0, PyData.canLay0, h1, onD], by simp [PyData.depthAll, PyData.depth, h2, onD]⟩
theorem lay_lists : ∀ dss : List (List (Option Nat)), PyData.canLayAll0 (dss.map fun ds => PyData.list (ds.map onD)) = true ∧ PyData.depthAll (dss.map fun ds => PyData.list (ds.map onD)) ≤ 1
  | [] => ⟨rfl, by decide⟩
  | ds :: r => by
    obtain ⟨h1, h2⟩ := lay_lists r
    obtain ⟨g1, g2⟩ := lay_ons ds
    refine ⟨by simp [PyData.canLayAll0, PyData.canLay0, h1, g1], ?_⟩
    show max (PyData.depth (PyData.list (ds.map onD))) (PyData.depthAll (r.map fun ds => PyData.list (ds.map onD))) ≤ 1
    have : PyData.depth (PyData.list (ds.map onD)) = 1 := by simp [PyData.depth, g2]
    rw [this]
    exact Nat.max_le.mpr ⟨Nat.le_refl _, h2⟩
theorem shaped_list {ds : List PyData} (h1 : PyData.canLayAll0 ds = true) (h2 : PyData.depthAll ds ≤ 63) : SeqAt.shaped (.list ds) = true := by
  unfold SeqAt.shaped
  rw [Bool.and_eq_true]
  exact ⟨by simp [PyData.canLay0, h1], decide_eq_true (by simp only [PyData.depth]; omega)⟩
theorem eqv_nil {xs : List V} {ds : List PyData} (h : DpAll K H xs ds) : PyData.eqv (.list ds) (.list []) = xs.isEmpty := by
  cases h with
  | nil => rfl
  | cons _ _ => rfl
/-- xs == [], xs != [] -/
theorem eq_nil {b q : Addr} {xs : List V} {ds : List PyData} (hb : H b = some (.lst xs)) (hd : DpAll K H xs ds) (h1 : PyData.canLayAll0 ds = true) (h2 : PyData.depthAll ds ≤ 63) (hq : H q = some (.lst [])) (k : Q (.bl xs.isEmpty) H) : rEqD K (.ref b) (.ref q) H Q :=
  ⟨.list ds, .list [], .lst (SqL.of hb) hd, .lst (SqL.of hq) .nil, shaped_list h1 h2, rfl, by rw [eqv_nil hd]; exact k⟩
theorem ne_nil {b q : Addr} {xs : List V} {ds : List PyData} (hb : H b = some (.lst xs)) (hd : DpAll K H xs ds) (h1 : PyData.canLayAll0 ds = true) (h2 : PyData.depthAll ds ≤ 63) (hq : H q = some (.lst [])) (k : Q (.bl (!xs.isEmpty)) H) : rNeD K (.ref b) (.ref q) H Q :=
  ⟨.list ds, .list [], .lst (SqL.of hb) hd, .lst (SqL.of hq) .nil, shaped_list h1 h2, rfl, by rw [eqv_nil hd]; exact k⟩
theorem eqN_nil {b q : Addr} {ns : List Nat} (hb : H b = some (.lst (ns.map nV))) (hq : H q = some (.lst [])) (k : Q (.bl ns.isEmpty) H) : rEqD K (.ref b) (.ref q) H Q :=
  eq_nil hb (dp_nats ns) (lay_ints _).1 (by rw [(lay_ints _).2]; decide) hq (by cases ns <;> exact k)
theorem neN_nil {b q : Addr} {ns : List Nat} (hb : H b = some (.lst (ns.map nV))) (hq : H q = some (.lst [])) (k : Q (.bl (!ns.isEmpty)) H) : rNeD K (.ref b) (.ref q) H Q :=
  ne_nil hb (dp_nats ns) (lay_ints _).1 (by rw [(lay_ints _).2]; decide) hq (by cases ns <;> exact k)
theorem eqvAll_ints : ∀ xs ys : List Int, PyData.eqvAll (xs.map PyData.int) (ys.map PyData.int) = decide (xs = ys)
  | [], [] => rfl
  | [], y :: ys => by simp [PyData.eqvAll]
  | x :: xs, [] => by simp [PyData.eqvAll]
  | x :: xs, y :: ys => by
    show (PyData.eqv (.int x) (.int y) && PyData.eqvAll (xs.map PyData.int) (ys.map PyData.int)) = _
    rw [eqvAll_ints xs ys]
    show ((x == y) && decide (xs = ys)) = decide (x :: xs = y :: ys)
    by_cases h : x = y
    · subst h
      simp
    · have : (x == y) = false := beq_eq_false_iff_ne.mpr h
      rw [this]
      simp [h]
/-- two lists of ints -/
theorem ne_ints {b q : Addr} {xs ys : List Int} (hb : H b = some (.lst (xs.map V.int))) (hq : H q = some (.lst (ys.map V.int))) (k : Q (.bl (!decide (xs = ys))) H) : rNeD K (.ref b) (.ref q) H Q :=
  ⟨.list (xs.map PyData.int), .list (ys.map PyData.int), .lst (SqL.of hb) (dp_ints xs), .lst (SqL.of hq) (dp_ints ys), shaped_list (lay_ints _).1 (by rw [(lay_ints _).2]; decide), shaped_list (lay_ints _).1 (by rw [(lay_ints _).2]; decide), by
    show Q (.bl (!PyData.eqvAll (xs.map PyData.int) (ys.map PyData.int))) H
    rw [eqvAll_ints]
    exact k⟩
end

theorem take_snoc {α : Type} {xs : List α} {i : Nat} {x : α} (h : xs[i]? = some x) : xs.take (i + 1) = xs.take i ++ [x] := by
  rw [List.take_add_one, h]
  rfl
theorem take_all {α β : Type} (f : α → β) (xs : List α) : xs.take (xs.map f).length = xs := by
  rw [List.length_map, List.take_length]
theorem RkOk.flen {n : Nat} {r : List (List Nat)} (h : RkOk n r) : r.flatten.length ≤ n := by
  have := sub_len (l2 := List.range n) h.nd fun t ht => by
    obtain ⟨row, h1, h2⟩ := List.mem_flatten.mp ht
    exact List.mem_range.mpr (h.lt row h1 t h2)
  rw [List.length_range] at this
  exact this

/-! ### loops over enumerate(xs) -/
section
variable {K : PySem.W.Frag} {a : Addr} {xs : List V} {g : TG} {tb : TS} {D : Ends} {σ : L2.St} {H : Hp}
theorem for_enum (Pv : Nat → L2.St → Hp → Prop) (h0 : Pv 0 σ H) (hl : ∀ i σ H, i ≤ xs.length → Pv i σ H → SqL K H a xs)
    (hs : ∀ (i : Nat) (y : V) (T : Addr) (σ : L2.St) (H : Hp), xs[i]? = some y → Pv i σ H → H T = Option.none → g (.ref T) σ (upd H T (.tup [.int (i : Int), y])) fun σ2 H2 => tb { D with nx := Pv (i + 1), ct := Pv (i + 1), bk := D.nx } σ2 H2)
    (hd : ∀ σ H, Pv xs.length σ H → D.nx σ H) :
    ∃ W : Nat → Nat → L2.St → Hp → Prop, (∃ m, W 0 m σ H) ∧ ∀ i m σ H, W i m σ H →
      ((Ite K a).stop i H ∧ D.nx σ H) ∨ ((Ite K a).go i H ∧ ∃ N : L2.St → Hp → Prop, (∀ σ' H', N σ' H' → ∃ m', m' < m ∧ W (i + 1) m' σ' H') ∧ ∀ x H', (Ite K a).yld i H x H' → g x σ H' fun σ2 H2 => tb { D with nx := N, ct := N, bk := D.nx } σ2 H2) :=
  for_it walk_enum Pv h0 hl (fun i x σ H H' _ p y => by
    obtain ⟨T, u, v, rfl, hT, rfl, e, hv⟩ := y
    cases e
    exact hs i v T σ H hv p hT) hd
/-- a new pair, taken apart into two names -/
theorem pair_to {v1 v2 : V} {T : Addr} {i j : Nat} {Q : L2.St → Hp → Prop} (q : Q ((σ.set i (some v1)).set j (some v2)) (upd H T (.tup [v1, v2]))) : gTup K 2 (gCons (gName i) (gCons (gName j) gNil)) (.ref T) σ (upd H T (.tup [v1, v2])) Q :=
  ⟨T, _, rfl, SqT.of upd_same, rfl, _, _, rfl, _, _, rfl, rfl, q⟩
end

/-- a comprehension's turn without a test -/
theorem yes_ {σ : L2.St} {H : Hp} {F : V → Hp → Prop} {te : TE} {G : Hp → Prop} (q : te σ H F) : tYes σ H fun b H3 => if b = true then te σ H3 F else G H3 := by
  show (if true = true then te σ H F else G H)
  exact ifT rfl q
end Wd
namespace Wd
open PySem PySem.Spec PyProof.Rows L2
def spWhole : Sp := fun vs H Q _ => ∃ i : Int, vs = [.int i] ∧ Q (.bl true) H
def spMany : Sp := fun vs H Q _ => ∃ n : Nat, vs = [nV n] ∧ n ≤ 7 ∧ Q (.bl true) H
def spThing : Sp := fun vs H Q _ => ∃ t n : Nat, vs = [nV t, nV n] ∧ t < n ∧ Q (.bl true) H
def spNeedRow : Sp := fun vs H Q _ => ∃ (p a : V) (l : Addr) (xs : List V) (m : Int), vs = [p, .ref l, .int m] ∧ H l = some (.lst xs) ∧ 1 ≤ xs.length ∧ (xs.length : Int) ≤ m ∧ Q .non H
section
variable {P : Program} {w : World} {K : PySem.W.Frag} {mg : Str → Option Value} {base : Heap}
abbrev N_is_whole : List Str := ["thing"]
theorem sc_is_whole : FnScope N_is_whole ["thing"] (defScope s_is_whole) := ⟨rfl, rfl, rfl, by decide +kernel, rfl, by decide +kernel, by decide +kernel⟩
theorem ok_is_whole {f : Addr} {fd : FuncData} (F : FnP K "is_whole" "is_whole" s_is_whole f fd) (T : Txt K mg)  : FnOk P w K mg base CX0 1 f fd ["thing"] (spWhole) := by
  refine F.ok sc_is_whole (fun vs H Q E h => ?_) (fun cdv A outer s H vs Q E hr h => ?_)
  · obtain ⟨i, rfl, _⟩ := h
    rfl
  · have hu := hu_of hr
    have nd := sc_is_whole.nd
    refine ⟨_, PSs.nox (pss_one (ps_ret (pe_and (pe_callB call_isi (by rfl) T.isinstance (by decide +kernel) (pa_cons (pv 0) (pa_cons (pe_bty (n := "int") (by rfl) T.int (by decide +kernel)) pa_nil))) (pe_one (pe_not (pe_callB call_isi (by rfl) T.isinstance (by decide +kernel) (pa_cons (pv 0) (pa_cons (pe_bty (n := "bool") (by rfl) T.bool (by decide +kernel)) pa_nil)))))))), ?_⟩
    obtain ⟨i, rfl, k⟩ := h
    refine ⟨_, rfl, _, _, _, _, true, rfl, .ty _, .base (.int _), kit_ty (by decide +kernel), true, rfl, ifT rfl ?_⟩
    exact ⟨_, rfl, _, _, _, _, false, rfl, .ty _, .base (.int _), kit_ty (by decide +kernel), false, rfl, k⟩
abbrev N_need_row : List Str := ["part", "thing", "most"]
theorem sc_need_row : FnScope N_need_row ["part", "thing", "most"] (defScope s_need_row) := ⟨rfl, rfl, rfl, by decide +kernel, rfl, by decide +kernel, by decide +kernel⟩
theorem ok_need_row {f : Addr} {fd : FuncData} (F : FnP K "need_row" "need_row" s_need_row f fd) (T : Txt K mg)  : FnOk P w K mg base CX0 1 f fd ["part", "thing", "most"] (spNeedRow) := by
  refine F.ok sc_need_row (fun vs H Q E h => ?_) (fun cdv A outer s H vs Q E hr h => ?_)
  · obtain ⟨p, a, l, xs, m, rfl, _⟩ := h
    rfl
  · have hu := hu_of hr
    have nd := sc_need_row.nd
    refine ⟨_, PSs.nox (pss_one (ps_if (PW.pt (pw_or (pt_not (pt_val (pe_callB call_isi (by rfl) T.isinstance (by decide +kernel) (pa_cons (pv 1) (pa_cons (pe_bty (n := "list") (by rfl) T.list (by decide +kernel)) pa_nil))))) (pw_or1 (pt_not (pt_chain op_le op_le pe_int (pe_callB call_len_seq (by rfl) T.len (by decide +kernel) (pa_cons (pv 1) pa_nil)) (pv 2))))))
      (pss_one ps_never)
      pss_nil)), ?_⟩
    obtain ⟨p, a, l, xs, m, rfl, hl, h1, h2, k⟩ := h
    refine ⟨_, rfl, _, _, _, _, true, rfl, .ty _, .base (.lst hl), kit_ty (by decide +kernel), true, rfl, ?_⟩
    refine ifF rfl ?_
    refine ⟨_, rfl, _, _, rfl, .inl (SqL.of hl), _, _, rfl, rfl, _, rfl, ifT (decide_eq_true (by omega)) ?_⟩
    exact ⟨_, rfl, _, _, rfl, rfl, _, rfl, ifF (by rw [decide_eq_true h2]; rfl) k⟩
abbrev N_is_many : List Str := ["thing"]
theorem sc_is_many : FnScope N_is_many ["thing"] (defScope s_is_many) := ⟨rfl, rfl, rfl, by decide +kernel, rfl, by decide +kernel, by decide +kernel⟩
theorem ok_is_many {f : Addr} {fd : FuncData} (F : FnP K "is_many" "is_many" s_is_many f fd) (T : Txt K mg) (c_is_whole : Cal P w K mg base "is_whole" 1 ["thing"] (spWhole)) : FnOk P w K mg base CX0 2 f fd ["thing"] (spMany) := by
  refine F.ok sc_is_many (fun vs H Q E h => ?_) (fun cdv A outer s H vs Q E hr h => ?_)
  · obtain ⟨n, rfl, _⟩ := h
    rfl
  · have hu := hu_of hr
    have nd := sc_is_many.nd
    refine ⟨_, PSs.nox (pss_one (ps_ret (pe_and (pe_call c_is_whole.ok (hr.mono (by decide)) (by rfl) c_is_whole.g c_is_whole.kp c_is_whole.b .nil pass0 (pa_cons (pv 0) pa_nil)) (pe_one (pe_chain op_le op_le pe_int (pv 0) (pe_ci T.i_MOST_COPIES (by rfl))))))), ?_⟩
    obtain ⟨n, rfl, hn, k⟩ := h
    refine ⟨_, rfl, _, rfl, true, rfl, ifT rfl ?_⟩
    refine ⟨_, rfl, _, _, rfl, rfl, _, rfl, ifT (decide_eq_true (by omega)) ?_⟩
    refine ⟨_, _, rfl, rfl, ?_⟩
    have e : decide ((n : Int) ≤ 7) = true := decide_eq_true (by omega)
    show Q (.bl (decide ((n : Int) ≤ 7))) H
    rw [e]
    exact k
abbrev N_is_thing : List Str := ["thing", "many"]
theorem sc_is_thing : FnScope N_is_thing ["thing", "many"] (defScope s_is_thing) := ⟨rfl, rfl, rfl, by decide +kernel, rfl, by decide +kernel, by decide +kernel⟩
theorem ok_is_thing {f : Addr} {fd : FuncData} (F : FnP K "is_thing" "is_thing" s_is_thing f fd) (T : Txt K mg) (c_is_whole : Cal P w K mg base "is_whole" 1 ["thing"] (spWhole)) : FnOk P w K mg base CX0 2 f fd ["thing", "many"] (spThing) := by
  refine F.ok sc_is_thing (fun vs H Q E h => ?_) (fun cdv A outer s H vs Q E hr h => ?_)
  · obtain ⟨t, n, rfl, _⟩ := h
    rfl
  · have hu := hu_of hr
    have nd := sc_is_thing.nd
    refine ⟨_, PSs.nox (pss_one (ps_ret (pe_and (pe_call c_is_whole.ok (hr.mono (by decide)) (by rfl) c_is_whole.g c_is_whole.kp c_is_whole.b .nil pass0 (pa_cons (pv 0) pa_nil)) (pe_one (pe_chain op_le op_lt pe_int (pv 0) (pv 1)))))), ?_⟩
    obtain ⟨t, n, rfl, hn, k⟩ := h
    refine ⟨_, rfl, _, rfl, true, rfl, ifT rfl ?_⟩
    refine ⟨_, rfl, _, _, rfl, rfl, _, rfl, ifT (decide_eq_true (by omega)) ?_⟩
    refine ⟨_, rfl, _, _, rfl, rfl, ?_⟩
    have e : decide ((t : Int) < (n : Int)) = true := decide_eq_true (by omega)
    show Q (.bl (decide ((t : Int) < (n : Int)))) H
    rw [e]
    exact k

end
end Wd
namespace Wd
open PySem PySem.Spec PyProof.Rows L2
def spRanks : Sp := fun vs H Q _ => ∃ (a : Addr) (ranks : List (List Nat)) (n : Nat), vs = [.ref a, nV n] ∧ RanksAt H a ranks ∧ RkOk n ranks ∧ n ≤ 6 ∧ ∀ H', Same H H' → Q (.bl true) H'
def spLook : Sp := fun vs H Q _ => ∃ (a : Addr) (w : Wi), vs = [.ref a] ∧ WAt H a w ∧ w.Ok ∧ ∀ H', Same H H' → Q .non H'
section
variable {P : Program} {w : World} {K : PySem.W.Frag} {mg : Str → Option Value} {base : Heap}
abbrev N_are_ranks : List Str := ["thing", "many", "seen", "rank", "one"]
theorem sc_are_ranks : FnScope N_are_ranks ["thing", "many"] (defScope s_are_ranks) := ⟨rfl, rfl, rfl, by decide +kernel, rfl, by decide +kernel, by decide +kernel⟩
theorem ok_are_ranks {f : Addr} {fd : FuncData} (F : FnP K "are_ranks" "are_ranks" s_are_ranks f fd) (T : Txt K mg) (c_is_thing : Cal P w K mg base "is_thing" 2 ["thing", "many"] (spThing)) : FnOk P w K mg base CX0 3 f fd ["thing", "many"] (spRanks) := by
  refine F.ok sc_are_ranks (fun vs H Q E h => ?_) (fun cdv A outer s H vs Q E hr h => ?_)
  · obtain ⟨a, ranks, n, rfl, _⟩ := h
    rfl
  · have hu := hu_of hr
    have nd := sc_are_ranks.nd
    refine ⟨_, PSs.nox (pss_cons (ps_if (PW.pt (pw_or (pt_not (pt_val (pe_callB call_isi (by rfl) T.isinstance (by decide +kernel) (pa_cons (pv 0) (pa_cons (pe_bty (n := "list") (by rfl) T.list (by decide +kernel)) pa_nil))))) (pw_or1 (pt_cmpR op_gt (pe_callB call_len_seq (by rfl) T.len (by decide +kernel) (pa_cons (pv 0) pa_nil)) (pe_ci T.i_MOST_RANKS (by rfl)) (nomark _)))))
      (pss_one ps_never)
      pss_nil)
    (pss_cons (ps_set (i := 2) nd rfl (Or.inl rfl) (pe_lst pa_nil))
    (pss_cons (ps_for PassesOwn.never rfl (pi_list (pv 0)) (pg_name (i := 3) nd rfl (Or.inl rfl))
      (pss_cons (ps_if (PW.pt (pw_or (pt_not (pt_val (pe_callB call_isi (by rfl) T.isinstance (by decide +kernel) (pa_cons (pv 3) (pa_cons (pe_bty (n := "list") (by rfl) T.list (by decide +kernel)) pa_nil))))) (pw_or1 (pt_cmpR (op_eqD hr.units) (pv 3) (pe_lst pa_nil) (nomark _)))))
        (pss_one ps_never)
        pss_nil)
      (pss_one (ps_for PassesOwn.never rfl (pi_list (pv 3)) (pg_name (i := 4) nd rfl (Or.inl rfl))
        (pss_cons (ps_if (PW.pt (pw_or (pt_not (pt_val (pe_call c_is_thing.ok (hr.mono (by decide)) (by rfl) c_is_thing.g c_is_thing.kp c_is_thing.b .nil pass0 (pa_cons (pv 4) (pa_cons (pv 1) pa_nil))))) (pw_or1 (pt_cmpR op_in_seq (pv 4) (pv 2) rfl))))
          (pss_one ps_never)
          pss_nil)
        (pss_one (ps_expr (pe_bm PySem.F.plainAttrs_list PySem.F.slot_list_append PySem.F.type_list_append mt_append (pv 2) (pa_cons (pv 4) pa_nil)))))))))
    (pss_one (ps_ret pe_bl))))), ?_⟩
    obtain ⟨a, ranks, n, rfl, ⟨as, hA, hn, hR⟩, ok, n6, k⟩ := h
    refine ⟨_, rfl, _, _, _, _, true, rfl, .ty _, .base (.lst hA), kit_ty (by decide +kernel), true, rfl, ifF rfl ?_⟩
    have hl := ok.len
    refine ⟨_, rfl, _, _, rfl, .inl (SqL.of hA), _, _, rfl, rfl, _, rfl, ifF (decide_eq_false (by rw [List.length_map]; omega)) ?_⟩
    refine ⟨Nat.zero_le _, fun p hp => ?_⟩
    have s1 : Same H (upd H p (.lst [])) := same_new hp
    refine ⟨_, rfl, _, rfl, ⟨_, SqL.of (s1 _ _ hA)⟩, for_list (xs := as.map V.ref) (fun i σ H' => ∃ v3 v4, σ = [some (.ref a), some (nV n), some (.ref p), v3, v4] ∧ Same H H' ∧ H' p = some (.lst ((ranks.take i).flatten.map nV)))
      ⟨_, _, rfl, s1, upd_same⟩ (fun i σ H' _ ⟨_, _, _, s, _⟩ => SqL.of (s _ _ hA)) ?_ ?_⟩
    · rintro i x σ H' hx ⟨v3, v4, rfl, s, hL⟩
      obtain ⟨b, hb, rfl⟩ := get_map hx
      have hi : i < ranks.length := by rw [← hn]; exact lt_of_get hb
      have hb2 := s _ _ (hR i b ranks[i] hb (List.getElem?_eq_getElem hi))
      have hm : ranks[i] ∈ ranks := List.getElem_mem hi
      refine ⟨_, rfl, _, _, _, _, true, rfl, .ty _, .base (.lst hb2), kit_ty (by decide +kernel), true, rfl, ifF rfl ?_⟩
      refine ⟨_, rfl, Nat.zero_le _, fun q hq => eqN_nil ((same_new hq) _ _ hb2) upd_same ⟨_, rfl, ifF ?_ ?_⟩⟩
      · have := ok.ne _ hm
        cases e : ranks[i] with
        | nil => exact absurd e this
        | cons _ _ => rfl
      have s2 := same_and (o := .lst []) s hq
      refine ⟨_, rfl, _, rfl, ⟨_, SqL.of ((same_new hq) _ _ hb2)⟩, for_list (xs := ranks[i].map nV) (fun j σ H' => ∃ v4, σ = [some (.ref a), some (nV n), some (.ref p), some (.ref b), v4] ∧ Same H H' ∧ H' p = some (.lst (((ranks.take i).flatten ++ ranks[i].take j).map nV)))
        ⟨_, rfl, s2, by rw [upd_ne (ne_of_none hL hq)]; simpa using hL⟩ (fun j σ H' _ ⟨_, _, s, _⟩ => SqL.of (s _ _ (hR i b ranks[i] hb (List.getElem?_eq_getElem hi)))) ?_ ?_⟩
      · rintro j x σ H3 hx ⟨v4, rfl, s3, hL3⟩
        obtain ⟨t, ht, rfl⟩ := get_nV hx
        have hj := lt_of_get ht
        have et : ranks[i][j] = t := by
          rw [List.getElem?_eq_getElem hj] at ht
          exact Option.some.inj ht
        have tn : t < n := ok.lt _ hm t (List.mem_of_getElem? ht)
        refine ⟨_, rfl, _, rfl, t, n, rfl, tn, true, rfl, ifF rfl ?_⟩
        have e1 : ranks.flatten = ((ranks.take i).flatten ++ ranks[i].take j) ++ (t :: (ranks[i].drop (j + 1) ++ (ranks.drop (i + 1)).flatten)) := by
          conv => lhs; rw [← List.take_append_drop i ranks, List.flatten_append, List.drop_eq_getElem_cons hi, List.flatten_cons]
          rw [List.append_assoc]
          congr 1
          conv => lhs; lhs; rw [← List.take_append_drop j ranks[i], List.drop_eq_getElem_cons hj, et]
          simp
        have hnot : ¬ t ∈ (ranks.take i).flatten ++ ranks[i].take j := by
          have nd1 := ok.nd
          rw [e1] at nd1
          exact fun q => (List.nodup_append.mp nd1).2.2 t q t List.mem_cons_self rfl
        refine ⟨_, rfl, _, rfl, p, _, rfl, .inl (SqL.of hL3), rfl, flat_nV _, _, rfl, ifF ?_ ?_⟩
        · show inV (nV t) _ = false
          rw [inV_nV, decide_eq_false hnot]
        refine ⟨_, rfl, .inl ⟨rfl, _, SqL.of hL3⟩, _, rfl, p, _, _, rfl, rfl, hL3, ?_, ?_⟩
        · refine sl100 ?_
          have := ok.flen
          rw [e1, List.length_append] at this
          rw [List.length_map]
          omega
        · refine ⟨_, rfl, same_mut s3 hp, ?_⟩
          rw [upd_same, take_snoc ht, ← List.append_assoc, List.map_append (l₂ := [t])]
          rfl
      · rintro σ H3 ⟨v4, rfl, s3, hL3⟩
        refine ⟨_, _, rfl, s3, ?_⟩
        rw [hL3, take_all, take_snoc (List.getElem?_eq_getElem hi), List.flatten_append, List.flatten_singleton]
    · rintro σ H' ⟨v3, v4, rfl, s, hL⟩
      exact k H' s
abbrev N_look_at_wishes : List Str := ["thing", "copies", "lists", "number", "many", "ranks"]
theorem sc_look_at_wishes : FnScope N_look_at_wishes ["thing"] (defScope s_look_at_wishes) := ⟨rfl, rfl, rfl, by decide +kernel, rfl, by decide +kernel, by decide +kernel⟩
theorem ok_look_at_wishes {f : Addr} {fd : FuncData} (F : FnP K "look_at_wishes" "look_at_wishes" s_look_at_wishes f fd) (T : Txt K mg) (c_are_ranks : Cal P w K mg base "are_ranks" 3 ["thing", "many"] (spRanks)) (c_is_many : Cal P w K mg base "is_many" 2 ["thing"] (spMany)) (c_need_row : Cal P w K mg base "need_row" 1 ["part", "thing", "most"] (spNeedRow)) : FnOk P w K mg base CX0 4 f fd ["thing"] (spLook) := by
  refine F.ok sc_look_at_wishes (fun vs H Q E h => ?_) (fun cdv A outer s H vs Q E hr h => ?_)
  · obtain ⟨a, w, rfl, _⟩ := h
    rfl
  · have hu := hu_of hr
    have nd := sc_look_at_wishes.nd
    refine ⟨_, PSs.nox (pss_cons (ps_if (PW.pt (pw_or (pt_not (pt_val (pe_callB call_isi (by rfl) T.isinstance (by decide +kernel) (pa_cons (pv 0) (pa_cons (pe_bty (n := "tuple") (by rfl) T.tuple (by decide +kernel)) pa_nil))))) (pw_or1 (pt_cmpR op_ne (pe_callB call_len_seq (by rfl) T.len (by decide +kernel) (pa_cons (pv 0) pa_nil)) pe_int (nomark _)))))
      (pss_one ps_never)
      pss_nil)
    (pss_cons (ps_asg (pv 0) (pg_tup rfl (pgs_cons (pg_name (i := 1) nd rfl (Or.inl rfl)) (pgs_cons (pg_name (i := 2) nd rfl (Or.inl rfl)) pgs_nil))))
    (pss_cons (ps_expr (pe_call c_need_row.ok (hr.mono (by decide)) (by rfl) c_need_row.g c_need_row.kp c_need_row.b .nil pass0 (pa_cons pe_str (pa_cons (pv 1) (pa_cons (pe_ci T.i_MOST_THINGS_wishes (by rfl)) pa_nil)))))
    (pss_cons (ps_for PassesOwn.never rfl (pi_enum (by rfl) T.enumerate (pa_cons (pv 1) pa_nil)) (pg_tup rfl (pgs_cons (pg_name (i := 3) nd rfl (Or.inl rfl)) (pgs_cons (pg_name (i := 4) nd rfl (Or.inl rfl)) pgs_nil)))
      (pss_one (ps_if (pt_not (pt_val (pe_call c_is_many.ok (hr.mono (by decide)) (by rfl) c_is_many.g c_is_many.kp c_is_many.b .nil pass0 (pa_cons (pv 4) pa_nil))))
        (pss_one ps_never)
        pss_nil)))
    (pss_cons (ps_expr (pe_call c_need_row.ok (hr.mono (by decide)) (by rfl) c_need_row.g c_need_row.kp c_need_row.b .nil pass0 (pa_cons pe_str (pa_cons (pv 2) (pa_cons (pe_ci T.i_MOST_ASKERS (by rfl)) pa_nil)))))
    (pss_one (ps_for PassesOwn.never rfl (pi_enum (by rfl) T.enumerate (pa_cons (pv 2) pa_nil)) (pg_tup rfl (pgs_cons (pg_name (i := 3) nd rfl (Or.inl rfl)) (pgs_cons (pg_name (i := 5) nd rfl (Or.inl rfl)) pgs_nil)))
      (pss_one (ps_if (pt_not (pt_val (pe_call c_are_ranks.ok (hr.mono (by decide)) (by rfl) c_are_ranks.g c_are_ranks.kp c_are_ranks.b .nil pass0 (pa_cons (pv 5) (pa_cons (pe_callB call_len_seq (by rfl) T.len (by decide +kernel) (pa_cons (pv 1) pa_nil)) pa_nil)))))
        (pss_one ps_never)
        pss_nil))))))))), ?_⟩
    obtain ⟨a, w, rfl, ⟨c, l, hA, hC, as, hL, hn, hR⟩, ok, k⟩ := h
    refine ⟨_, rfl, _, _, _, _, true, rfl, .ty _, .base (.tup hA), kit_ty (by decide +kernel), true, rfl, ifF rfl ?_⟩
    refine ⟨_, rfl, _, _, rfl, .inr (SqT.of hA), rfl, _, rfl, ifF rfl ?_⟩
    refine ⟨_, rfl, a, _, rfl, SqT.of hA, rfl, _, _, rfl, _, _, rfl, rfl, ?_⟩
    refine ⟨_, rfl, _, .non, c, _, 6, rfl, hC, ?_, ?_, ?_⟩
    · have := ok.c1
      rw [List.length_map]
      exact this
    · have := ok.c6
      rw [List.length_map]
      omega
    refine ⟨_, rfl, c, _, rfl, SqL.of hC, for_enum (fun i σ H' => ∃ v3 v4 v5, σ = [some (.ref a), some (.ref c), some (.ref l), v3, v4, v5] ∧ Same H H') ⟨_, _, _, rfl, Same.refl H⟩ (fun i σ H' _ ⟨_, _, _, _, s⟩ => SqL.of (s _ _ hC)) ?_ ?_⟩
    · rintro i y T σ H' hy ⟨v3, v4, v5, rfl, s⟩ hT
      obtain ⟨x, hx, rfl⟩ := get_nV hy
      refine pair_to ?_
      refine ⟨_, rfl, x, rfl, ok.c7 _ (List.mem_of_getElem? hx), true, rfl, ifF rfl ?_⟩
      exact ⟨_, _, _, rfl, same_and s hT⟩
    rintro σ H1 ⟨v3, v4, v5, rfl, s1⟩
    refine ⟨_, rfl, _, .non, l, _, 7, rfl, s1 _ _ hL, ?_, ?_, ?_⟩
    · have := ok.l1
      rw [List.length_map, hn]
      exact this
    · have := ok.l7
      rw [List.length_map, hn]
      omega
    refine ⟨_, rfl, l, _, rfl, SqL.of (s1 _ _ hL), for_enum (fun i σ H' => ∃ v3 v4 v5, σ = [some (.ref a), some (.ref c), some (.ref l), v3, v4, v5] ∧ Same H H') ⟨_, _, _, rfl, s1⟩ (fun i σ H' _ ⟨_, _, _, _, s⟩ => SqL.of (s _ _ hL)) ?_ ?_⟩
    · rintro i y T σ H' hy ⟨v3, v4, v5, rfl, s⟩ hT
      obtain ⟨b, hb, rfl⟩ := get_map hy
      have hi : i < w.l.length := by rw [← hn]; exact lt_of_get hb
      have s2 := same_and (o := .tup [.int (i : Int), .ref b]) s hT
      refine pair_to ?_
      refine ⟨_, rfl, _, rfl, c, _, rfl, .inl (SqL.of (s2 _ _ hC)), b, w.l[i], w.c.length, by rw [List.length_map]; rfl, (hR i b _ hb (List.getElem?_eq_getElem hi)).mono s2, ok.rk _ (List.getElem_mem hi), ok.c6, fun H3 s3 => ?_⟩
      exact ⟨true, rfl, ifF rfl ⟨_, _, _, rfl, s2.trans s3⟩⟩
    · rintro σ H3 ⟨v3, v4, v5, rfl, s3⟩
      exact k H3 s3
end
end Wd
namespace Wd
open PySem PySem.Spec PyProof.Rows L2
/-! ### what is computed -/
def maxL : List Nat → Nat
  | [] => 0
  | a :: r => max a (maxL r)
theorem maxL_ge : ∀ {l : List Nat} {a : Nat}, a ∈ l → a ≤ maxL l
  | b :: r, a, h => by
    rcases List.mem_cons.mp h with e | e
    · subst e
      exact Nat.le_max_left _ _
    · exact Nat.le_trans (maxL_ge e) (Nat.le_max_right _ _)
theorem maxL_in : ∀ {l : List Nat}, l ≠ [] → maxL l ∈ l
  | [], h => absurd rfl h
  | [a], _ => by simp [maxL]
  | a :: b :: r, _ => by
    have h := maxL_in (l := b :: r) (by simp)
    show max a (maxL (b :: r)) ∈ a :: b :: r
    by_cases q : maxL (b :: r) ≤ a
    · rw [Nat.max_eq_left q]
      exact List.mem_cons_self
    · rw [Nat.max_eq_right (by omega)]
      exact List.mem_cons_of_mem _ h
theorem maxL_eq {l : List Nat} {m : Int} (h : m ∈ l.map fun n : Nat => (n : Int)) (hm : ∀ y ∈ l.map fun n : Nat => (n : Int), y ≤ m) : m = (maxL l : Nat) := by
  obtain ⟨n, hn, rfl⟩ := List.mem_map.mp h
  have h1 := maxL_ge hn
  have h2 := hm _ (List.mem_map.mpr ⟨_, maxL_in (by intro q; rw [q] at hn; cases hn), rfl⟩)
  omega
def wlong (w : Wi) : Nat := maxL (w.l.map List.length)
theorem map_nV (ns : List Nat) : (ns.map fun n : Nat => (n : Int)).map V.int = ns.map nV := by
  rw [List.map_map]
  rfl
theorem sum_cast : ∀ ns : List Nat, (ns.map fun n : Nat => (n : Int)).sum = (ns.sum : Nat)
  | [] => rfl
  | a :: r => by
    rw [List.map_cons, List.sum_cons, List.sum_cons, sum_cast r]
    omega
/-- the copies of a thing -/
def cps (cs : List Nat) (t : Nat) : List Nat := (List.range (cs.getD t 0)).map fun j => (cs.take t).sum + j
def spLong : Sp := fun vs H Q _ => ∃ (a : Addr) (w : Wi), vs = [.ref a] ∧ WAt H a w ∧ w.Ok ∧ ∀ H', Same H H' → Q (nV (wlong w)) H'
/-- wishes that can be told copy by copy -/
structure Wi.Sg (w : Wi) : Prop extends w.Ok where
  s1 : 1 ≤ w.c.sum
  s6 : w.c.sum ≤ 6
def spLookS : Sp := fun vs H Q _ => ∃ (a : Addr) (w : Wi), vs = [.ref a] ∧ WAt H a w ∧ w.Sg ∧ ∀ H', Same H H' → Q .non H'
/-- the lists of copies at these places -/
structure NumsAt (H0 H : Hp) (cs : List Nat) (ps : List Addr) (f : Nat → List Nat) : Prop where
  len : ps.length = cs.length
  nd : ps.Nodup
  new : ∀ q ∈ ps, H0 q = Option.none
  at_ : ∀ (i : Nat) (q : Addr), ps[i]? = some q → H q = some (.lst ((f i).map nV))
def spNums : Sp := fun vs H Q _ => ∃ (c : Addr) (cs : List Nat), vs = [.ref c] ∧ H c = some (.lst (cs.map nV)) ∧ cs.length ≤ 6 ∧ cs.sum ≤ 6 ∧
  ∀ p ps H', H p = Option.none → Same H H' → H' p = some (.lst (ps.map V.ref)) → p ∉ ps → NumsAt H H' cs ps (cps cs) → Q (.ref p) H'
section
variable {P : Program} {w : World} {K : PySem.W.Frag} {mg : Str → Option Value} {base : Heap}
abbrev N_longest : List Str := ["wishes", "ranks"]
theorem sc_longest : FnScope N_longest ["wishes"] (defScope s_longest) := ⟨rfl, rfl, rfl, by decide +kernel, rfl, by decide +kernel, by decide +kernel⟩
theorem ok_longest {f : Addr} {fd : FuncData} (F : FnP K "longest" "longest" s_longest f fd) (T : Txt K mg) (c_look_at_wishes : Cal P w K mg base "look_at_wishes" 4 ["thing"] (spLook)) : FnOk P w K mg base CX0 5 f fd ["wishes"] (spLong) := by
  refine F.ok sc_longest (fun vs H Q E h => ?_) (fun cdv A outer s H vs Q E hr h => ?_)
  · obtain ⟨a, w, rfl, _⟩ := h
    rfl
  · have hu := hu_of hr
    have nd := sc_longest.nd
    refine ⟨_, PSs.nox (pss_cons (ps_expr (pe_call c_look_at_wishes.ok (hr.mono (by decide)) (by rfl) c_look_at_wishes.g c_look_at_wishes.kp c_look_at_wishes.b .nil pass0 (pa_cons (pv 0) pa_nil)))
    (pss_one (ps_ret (pe_callB (cr_max rfl) (by rfl) T.max (by decide +kernel) (pa_cons (pe_lc (own := [("ranks", 1)]) (g := (gName 1)) (tt := tYes) (te := (tCB (rLen2 K) (tCons (tVar 1) tNil))) (by rfl) nd (pi_list (pe_ix ix_tup (pv 0) pe_int (fun _ _ => rfl))) (blkOk_by (own := [("ranks", 1)]) (N := N_longest) (sc := defScope s_longest) (by decide +kernel)) (fun _ _ _ _ _ => (pg_name (i := 1) nd rfl (Or.inl rfl))) (fun _ _ _ _ _ => pts_nil) (fun _ _ _ _ _ => (pe_callB (r := rLen2 K) call_len_seq (by rfl) T.len (by decide +kernel) (pa_cons (pv 1) pa_nil)))) pa_nil))))), ?_⟩
    obtain ⟨a, w, rfl, hW, ok, k⟩ := h
    refine ⟨_, rfl, a, w, rfl, hW, ok, fun H1 s1 => ?_⟩
    obtain ⟨c, l, hA, hC, as, hL, hn, hR⟩ := hW.mono s1
    refine ⟨_, rfl, a, _, 1, _, rfl, rfl, SqT.of hA, rfl, l, rfl, ⟨_, SqL.of hL⟩, fun D hD => ?_⟩
    refine lc_list (xs := as.map V.ref) (fun i H' => Same H1 H' ∧ H' D = some (.lst ((w.l.take i).map fun r => nV r.length))) ⟨same_new hD, upd_same⟩ (fun i H' _ ⟨s, _⟩ => SqL.of (s _ _ hL)) ?_ ?_
    · rintro i x H' hx ⟨s, hL2⟩
      obtain ⟨b, hb, rfl⟩ := get_map hx
      have hi : i < w.l.length := by rw [← hn]; exact lt_of_get hb
      obtain ⟨bs, hB, hbn, _⟩ := (hR i b w.l[i] hb (List.getElem?_eq_getElem hi)).mono s
      refine ⟨rfl, yes_ ⟨_, rfl, b, _, rfl, .inl (SqL.of hB), _, hL2, ?_, same_mut s hD, ?_⟩⟩
      · have := ok.l7
        rw [List.length_map, List.length_take]
        exact sl100 (by omega)
      · rw [upd_same, take_snoc (List.getElem?_eq_getElem hi), List.map_append, List.length_map, hbn]
        rfl
    · rintro H' ⟨s, hL2⟩
      rw [List.length_map, hn, List.take_length] at hL2
      have e : (w.l.map fun r => nV r.length) = ((w.l.map List.length).map fun n : Nat => (n : Int)).map V.int := by
        rw [List.map_map, List.map_map]
        rfl
      rw [e] at hL2
      refine ⟨D, _, rfl, SqL.of hL2, ?_, fun m h1 h2 => ?_⟩
      · have := ok.l1
        rw [List.length_map, List.length_map]
        omega
      · rw [maxL_eq h1 h2]
        exact k H' (s1.trans s)
abbrev N_look_at_singles : List Str := ["wishes"]
theorem sc_look_at_singles : FnScope N_look_at_singles ["wishes"] (defScope s_look_at_singles) := ⟨rfl, rfl, rfl, by decide +kernel, rfl, by decide +kernel, by decide +kernel⟩
theorem ok_look_at_singles {f : Addr} {fd : FuncData} (F : FnP K "look_at_singles" "look_at_singles" s_look_at_singles f fd) (T : Txt K mg) (c_look_at_wishes : Cal P w K mg base "look_at_wishes" 4 ["thing"] (spLook)) : FnOk P w K mg base CX0 5 f fd ["wishes"] (spLookS) := by
  refine F.ok sc_look_at_singles (fun vs H Q E h => ?_) (fun cdv A outer s H vs Q E hr h => ?_)
  · obtain ⟨a, w, rfl, _⟩ := h
    rfl
  · have hu := hu_of hr
    have nd := sc_look_at_singles.nd
    refine ⟨_, PSs.nox (pss_cons (ps_expr (pe_call c_look_at_wishes.ok (hr.mono (by decide)) (by rfl) c_look_at_wishes.g c_look_at_wishes.kp c_look_at_wishes.b .nil pass0 (pa_cons (pv 0) pa_nil)))
    (pss_one (ps_if (pt_not (pt_chain op_le op_le pe_int (pe_callB (cr_sum rfl) (by rfl) T.sum (by decide +kernel) (pa_cons (pe_ix ix_tup (pv 0) pe_int (fun _ _ => rfl)) pa_nil)) (pe_ci T.i_MOST_THINGS_singles (by rfl))))
      (pss_one ps_never)
      pss_nil))), ?_⟩
    obtain ⟨a, w, rfl, hW, ok, k⟩ := h
    refine ⟨_, rfl, a, w, rfl, hW, ok.toOk, fun H1 s1 => ?_⟩
    obtain ⟨c, l, hA, hC, as, hL, hn, hR⟩ := hW.mono s1
    have e := sum_cast w.c
    have h1 := ok.s1
    have h6 := ok.s6
    rw [← map_nV] at hC
    refine ⟨_, rfl, a, _, 0, _, rfl, rfl, SqT.of hA, rfl, c, _, rfl, SqL.of hC, _, _, rfl, rfl, _, rfl, ifT (decide_eq_true (by omega)) ?_⟩
    exact ⟨_, _, rfl, rfl, _, rfl, ifF (by rw [decide_eq_true (by omega)]; rfl) (k H1 s1)⟩
abbrev N_numbers_of : List Str := ["copies", "found", "many", "number"]
theorem sc_numbers_of : FnScope N_numbers_of ["copies"] (defScope s_numbers_of) := ⟨rfl, rfl, rfl, by decide +kernel, rfl, by decide +kernel, by decide +kernel⟩
theorem ok_numbers_of {f : Addr} {fd : FuncData} (F : FnP K "numbers_of" "numbers_of" s_numbers_of f fd) (T : Txt K mg)  : FnOk P w K mg base CX0 1 f fd ["copies"] (spNums) := by
  refine F.ok sc_numbers_of (fun vs H Q E h => ?_) (fun cdv A outer s H vs Q E hr h => ?_)
  · obtain ⟨c, cs, rfl, _⟩ := h
    rfl
  · have hu := hu_of hr
    have nd := sc_numbers_of.nd
    refine ⟨_, PSs.nox (pss_cons (ps_set (i := 1) nd rfl (Or.inl rfl) (pe_lst pa_nil))
    (pss_cons (ps_set (i := 2) nd rfl (Or.inl rfl) pe_int)
    (pss_cons (ps_for PassesOwn.never rfl (pi_list (pv 0)) (pg_name (i := 3) nd rfl (Or.inl rfl))
      (pss_cons (ps_expr (pe_bm PySem.F.plainAttrs_list PySem.F.slot_list_append PySem.F.type_list_append mt_append (pv 1) (pa_cons (pe_listRg rfl (by rfl) T.list (prg_2 (by rfl) T.range (pv 2) (pe_op op_add (pv 2) (pv 3)))) pa_nil)))
      (pss_one (ps_aug (i := 2) nd rfl (Or.inl rfl) (pv 3) ip_add))))
    (pss_one (ps_ret (pv 1)))))), ?_⟩
    obtain ⟨c, cs, rfl, hC, h6, hs, k⟩ := h
    refine ⟨Nat.zero_le _, fun p hp => ?_⟩
    have s1 : Same H (upd H p (.lst [])) := same_new hp
    refine ⟨_, rfl, _, rfl, ⟨_, SqL.of (s1 _ _ hC)⟩, for_list (xs := cs.map nV) (fun i σ H' => ∃ (v3 : Option V) (ps : List Addr), σ = [some (.ref c), some (.ref p), some (nV (cs.take i).sum), v3] ∧ Same H H' ∧ H' p = some (.lst (ps.map V.ref)) ∧ p ∉ ps ∧ NumsAt H H' (cs.take i) ps (cps cs))
      ⟨_, [], rfl, s1, upd_same, by simp, rfl, List.nodup_nil, (fun q h => by cases h), fun i q h => by simp at h⟩ (fun i σ H' _ ⟨_, _, _, s, _⟩ => SqL.of (s _ _ hC)) ?_ ?_⟩
    · rintro i x σ H' hx ⟨v3, ps, rfl, s, hL, hpp, hN⟩
      obtain ⟨n, hn, rfl⟩ := get_nV hx
      have hi := lt_of_get hn
      have hle : (cs.take i).sum + n ≤ cs.sum := by
        have := congrArg List.sum (List.take_append_drop (i + 1) cs)
        rw [List.sum_append, take_snoc hn, List.sum_append] at this
        simp at this
        omega
      refine ⟨_, rfl, .inl ⟨rfl, _, SqL.of hL⟩, _, rfl, _, rfl, _, rfl, _, _, rfl, rfl, _, _, rfl, rfl, ?_⟩
      refine ⟨RgOk.of_le (by omega) (by omega) (by omega) (by omega), fun q hq => ?_⟩
      have nqp : p ≠ q := ne_of_none hL hq
      refine ⟨p, _, _, rfl, rfl, by rw [upd_ne nqp]; exact hL, ?_, ?_⟩
      · have := hN.len
        rw [List.length_map, this, List.length_take]
        exact sl100 (by omega)
      refine ⟨_, rfl, _, rfl, _, _, rfl, rfl, ?_⟩
      have es : (cs.take (i + 1)).sum = (cs.take i).sum + n := by
        rw [take_snoc hn, List.sum_append]
        simp
      have new : ∀ q' ∈ ps, q' ≠ q := fun q' h' e => by
        obtain ⟨j, hj, e2⟩ := List.mem_iff_getElem.mp h'
        have := hN.at_ j q' (by rw [← e2]; exact List.getElem?_eq_getElem hj)
        rw [e, hq] at this
        cases this
      refine ⟨some (nV n), ps ++ [q], ?_, same_mut (same_and s hq) hp, ?_, ?_, ⟨?_, ?_, fun q' h' => ?_, fun j q' h' => ?_⟩⟩
      · rw [es]
        rfl
      · rw [upd_same, List.map_append]
        rfl
      · intro h
        rcases List.mem_append.mp h with h | h
        · exact hpp h
        · exact nqp (List.mem_singleton.mp h)
      · rw [List.length_append, hN.len, take_snoc hn, List.length_append]
        rfl
      · exact nd_snoc hN.nd fun h => new q h rfl
      · rcases List.mem_append.mp h' with h | h
        · exact hN.new q' h
        · rw [List.mem_singleton.mp h]
          exact s.free hq
      · have hlen : ps.length = i := by
          rw [hN.len, List.length_take]
          omega
        by_cases e : j < ps.length
        · rw [List.getElem?_append_left e] at h'
          have hm := List.mem_of_getElem? h'
          rw [upd_ne (fun z => hpp (by rw [← z]; exact hm)), upd_ne (new q' hm)]
          exact hN.at_ j q' h'
        · rw [List.getElem?_append_right (by omega)] at h'
          have ej : j = i := by
            have := lt_of_get h'
            simp at this
            omega
          subst ej
          have : q = q' := by
            rw [hlen, Nat.sub_self] at h'
            exact Option.some.inj h'
          subst this
          rw [upd_ne nqp.symm, upd_same]
          congr 2
          unfold rgV cps
          have et : ((((cs.take j).sum : Nat) : Int) + (n : Int) - (((cs.take j).sum : Nat) : Int)).toNat = n := by omega
          rw [et, List.getD_eq_getElem?_getD, hn, List.map_map]
          refine List.map_congr_left fun z _ => ?_
          show V.int _ = V.int _
          congr 1
    · rintro σ H' ⟨v3, ps, rfl, s, hL, hpp, hN⟩
      rw [List.length_map, List.take_length] at hN
      exact ⟨_, rfl, k p ps H' hp s hL hpp hN⟩
end
end Wd
namespace Wd
open PySem PySem.Spec PyProof.Rows L2
/-- a heap without one of its objects -/
def del (H : Hp) (p : Addr) : Hp := fun b => if b = p then Option.none else H b
theorem del_at {H : Hp} {p b : Addr} (h : b ≠ p) : del H p b = H b := if_neg h
theorem del_self {H : Hp} {p : Addr} : del H p p = Option.none := if_pos rfl
theorem del_same {H : Hp} {p : Addr} : Same (del H p) H := fun b o e => by
  by_cases h : b = p
  · subst h
    rw [del_self] at e
    cases e
  · rw [del_at h] at e
    exact e
theorem del_upd {H : Hp} {p : Addr} {o : HO} : del (upd H p o) p = del H p := by
  funext b
  by_cases h : b = p
  · subst h
    rw [del_self, del_self]
  · rw [del_at h, del_at h, upd_ne h]
theorem del_mono {H H' : Hp} {p : Addr} (s : SameX [p] H H') : Same (del H p) (del H' p) := fun b o e => by
  by_cases h : b = p
  · subst h
    rw [del_self] at e
    cases e
  · rw [del_at h] at e ⊢
    exact s b o (by simp [h]) e
theorem del_mono' {H H' : Hp} {p : Addr} (s : Same H H') : Same (del H p) (del H' p) := del_mono (SameX.of s)
/-- a rank, an asker's ranks, wishes, told copy by copy -/
def sgRow (cs : List Nat) (row : List Nat) : List Nat := (row.map (cps cs)).flatten
def sgR (cs : List Nat) (ranks : List (List Nat)) : List (List Nat) := (ranks.map (sgRow cs)).filter fun row => !row.isEmpty
def sgl (w : Wi) : Wi := ⟨List.replicate w.c.sum 1, w.l.map (sgR w.c)⟩
def spSgl : Sp := fun vs H Q _ => ∃ (a : Addr) (w : Wi), vs = [.ref a] ∧ WAt H a w ∧ w.Sg ∧ ∀ p H', H p = Option.none → Same H H' → WAt H' p (sgl w) → Q (.ref p) H'
theorem cps_len (cs : List Nat) (t : Nat) : (cps cs t).length = cs.getD t 0 := by
  unfold cps
  rw [List.length_map, List.length_range]
theorem getD_le_sum (cs : List Nat) (t : Nat) : cs.getD t 0 ≤ cs.sum := by
  induction cs generalizing t with
  | nil => simp
  | cons a r ih =>
    cases t with
    | zero => simp
    | succ t =>
      have := ih t
      simp at this ⊢
      omega
theorem flat_len (cs : List Nat) {B : Nat} (hB : cs.sum ≤ B) : ∀ row : List Nat, (sgRow cs row).length ≤ row.length * B
  | [] => by simp [sgRow]
  | t :: r => by
    have h := flat_len cs hB r
    have h1 := getD_le_sum cs t
    unfold sgRow at h ⊢
    rw [List.map_cons, List.flatten_cons, List.length_append, cps_len, List.length_cons, Nat.add_mul]
    omega
section
variable {P : Program} {w : World} {K : PySem.W.Frag} {mg : Str → Option Value} {base : Heap}
abbrev N_singled : List Str := ["wishes", "copies", "lists", "numbers", "found", "ranks", "rows", "thing", "rank", "row"]
theorem sc_singled : FnScope N_singled ["wishes"] (defScope s_singled) := ⟨rfl, rfl, rfl, by decide +kernel, rfl, by decide +kernel, by decide +kernel⟩
theorem ok_singled {f : Addr} {fd : FuncData} (F : FnP K "singled" "singled" s_singled f fd) (T : Txt K mg) (c_look_at_singles : Cal P w K mg base "look_at_singles" 5 ["wishes"] (spLookS)) (c_numbers_of : Cal P w K mg base "numbers_of" 1 ["copies"] (spNums)) : FnOk P w K mg base CX0 6 f fd ["wishes"] (spSgl) := by
  refine F.ok sc_singled (fun vs H Q E h => ?_) (fun cdv A outer s H vs Q E hr h => ?_)
  · obtain ⟨a, w, rfl, _⟩ := h
    rfl
  · have hu := hu_of hr
    have nd := sc_singled.nd
    refine ⟨_, PSs.nox (pss_cons (ps_expr (pe_call c_look_at_singles.ok (hr.mono (by decide)) (by rfl) c_look_at_singles.g c_look_at_singles.kp c_look_at_singles.b .nil pass0 (pa_cons (pv 0) pa_nil)))
    (pss_cons (ps_asg (pv 0) (pg_tup rfl (pgs_cons (pg_name (i := 1) nd rfl (Or.inl rfl)) (pgs_cons (pg_name (i := 2) nd rfl (Or.inl rfl)) pgs_nil))))
    (pss_cons (ps_set (i := 3) nd rfl (Or.inr rfl) (pe_call c_numbers_of.ok (hr.mono (by decide)) (by rfl) c_numbers_of.g c_numbers_of.kp c_numbers_of.b .nil pass0 (pa_cons (pv 1) pa_nil)))
    (pss_cons (ps_set (i := 4) nd rfl (Or.inl rfl) (pe_lst pa_nil))
    (pss_cons (ps_for PassesOwn.never rfl (pi_list (pv 2)) (pg_name (i := 5) nd rfl (Or.inl rfl))
      (pss_cons (ps_setLc (i := 6) (own := [("rank", 8)]) (g := (gName 8)) (tt := tYes) (te := (tCB (rSumL K) (tCons (tLc (iList K (tVar 8)) (gName 7) tYes (tOp (rIxL K) (tVar 3) (tVar 7)) [7]) (tCons (tLst tNil) tNil)))) (by rfl) nd rfl rfl (sw_true rfl rfl rfl (by decide +kernel)) (pi_list (pv 5)) (blkOk_by (own := [("rank", 8)]) (N := N_singled) (sc := defScope s_singled) (by decide +kernel)) (fun _ _ _ _ _ => (pg_name (i := 8) nd rfl (Or.inl rfl))) (fun _ _ _ _ _ => pts_nil) (fun _ _ _ _ _ => (pe_callB (r := rSumL K) (cr_sumL rfl) (by rfl) T.sum (by decide +kernel) (pa_cons (pe_lc (own := [("thing", 7)]) (g := (gName 7)) (tt := tYes) (te := (tOp (rIxL K) (tVar 3) (tVar 7))) (wi := (iList K (tVar 8))) (by rfl) nd (pi_list (pv 8)) (blkOk_by (own := [("thing", 7)]) (N := N_singled) (sc := { kind := .function, names := [(".0", .local), ("rank", .local), ("sum", .globalImplicit), ("numbers", .cell)], isGenerator := false, isCoroutine := false, more := [] }) (by decide +kernel)) (fun _ _ _ _ _ => (pg_name (i := 7) nd rfl (Or.inl rfl))) (fun _ _ _ _ _ => pts_nil) (fun _ _ _ _ _ => (pe_ix (r := rIxL K) ix_list (pv 3) (pv 7) (fun _ _ => rfl)))) (pa_cons (pe_lst pa_nil) pa_nil)))))
      (pss_one (ps_expr (pe_bm PySem.F.plainAttrs_list PySem.F.slot_list_append PySem.F.type_list_append mt_append (pv 4) (pa_cons (pe_lc (own := [("row", 9)]) (g := (gName 9)) (tt := (tTest (tOp (rNeD K) (tVar 9) (tLst tNil)))) (te := (tVar 9)) (by rfl) nd (pi_list (pv 6)) (blkOk_by (own := [("row", 9)]) (N := N_singled) (sc := defScope s_singled) (by decide +kernel)) (fun _ _ _ _ _ => (pg_name (i := 9) nd rfl (Or.inl rfl))) (fun _ _ _ _ _ => (pts_one (pt_cmpR (op_neD hr.units) (pv 9) (pe_lst pa_nil) (nomark _)))) (fun _ _ _ _ _ => (pv 9))) pa_nil))))))
    (pss_one (ps_ret (pe_tup (pa_cons (pe_op op_rep (pe_lst (pa_cons pe_int pa_nil)) (pe_callB (cr_sum rfl) (by rfl) T.sum (by decide +kernel) (pa_cons (pv 1) pa_nil))) (pa_cons (pv 4) pa_nil)))))))))), ?_⟩
    obtain ⟨a, w, rfl, hW, ok, k⟩ := h
    refine ⟨_, rfl, a, w, rfl, hW, ok, fun H1 s1 => ?_⟩
    obtain ⟨c, l, hA, hC, as, hL, hn, hR⟩ := hW.mono s1
    refine ⟨_, rfl, a, _, rfl, SqT.of hA, rfl, _, _, rfl, _, _, rfl, rfl, ?_⟩
    refine ⟨_, rfl, c, w.c, rfl, hC, ok.c6, ok.s6, fun p ps H2 hp s2 hP hpp hN => ?_⟩
    refine ⟨Nat.zero_le _, fun fo hfo => ?_⟩
    have s3 : Same H2 (upd H2 fo (.lst [])) := same_new hfo
    refine ⟨_, rfl, l, rfl, ⟨_, SqL.of (s3 _ _ (s2 _ _ hL))⟩, for_list (xs := as.map V.ref) (fun i σ H' => ∃ (v5 v6 v7 v8 v9 : Option V) (qs : List Addr), σ = [some (.ref a), some (.ref c), some (.ref l), some (.ref p), some (.ref fo), v5, v6, v7, v8, v9] ∧
        Same H2 H' ∧ H' fo = some (.lst (qs.map V.ref)) ∧ qs.length = i ∧ ∀ (j : Nat) (q : Addr) (r : List (List Nat)), qs[j]? = some q → w.l[j]? = some r → RanksAt (del H' fo) q (sgR w.c r))
      ⟨_, _, _, _, _, [], rfl, s3, upd_same, rfl, fun j q r h => by simp at h⟩ (fun i σ H' _ ⟨_, _, _, _, _, _, _, s, _⟩ => SqL.of (s _ _ (s2 _ _ hL))) ?_ ?_⟩
    · rintro i x σ H' hx ⟨v5, v6, v7, v8, v9, qs, rfl, s, hF, hq, hQs⟩
      obtain ⟨b, hb, rfl⟩ := get_map hx
      have hi : i < w.l.length := by rw [← hn]; exact lt_of_get hb
      have hwl : w.l[i]? = some w.l[i] := List.getElem?_eq_getElem hi
      generalize w.l[i] = ranks at hwl
      have rk := ok.rk ranks (List.mem_of_getElem? hwl)
      obtain ⟨bs, hB, hbn, hBs⟩ := (hR i b ranks hb hwl).mono (s2.trans s)
      -- rows = [sum([numbers[thing] for thing in rank], []) for rank in ranks]
      refine ⟨_, rfl, b, rfl, ⟨_, SqL.of hB⟩, fun D hD => ?_⟩
      have nDf : fo ≠ D := ne_of_none hF hD
      refine lc_list (xs := bs.map V.ref) (fun j H3 => Same H' H3 ∧ ∃ xs : List Addr, H3 D = some (.lst (xs.map V.ref)) ∧ xs.length = j ∧ ∀ (m : Nat) (x : Addr) (row : List Nat), xs[m]? = some x → ranks[m]? = some row → x ≠ D ∧ x ≠ fo ∧ H3 x = some (.lst ((sgRow w.c row).map nV)))
        ⟨same_new hD, [], upd_same, rfl, fun m x row h => by simp at h⟩ (fun j H3 _ ⟨s, _⟩ => SqL.of (s _ _ hB)) ?_ ?_
      · rintro j y H3 hy ⟨s4, xs, hX, hxn, hXs⟩
        obtain ⟨d, hd, rfl⟩ := get_map hy
        have hj : j < ranks.length := by rw [← hbn]; exact lt_of_get hd
        have hrj : ranks[j]? = some ranks[j] := List.getElem?_eq_getElem hj
        generalize ranks[j] = row at hrj
        have hrm := List.mem_of_getElem? hrj
        have hdr := s4 _ _ (hBs j d row hd hrj)
        have rlen : row.length ≤ 6 := by
          have h1 := rk.flen
          have h2 : row.length ≤ ranks.flatten.length := by
            obtain ⟨l1, l2, e⟩ := List.append_of_mem hrm
            rw [e, List.flatten_append, List.flatten_cons, List.length_append, List.length_append]
            omega
          have := ok.c6
          omega
        refine ⟨rfl, yes_ ?_⟩
        refine ⟨_, rfl, d, rfl, ⟨_, SqL.of hdr⟩, fun D2 hD2 => ?_⟩
        have nD2 : D ≠ D2 := ne_of_none hX hD2
        refine lc_list (xs := row.map nV) (fun m H4 => Same H3 H4 ∧ H4 D2 = some (.lst (((row.take m).map fun t => ps.getD t 0).map V.ref))) ⟨same_new hD2, upd_same⟩ (fun m H4 _ ⟨s, _⟩ => SqL.of (s _ _ hdr)) ?_ ?_
        · rintro m z H4 hz ⟨s5, hD4⟩
          obtain ⟨t, ht, rfl⟩ := get_nV hz
          have htn : t < w.c.length := rk.lt row hrm t (List.mem_of_getElem? ht)
          have htp : t < ps.length := by rw [hN.len]; exact htn
          refine ⟨rfl, yes_ ⟨_, rfl, _, rfl, p, _, (t : Int), _, rfl, rfl, SqL.of ((s.trans (s4.trans s5)) _ _ hP), at_nat V.ref (List.getElem?_eq_getElem htp), _, hD4, ?_, same_mut s5 hD2, ?_⟩⟩
          · rw [List.length_map, List.length_map, List.length_take]
            exact sl100 (by omega)
          · rw [upd_same, take_snoc ht, List.map_append, List.map_append]
            have e : ps.getD t 0 = ps[t] := by rw [List.getD_eq_getElem?_getD, List.getElem?_eq_getElem htp]; rfl
            show _ = some (HO.lst (_ ++ [V.ref (ps.getD t 0)]))
            rw [e]
        · rintro H4 ⟨s5, hD4⟩
          rw [take_all] at hD4
          refine ⟨Nat.zero_le _, fun e he => ?_⟩
          have s6 : Same H4 (upd H4 e (.lst [])) := same_new he
          refine ⟨D2, e, row.map fun t => ps.getD t 0, row.map fun t => (cps w.c t).map nV, rfl, SqL.of (s6 _ _ hD4), upd_same, by rw [List.length_map, List.length_map], ?_, ?_, fun h0 => ?_, fun x hx => ?_⟩
          · intro m q ys h1 h2
            obtain ⟨t, ht, rfl⟩ := get_map h1
            obtain ⟨t2, ht2, rfl⟩ := get_map h2
            rw [ht] at ht2
            cases ht2
            have htn : t < w.c.length := rk.lt row hrm t (List.mem_of_getElem? ht)
            have htp : t < ps.length := by rw [hN.len]; exact htn
            have e : ps.getD t 0 = ps[t] := by rw [List.getD_eq_getElem?_getD, List.getElem?_eq_getElem htp]; rfl
            rw [e]
            exact (s.trans (s4.trans (s5.trans s6))) _ _ (hN.at_ t ps[t] (List.getElem?_eq_getElem htp))
          · have h1 := flat_len w.c ok.s6 row
            have e : (row.map fun t => (cps w.c t).map nV).flatten = (sgRow w.c row).map nV := by
              unfold sgRow
              rw [List.map_flatten, List.map_map]
              rfl
            rw [e, List.length_map]
            exact sz100 (by omega)
          · have := rk.ne row hrm
            exact absurd (List.map_eq_nil_iff.mp h0) this
          · have e1 : (row.map fun t => (cps w.c t).map nV).flatten = (sgRow w.c row).map nV := by
              unfold sgRow
              rw [List.map_flatten, List.map_map]
              rfl
            rw [e1]
            have sA := s5.trans (s6.trans (same_new (o := .lst ((sgRow w.c row).map nV)) hx))
            have hX5 := sA _ _ hX
            have xD : x ≠ D := fun z => by
              rw [z] at hx
              have := (s5.trans s6) _ _ hX
              rw [hx] at this
              cases this
            have xf : x ≠ fo := fun z => by
              rw [z] at hx
              have := (s4.trans (s5.trans s6)) _ _ hF
              rw [hx] at this
              cases this
            refine ⟨_, hX5, ?_, same_mut (s4.trans sA) hD, xs ++ [x], ?_, ?_, fun m y r h1 h2 => ?_⟩
            · have := rk.len
              rw [List.length_map, hxn]
              exact sl100 (by omega)
            · rw [upd_same, List.map_append]
              rfl
            · rw [List.length_append, hxn]
              rfl
            · by_cases hm : m < xs.length
              · rw [List.getElem?_append_left hm] at h1
                obtain ⟨g1, g2, g3⟩ := hXs m y r h1 h2
                exact ⟨g1, g2, by rw [upd_ne g1]; exact sA _ _ g3⟩
              · rw [List.getElem?_append_right (by omega)] at h1
                have em : m = j := by
                  have := lt_of_get h1
                  simp at this
                  omega
                subst em
                rw [hxn, Nat.sub_self] at h1
                cases h1
                rw [hrj] at h2
                cases h2
                exact ⟨xD, xf, by rw [upd_ne xD, upd_same]⟩
      · rintro H3 ⟨s4, xs, hX, hxn, hXs⟩
        rw [List.length_map, hbn] at hxn
        -- found.append([row for row in rows if row != []])
        have hF3 := s4 _ _ hF
        refine ⟨_, rfl, .inl ⟨rfl, _, SqL.of hF3⟩, _, rfl, D, rfl, ⟨_, SqL.of hX⟩, fun D3 hD3 => ?_⟩
        have nF3 : fo ≠ D3 := ne_of_none hF3 hD3
        have ft : ∀ (j : Nat) (r : List Nat), ranks[j]? = some r → ((ranks.take (j + 1)).map (sgRow w.c)).filter (fun row => !row.isEmpty) = ((ranks.take j).map (sgRow w.c)).filter (fun row => !row.isEmpty) ++ if (!(sgRow w.c r).isEmpty) = true then [sgRow w.c r] else [] := fun j r e => by
          rw [take_snoc e, List.map_append, List.filter_append]
          congr 1
          show List.filter _ [sgRow w.c r] = _
          rw [List.filter_cons]
          rfl
        refine lc_list (xs := xs.map V.ref) (fun j H4 => Same H3 H4 ∧ ∃ ys : List Addr, H4 D3 = some (.lst (ys.map V.ref)) ∧ ys.length = (((ranks.take j).map (sgRow w.c)).filter (fun row => !row.isEmpty)).length ∧
            ∀ (m : Nat) (y : Addr) (row : List Nat), ys[m]? = some y → (((ranks.take j).map (sgRow w.c)).filter (fun row => !row.isEmpty))[m]? = some row → y ≠ D3 ∧ y ≠ fo ∧ H4 y = some (.lst (row.map nV)))
          ⟨same_new hD3, [], upd_same, rfl, fun m y row h => by simp at h⟩ (fun j H4 _ ⟨s, _⟩ => SqL.of (s _ _ hX)) ?_ ?_
        · rintro j z H4 hz ⟨s5, ys, hY, hyn, hYs⟩
          obtain ⟨x, hxj, rfl⟩ := get_map hz
          have hj : j < ranks.length := by rw [← hxn]; exact lt_of_get hxj
          have hrj : ranks[j]? = some ranks[j] := List.getElem?_eq_getElem hj
          generalize ranks[j] = row at hrj
          obtain ⟨g1, g2, g3⟩ := hXs j x row hxj hrj
          have g4 := s5 _ _ g3
          have xD3 : x ≠ D3 := ne_of_none g3 hD3
          have hlen : (((ranks.take j).map (sgRow w.c)).filter (fun row => !row.isEmpty)).length ≤ 5 := by
            have h1 := List.length_filter_le (fun row : List Nat => !row.isEmpty) ((ranks.take j).map (sgRow w.c))
            rw [List.length_map, List.length_take] at h1
            have := rk.len
            omega
          refine ⟨rfl, ⟨_, rfl, Nat.zero_le _, fun e he => neN_nil ((same_new he) _ _ g4) upd_same ⟨_, rfl, if2 (fun hb => ?_) fun hb => ?_⟩⟩⟩
          · have s6 := s5.trans (same_new (o := .lst []) he)
            refine ⟨_, rfl, _, (same_new he) _ _ hY, ?_, same_mut s6 hD3, ys ++ [x], ?_, ?_, ?_⟩
            · rw [List.length_map, hyn]
              exact sl100 (by omega)
            · rw [upd_same, List.map_append]
              rfl
            · rw [ft j row hrj, if_pos hb, List.length_append, List.length_append, hyn]
              rfl
            · intro m y r h1 h2
              rw [ft j row hrj, if_pos hb] at h2
              by_cases hm : m < ys.length
              · rw [List.getElem?_append_left hm] at h1
                rw [List.getElem?_append_left (by omega)] at h2
                obtain ⟨q1, q2, q3⟩ := hYs m y r h1 h2
                exact ⟨q1, q2, by rw [upd_ne q1]; exact (same_new he) _ _ q3⟩
              · rw [List.getElem?_append_right (by omega)] at h1
                rw [List.getElem?_append_right (by omega)] at h2
                have em : m = ys.length := by
                  have := lt_of_get h1
                  simp at this
                  omega
                rw [em, Nat.sub_self] at h1
                rw [em, hyn, Nat.sub_self] at h2
                cases h1
                cases h2
                exact ⟨xD3, g2, by rw [upd_ne xD3]; exact (same_new he) _ _ g4⟩
          · have s6 := s5.trans (same_new (o := .lst []) he)
            refine ⟨s6, ys, (same_new he) _ _ hY, ?_, fun m y r h1 h2 => ?_⟩
            · rw [ft j row hrj, if_neg (by rw [hb]; decide), List.append_nil]
              exact hyn
            · rw [ft j row hrj, if_neg (by rw [hb]; decide), List.append_nil] at h2
              obtain ⟨q1, q2, q3⟩ := hYs m y r h1 h2
              exact ⟨q1, q2, (same_new he) _ _ q3⟩
        · rintro H4 ⟨s5, ys, hY, hyn, hYs⟩
          rw [List.length_map, hxn, List.take_length] at hyn hYs
          have hF4 := s5 _ _ hF3
          refine ⟨fo, _, _, rfl, rfl, hF4, ?_, ?_⟩
          · rw [List.length_map, hq]
            have := ok.l7
            exact sl100 (by omega)
          refine ⟨_, _, _, _, _, qs ++ [D3], rfl, same_mut (s.trans (s4.trans s5)) hfo, ?_, ?_, ?_⟩
          · rw [upd_same, List.map_append]
            rfl
          · rw [List.length_append, hq]
            rfl
          · intro j q r h1 h2
            rw [del_upd]
            by_cases hj : j < qs.length
            · rw [List.getElem?_append_left hj] at h1
              exact (hQs j q r h1 h2).mono (del_mono' (s4.trans s5))
            · rw [List.getElem?_append_right (by omega)] at h1
              have ej : j = i := by
                have := lt_of_get h1
                simp at this
                omega
              subst ej
              rw [hq, Nat.sub_self] at h1
              cases h1
              rw [hwl] at h2
              cases h2
              refine ⟨ys, by rw [del_at nF3.symm]; exact hY, hyn, fun m y row h3 h4 => ?_⟩
              obtain ⟨q1, q2, q3⟩ := hYs m y row h3 h4
              rw [del_at q2]
              exact q3
    · rintro σ H' ⟨v5, v6, v7, v8, v9, qs, rfl, s, hF, hq, hQs⟩
      rw [List.length_map, hn] at hq
      have hC2 := s _ _ (s2 _ _ hC)
      refine ⟨by show 1 ≤ sizeLine; decide, fun o1 h1 => ?_⟩
      rw [← map_nV] at hC2
      have t1 : Same H' (upd H' o1 (.lst [V.int 1])) := same_new h1
      have e := sum_cast w.c
      have h6 := ok.s6
      refine ⟨_, rfl, c, _, rfl, SqL.of (t1 _ _ hC2), o1, _, _, rfl, rfl, upd_same, by omega, by omega, ?_, fun o2 h2 => ?_⟩
      · show 1 * _ ≤ _
        exact sz100 (by omega)
      have t2 := t1.trans (same_new (o := .lst (List.replicate (w.c.map fun n : Nat => (n : Int)).sum.toNat [V.int 1]).flatten) h2)
      refine ⟨_, rfl, by show 2 ≤ sizeLine; decide, fun t ht => ?_⟩
      have t3 := t2.trans (same_new (o := .tup [.ref o2, .ref fo]) ht)
      have o2t : o2 ≠ t := ne_of_none upd_same ht
      refine k t _ ?_ (s1.trans (s2.trans (s.trans t3))) ⟨o2, fo, upd_same, ?_, qs, t3 _ _ hF, ?_, ?_⟩
      · exact s1.free (s2.free (s.free (t2.free ht)))
      · rw [upd_ne o2t, upd_same, e]
        congr 2
        show _ = (List.replicate w.c.sum 1).map nV
        have : ((w.c.sum : Nat) : Int).toNat = w.c.sum := by omega
        rw [this]
        generalize w.c.sum = n
        induction n with
        | zero => rfl
        | succ n ih => rw [List.replicate_succ, List.flatten_cons, ih, List.replicate_succ, List.map_cons]; rfl
      · rw [hq]
        show _ = (w.l.map (sgR w.c)).length
        rw [List.length_map]
      · intro i q r e1 e2
        obtain ⟨r0, e3, rfl⟩ := get_map e2
        exact (hQs i q r0 e1 e3).mono (del_same.trans t3)
end
end Wd
namespace Wd
open PySem PySem.Spec PyProof.Rows L2
/-- a dealing told copy by copy -/
def sgAt (cs : List Nat) (d : List (Option Nat)) (i : Nat) : Option Nat := (d.getD i Option.none).map fun t => (cs.take t).sum + (d.take i).count (some t)
def sglD (cs : List Nat) (d : List (Option Nat)) : List (Option Nat) := (List.range d.length).map (sgAt cs d)
def spSD : Sp := fun vs H Q _ => ∃ (a b : Addr) (w : Wi) (d : List (Option Nat)), vs = [.ref a, .ref b] ∧ WAt H a w ∧ w.Sg ∧ H b = some (.lst (d.map onV)) ∧ d.length ≤ 7 ∧ (∀ t, some t ∈ d → d.count (some t) ≤ w.c.getD t 0) ∧
  ∀ p H', H p = Option.none → Same H H' → H' p = some (.lst ((sglD w.c d).map onV)) → Q (.ref p) H'
/-- whose copy each is -/
def ownP (cs : List Nat) (i : Nat) : List Nat := ((List.range i).map fun t => List.replicate (cs.getD t 0) t).flatten
def ownL (cs : List Nat) : List Nat := ownP cs cs.length
def backL (cs : List Nat) (e : List (Option Nat)) : List (Option Nat) := e.map fun o => o.map fun c => (ownL cs).getD c 0
theorem ownP_len (cs : List Nat) : ∀ i, (ownP cs i).length = (cs.take i).sum
  | 0 => by simp [ownP]
  | i + 1 => by
    have h := ownP_len cs i
    unfold ownP at h ⊢
    rw [List.range_succ, List.map_append, List.flatten_append, List.length_append, h]
    by_cases hi : i < cs.length
    · rw [take_snoc (List.getElem?_eq_getElem hi), List.sum_append]
      simp [List.getD_eq_getElem?_getD, List.getElem?_eq_getElem hi]
    · rw [List.take_of_length_le (by omega), List.take_of_length_le (by omega)]
      simp [List.getD_eq_getElem?_getD, List.getElem?_eq_none (show cs.length ≤ i by omega)]
theorem ownL_len (cs : List Nat) : (ownL cs).length = cs.sum := by
  unfold ownL
  rw [ownP_len, List.take_length]
def spWD : Sp := fun vs H Q _ => ∃ (a b : Addr) (w : Wi) (e : List (Option Nat)), vs = [.ref a, .ref b] ∧ WAt H a w ∧ w.Sg ∧ H b = some (.lst (e.map onV)) ∧ e.length ≤ 7 ∧ (∀ c, some c ∈ e → c < w.c.sum) ∧
  ∀ p H', H p = Option.none → Same H H' → H' p = some (.lst ((backL w.c e).map onV)) → Q (.ref p) H'
theorem cps_get {cs : List Nat} {t j : Nat} (h : j < cs.getD t 0) : (cps cs t)[j]? = some ((cs.take t).sum + j) := by
  unfold cps
  rw [List.getElem?_map, List.getElem?_range h]
  rfl
theorem cps_drop {cs : List Nat} {t m : Nat} (h : m < cs.getD t 0) : (cps cs t).drop m = ((cs.take t).sum + m) :: (cps cs t).drop (m + 1) := by
  have hl : m < (cps cs t).length := by rw [cps_len]; exact h
  rw [List.drop_eq_getElem_cons hl]
  congr 1
  have := cps_get h
  rw [List.getElem?_eq_getElem hl] at this
  exact Option.some.inj this
theorem non_of {o : Option Nat} (h : decide (onV o = V.non) = true) : o = Option.none := by
  have := of_decide_eq_true h
  cases o with
  | none => rfl
  | some t => cases this
theorem som_of {o : Option Nat} (h : decide (onV o = V.non) = false) : ∃ t, o = some t := by
  cases o with
  | none => cases h
  | some t => exact ⟨t, rfl⟩
section
variable {P : Program} {w : World} {K : PySem.W.Frag} {mg : Str → Option Value} {base : Heap}
abbrev N_singled_dealing : List Str := ["wishes", "dealing", "numbers", "found", "thing"]
theorem sc_singled_dealing : FnScope N_singled_dealing ["wishes", "dealing"] (defScope s_singled_dealing) := ⟨rfl, rfl, rfl, by decide +kernel, rfl, by decide +kernel, by decide +kernel⟩
theorem ok_singled_dealing {f : Addr} {fd : FuncData} (F : FnP K "singled_dealing" "singled_dealing" s_singled_dealing f fd) (T : Txt K mg) (c_look_at_singles : Cal P w K mg base "look_at_singles" 5 ["wishes"] (spLookS)) (c_numbers_of : Cal P w K mg base "numbers_of" 1 ["copies"] (spNums)) : FnOk P w K mg base CX0 6 f fd ["wishes", "dealing"] (spSD) := by
  refine F.ok sc_singled_dealing (fun vs H Q E h => ?_) (fun cdv A outer s H vs Q E hr h => ?_)
  · obtain ⟨a, b, w, d, rfl, _⟩ := h
    rfl
  · have hu := hu_of hr
    have nd := sc_singled_dealing.nd
    refine ⟨_, PSs.nox (pss_cons (ps_expr (pe_call c_look_at_singles.ok (hr.mono (by decide)) (by rfl) c_look_at_singles.g c_look_at_singles.kp c_look_at_singles.b .nil pass0 (pa_cons (pv 0) pa_nil)))
    (pss_cons (ps_set (i := 2) nd rfl (Or.inl rfl) (pe_call c_numbers_of.ok (hr.mono (by decide)) (by rfl) c_numbers_of.g c_numbers_of.kp c_numbers_of.b .nil pass0 (pa_cons (pe_ix ix_tup (pv 0) pe_int (fun _ _ => rfl)) pa_nil)))
    (pss_cons (ps_set (i := 3) nd rfl (Or.inl rfl) (pe_lst pa_nil))
    (pss_cons (ps_for PassesOwn.never rfl (pi_list (pv 1)) (pg_name (i := 4) nd rfl (Or.inl rfl))
      (pss_one (ps_if (pt_cmpR op_isN (pv 4) pe_non (nomark _))
        (pss_one (ps_expr (pe_bm PySem.F.plainAttrs_list PySem.F.slot_list_append PySem.F.type_list_append mt_append (pv 3) (pa_cons pe_non pa_nil))))
        (pss_one (ps_expr (pe_bm PySem.F.plainAttrs_list PySem.F.slot_list_append PySem.F.type_list_append mt_append (pv 3) (pa_cons (pe_bm PySem.F.plainAttrs_list PySem.F.slot_list_pop PySem.F.type_list_pop mt_popAt (pe_ix ix_list (pv 2) (pv 4) (fun _ _ => rfl)) (pa_cons pe_int pa_nil)) pa_nil)))))))
    (pss_one (ps_ret (pv 3))))))), ?_⟩
    obtain ⟨a, b, w, d, rfl, hW, ok, hB, hl, hc, k⟩ := h
    refine ⟨_, rfl, a, w, rfl, hW, ok, fun H1 s1 => ?_⟩
    obtain ⟨c, l, hA, hC, as, hL, hn, hR⟩ := hW.mono s1
    refine ⟨_, rfl, a, _, 0, _, rfl, rfl, SqT.of hA, rfl, c, w.c, rfl, hC, ok.c6, ok.s6, fun p ps H2 hp s2 hP hpp hN => ?_⟩
    refine ⟨Nat.zero_le _, fun fo hfo => ?_⟩
    have s3 : Same H2 (upd H2 fo (.lst [])) := same_new hfo
    have npf : p ≠ fo := ne_of_none hP hfo
    have nfp : fo ∉ ps := fun h => by
      obtain ⟨j, hj, e2⟩ := List.mem_iff_getElem.mp h
      have := hN.at_ j fo (by rw [← e2]; exact List.getElem?_eq_getElem hj)
      rw [hfo] at this
      cases this
    have hfo1 : H1 fo = Option.none := s2.free hfo
    refine ⟨_, rfl, b, rfl, ⟨_, SqL.of (s3 _ _ (s2 _ _ (s1 _ _ hB)))⟩, for_list (xs := d.map onV) (fun i σ H' => ∃ v4, σ = [some (.ref a), some (.ref b), some (.ref p), some (.ref fo), v4] ∧ Same H1 H' ∧ H' fo = some (.lst (((List.range i).map (sgAt w.c d)).map onV)) ∧
        H' p = some (.lst (ps.map V.ref)) ∧ ∀ (t : Nat) (q : Addr), ps[t]? = some q → H' q = some (.lst (((cps w.c t).drop ((d.take i).count (some t))).map nV)))
      ⟨_, rfl, s2.trans s3, upd_same, s3 _ _ hP, fun t q h => by simpa using s3 _ _ (hN.at_ t q h)⟩ (fun i σ H' _ ⟨_, _, s, _⟩ => SqL.of (s _ _ (s1 _ _ hB))) ?_ ?_⟩
    · rintro i x σ H' hx ⟨v4, rfl, s, hF, hP', hQ'⟩
      obtain ⟨o, ho, rfl⟩ := get_map hx
      have hi := lt_of_get ho
      have ed : d.getD i Option.none = o := by rw [List.getD_eq_getElem?_getD, ho]; rfl
      have er : (List.range (i + 1)).map (sgAt w.c d) = (List.range i).map (sgAt w.c d) ++ [sgAt w.c d i] := by
        rw [List.range_succ, List.map_append]
        rfl
      refine ⟨_, rfl, rfl, _, rfl, if2 (fun h => ?_) fun h => ?_⟩
      · have eo := non_of h
        subst eo
        refine ⟨_, rfl, .inl ⟨rfl, _, SqL.of hF⟩, fo, _, _, rfl, rfl, hF, ?_, ?_⟩
        · rw [List.length_map, List.length_map, List.length_range]
          exact sl100 (by omega)
        refine ⟨_, rfl, same_mut s hfo1, ?_, by rw [upd_ne npf]; exact hP', fun t q hq => ?_⟩
        · rw [upd_same, er, List.map_append]
          show _ = some (HO.lst (_ ++ [onV (sgAt w.c d i)]))
          unfold sgAt
          rw [ed]
          rfl
        · have e : (d.take (i + 1)).count (some t) = (d.take i).count (some t) := by
            rw [take_snoc ho, List.count_append]
            simp
          rw [e, upd_ne (fun z => nfp (by rw [← z]; exact List.mem_of_getElem? hq))]
          exact hQ' t q hq
      · obtain ⟨t, rfl⟩ := som_of h
        have hm : some t ∈ d := List.mem_of_getElem? ho
        have hcnt : (d.take (i + 1)).count (some t) ≤ d.count (some t) := (List.take_sublist _ _).count_le _
        have ecnt : (d.take (i + 1)).count (some t) = (d.take i).count (some t) + 1 := by
          rw [take_snoc ho, List.count_append]
          simp
        have hlt : (d.take i).count (some t) < w.c.getD t 0 := by
          have := hc t hm
          omega
        have htc : t < w.c.length := by
          by_cases q : t < w.c.length
          · exact q
          · rw [List.getD_eq_getElem?_getD, List.getElem?_eq_none (by omega)] at hlt
            exact absurd hlt (Nat.not_lt_zero _)
        have htp : t < ps.length := by rw [hN.len]; exact htc
        have htq : ps[t]? = some ps[t] := List.getElem?_eq_getElem htp
        generalize ps[t] = q at htq
        have hq := hQ' t q htq
        rw [cps_drop hlt, List.map_cons] at hq
        have qf : q ≠ fo := fun z => nfp (by rw [← z]; exact List.mem_of_getElem? htq)
        have qp : q ≠ p := fun z => hpp (by rw [← z]; exact List.mem_of_getElem? htq)
        refine ⟨_, rfl, .inl ⟨rfl, _, SqL.of hF⟩, _, rfl, _, rfl, p, _, (t : Int), _, rfl, rfl, SqL.of hP', at_nat V.ref htq, .inl ⟨rfl, _, SqL.of hq⟩, q, _, 0, 0, _, rfl, rfl, hq, by decide, by decide, ?_, rfl, ?_⟩
        · exact seqIndex_of (Int.le_refl 0) (by rw [List.length_cons]; omega)
        refine ⟨fo, _, _, rfl, rfl, by rw [upd_ne qf.symm]; exact hF, ?_, ?_⟩
        · rw [List.length_map, List.length_map, List.length_range]
          exact sl100 (by omega)
        refine ⟨_, rfl, same_mut (same_mut s (hN.new q (List.mem_of_getElem? htq))) hfo1, ?_, by rw [upd_ne npf, upd_ne qp.symm]; exact hP', fun t' q' hq' => ?_⟩
        · rw [upd_same, er, List.map_append]
          show _ = some (HO.lst (_ ++ [onV (sgAt w.c d i)]))
          unfold sgAt
          rw [ed]
          rfl
        · have nf : q' ≠ fo := fun z => nfp (by rw [← z]; exact List.mem_of_getElem? hq')
          rw [upd_ne nf]
          by_cases e : t' = t
          · subst e
            rw [htq] at hq'
            cases hq'
            rw [upd_same, ecnt]
            rfl
          · have nq : q' ≠ q := fun z => by
              rw [z] at hq'
              exact e (nd_ix hN.nd hq' htq)
            have ec : (d.take (i + 1)).count (some t') = (d.take i).count (some t') := by
              rw [take_snoc ho, List.count_append]
              have : List.count (some t') [some t] = 0 := by
                rw [List.count_eq_zero]
                intro h
                rcases List.mem_singleton.mp h with h
                exact e (Option.some.inj h)
              omega
            rw [upd_ne nq, ec]
            exact hQ' t' q' hq'
    · rintro σ H' ⟨v4, rfl, s, hF, hP', hQ'⟩
      rw [List.length_map] at hF
      exact ⟨_, rfl, k fo H' (s1.free hfo1) (s1.trans s) hF⟩
abbrev N_whole_dealing : List Str := ["wishes", "dealing", "owners", "thing", "number", "found", "copy"]
theorem sc_whole_dealing : FnScope N_whole_dealing ["wishes", "dealing"] (defScope s_whole_dealing) := ⟨rfl, rfl, rfl, by decide +kernel, rfl, by decide +kernel, by decide +kernel⟩
theorem ok_whole_dealing {f : Addr} {fd : FuncData} (F : FnP K "whole_dealing" "whole_dealing" s_whole_dealing f fd) (T : Txt K mg) (c_look_at_singles : Cal P w K mg base "look_at_singles" 5 ["wishes"] (spLookS)) : FnOk P w K mg base CX0 6 f fd ["wishes", "dealing"] (spWD) := by
  refine F.ok sc_whole_dealing (fun vs H Q E h => ?_) (fun cdv A outer s H vs Q E hr h => ?_)
  · obtain ⟨a, b, w, d, rfl, _⟩ := h
    rfl
  · have hu := hu_of hr
    have nd := sc_whole_dealing.nd
    refine ⟨_, PSs.nox (pss_cons (ps_expr (pe_call c_look_at_singles.ok (hr.mono (by decide)) (by rfl) c_look_at_singles.g c_look_at_singles.kp c_look_at_singles.b .nil pass0 (pa_cons (pv 0) pa_nil)))
    (pss_cons (ps_set (i := 2) nd rfl (Or.inl rfl) (pe_lst pa_nil))
    (pss_cons (ps_for PassesOwn.never rfl (pi_enum (by rfl) T.enumerate (pa_cons (pe_ix ix_tup (pv 0) pe_int (fun _ _ => rfl)) pa_nil)) (pg_tup rfl (pgs_cons (pg_name (i := 3) nd rfl (Or.inl rfl)) (pgs_cons (pg_name (i := 4) nd rfl (Or.inl rfl)) pgs_nil)))
      (pss_one (ps_set (i := 2) nd rfl (Or.inl rfl) (pe_op op_cat (pv 2) (pe_op op_rep (pe_lst (pa_cons (pv 3) pa_nil)) (pv 4))))))
    (pss_cons (ps_set (i := 5) nd rfl (Or.inl rfl) (pe_lst pa_nil))
    (pss_cons (ps_for PassesOwn.never rfl (pi_list (pv 1)) (pg_name (i := 6) nd rfl (Or.inl rfl))
      (pss_one (ps_if (pt_cmpR op_isN (pv 6) pe_non (nomark _))
        (pss_one (ps_expr (pe_bm PySem.F.plainAttrs_list PySem.F.slot_list_append PySem.F.type_list_append mt_append (pv 5) (pa_cons pe_non pa_nil))))
        (pss_one (ps_expr (pe_bm PySem.F.plainAttrs_list PySem.F.slot_list_append PySem.F.type_list_append mt_append (pv 5) (pa_cons (pe_ix ix_list (pv 2) (pv 6) (fun _ _ => rfl)) pa_nil)))))))
    (pss_one (ps_ret (pv 5)))))))), ?_⟩
    obtain ⟨a, b, w, d, rfl, hW, ok, hB, hl, hc, k⟩ := h
    refine ⟨_, rfl, a, w, rfl, hW, ok, fun H1 s1 => ?_⟩
    obtain ⟨c, l, hA, hC, as, hL, hn, hR⟩ := hW.mono s1
    refine ⟨Nat.zero_le _, fun o0 ho0 => ?_⟩
    have s2 : Same H1 (upd H1 o0 (.lst [])) := same_new ho0
    have hs := ok.s6
    refine ⟨_, rfl, a, _, 0, _, rfl, rfl, SqT.of (s2 _ _ hA), rfl, c, _, rfl, SqL.of (s2 _ _ hC), for_enum (fun i σ H' => ∃ (o : Addr) (v3 v4 v5 v6 : Option V), σ = [some (.ref a), some (.ref b), some (.ref o), v3, v4, v5, v6] ∧ Same H1 H' ∧ H' o = some (.lst ((ownP w.c i).map nV)))
      ⟨o0, _, _, _, _, rfl, s2, upd_same⟩ (fun i σ H' _ ⟨_, _, _, _, _, _, s, _⟩ => SqL.of (s _ _ hC)) ?_ ?_⟩
    · rintro i y T σ H' hy ⟨o, v3, v4, v5, v6, rfl, s, hO⟩ hT
      obtain ⟨n, hn', rfl⟩ := get_nV hy
      have hi := lt_of_get hn'
      have t1 : Same H' (upd H' T (.tup [.int (i : Int), nV n])) := same_new hT
      refine pair_to ?_
      have hle := ownP_len w.c i
      have hle2 := ownP_len w.c (i + 1)
      have hle3 : (w.c.take (i + 1)).sum ≤ w.c.sum := by
        have := congrArg List.sum (List.take_append_drop (i + 1) w.c)
        rw [List.sum_append] at this
        omega
      have es : ownP w.c (i + 1) = ownP w.c i ++ List.replicate n i := by
        unfold ownP
        rw [List.range_succ, List.map_append, List.flatten_append, List.map_singleton, List.flatten_singleton, List.getD_eq_getElem?_getD, hn']
        rfl
      rw [es, List.length_append, List.length_replicate] at hle2
      refine ⟨_, rfl, _, rfl, by show 1 ≤ sizeLine; decide, fun q hq => ?_⟩
      have t2 := t1.trans (same_new (o := .lst [V.int (i : Int)]) hq)
      refine ⟨_, rfl, q, _, _, rfl, rfl, upd_same, by omega, by omega, by show 1 * _ ≤ _; exact sz100 (by omega), fun r hr' => ?_⟩
      have t3 := t2.trans (same_new (o := .lst (List.replicate ((n : Int)).toNat [V.int (i : Int)]).flatten) hr')
      have er : (List.replicate ((n : Int)).toNat [V.int (i : Int)]).flatten = (List.replicate n i).map nV := by
        rw [Int.toNat_natCast]
        generalize n = m
        induction m with
        | zero => rfl
        | succ m ih => rw [List.replicate_succ, List.flatten_cons, ih, List.replicate_succ, List.map_cons]; rfl
      refine ⟨o, r, _, _, rfl, rfl, t3 _ _ hO, upd_same, ?_, fun x hx => ?_⟩
      · rw [er, List.length_map, List.length_map, List.length_replicate]
        exact sz100 (by omega)
      · refine ⟨x, _, _, _, _, rfl, s.trans (t3.trans (same_new hx)), ?_⟩
        rw [upd_same, er, es, List.map_append]
    rintro σ H3 ⟨o, v3, v4, v5, v6, rfl, s3, hO⟩
    rw [List.length_map] at hO
    refine ⟨Nat.zero_le _, fun fo hfo => ?_⟩
    have s4 : Same H3 (upd H3 fo (.lst [])) := same_new hfo
    have olen := ownL_len w.c
    refine ⟨_, rfl, b, rfl, ⟨_, SqL.of (s4 _ _ (s3 _ _ (s1 _ _ hB)))⟩, for_list (xs := d.map onV) (fun i σ H' => ∃ v3 v4 v6, σ = [some (.ref a), some (.ref b), some (.ref o), v3, v4, some (.ref fo), v6] ∧ Same H3 H' ∧ H' fo = some (.lst ((backL w.c (d.take i)).map onV)))
      ⟨_, _, _, rfl, s4, upd_same⟩ (fun i σ H' _ ⟨_, _, _, _, s, _⟩ => SqL.of (s _ _ (s3 _ _ (s1 _ _ hB)))) ?_ ?_⟩
    · rintro i x σ H' hx ⟨v3, v4, v6, rfl, s, hF⟩
      obtain ⟨e, he, rfl⟩ := get_map hx
      have hi := lt_of_get he
      have fin : ∀ z : Option Nat, z = e.map (fun c => (ownL w.c).getD c 0) → (upd H' fo (.lst ((backL w.c (d.take i)).map onV ++ [onV z]))) fo = some (.lst ((backL w.c (d.take (i + 1))).map onV)) := fun z hz => by
        unfold backL
        rw [upd_same, take_snoc he, List.map_append, List.map_append, hz]
        rfl
      have hlen : ((backL w.c (d.take i)).map onV).length < sizeLine := by
        unfold backL
        rw [List.length_map, List.length_map, List.length_take]
        exact sl100 (by omega)
      refine ⟨_, rfl, rfl, _, rfl, if2 (fun h => ?_) fun h => ?_⟩
      · have eo := non_of h
        subst eo
        exact ⟨_, rfl, .inl ⟨rfl, _, SqL.of hF⟩, fo, _, _, rfl, rfl, hF, hlen, _, _, _, rfl, same_mut s hfo, fin Option.none rfl⟩
      · obtain ⟨t, rfl⟩ := som_of h
        have ht := hc t (List.mem_of_getElem? he)
        have htl : t < (ownL w.c).length := by rw [olen]; exact ht
        have e2 : (ownL w.c).getD t 0 = (ownL w.c)[t] := by rw [List.getD_eq_getElem?_getD, List.getElem?_eq_getElem htl]; rfl
        exact ⟨_, rfl, .inl ⟨rfl, _, SqL.of hF⟩, _, rfl, _, rfl, o, _, (t : Int), _, rfl, rfl, SqL.of (s _ _ hO), at_nat nV (List.getElem?_eq_getElem htl), fo, _, _, rfl, rfl, hF, hlen, _, _, _, rfl, same_mut s hfo, fin (some (ownL w.c)[t]) (by rw [← e2]; rfl)⟩
    · rintro σ H' ⟨v3, v4, v6, rfl, s, hF⟩
      rw [List.length_map, List.take_length] at hF
      exact ⟨_, rfl, k fo H' (s1.free (s3.free hfo)) (s1.trans (s3.trans s)) hF⟩
end
end Wd
namespace Wd
open PySem PySem.Spec PyProof.Rows L2
/-- the rank of a thing in a list, from 1; 0 where it is in none -/
def rkI : List (List Nat) → Nat → Nat
  | [], _ => 0
  | r :: rs, t => if t ∈ r then 1 else if rkI rs t = 0 then 0 else rkI rs t + 1
theorem rkI_at : ∀ {rs : List (List Nat)} {t i : Nat} {r : List Nat}, (∀ (j : Nat) (r : List Nat), j < i → rs[j]? = some r → t ∉ r) → rs[i]? = some r → t ∈ r → rkI rs t = i + 1
  | [], t, i, r, _, h, _ => by simp at h
  | a :: rs, t, 0, r, _, h, ht => by
    cases h
    unfold rkI
    rw [if_pos ht]
  | a :: rs, t, i + 1, r, hn, h, ht => by
    have ih := rkI_at (rs := rs) (t := t) (i := i) (r := r) (fun j r hj e => hn (j + 1) r (by omega) e) h ht
    unfold rkI
    rw [if_neg (hn 0 a (by omega) rfl), ih, if_neg (by omega)]
theorem rkI_none : ∀ {rs : List (List Nat)} {t : Nat}, (∀ r ∈ rs, t ∉ r) → rkI rs t = 0
  | [], _, _ => rfl
  | a :: rs, t, h => by
    unfold rkI
    rw [if_neg (h a List.mem_cons_self), rkI_none fun r hr => h r (List.mem_cons_of_mem _ hr), if_pos rfl]
theorem rkI_le : ∀ (rs : List (List Nat)) (t : Nat), rkI rs t ≤ rs.length
  | [], _ => Nat.le_refl _
  | a :: rs, t => by
    have := rkI_le rs t
    unfold rkI
    rw [List.length_cons]
    split
    · omega
    · split <;> omega
def spRow : Sp := fun vs H Q _ => ∃ (b : Addr) (d : List (Option Nat)), vs = [.ref b, nV d.length] ∧ H b = some (.lst (d.map onV)) ∧ d.length ≤ 1000 ∧ ∀ H', Same H H' → Q (.bl true) H'
def spRank : Sp := fun vs H Q _ => ∃ (a : Addr) (rs : List (List Nat)) (t : Nat), vs = [.ref a, nV t] ∧ RanksAt H a rs ∧ rkI rs t ≠ 0 ∧ ∀ H', Same H H' → Q (nV (rkI rs t)) H'
/-- a dealing of wishes -/
structure DealL (w : Wi) (d : List (Option Nat)) : Prop where
  len : d.length = w.l.length
  wi : ∀ (i t : Nat) (r : List (List Nat)), d[i]? = some (some t) → w.l[i]? = some r → rkI r t ≠ 0
  co : ∀ t, t < w.c.length → d.count (some t) ≤ w.c.getD t 0
def spWrong : Sp := fun vs H Q _ => ∃ (a b : Addr) (w : Wi) (d : List (Option Nat)), vs = [.ref a, .ref b] ∧ WAt H a w ∧ w.Ok ∧ H b = some (.lst (d.map onV)) ∧ DealL w d ∧ ∀ H', Same H H' → Q .non H'
/-- where an asker is counted: its rank less one, behind all ranks where it gets nothing -/
def slot (w : Wi) (d : List (Option Nat)) (a : Nat) : Nat := match d.getD a Option.none with
  | some t => rkI (w.l.getD a []) t - 1
  | Option.none => wlong w
def cntL (w : Wi) (d : List (Option Nat)) (k : Nat) : List Int := (List.range (wlong w + 1)).map fun i => S k fun a => if slot w d a = i then 1 else 0
def spCounts : Sp := fun vs H Q _ => ∃ (a b : Addr) (w : Wi) (d : List (Option Nat)), vs = [.ref a, .ref b] ∧ WAt H a w ∧ w.Ok ∧ H b = some (.lst (d.map onV)) ∧ DealL w d ∧
  ∀ p H', H p = Option.none → Same H H' → H' p = some (.lst ((cntL w d d.length).map V.int)) → Q (.ref p) H'
def leftL (cs : List Nat) (d : List (Option Int)) : List Int := (List.range cs.length).map fun t => (cs.getD t 0 : Int) - (d.count (some (t : Int)) : Nat)
def spLeft : Sp := fun vs H Q _ => ∃ (a b : Addr) (w : Wi) (d : List (Option Int)), vs = [.ref a, .ref b] ∧ WAt H a w ∧ w.Ok ∧ H b = some (.lst (d.map oV)) ∧
  ∀ p H', H p = Option.none → Same H H' → H' p = some (.lst ((leftL w.c d).map V.int)) → Q (.ref p) H'
def toI (d : List (Option Nat)) : List (Option Int) := d.map fun o => o.map fun n => (n : Int)
theorem toI_map (d : List (Option Nat)) : (toI d).map oV = d.map onV := by
  unfold toI
  rw [List.map_map]
  exact List.map_congr_left fun o _ => (onV_oV o).symm
theorem toI_count (t : Nat) : ∀ d : List (Option Nat), (toI d).count (some (t : Int)) = d.count (some t)
  | [] => rfl
  | o :: r => by
    have ih := toI_count t r
    unfold toI at ih ⊢
    rw [List.map_cons, List.count_cons, List.count_cons, ih]
    congr 1
    cases o with
    | none => rfl
    | some n =>
      show (if (some (n : Int) == some (t : Int)) = true then 1 else 0) = if (some n == some t) = true then 1 else 0
      by_cases h : n = t
      · subst h
        simp
      · have : ¬ (n : Int) = t := fun e => h (Int.ofNat.inj e)
        simp [h, this]
section
variable {P : Program} {w : World} {K : PySem.W.Frag} {mg : Str → Option Value} {base : Heap}
abbrev N_is_row_of : List Str := ["thing", "many", "one"]
theorem sc_is_row_of : FnScope N_is_row_of ["thing", "many"] (defScope s_is_row_of) := ⟨rfl, rfl, rfl, by decide +kernel, rfl, by decide +kernel, by decide +kernel⟩
theorem ok_is_row_of {f : Addr} {fd : FuncData} (F : FnP K "is_row_of" "is_row_of" s_is_row_of f fd) (T : Txt K mg) (c_is_whole : Cal P w K mg base "is_whole" 1 ["thing"] (spWhole)) : FnOk P w K mg base CX0 2 f fd ["thing", "many"] (spRow) := by
  refine F.ok sc_is_row_of (fun vs H Q E h => ?_) (fun cdv A outer s H vs Q E hr h => ?_)
  · obtain ⟨b, d, rfl, _⟩ := h
    rfl
  · have hu := hu_of hr
    have nd := sc_is_row_of.nd
    refine ⟨_, PSs.nox (pss_cons (ps_if (PW.pt (pw_or (pt_not (pt_val (pe_callB call_isi (by rfl) T.isinstance (by decide +kernel) (pa_cons (pv 0) (pa_cons (pe_bty (n := "list") (by rfl) T.list (by decide +kernel)) pa_nil))))) (pw_or1 (pt_cmpR op_ne (pe_callB call_len_seq (by rfl) T.len (by decide +kernel) (pa_cons (pv 0) pa_nil)) (pv 1) (nomark _)))))
      (pss_one (ps_ret pe_bl))
      pss_nil)
    (pss_one (ps_ret (pe_callB (cr_all rfl) (by rfl) T.all (by decide +kernel) (pa_cons (pe_lc (own := [("one", 2)]) (g := (gName 2)) (tt := tYes) (te := (tOrV (tOp _ (tVar 2) (tC _)) (tCall _ [] E0 (tCons (tVar 2) tNil)))) (by rfl) nd (pi_list (pv 0)) (blkOk_by (own := [("one", 2)]) (N := N_is_row_of) (sc := defScope s_is_row_of) (by decide +kernel)) (fun _ _ _ _ _ => (pg_name (i := 2) nd rfl (Or.inl rfl))) (fun _ _ _ _ _ => pts_nil) (fun _ _ _ _ _ => (pe_or (pe_cmpR op_isN (pv 2) pe_non (nomark _)) (pe_one (pe_call c_is_whole.ok (hr.mono (by decide)) (by rfl) c_is_whole.g c_is_whole.kp c_is_whole.b .nil pass0 (pa_cons (pv 2) pa_nil)))))) pa_nil))))), ?_⟩
    obtain ⟨b, d, rfl, hB, hl, k⟩ := h
    refine ⟨_, rfl, _, _, _, _, true, rfl, .ty _, .base (.lst hB), kit_ty (by decide +kernel), true, rfl, ifF rfl ?_⟩
    refine ⟨_, rfl, _, _, rfl, .inl (SqL.of hB), _, rfl, rfl, _, rfl, ifF ?_ ?_⟩
    · rw [List.length_map, decide_eq_true rfl]
      rfl
    refine ⟨_, rfl, b, rfl, ⟨_, SqL.of hB⟩, fun D hD => ?_⟩
    refine lc_list (xs := d.map onV) (fun i H' => Same H H' ∧ H' D = some (.lst ((List.replicate i true).map V.bl))) ⟨same_new hD, upd_same⟩ (fun i H' _ ⟨s, _⟩ => SqL.of (s _ _ hB)) ?_ ?_
    · rintro i x H' hx ⟨s, hL⟩
      obtain ⟨o, ho, rfl⟩ := get_map hx
      have hi := lt_of_get ho
      have fin : ∃ acc, H' D = some (.lst acc) ∧ acc.length < sizeLine ∧ Same H (upd H' D (.lst (acc ++ [V.bl true]))) ∧ upd H' D (.lst (acc ++ [V.bl true])) D = some (.lst ((List.replicate (i + 1) true).map V.bl)) := by
        refine ⟨_, hL, ?_, same_mut s hD, ?_⟩
        · rw [List.length_map, List.length_replicate]
          exact sl100 (by omega)
        · rw [upd_same, List.replicate_succ', List.map_append]
          rfl
      refine ⟨rfl, yes_ ⟨_, rfl, rfl, _, rfl, if2 (fun h => fin) fun h => ?_⟩⟩
      obtain ⟨t, rfl⟩ := som_of h
      exact ⟨_, rfl, _, rfl, fin⟩
    · rintro H' ⟨s, hL⟩
      refine ⟨D, _, rfl, SqL.of hL, ?_⟩
      have e : ∀ n : Nat, (List.replicate n true).all id = true := fun n => by simp
      show Q (.bl _) H'
      rw [e]
      exact k H' s
abbrev N_rank_among : List Str := ["ranks", "thing", "number", "rank"]
theorem sc_rank_among : FnScope N_rank_among ["ranks", "thing"] (defScope s_rank_among) := ⟨rfl, rfl, rfl, by decide +kernel, rfl, by decide +kernel, by decide +kernel⟩
theorem ok_rank_among {f : Addr} {fd : FuncData} (F : FnP K "rank_among" "rank_among" s_rank_among f fd) (T : Txt K mg)  : FnOk P w K mg base CX0 1 f fd ["ranks", "thing"] (spRank) := by
  refine F.ok sc_rank_among (fun vs H Q E h => ?_) (fun cdv A outer s H vs Q E hr h => ?_)
  · obtain ⟨a, rs, t, rfl, _⟩ := h
    rfl
  · have hu := hu_of hr
    have nd := sc_rank_among.nd
    refine ⟨_, PSs.nox (pss_cons (ps_for PassesOwn.never rfl (pi_enum (by rfl) T.enumerate (pa_cons (pv 0) pa_nil)) (pg_tup rfl (pgs_cons (pg_name (i := 2) nd rfl (Or.inl rfl)) (pgs_cons (pg_name (i := 3) nd rfl (Or.inl rfl)) pgs_nil)))
      (pss_one (ps_if (pt_cmpR op_in_seq (pv 1) (pv 3) rfl)
        (pss_one (ps_ret (pe_op op_add (pv 2) pe_int)))
        pss_nil)))
    (pss_one ps_never)), ?_⟩
    obtain ⟨a, rs, t, rfl, ⟨as, hA, hn, hR⟩, h0, k⟩ := h
    refine ⟨_, rfl, a, _, rfl, SqL.of hA, for_enum (fun i σ H' => ∃ v2 v3, σ = [some (.ref a), some (nV t), v2, v3] ∧ Same H H' ∧ ∀ (j : Nat) (r : List Nat), j < i → rs[j]? = some r → t ∉ r)
      ⟨_, _, rfl, Same.refl H, fun j r h => by omega⟩ (fun i σ H' _ ⟨_, _, _, s, _⟩ => SqL.of (s _ _ hA)) ?_ ?_⟩
    · rintro i y T σ H' hy ⟨v2, v3, rfl, s, hno⟩ hT
      obtain ⟨b, hb, rfl⟩ := get_map hy
      have hi : i < rs.length := by rw [← hn]; exact lt_of_get hb
      have hri : rs[i]? = some rs[i] := List.getElem?_eq_getElem hi
      generalize rs[i] = r at hri
      have s2 := same_and (o := .tup [.int (i : Int), .ref b]) s hT
      refine pair_to ?_
      refine ⟨_, rfl, _, rfl, b, _, rfl, .inl (SqL.of (s2 _ _ (hR i b r hb hri))), rfl, flat_nV _, _, rfl, ?_⟩
      show if inV (nV t) (r.map nV) = true then _ else _
      rw [inV_nV]
      refine if2 (fun h => ?_) fun h => ?_
      · have ht := of_decide_eq_true h
        refine ⟨_, rfl, _, _, rfl, rfl, ?_⟩
        have := k _ s2
        rw [rkI_at hno hri ht] at this
        exact this
      · refine ⟨_, _, rfl, s2, fun j r' hj e => ?_⟩
        by_cases q : j = i
        · subst q
          rw [hri] at e
          cases e
          exact of_decide_eq_false h
        · exact hno j r' (by omega) e
    · rintro σ H' ⟨v2, v3, rfl, s, hno⟩
      refine absurd (rkI_none fun r hr => ?_) h0
      obtain ⟨j, hj, e⟩ := List.mem_iff_getElem.mp hr
      exact hno j r (by rw [List.length_map, hn]; exact hj) (by rw [← e]; exact List.getElem?_eq_getElem hj)
abbrev N_what_is_wrong : List Str := ["wishes", "thing", "copies", "lists", "asker", "one", "number", "many"]
theorem sc_what_is_wrong : FnScope N_what_is_wrong ["wishes", "thing"] (defScope s_what_is_wrong) := ⟨rfl, rfl, rfl, by decide +kernel, rfl, by decide +kernel, by decide +kernel⟩
theorem ok_what_is_wrong {f : Addr} {fd : FuncData} (F : FnP K "what_is_wrong" "what_is_wrong" s_what_is_wrong f fd) (T : Txt K mg) (c_is_row_of : Cal P w K mg base "is_row_of" 2 ["thing", "many"] (spRow)) (c_look_at_wishes : Cal P w K mg base "look_at_wishes" 4 ["thing"] (spLook)) (c_rank_among : Cal P w K mg base "rank_among" 1 ["ranks", "thing"] (spRank)) : FnOk P w K mg base CX0 5 f fd ["wishes", "thing"] (spWrong) := by
  refine F.ok sc_what_is_wrong (fun vs H Q E h => ?_) (fun cdv A outer s H vs Q E hr h => ?_)
  · obtain ⟨a, b, w, d, rfl, _⟩ := h
    rfl
  · have hu := hu_of hr
    have nd := sc_what_is_wrong.nd
    refine ⟨_, PSs.nox (pss_cons (ps_expr (pe_call c_look_at_wishes.ok (hr.mono (by decide)) (by rfl) c_look_at_wishes.g c_look_at_wishes.kp c_look_at_wishes.b .nil pass0 (pa_cons (pv 0) pa_nil)))
    (pss_cons (ps_asg (pv 0) (pg_tup rfl (pgs_cons (pg_name (i := 2) nd rfl (Or.inl rfl)) (pgs_cons (pg_name (i := 3) nd rfl (Or.inl rfl)) pgs_nil))))
    (pss_cons (ps_if (pt_not (pt_val (pe_call c_is_row_of.ok (hr.mono (by decide)) (by rfl) c_is_row_of.g c_is_row_of.kp c_is_row_of.b .nil pass0 (pa_cons (pv 1) (pa_cons (pe_callB call_len_seq (by rfl) T.len (by decide +kernel) (pa_cons (pv 3) pa_nil)) pa_nil)))))
      (pss_one ps_never)
      pss_nil)
    (pss_cons (ps_for PassesOwn.never rfl (pi_enum (by rfl) T.enumerate (pa_cons (pv 1) pa_nil)) (pg_tup rfl (pgs_cons (pg_name (i := 4) nd rfl (Or.inl rfl)) (pgs_cons (pg_name (i := 5) nd rfl (Or.inl rfl)) pgs_nil)))
      (pss_one (ps_if (PW.pt (pw_and (pt_cmpR op_notN (pv 5) pe_non (nomark _)) (pw_and1 (pt_cmpR op_eq (pe_call c_rank_among.ok (hr.mono (by decide)) (by rfl) c_rank_among.g c_rank_among.kp c_rank_among.b .nil pass0 (pa_cons (pe_ix ix_list (pv 3) (pv 4) (fun _ _ => rfl)) (pa_cons (pv 5) pa_nil))) pe_int (nomark _)))))
        (pss_one ps_never)
        pss_nil)))
    (pss_cons (ps_for PassesOwn.never rfl (pi_enum (by rfl) T.enumerate (pa_cons (pv 2) pa_nil)) (pg_tup rfl (pgs_cons (pg_name (i := 6) nd rfl (Or.inl rfl)) (pgs_cons (pg_name (i := 7) nd rfl (Or.inl rfl)) pgs_nil)))
      (pss_one (ps_if (pt_cmpR op_gt (pe_bm PySem.F.plainAttrs_list PySem.F.slot_list_count PySem.F.type_list_count mt_countF (pv 1) (pa_cons (pv 6) pa_nil)) (pv 7) (nomark _))
        (pss_one ps_never)
        pss_nil)))
    (pss_one (ps_ret pe_non))))))), ?_⟩
    obtain ⟨a, b, w, d, rfl, hW, ok, hB, dl, k⟩ := h
    refine ⟨_, rfl, a, w, rfl, hW, ok, fun H1 s1 => ?_⟩
    obtain ⟨c, l, hA, hC, as, hL, hn, hR⟩ := hW.mono s1
    have hB1 := s1 _ _ hB
    have l7 := ok.l7
    have dlen := dl.len
    refine ⟨_, rfl, a, _, rfl, SqT.of hA, rfl, _, _, rfl, _, _, rfl, rfl, ?_⟩
    refine ⟨_, rfl, _, rfl, l, _, rfl, .inl (SqL.of hL), b, d, by rw [List.length_map, hn, dl.len]; rfl, hB1, by omega, fun H2 s2 => ⟨_, rfl, ifF rfl ?_⟩⟩
    have hB2 := s2 _ _ hB1
    refine ⟨_, rfl, b, _, rfl, SqL.of hB2, for_enum (fun i σ H' => ∃ v4 v5 v6 v7, σ = [some (.ref a), some (.ref b), some (.ref c), some (.ref l), v4, v5, v6, v7] ∧ Same H2 H')
      ⟨_, _, _, _, rfl, Same.refl _⟩ (fun i σ H' _ ⟨_, _, _, _, _, s⟩ => SqL.of (s _ _ hB2)) ?_ ?_⟩
    · rintro i y T σ H' hy ⟨v4, v5, v6, v7, rfl, s⟩ hT
      obtain ⟨o, ho, rfl⟩ := get_map hy
      have hi : i < w.l.length := by rw [← dl.len]; exact lt_of_get ho
      have s2' := same_and (o := .tup [.int (i : Int), onV o]) s hT
      refine pair_to ?_
      refine ⟨_, rfl, rfl, _, rfl, if2 (fun h => ?_) fun h => ifF rfl ⟨_, _, _, _, rfl, s2'⟩⟩
      obtain ⟨t, rfl⟩ := som_of (o := o) (by
        cases q : decide (onV o = V.non) with
        | true => rw [q] at h; cases h
        | false => rfl)
      have hb : i < as.length := by rw [hn]; exact hi
      refine ⟨_, rfl, _, rfl, l, _, (i : Int), _, rfl, rfl, SqL.of ((s2.trans s2') _ _ hL), at_nat V.ref (List.getElem?_eq_getElem hb), _, rfl, _, w.l[i], t, rfl, ?_, ?_, fun H4 s4 => ?_⟩
      · exact (hR i _ _ (List.getElem?_eq_getElem hb) (List.getElem?_eq_getElem hi)).mono (s2.trans s2')
      · exact dl.wi i t _ ho (List.getElem?_eq_getElem hi)
      · have h0 := dl.wi i t _ ho (List.getElem?_eq_getElem hi)
        refine ⟨rfl, _, rfl, ifF ?_ ⟨_, _, _, _, rfl, s2'.trans s4⟩⟩
        exact decide_eq_false fun e => by
          injection e with e
          omega
    rintro σ H3 ⟨v4, v5, v6, v7, rfl, s3⟩
    have hB3 := s3 _ _ hB2
    have hC3 := s3 _ _ (s2 _ _ hC)
    refine ⟨_, rfl, c, _, rfl, SqL.of hC3, for_enum (fun i σ H' => ∃ v4 v5 v6 v7, σ = [some (.ref a), some (.ref b), some (.ref c), some (.ref l), v4, v5, v6, v7] ∧ Same H3 H')
      ⟨_, _, _, _, rfl, Same.refl _⟩ (fun i σ H' _ ⟨_, _, _, _, _, s⟩ => SqL.of (s _ _ hC3)) ?_ ?_⟩
    · rintro i y T σ H' hy ⟨v4, v5, v6, v7, rfl, s⟩ hT
      obtain ⟨n, hn', rfl⟩ := get_nV hy
      have hi := lt_of_get hn'
      have s4 := same_and (o := .tup [.int (i : Int), nV n]) s hT
      have hB4 := s4 _ _ hB3
      rw [← toI_map] at hB4
      refine pair_to ?_
      refine ⟨_, rfl, .inl ⟨rfl, _, SqL.of hB4⟩, _, rfl, b, _, _, rfl, rfl, SqL.of hB4, _, rfl, _, _, rfl, rfl, _, rfl, ifF (decide_eq_false ?_) ⟨_, _, _, _, rfl, s4⟩⟩
      rw [toI_count]
      have := dl.co i hi
      rw [List.getD_eq_getElem?_getD, hn'] at this
      have : d.count (some i) ≤ n := this
      omega
    · rintro σ H4 ⟨v4, v5, v6, v7, rfl, s4⟩
      exact k H4 (s1.trans (s2.trans (s3.trans s4)))
end
end Wd
namespace Wd
open PySem PySem.Spec PyProof.Rows L2
theorem cntL_len (w : Wi) (d : List (Option Nat)) (k : Nat) : (cntL w d k).length = wlong w + 1 := by
  unfold cntL
  rw [List.length_map, List.length_range]
theorem cntL_get {w : Wi} {d : List (Option Nat)} {k i : Nat} (h : i ≤ wlong w) : (cntL w d k)[i]? = some (S k fun a => if slot w d a = i then 1 else 0) := by
  unfold cntL
  rw [List.getElem?_map, List.getElem?_range (by omega)]
  rfl
theorem cntL_zero (w : Wi) (d : List (Option Nat)) : cntL w d 0 = List.replicate (wlong w + 1) 0 := by
  refine List.ext_getElem? fun i => ?_
  by_cases h : i ≤ wlong w
  · rw [cntL_get h, List.getElem?_replicate, if_pos (by omega)]
    rfl
  · rw [List.getElem?_eq_none (by rw [cntL_len]; omega), List.getElem?_eq_none (by rw [List.length_replicate]; omega)]
theorem cntL_succ (w : Wi) (d : List (Option Nat)) (k : Nat) (h : slot w d k ≤ wlong w) : cntL w d (k + 1) = (cntL w d k).set (slot w d k) ((S k fun a => if slot w d a = slot w d k then 1 else 0) + 1) := by
  refine List.ext_getElem? fun i => ?_
  by_cases hi : i ≤ wlong w
  · rw [cntL_get hi, List.getElem?_set]
    show some (S k (fun a => if slot w d a = i then 1 else 0) + if slot w d k = i then 1 else 0) = _
    by_cases e : slot w d k = i
    · rw [if_pos e, if_pos e, if_pos (by rw [cntL_len]; omega), e]
    · rw [if_neg e, if_neg e, cntL_get hi, Int.add_zero]
  · rw [List.getElem?_eq_none (by rw [cntL_len]; omega), List.getElem?_eq_none (by rw [List.length_set, cntL_len]; omega)]
theorem rkI_long {w : Wi} {r : List (List Nat)} (h : r ∈ w.l) (t : Nat) : rkI r t ≤ wlong w :=
  Nat.le_trans (rkI_le r t) (maxL_ge (List.mem_map.mpr ⟨r, h, rfl⟩))
theorem ixN_nat {n i : Nat} (h : i < n) : ixN n (i : Int) = some i := by
  unfold ixN
  rw [if_pos (by omega), if_pos (by omega)]
  simp
theorem ixN_last (n : Nat) : ixN (n + 1) (-1) = some n := by
  unfold ixN
  rw [if_neg (by decide), if_pos (by omega)]
  congr 1
  omega
theorem atI_lastN {xs : List V} {n : Nat} {v : V} (hl : xs.length = n + 1) (h : xs[n]? = some v) : atI xs (-1) = some v := by
  unfold atI
  rw [hl, ixN_last]
  exact h
theorem set_map {α : Type} (f : α → V) (xs : List α) (i : Nat) (x : α) : (xs.map f).set i (f x) = (xs.set i x).map f := (List.map_set (f := f)).symm
def spOrder : Sp := fun vs H Q _ => ∃ o : Nat, vs = [.str (ordS o)] ∧ ∀ H', Same H H' → Q (.bl true) H'
def spOld : Sp := fun vs H Q _ => ∃ x : V, vs = [x, .non] ∧ Q (.bl true) H
def spTurns : Sp := fun vs H Q _ => ∃ (x : V) (t : Addr), vs = [x, .ref t] ∧ H t = some (.lst []) ∧ ∀ H', Same H H' → Q (.bl true) H'
def spFault : Sp := fun vs H Q _ => ∃ (x : V) (a : Addr) (o : Nat), vs = [x, .ref a] ∧ AimAt H a o ∧ ∀ H', Same H H' → Q .non H'
def spLookA : Sp := fun vs H Q _ => ∃ (a b : Addr) (w : Wi) (o : Nat), vs = [.ref a, .ref b] ∧ WAt H a w ∧ w.Ok ∧ AimAt H b o ∧ ∀ H', Same H H' → Q .non H'
def powL (B : Int) (n : Nat) : List Int := (List.range (n + 1)).map (bp B)
def spPow : Sp := fun vs H Q _ => ∃ (B : Int) (n : Nat), vs = [.int B, nV n] ∧ 0 ≤ B ∧ B ≤ 1000 ∧ n ≤ 1000 ∧ ∀ p H', H p = Option.none → Same H H' → H' p = some (.lst ((powL B n).map V.int)) → Q (.ref p) H'
section
variable {P : Program} {w : World} {K : PySem.W.Frag} {mg : Str → Option Value} {base : Heap}
abbrev N_counts_of : List Str := ["wishes", "dealing", "counts", "asker", "one"]
theorem sc_counts_of : FnScope N_counts_of ["wishes", "dealing"] (defScope s_counts_of) := ⟨rfl, rfl, rfl, by decide +kernel, rfl, by decide +kernel, by decide +kernel⟩
theorem ok_counts_of {f : Addr} {fd : FuncData} (F : FnP K "counts_of" "counts_of" s_counts_of f fd) (T : Txt K mg) (c_longest : Cal P w K mg base "longest" 5 ["wishes"] (spLong)) (c_rank_among : Cal P w K mg base "rank_among" 1 ["ranks", "thing"] (spRank)) : FnOk P w K mg base CX0 6 f fd ["wishes", "dealing"] (spCounts) := by
  refine F.ok sc_counts_of (fun vs H Q E h => ?_) (fun cdv A outer s H vs Q E hr h => ?_)
  · obtain ⟨a, b, w, d, rfl, _⟩ := h
    rfl
  · have hu := hu_of hr
    have nd := sc_counts_of.nd
    refine ⟨_, PSs.nox (pss_cons (ps_set (i := 2) nd rfl (Or.inl rfl) (pe_op op_rep (pe_lst (pa_cons pe_int pa_nil)) (pe_op op_add (pe_call c_longest.ok (hr.mono (by decide)) (by rfl) c_longest.g c_longest.kp c_longest.b .nil pass0 (pa_cons (pv 0) pa_nil)) pe_int)))
    (pss_cons (ps_for PassesOwn.never rfl (pi_enum (by rfl) T.enumerate (pa_cons (pv 1) pa_nil)) (pg_tup rfl (pgs_cons (pg_name (i := 3) nd rfl (Or.inl rfl)) (pgs_cons (pg_name (i := 4) nd rfl (Or.inl rfl)) pgs_nil)))
      (pss_one (ps_if (pt_cmpR op_isN (pv 4) pe_non (nomark _))
        (pss_one (ps_augS (pv 2) (pe_un un_neg pe_int) get_list pe_int ip_add set_list))
        (pss_one (ps_augS (pv 2) (pe_op op_sub (pe_call c_rank_among.ok (hr.mono (by decide)) (by rfl) c_rank_among.g c_rank_among.kp c_rank_among.b .nil pass0 (pa_cons (pe_ix ix_list (pe_ix ix_tup (pv 0) pe_int (fun _ _ => rfl)) (pv 3) (fun _ _ => rfl)) (pa_cons (pv 4) pa_nil))) pe_int) get_list pe_int ip_add set_list)))))
    (pss_one (ps_ret (pv 2))))), ?_⟩
    obtain ⟨a, b, w, d, rfl, hW, ok, hB, dl, k⟩ := h
    refine ⟨by show 1 ≤ sizeLine; decide, fun o1 h1 => ?_⟩
    have s1 : Same H (upd H o1 (.lst [V.int 0])) := same_new h1
    have n1 := upd_same (H := H) (a := o1) (o := .lst [V.int 0])
    refine ⟨_, rfl, a, w, rfl, hW.mono s1, ok, fun H1 s2 => ⟨_, _, rfl, rfl, o1, _, _, rfl, rfl, s2 _ _ n1, by omega, ?_, ?_, fun p hp => ?_⟩⟩
    · have : wlong w ≤ 5 := by
        have h := maxL_in (l := w.l.map List.length) (by
          intro q
          have := ok.l1
          rw [List.map_eq_nil_iff] at q
          rw [q] at this
          exact absurd this (by decide))
        obtain ⟨r, hr, e⟩ := List.mem_map.mp h
        have := (ok.rk r hr).len
        unfold wlong
        omega
      omega
    · have : wlong w ≤ 5 := by
        have h := maxL_in (l := w.l.map List.length) (by
          intro q
          have := ok.l1
          rw [List.map_eq_nil_iff] at q
          rw [q] at this
          exact absurd this (by decide))
        obtain ⟨r, hr, e⟩ := List.mem_map.mp h
        have := (ok.rk r hr).len
        unfold wlong
        omega
      show 1 * _ ≤ _
      exact sz100 (by omega)
    have hp0 := s1.free (s2.free hp)
    have sx := s1.trans s2
    have eL : (List.replicate ((wlong w : Int) + 1).toNat [V.int 0]).flatten = (cntL w d 0).map V.int := by
      rw [cntL_zero]
      have : ((wlong w : Int) + 1).toNat = wlong w + 1 := by omega
      rw [this]
      generalize wlong w + 1 = n
      induction n with
      | zero => rfl
      | succ n ih => rw [List.replicate_succ, List.flatten_cons, ih, List.replicate_succ, List.map_cons]; rfl
    rw [eL]
    obtain ⟨c, l, hA, hC, as, hL, hn, hR⟩ := hW.mono sx
    have hB1 := sx _ _ hB
    refine ⟨_, rfl, b, _, rfl, SqL.of ((same_new hp) _ _ hB1), for_enum (fun i σ H' => ∃ v3 v4, σ = [some (.ref a), some (.ref b), some (.ref p), v3, v4] ∧ Same H1 H' ∧ H' p = some (.lst ((cntL w d i).map V.int)))
      ⟨_, _, rfl, same_new hp, upd_same⟩ (fun i σ H' _ ⟨_, _, _, s, _⟩ => SqL.of (s _ _ hB1)) ?_ ?_⟩
    · rintro i y T σ H' hy ⟨v3, v4, rfl, s, hP⟩ hT
      obtain ⟨o, ho, rfl⟩ := get_map hy
      have hi : i < w.l.length := by rw [← dl.len]; exact lt_of_get ho
      have s2' := same_and (o := .tup [.int (i : Int), onV o]) s hT
      have hP2 := (same_new (o := .tup [.int (i : Int), onV o]) hT) _ _ hP
      have ed : d.getD i Option.none = o := by rw [List.getD_eq_getElem?_getD, ho]; rfl
      refine pair_to ?_
      refine ⟨_, rfl, rfl, _, rfl, if2 (fun h => ?_) fun h => ?_⟩
      · have eo := non_of h
        subst eo
        have es : slot w d i = wlong w := by
          unfold slot
          rw [ed]
        have eg := cntL_get (w := w) (d := d) (k := i) (Nat.le_refl (wlong w))
        refine ⟨_, rfl, _, rfl, p, _, _, _, rfl, rfl, SqL.of hP2, atI_lastN (by rw [List.length_map, cntL_len]) (map_get V.int eg), _, _, rfl, rfl, p, _, _, wlong w, rfl, rfl, hP2, ?_, _, _, rfl, same_mut s2' hp, ?_⟩
        · rw [List.length_map, cntL_len]
          exact ixN_last _
        · rw [upd_same, cntL_succ w d i (by rw [es]; exact Nat.le_refl _), es, ← set_map]
      · obtain ⟨t, rfl⟩ := som_of h
        have hb : i < as.length := by rw [hn]; exact hi
        have h0 := dl.wi i t _ ho (List.getElem?_eq_getElem hi)
        have hr := rkI_long (w := w) (List.getElem_mem hi) t
        have el : w.l.getD i [] = w.l[i] := by rw [List.getD_eq_getElem?_getD, List.getElem?_eq_getElem hi]; rfl
        have es : slot w d i = rkI w.l[i] t - 1 := by
          unfold slot
          rw [ed, el]
        have hsl : slot w d i ≤ wlong w := by omega
        refine ⟨_, rfl, _, rfl, a, _, 1, _, rfl, rfl, SqT.of (s2' _ _ hA), rfl, _, rfl, l, _, (i : Int), _, rfl, rfl, SqL.of (s2' _ _ hL), at_nat V.ref (List.getElem?_eq_getElem hb), _, rfl, _, w.l[i], t, rfl, ?_, h0, fun H4 s4 => ?_⟩
        · exact (hR i _ _ (List.getElem?_eq_getElem hb) (List.getElem?_eq_getElem hi)).mono s2'
        have hP4 := s4 _ _ hP2
        have ei : ((rkI w.l[i] t : Nat) : Int) - 1 = ((slot w d i : Nat) : Int) := by
          rw [es]
          omega
        have eg := cntL_get (w := w) (d := d) (k := i) hsl
        refine ⟨_, _, rfl, rfl, p, _, _, _, rfl, rfl, SqL.of hP4, by show atI _ (((rkI w.l[i] t : Nat) : Int) - 1) = _; rw [ei]; exact at_nat V.int eg, _, _, rfl, rfl, p, _, _, slot w d i, rfl, rfl, hP4, ?_, _, _, rfl, same_mut (s2'.trans s4) hp, ?_⟩
        · show ixN _ (((rkI w.l[i] t : Nat) : Int) - 1) = _
          rw [ei, List.length_map, cntL_len]
          exact ixN_nat (by omega)
        · rw [upd_same, cntL_succ w d i hsl, ← set_map]
    · rintro σ H' ⟨v3, v4, rfl, s, hP⟩
      rw [List.length_map] at hP
      exact ⟨_, rfl, k p H' hp0 (sx.trans s) hP⟩
abbrev N_copies_left : List Str := ["wishes", "dealing", "number", "many"]
theorem sc_copies_left : FnScope N_copies_left ["wishes", "dealing"] (defScope s_copies_left) := ⟨rfl, rfl, rfl, by decide +kernel, rfl, by decide +kernel, by decide +kernel⟩
theorem ok_copies_left {f : Addr} {fd : FuncData} (F : FnP K "copies_left" "copies_left" s_copies_left f fd) (T : Txt K mg) (c_look_at_wishes : Cal P w K mg base "look_at_wishes" 4 ["thing"] (spLook)) : FnOk P w K mg base CX0 5 f fd ["wishes", "dealing"] (spLeft) := by
  refine F.ok sc_copies_left (fun vs H Q E h => ?_) (fun cdv A outer s H vs Q E hr h => ?_)
  · obtain ⟨a, b, w, d, rfl, _⟩ := h
    rfl
  · have hu := hu_of hr
    have nd := sc_copies_left.nd
    refine ⟨_, PSs.nox (pss_cons (ps_expr (pe_call c_look_at_wishes.ok (hr.mono (by decide)) (by rfl) c_look_at_wishes.g c_look_at_wishes.kp c_look_at_wishes.b .nil pass0 (pa_cons (pv 0) pa_nil)))
    (pss_one (ps_ret (pe_lc (own := [("number", 2), ("many", 3)]) (g := (gTup K 2 (gCons (gName 2) (gCons (gName 3) gNil)))) (tt := tYes) (te := (tOp _ (tVar 3) (tBM K "list" (rCntF K) (tVar 1) (tCons (tVar 2) tNil)))) (by rfl) nd (pi_enum (by rfl) T.enumerate (pa_cons (pe_ix ix_tup (pv 0) pe_int (fun _ _ => rfl)) pa_nil)) (blkOk_by (own := [("number", 2), ("many", 3)]) (N := N_copies_left) (sc := defScope s_copies_left) (by decide +kernel)) (fun _ _ _ _ _ => (pg_tup rfl (pgs_cons (pg_name (i := 2) nd rfl (Or.inl rfl)) (pgs_cons (pg_name (i := 3) nd rfl (Or.inl rfl)) pgs_nil)))) (fun _ _ _ _ _ => pts_nil) (fun _ _ _ _ _ => (pe_op op_sub (pv 3) (pe_bm PySem.F.plainAttrs_list PySem.F.slot_list_count PySem.F.type_list_count mt_countF (pv 1) (pa_cons (pv 2) pa_nil)))))))), ?_⟩
    obtain ⟨a, b, w, d, rfl, hW, ok, hB, k⟩ := h
    refine ⟨_, rfl, a, w, rfl, hW, ok, fun H1 s1 => ?_⟩
    obtain ⟨c, l, hA, hC, _⟩ := hW.mono s1
    have hB1 := s1 _ _ hB
    refine ⟨_, rfl, a, _, 0, _, rfl, rfl, SqT.of hA, rfl, c, _, rfl, SqL.of hC, fun D hD => ?_⟩
    refine lc_it walk_enum (fun i H' => Same H1 H' ∧ H' D = some (.lst (((List.range i).map fun t => (w.c.getD t 0 : Int) - (d.count (some (t : Int)) : Nat)).map V.int))) ⟨same_new hD, upd_same⟩ (fun i H' _ ⟨s, _⟩ => SqL.of (s _ _ hC)) ?_ ?_
    · rintro i x H' H2 hi ⟨s, hL⟩ ⟨T, u, v, rfl, hT, rfl, e, hv⟩
      cases e
      obtain ⟨n, hn, rfl⟩ := get_nV hv
      have s2 := same_and (o := .tup [.int (i : Int), nV n]) s hT
      refine pair_to ⟨rfl, yes_ ?_⟩
      refine ⟨_, rfl, _, rfl, .inl ⟨rfl, _, SqL.of (s2 _ _ hB1)⟩, _, rfl, b, d, _, rfl, rfl, SqL.of (s2 _ _ hB1), _, _, rfl, rfl, _, (same_new hT) _ _ hL, ?_, same_mut s2 hD, ?_⟩
      · rw [List.length_map] at hi
        have := ok.c6
        rw [List.length_map, List.length_map, List.length_range]
        exact sl100 (by omega)
      · rw [upd_same, List.range_succ, List.map_append, List.map_append]
        show _ = some (HO.lst (_ ++ [V.int ((w.c.getD i 0 : Int) - (d.count (some (i : Int)) : Nat))]))
        have : w.c.getD i 0 = n := by rw [List.getD_eq_getElem?_getD, hn]; rfl
        rw [this]
    · rintro H' ⟨s, hL⟩
      rw [List.length_map] at hL
      exact k D H' (s1.free hD) (s1.trans s) hL
abbrev N_is_order : List Str := ["thing"]
theorem sc_is_order : FnScope N_is_order ["thing"] (defScope s_is_order) := ⟨rfl, rfl, rfl, by decide +kernel, rfl, by decide +kernel, by decide +kernel⟩
theorem ok_is_order {f : Addr} {fd : FuncData} (F : FnP K "is_order" "is_order" s_is_order f fd) (T : Txt K mg)  : FnOk P w K mg base CX0 1 f fd ["thing"] (spOrder) := by
  refine F.ok sc_is_order (fun vs H Q E h => ?_) (fun cdv A outer s H vs Q E hr h => ?_)
  · obtain ⟨o, rfl, _⟩ := h
    rfl
  · have hu := hu_of hr
    have nd := sc_is_order.nd
    refine ⟨_, PSs.nox (pss_one (ps_ret (pe_and (pe_callB call_isi (by rfl) T.isinstance (by decide +kernel) (pa_cons (pv 0) (pa_cons (pe_bty (n := "str") (by rfl) T.str (by decide +kernel)) pa_nil))) (pe_one (pe_cmpR op_in_seq (pv 0) (pe_tup (pa_cons pe_str (pa_cons pe_str (pa_cons pe_str pa_nil)))) rfl))))), ?_⟩
    obtain ⟨o, rfl, k⟩ := h
    refine ⟨_, rfl, _, _, _, _, true, rfl, .ty _, .base (.str _), kit_ty (by decide +kernel), true, rfl, ifT rfl ?_⟩
    refine ⟨_, rfl, by show 3 ≤ sizeLine; decide, fun t ht => ?_⟩
    refine ⟨t, _, rfl, .inr (SqT.of upd_same), rfl, rfl, ?_⟩
    have e : inV (V.str (ordS o)) [V.str "firsts", V.str "full", V.str "lasts"] = true := by
      match o with
      | 0 => decide +kernel
      | 1 => decide +kernel
      | o + 2 => show inV (V.str "lasts") [V.str "firsts", V.str "full", V.str "lasts"] = true; decide +kernel
    show Q (.bl (inV (V.str (ordS o)) [V.str "firsts", V.str "full", V.str "lasts"])) _
    rw [e]
    exact k _ (same_new ht)
abbrev N_is_old : List Str := ["wishes", "thing", "one"]
theorem sc_is_old : FnScope N_is_old ["wishes", "thing"] (defScope s_is_old) := ⟨rfl, rfl, rfl, by decide +kernel, rfl, by decide +kernel, by decide +kernel⟩
theorem ok_is_old {f : Addr} {fd : FuncData} (F : FnP K "is_old" "is_old" s_is_old f fd) (T : Txt K mg)  : FnOk P w K mg base CX0 1 f fd ["wishes", "thing"] (spOld) := by
  refine F.ok sc_is_old (fun vs H Q E h => ?_) (fun cdv A outer s H vs Q E hr h => ?_)
  · obtain ⟨x, rfl, _⟩ := h
    rfl
  · have hu := hu_of hr
    have nd := sc_is_old.nd
    refine ⟨_, PSs.nox (pss_cons (ps_if (pt_cmpR op_isN (pv 1) pe_non (nomark _))
      (pss_one (ps_ret pe_bl))
      pss_nil)
    pss_never), ?_⟩
    obtain ⟨x, rfl, k⟩ := h
    exact ⟨_, rfl, rfl, _, rfl, ifT rfl k⟩
abbrev N_are_turns : List Str := ["wishes", "thing", "seen", "one"]
theorem sc_are_turns : FnScope N_are_turns ["wishes", "thing"] (defScope s_are_turns) := ⟨rfl, rfl, rfl, by decide +kernel, rfl, by decide +kernel, by decide +kernel⟩
theorem ok_are_turns {f : Addr} {fd : FuncData} (F : FnP K "are_turns" "are_turns" s_are_turns f fd) (T : Txt K mg)  : FnOk P w K mg base CX0 1 f fd ["wishes", "thing"] (spTurns) := by
  refine F.ok sc_are_turns (fun vs H Q E h => ?_) (fun cdv A outer s H vs Q E hr h => ?_)
  · obtain ⟨x, t, rfl, _⟩ := h
    rfl
  · have hu := hu_of hr
    have nd := sc_are_turns.nd
    refine ⟨_, PSs.nox (pss_cons (ps_if (pt_not (pt_val (pe_callB call_isi (by rfl) T.isinstance (by decide +kernel) (pa_cons (pv 1) (pa_cons (pe_bty (n := "list") (by rfl) T.list (by decide +kernel)) pa_nil)))))
      (pss_one (ps_ret pe_bl))
      pss_nil)
    (pss_cons (ps_set (i := 2) nd rfl (Or.inl rfl) pe_dnewK)
    (pss_cons (ps_for PassesOwn.never rfl (pi_list (pv 1)) (pg_name (i := 3) nd rfl (Or.inl rfl))
      pss_never)
    (pss_one (ps_ret pe_bl))))), ?_⟩
    obtain ⟨x, t, rfl, hT, k⟩ := h
    refine ⟨_, rfl, _, _, _, _, true, rfl, .ty _, .base (.lst hT), kit_ty (by decide +kernel), true, rfl, ifF rfl ?_⟩
    intro d hd
    refine ⟨_, rfl, t, rfl, ⟨_, SqL.of ((same_new hd) _ _ hT)⟩, for_list (xs := []) (fun i σ H' => ∃ v3, σ = [some x, some (.ref t), some (.ref d), v3] ∧ Same H H') ⟨_, rfl, same_new hd⟩ (fun i σ H' _ ⟨_, _, s⟩ => SqL.of (s _ _ hT)) (fun i y σ H' h => by simp at h) ?_⟩
    rintro σ H' ⟨v3, rfl, s⟩
    exact k H' s
abbrev N_fault_of : List Str := ["wishes", "thing"]
theorem sc_fault_of : FnScope N_fault_of ["wishes", "thing"] (defScope s_fault_of) := ⟨rfl, rfl, rfl, by decide +kernel, rfl, by decide +kernel, by decide +kernel⟩
theorem ok_fault_of {f : Addr} {fd : FuncData} (F : FnP K "fault_of" "fault_of" s_fault_of f fd) (T : Txt K mg) (c_are_turns : Cal P w K mg base "are_turns" 1 ["wishes", "thing"] (spTurns)) (c_is_old : Cal P w K mg base "is_old" 1 ["wishes", "thing"] (spOld)) (c_is_order : Cal P w K mg base "is_order" 1 ["thing"] (spOrder)) : FnOk P w K mg base CX0 2 f fd ["wishes", "thing"] (spFault) := by
  refine F.ok sc_fault_of (fun vs H Q E h => ?_) (fun cdv A outer s H vs Q E hr h => ?_)
  · obtain ⟨x, a, o, rfl, _⟩ := h
    rfl
  · have hu := hu_of hr
    have nd := sc_fault_of.nd
    refine ⟨_, PSs.nox (pss_cons (ps_if (PW.pt (pw_or (pt_not (pt_val (pe_callB call_isi (by rfl) T.isinstance (by decide +kernel) (pa_cons (pv 1) (pa_cons (pe_bty (n := "tuple") (by rfl) T.tuple (by decide +kernel)) pa_nil))))) (pw_or1 (pt_cmpR op_ne (pe_callB call_len_seq (by rfl) T.len (by decide +kernel) (pa_cons (pv 1) pa_nil)) pe_int (nomark _)))))
      (pss_one ps_never)
      pss_nil)
    (pss_cons (ps_if (pt_not (pt_val (pe_call c_is_order.ok (hr.mono (by decide)) (by rfl) c_is_order.g c_is_order.kp c_is_order.b .nil pass0 (pa_cons (pe_ix ix_tup (pv 1) pe_int (fun _ _ => rfl)) pa_nil))))
      (pss_one ps_never)
      pss_nil)
    (pss_cons (ps_if (pt_not (pt_val (pe_call c_is_old.ok (hr.mono (by decide)) (by rfl) c_is_old.g c_is_old.kp c_is_old.b .nil pass0 (pa_cons (pv 0) (pa_cons (pe_ix ix_tup (pv 1) pe_int (fun _ _ => rfl)) pa_nil)))))
      (pss_one ps_never)
      pss_nil)
    (pss_cons (ps_if (pt_not (pt_val (pe_call c_are_turns.ok (hr.mono (by decide)) (by rfl) c_are_turns.g c_are_turns.kp c_are_turns.b .nil pass0 (pa_cons (pv 0) (pa_cons (pe_ix ix_tup (pv 1) pe_int (fun _ _ => rfl)) pa_nil)))))
      (pss_one ps_never)
      pss_nil)
    (pss_one (ps_ret pe_non)))))), ?_⟩
    obtain ⟨x, a, o, rfl, ⟨t, hA, hT⟩, k⟩ := h
    refine ⟨_, rfl, _, _, _, _, true, rfl, .ty _, .base (.tup hA), kit_ty (by decide +kernel), true, rfl, ifF rfl ?_⟩
    refine ⟨_, rfl, _, _, rfl, .inr (SqT.of hA), rfl, _, rfl, ifF rfl ?_⟩
    refine ⟨_, rfl, a, _, 0, _, rfl, rfl, SqT.of hA, rfl, o, rfl, fun H1 s1 => ⟨_, rfl, ifF rfl ?_⟩⟩
    have hA1 := s1 _ _ hA
    refine ⟨_, rfl, _, rfl, a, _, 1, _, rfl, rfl, SqT.of hA1, rfl, x, rfl, _, rfl, ifF rfl ?_⟩
    refine ⟨_, rfl, _, rfl, a, _, 2, _, rfl, rfl, SqT.of hA1, rfl, x, t, rfl, s1 _ _ hT, fun H2 s2 => ⟨_, rfl, ifF rfl ?_⟩⟩
    exact k H2 (s1.trans s2)
abbrev N_look_at_aim : List Str := ["wishes", "thing", "part"]
theorem sc_look_at_aim : FnScope N_look_at_aim ["wishes", "thing"] (defScope s_look_at_aim) := ⟨rfl, rfl, rfl, by decide +kernel, rfl, by decide +kernel, by decide +kernel⟩
theorem ok_look_at_aim {f : Addr} {fd : FuncData} (F : FnP K "look_at_aim" "look_at_aim" s_look_at_aim f fd) (T : Txt K mg) (c_fault_of : Cal P w K mg base "fault_of" 2 ["wishes", "thing"] (spFault)) (c_look_at_wishes : Cal P w K mg base "look_at_wishes" 4 ["thing"] (spLook)) : FnOk P w K mg base CX0 5 f fd ["wishes", "thing"] (spLookA) := by
  refine F.ok sc_look_at_aim (fun vs H Q E h => ?_) (fun cdv A outer s H vs Q E hr h => ?_)
  · obtain ⟨a, b, w, o, rfl, _⟩ := h
    rfl
  · have hu := hu_of hr
    have nd := sc_look_at_aim.nd
    refine ⟨_, PSs.nox (pss_cons (ps_expr (pe_call c_look_at_wishes.ok (hr.mono (by decide)) (by rfl) c_look_at_wishes.g c_look_at_wishes.kp c_look_at_wishes.b .nil pass0 (pa_cons (pv 0) pa_nil)))
    (pss_cons (ps_set (i := 2) nd rfl (Or.inl rfl) (pe_call c_fault_of.ok (hr.mono (by decide)) (by rfl) c_fault_of.g c_fault_of.kp c_fault_of.b .nil pass0 (pa_cons (pv 0) (pa_cons (pv 1) pa_nil))))
    (pss_one (ps_if (pt_cmpR op_notN (pv 2) pe_non (nomark _))
      (pss_one ps_never)
      pss_nil)))), ?_⟩
    obtain ⟨a, b, w, o, rfl, hW, ok, hA, k⟩ := h
    refine ⟨_, rfl, a, w, rfl, hW, ok, fun H1 s1 => ?_⟩
    refine ⟨_, rfl, _, rfl, _, b, o, rfl, hA.mono s1, fun H2 s2 => ?_⟩
    exact ⟨_, rfl, rfl, _, rfl, ifF rfl (k H2 (s1.trans s2))⟩
abbrev N_powers_of : List Str := ["base", "most", "found", "k"]
theorem sc_powers_of : FnScope N_powers_of ["base", "most"] (defScope s_powers_of) := ⟨rfl, rfl, rfl, by decide +kernel, rfl, by decide +kernel, by decide +kernel⟩
theorem ok_powers_of {f : Addr} {fd : FuncData} (F : FnP K "powers_of" "powers_of" s_powers_of f fd) (T : Txt K mg)  : FnOk P w K mg base CX0 1 f fd ["base", "most"] (spPow) := by
  refine F.ok sc_powers_of (fun vs H Q E h => ?_) (fun cdv A outer s H vs Q E hr h => ?_)
  · obtain ⟨B, n, rfl, _⟩ := h
    rfl
  · have hu := hu_of hr
    have nd := sc_powers_of.nd
    refine ⟨_, PSs.nox (pss_cons (ps_set (i := 2) nd rfl (Or.inl rfl) (pe_lst (pa_cons pe_int pa_nil)))
    (pss_cons (ps_for PassesOwn.never rfl (pi_range1 rfl T.range (pa_cons (pv 1) pa_nil)) (pg_name (i := 3) nd rfl (Or.inl rfl))
      (pss_one (ps_expr (pe_bm PySem.F.plainAttrs_list PySem.F.slot_list_append PySem.F.type_list_append mt_append (pv 2) (pa_cons (pe_op op_mul (pe_ix ix_list (pv 2) (pe_un un_neg pe_int) (fun _ _ => rfl)) (pv 0)) pa_nil)))))
    (pss_one (ps_ret (pv 2))))), ?_⟩
    obtain ⟨B, n, rfl, h0, h1, hn, k⟩ := h
    refine ⟨by show 1 ≤ sizeLine; decide, fun p hp => ?_⟩
    refine ⟨_, rfl, (n : Int), rfl, by omega, by omega, for_range (n := n) (fun i σ H' => ∃ v3, σ = [some (.int B), some (nV n), some (.ref p), v3] ∧ Same H H' ∧ H' p = some (.lst ((powL B i).map V.int))) ⟨_, rfl, same_new hp, upd_same⟩ ?_ ?_⟩
    · rintro i σ H' hi ⟨v3, rfl, s, hP⟩
      have eg : (powL B i)[i]? = some (bp B i) := by
        unfold powL
        rw [List.getElem?_map, List.getElem?_range (by omega)]
        rfl
      have el : (powL B i).length = i + 1 := by
        unfold powL
        rw [List.length_map, List.length_range]
      refine ⟨_, rfl, .inl ⟨rfl, _, SqL.of hP⟩, _, rfl, _, rfl, p, _, _, _, rfl, rfl, SqL.of hP, atI_lastN (by rw [List.length_map, el]) (map_get V.int eg), _, rfl, _, _, rfl, rfl, .inr ⟨by omega, by omega⟩, p, _, _, rfl, rfl, hP, ?_, ?_⟩
      · rw [List.length_map, el]
        exact sl100 (by omega)
      · refine ⟨_, rfl, same_mut s hp, ?_⟩
        rw [upd_same]
        show _ = some (HO.lst ((powL B (i + 1)).map V.int))
        unfold powL
        rw [List.range_succ (n := i + 1), List.map_append, List.map_append]
        rfl
    · rintro σ H' ⟨v3, rfl, s, hP⟩
      exact ⟨_, rfl, k p H' hp s hP⟩
end
end Wd
/-! Dicts whose keys are numbers from 0 on. -/
namespace Wd
open PySem PySem.Spec PyProof.Rows L2
section
variable {α : Type}
def enc (f : α → V) (l : List (Nat × α)) : List (Key × V) := l.map fun p => (Sum.inl (p.1 : Int), f p.2)
def put (l : List (Nat × α)) (t : Nat) (x : α) : List (Nat × α) := if (l.any fun p => decide (p.1 = t)) = true then l.map fun p => if p.1 = t then (p.1, x) else p else l ++ [(t, x)]
theorem key_eq (a b : Nat) : ((Sum.inl (a : Int) : Key) = Sum.inl (b : Int)) = (a = b) := by
  apply propext
  constructor
  · intro h
    exact Int.ofNat.inj (Sum.inl.inj h)
  · intro h
    rw [h]
theorem dec_key (a b : Nat) : decide ((Sum.inl (a : Int) : Key) = Sum.inl (b : Int)) = decide (a = b) := by
  by_cases h : a = b
  · subst h
    simp
  · rw [decide_eq_false h, decide_eq_false (by rw [key_eq]; exact h)]
theorem valV_enc (f : α → V) (t : Nat) : ∀ l : List (Nat × α), valV (enc f l) (Sum.inl (t : Int)) = (l.lookup t).map f
  | [] => rfl
  | (a, x) :: r => by
    have ih := valV_enc f t r
    by_cases h : a = t
    · subst h
      rw [List.lookup_cons, beq_self_eq_true]
      exact valV_pos (p := (Sum.inl (a : Int), f x)) rfl
    · have hb : (t == a) = false := beq_eq_false_iff_ne.mpr fun e => h e.symm
      rw [List.lookup_cons, hb]
      exact (valV_neg (p := (Sum.inl (a : Int), f x)) (r := enc f r) (by rw [key_eq]; exact h)).trans ih
theorem enc_len (f : α → V) (l : List (Nat × α)) : (enc f l).length = l.length := List.length_map ..
theorem putK_enc (f : α → V) (l : List (Nat × α)) (t : Nat) (x : α) : putK (enc f l) (Sum.inl (t : Int)) (f x) = enc f (put l t x) := by
  have e1 : ((enc f l).any fun kv => decide (kv.1 = (Sum.inl (t : Int) : Key))) = (l.any fun p => decide (p.1 = t)) := by
    unfold enc
    rw [List.any_map]
    congr 1
    funext p
    exact dec_key p.1 t
  unfold putK put
  rw [e1]
  by_cases h : (l.any fun p => decide (p.1 = t)) = true
  · rw [if_pos h, if_pos h]
    unfold enc
    rw [List.map_map, List.map_map]
    refine List.map_congr_left fun p _ => ?_
    show (if (Sum.inl (p.1 : Int) : Key) = Sum.inl (t : Int) then ((Sum.inl (p.1 : Int) : Key), f x) else (Sum.inl (p.1 : Int), f p.2)) = _
    by_cases q : p.1 = t
    · rw [if_pos (by rw [q])]
      show _ = (Sum.inl ((if p.1 = t then (p.1, x) else p).1 : Int), f (if p.1 = t then (p.1, x) else p).2)
      rw [if_pos q]
    · rw [if_neg (by rw [key_eq]; exact q)]
      show _ = (Sum.inl ((if p.1 = t then (p.1, x) else p).1 : Int), f (if p.1 = t then (p.1, x) else p).2)
      rw [if_neg q]
  · rw [if_neg h, if_neg h]
    unfold enc
    rw [List.map_append]
    rfl
theorem lookup_any (t : Nat) : ∀ l : List (Nat × α), (l.any fun p => decide (p.1 = t)) = (l.lookup t).isSome
  | [] => rfl
  | (a, x) :: r => by
    rw [List.any_cons, List.lookup_cons, lookup_any t r]
    by_cases h : a = t
    · subst h
      simp
    · have hb : (t == a) = false := beq_eq_false_iff_ne.mpr fun e => h e.symm
      rw [hb]
      simp [h]
theorem lookup_put (l : List (Nat × α)) (t : Nat) (x : α) (i : Nat) : (put l t x).lookup i = if i = t then some x else l.lookup i := by
  unfold put
  by_cases h : (l.any fun p => decide (p.1 = t)) = true
  · rw [if_pos h]
    rw [lookup_any] at h
    induction l with
    | nil => cases h
    | cons p r ih =>
      obtain ⟨a, y⟩ := p
      rw [List.map_cons]
      by_cases q : a = t
      · subst q
        rw [if_pos rfl, List.lookup_cons, List.lookup_cons]
        by_cases e : i = a
        · subst e
          simp
        · have hb : (i == a) = false := beq_eq_false_iff_ne.mpr e
          rw [hb, if_neg e]
          show ((r.map fun p => if p.1 = a then (p.1, x) else p).lookup i) = r.lookup i
          clear ih h
          induction r with
          | nil => rfl
          | cons p r ih =>
            obtain ⟨b, z⟩ := p
            by_cases q2 : b = a
            · subst q2
              rw [List.map_cons, if_pos rfl, List.lookup_cons, List.lookup_cons, hb]
              exact ih
            · rw [List.map_cons, if_neg q2, List.lookup_cons, List.lookup_cons, ih]
      · rw [if_neg q, List.lookup_cons, List.lookup_cons]
        have hb : (t == a) = false := beq_eq_false_iff_ne.mpr fun e => q e.symm
        rw [List.lookup_cons, hb] at h
        rw [ih h]
        by_cases e : i = a
        · subst e
          rw [beq_self_eq_true]
          exact (if_neg q).symm
        · have hb2 : (i == a) = false := beq_eq_false_iff_ne.mpr e
          rw [hb2]
  · rw [if_neg h]
    rw [lookup_any] at h
    have hn : l.lookup t = Option.none := by
      cases e : l.lookup t with
      | none => rfl
      | some y => rw [e] at h; exact absurd rfl h
    clear h
    induction l with
    | nil =>
      rw [List.nil_append, List.lookup_cons]
      by_cases e : i = t
      · subst e
        simp
      · have hb2 : (i == t) = false := beq_eq_false_iff_ne.mpr e
        rw [hb2, if_neg e]
    | cons p r ih =>
      obtain ⟨a, y⟩ := p
      rw [List.lookup_cons] at hn
      by_cases q : t = a
      · subst q
        rw [beq_self_eq_true] at hn
        cases hn
      · have hb : (t == a) = false := beq_eq_false_iff_ne.mpr q
        rw [hb] at hn
        rw [List.cons_append, List.lookup_cons, List.lookup_cons, ih hn]
        by_cases e : i = a
        · subst e
          rw [beq_self_eq_true]
          exact (if_neg fun z => q z.symm).symm
        · have hb2 : (i == a) = false := beq_eq_false_iff_ne.mpr e
          rw [hb2]
theorem put_len (l : List (Nat × α)) (t : Nat) (x : α) : (put l t x).length ≤ l.length + 1 := by
  unfold put
  split
  · rw [List.length_map]
    omega
  · rw [List.length_append]
    exact Nat.le_refl _
theorem put_new {l : List (Nat × α)} {t : Nat} (x : α) (h : l.lookup t = Option.none) : put l t x = l ++ [(t, x)] := by
  unfold put
  rw [lookup_any, h, if_neg (by intro q; cases q)]
theorem lookup_none {l : List (Nat × α)} {t : Nat} (h : ∀ p ∈ l, p.1 ≠ t) : l.lookup t = Option.none := by
  induction l with
  | nil => rfl
  | cons p r ih =>
    obtain ⟨a, y⟩ := p
    have hb : (t == a) = false := beq_eq_false_iff_ne.mpr fun e => h (a, y) List.mem_cons_self e.symm
    rw [List.lookup_cons, hb]
    exact ih fun p hp => h p (List.mem_cons_of_mem _ hp)
theorem lookup_mem {l : List (Nat × α)} {t : Nat} {x : α} (h : l.lookup t = some x) : (t, x) ∈ l := by
  induction l with
  | nil => cases h
  | cons p r ih =>
    obtain ⟨a, y⟩ := p
    rw [List.lookup_cons] at h
    by_cases e : t = a
    · subst e
      rw [beq_self_eq_true] at h
      cases h
      exact List.mem_cons_self
    · have hb : (t == a) = false := beq_eq_false_iff_ne.mpr e
      rw [hb] at h
      exact List.mem_cons_of_mem _ (ih h)
theorem mem_lookup {l : List (Nat × α)} {t : Nat} {x : α} (hn : (l.map (·.1)).Nodup) (h : (t, x) ∈ l) : l.lookup t = some x := by
  induction l with
  | nil => cases h
  | cons p r ih =>
    obtain ⟨a, y⟩ := p
    have hn : (a :: r.map (·.1)).Nodup := hn
    obtain ⟨h1, h2⟩ := List.nodup_cons.mp hn
    rw [List.lookup_cons]
    rcases List.mem_cons.mp h with e | e
    · cases e
      rw [beq_self_eq_true]
    · have hb : (t == a) = false := beq_eq_false_iff_ne.mpr fun z => h1 (by rw [← z]; exact List.mem_map.mpr ⟨_, e, rfl⟩)
      rw [hb]
      exact ih h2 e
theorem put_nodup {l : List (Nat × α)} {t : Nat} {x : α} (hn : (l.map (·.1)).Nodup) : ((put l t x).map (·.1)).Nodup := by
  unfold put
  by_cases h : (l.any fun p => decide (p.1 = t)) = true
  · rw [if_pos h, List.map_map]
    have e : l.map ((fun p : Nat × α => p.1) ∘ fun p => if p.1 = t then (p.1, x) else p) = l.map (·.1) := List.map_congr_left fun p _ => by
      show (if p.1 = t then (p.1, x) else p).1 = p.1
      split <;> rfl
    rw [e]
    exact hn
  · rw [if_neg h, List.map_append]
    refine nd_snoc hn fun m => h ?_
    obtain ⟨p, hp, e⟩ := List.mem_map.mp m
    exact List.any_eq_true.mpr ⟨p, hp, decide_eq_true e⟩
end
/-- d[t] of such a dict -/
theorem dget {α : Type} {f : α → V} {l : List (Nat × α)} {H : Hp} {a : Addr} (t : Nat) (h : Rd H a (.dK (enc f l))) : DGet H a (nV t) ((l.lookup t).map f) :=
  .inl ⟨enc f l, Sum.inl (t : Int), h, rfl, (valV_enc f t l).symm⟩
theorem dget_some {α : Type} {f : α → V} {l : List (Nat × α)} {H : Hp} {a : Addr} {t : Nat} {x : α} (h : Rd H a (.dK (enc f l))) (e : l.lookup t = some x) : DGet H a (nV t) (some (f x)) := by
  have := dget t h
  rw [e] at this
  exact this
theorem dput {α : Type} {f : α → V} {l : List (Nat × α)} {H : Hp} {a : Addr} (t : Nat) (x : α) (h : H a = some (.dK (enc f l))) (hl : l.length < 100000) : DPut H a (nV t) (f x) (upd H a (.dK (enc f (put l t x)))) :=
  .inl ⟨enc f l, Sum.inl (t : Int), h, rfl, by rw [enc_len]; exact sl100 hl, by rw [putK_enc]⟩
end Wd
namespace Wd
open PySem PySem.Spec PyProof.Rows L2
/-! ### what wishes are worth -/
abbrev bI (w : Wi) : Int := ((w.l.length + 1 : Nat) : Int)
/-- the worth of a wish of a rank -/
def rw_ (w : Wi) (o i : Nat) : Int := byO o (bI w) (wlong w) i * bI w
def wt (w : Wi) (o a t : Nat) : Option Int := if rkI (w.l.getD a []) t = 0 then Option.none else some (rw_ w o (rkI (w.l.getD a []) t))
abbrev fl (fs : List (Str × V)) (f : Str) : Option V := fs.lookup f
/-- a scale at s -/
def ScAt (K : PySem.W.Frag) (H : Hp) (s : Addr) (w : Wi) (o : Nat) : Prop := ∃ (dx : Addr) (fs : List (Str × V)) (t st pk : Addr), H s = some (.ins (He.ga K "Scale") dx fs) ∧
  (fl fs "order" = some (.str (ordS o)) ∧ fl fs "old" = some .non ∧ fl fs "turns" = some (.ref t) ∧ fl fs "base" = some (.int (bI w)) ∧ fl fs "ranks" = some (nV (wlong w)) ∧ fl fs "steps" = some (.ref st) ∧ fl fs "picks" = some (.ref pk)) ∧
  (fl fs "by_order" = Option.none ∧ fl fs "pick_of" = Option.none ∧ fl fs "of" = Option.none) ∧
  H t = some (.lst []) ∧ H st = some (.lst ((powL (bI w) (wlong w)).map V.int)) ∧ H pk = some (.lst [V.int 1])
theorem ScAt.mono {K : PySem.W.Frag} {H H' : Hp} {s : Addr} {w : Wi} {o : Nat} (sm : Same H H') (h : ScAt K H s w o) : ScAt K H' s w o := by
  obtain ⟨dx, fs, t, st, pk, h1, h2, h3, h4, h5, h6⟩ := h
  exact ⟨dx, fs, t, st, pk, sm _ _ h1, h2, h3, sm _ _ h4, sm _ _ h5, sm _ _ h6⟩
/-- behind the making of an instance all is as it was -/
theorem made {H H' : Hp} {x dx C : Addr} (nx : H x = Option.none) (nd : H dx = Option.none) (s : SameX [x] (upd (upd H dx (.own x)) x (.ins C dx [])) H') : Same H H' := fun b o e => by
  refine s b o (by simp [ne_of_none e nx]) ?_
  rw [upd_ne (ne_of_none e nx), upd_ne (ne_of_none e nd)]
  exact e
theorem made0 {H : Hp} {x dx C : Addr} (nx : H x = Option.none) (nd : H dx = Option.none) : Same H (upd (upd H dx (.own x)) x (.ins C dx [])) := made nx nd (SameX.refl _ _)
theorem long5 {w : Wi} (ok : w.Ok) : wlong w ≤ 5 := by
  have h := maxL_in (l := w.l.map List.length) (by
    intro q
    have := ok.l1
    rw [List.map_eq_nil_iff] at q
    rw [q] at this
    exact absurd this (by decide))
  obtain ⟨r, hr, e⟩ := List.mem_map.mp h
  have := (ok.rk r hr).len
  unfold wlong
  omega
theorem bI_bd {w : Wi} (ok : w.Ok) : 2 ≤ bI w ∧ bI w ≤ 8 := by
  have := ok.l1
  have := ok.l7
  show 2 ≤ ((w.l.length + 1 : Nat) : Int) ∧ ((w.l.length + 1 : Nat) : Int) ≤ 8
  omega
/-- what is no instance stands without one -/
theorem WAt.delI {H : Hp} {p C dx a : Addr} {fs : List (Str × V)} {w : Wi} (hp : H p = some (.ins C dx fs)) (h : WAt H a w) : WAt (del H p) a w := by
  have nl : ∀ {b : Addr} {xs : List V}, H b = some (.lst xs) → del H p b = some (.lst xs) := fun e => by
    rw [del_at (ne_of e hp (by intro q; cases q))]
    exact e
  obtain ⟨c, l, h1, h2, as, h3, h4, h5⟩ := h
  refine ⟨c, l, ?_, nl h2, as, nl h3, h4, fun i a r e1 e2 => ?_⟩
  · rw [del_at (ne_of h1 hp (by intro q; cases q))]
    exact h1
  · obtain ⟨bs, g1, g2, g3⟩ := h5 i a r e1 e2
    exact ⟨bs, nl g1, g2, fun j b row f1 f2 => nl (g3 j b row f1 f2)⟩
theorem WAt.monoX {H H' : Hp} {p C dx a : Addr} {fs : List (Str × V)} {w : Wi} (hp : H p = some (.ins C dx fs)) (s : SameX [p] H H') (h : WAt H a w) : WAt H' a w := (h.delI hp).mono ((del_mono s).trans del_same)
theorem powL_get {B : Int} {n i : Nat} (h : i ≤ n) : (powL B n)[i]? = some (bp B i) := by
  unfold powL
  rw [List.getElem?_map, List.getElem?_range (by omega)]
  rfl
def spScI (K : PySem.W.Frag) : Sp := fun vs H Q _ => ∃ (s a b dx : Addr) (w : Wi) (o : Nat), vs = [.ref s, .ref a, .ref b] ∧ WAt H a w ∧ w.Ok ∧ AimAt H b o ∧ H s = some (.ins (He.ga K "Scale") dx []) ∧ ∀ H', SameX [s] H H' → ScAt K H' s w o → Q .non H'
def spByO (K : PySem.W.Frag) : Sp := fun vs H Q _ => ∃ (s : Addr) (w : Wi) (o i : Nat), vs = [.ref s, nV i] ∧ ScAt K H s w o ∧ 1 ≤ i ∧ i ≤ wlong w ∧ Q (.int (byO o (bI w) (wlong w) i)) H
def spPick (K : PySem.W.Frag) : Sp := fun vs H Q _ => ∃ (s : Addr) (w : Wi) (o a : Nat) (i : V), vs = [.ref s, nV a, i] ∧ ScAt K H s w o ∧ Q (.int 0) H
def spOf (K : PySem.W.Frag) : Sp := fun vs H Q _ => ∃ (s : Addr) (w : Wi) (o a i : Nat) (t : V), vs = [.ref s, nV a, t, nV i] ∧ ScAt K H s w o ∧ w.Ok ∧ 1 ≤ i ∧ i ≤ wlong w ∧ Q (.int (rw_ w o i)) H
theorem ordS_lasts (o : Nat) : decide (V.str (ordS o) = V.str "lasts") = decide (2 ≤ o) := by
  match o with
  | 0 => decide +kernel
  | 1 => decide +kernel
  | o + 2 =>
    rw [decide_eq_true (show 2 ≤ o + 2 by omega)]
    exact decide_eq_true rfl
theorem ordS_full (o : Nat) (h : ¬ 2 ≤ o) : decide (V.str (ordS o) = V.str "full") = decide (o = 1) := by
  match o, h with
  | 0, _ => decide +kernel
  | 1, _ => decide +kernel
  | o + 2, h => exact absurd (by omega) h
section
variable {P : Program} {w : World} {K : PySem.W.Frag} {mg : Str → Option Value} {base : Heap}
abbrev N_Scale_init : List Str := ["self", "wishes", "aim"]
theorem sc_Scale_init : FnScope N_Scale_init ["self", "wishes", "aim"] (defScope s_Scale_init) := ⟨rfl, rfl, rfl, by decide +kernel, rfl, by decide +kernel, by decide +kernel⟩
theorem ok_Scale_init {f : Addr} {fd : FuncData} (F : FnP K "__init__" "Scale.__init__" s_Scale_init f fd) (T : Txt K mg) (c_longest : Cal P w K mg base "longest" 5 ["wishes"] (spLong)) (c_powers_of : Cal P w K mg base "powers_of" 1 ["base", "most"] (spPow)) : FnOk P w K mg base CX0 6 f fd ["self", "wishes", "aim"] (spScI K) := by
  refine F.ok sc_Scale_init (fun vs H Q E h => ?_) (fun cdv A outer s H vs Q E hr h => ?_)
  · obtain ⟨s, a, b, dx, w, o, rfl, _⟩ := h
    rfl
  · have hu := hu_of hr
    have nd := sc_Scale_init.nd
    refine ⟨_, PSs.nox (pss_cons (ps_fld (pv 0) (pe_ix ix_tup (pv 2) pe_int (fun _ _ => rfl)) rfl)
    (pss_cons (ps_fld (pv 0) (pe_ix ix_tup (pv 2) pe_int (fun _ _ => rfl)) rfl)
    (pss_cons (ps_fld (pv 0) (pe_callTy call_list_of (by rfl) T.list (by decide +kernel) (pa_cons (pe_ix ix_tup (pv 2) pe_int (fun _ _ => rfl)) pa_nil)) rfl)
    (pss_cons (ps_fld (pv 0) (pe_op op_add (pe_callB call_len_seq (by rfl) T.len (by decide +kernel) (pa_cons (pe_ix ix_tup (pv 1) pe_int (fun _ _ => rfl)) pa_nil)) pe_int) rfl)
    (pss_cons (ps_fld (pv 0) (pe_call c_longest.ok (hr.mono (by decide)) (by rfl) c_longest.g c_longest.kp c_longest.b .nil pass0 (pa_cons (pv 1) pa_nil)) rfl)
    (pss_cons (ps_fld (pv 0) (pe_call c_powers_of.ok (hr.mono (by decide)) (by rfl) c_powers_of.g c_powers_of.kp c_powers_of.b .nil pass0 (pa_cons (pe_fld (pv 0) rfl) (pa_cons (pe_fld (pv 0) rfl) pa_nil))) rfl)
    (pss_one (ps_fld (pv 0) (pe_call c_powers_of.ok (hr.mono (by decide)) (by rfl) c_powers_of.g c_powers_of.kp c_powers_of.b .nil pass0 (pa_cons (pe_op op_add (pe_fld (pv 0) rfl) pe_int) (pa_cons (pe_callB call_len_seq (by rfl) T.len (by decide +kernel) (pa_cons (pe_fld (pv 0) rfl) pa_nil)) pa_nil))) rfl)))))))), ?_⟩
    obtain ⟨s, a, b, dx, w, o, rfl, hW, ok, ⟨t, hB, hT⟩, hS, k⟩ := h
    have bb := bI_bd ok
    have l5 := long5 ok
    have nas : a ≠ s := by
      obtain ⟨c, l, hA, _⟩ := hW
      exact ne_of hA hS (by intro q; cases q)
    have nbs : b ≠ s := ne_of hB hS (by intro q; cases q)
    have nts : t ≠ s := ne_of hT hS (by intro q; cases q)
    -- order, old
    refine ⟨_, rfl, b, _, 0, _, rfl, rfl, SqT.of hB, rfl, _, rfl, s, _, dx, _, rfl, hS, T.cl_Scale, T.n_Scale_order, by show 0 < 1000; decide, ?_⟩
    have l1 := length_putF "order" (V.str (ordS o)) []
    have g1 : (putF "order" (V.str (ordS o)) []) = putF "order" (V.str (ordS o)) [] := rfl
    generalize hf1 : putF "order" (V.str (ordS o)) [] = f1 at l1
    have x1 : SameX [s] H (upd H s (.ins (He.ga K "Scale") dx f1)) := (SameX.refl _ _).upd_in (by simp)
    have e1 := upd_same (H := H) (a := s) (o := .ins (He.ga K "Scale") dx f1)
    generalize upd H s (.ins (He.ga K "Scale") dx f1) = H1 at x1 e1
    refine ⟨_, rfl, b, _, 1, _, rfl, rfl, SqT.of (x1 _ _ (by simp [nbs]) hB), rfl, _, rfl, s, _, dx, _, rfl, e1, T.cl_Scale, T.n_Scale_old, by simp at l1; omega, ?_⟩
    have l2 := length_putF "old" V.non f1
    generalize hf2 : putF "old" V.non f1 = f2 at l2
    have x2 : SameX [s] H (upd H1 s (.ins (He.ga K "Scale") dx f2)) := x1.upd_in (by simp)
    have e2 := upd_same (H := H1) (a := s) (o := .ins (He.ga K "Scale") dx f2)
    generalize upd H1 s (.ins (He.ga K "Scale") dx f2) = H2 at x2 e2
    -- turns
    refine ⟨_, rfl, b, _, 2, _, rfl, rfl, SqT.of (x2 _ _ (by simp [nbs]) hB), rfl, t, _, rfl, .inl (SqL.of (x2 _ _ (by simp [nts]) hT)), fun t2 ht2 => ?_⟩
    have nt2 : s ≠ t2 := ne_of_none e2 ht2
    have y3 : Same H2 (upd H2 t2 (.lst [])) := same_new ht2
    have a3 := upd_same (H := H2) (a := t2) (o := .lst [])
    generalize upd H2 t2 (.lst []) = H3 at y3 a3
    have x3 : SameX [s] H H3 := x2.trans (SameX.of y3)
    refine ⟨_, rfl, s, _, dx, _, rfl, y3 _ _ e2, T.cl_Scale, T.n_Scale_turns, by simp at l1; omega, ?_⟩
    have l3 := length_putF "turns" (V.ref t2) f2
    generalize hf3 : putF "turns" (V.ref t2) f2 = f3 at l3
    have x4 : SameX [s] H (upd H3 s (.ins (He.ga K "Scale") dx f3)) := x3.upd_in (by simp)
    have e4 := upd_same (H := H3) (a := s) (o := .ins (He.ga K "Scale") dx f3)
    have a4 : (upd H3 s (.ins (He.ga K "Scale") dx f3)) t2 = some (.lst []) := by rw [upd_ne nt2.symm]; exact a3
    generalize upd H3 s (.ins (He.ga K "Scale") dx f3) = H4 at x4 e4 a4
    -- base
    have hW0 := hW
    obtain ⟨c, l, hA, hC, as, hL, hn, hR⟩ := hW
    have nls : l ≠ s := ne_of hL hS (by intro q; cases q)
    refine ⟨_, rfl, a, _, 1, _, rfl, rfl, SqT.of (x4 _ _ (by simp [nas]) hA), rfl, l, _, rfl, .inl (SqL.of (x4 _ _ (by simp [nls]) hL)), _, _, rfl, rfl, _, rfl, s, _, dx, _, rfl, e4, T.cl_Scale, T.n_Scale_base, by simp at l1; omega, ?_⟩
    have eb : ((as.map V.ref).length : Int) + 1 = bI w := by
      rw [List.length_map, hn]
      show _ = ((w.l.length + 1 : Nat) : Int)
      omega
    have l5' := length_putF "base" (V.int (((as.map V.ref).length : Int) + 1)) f3
    generalize hf5 : putF "base" (V.int (((as.map V.ref).length : Int) + 1)) f3 = f5 at l5'
    rw [eb] at hf5
    have x5 : SameX [s] H (upd H4 s (.ins (He.ga K "Scale") dx f5)) := x4.upd_in (by simp)
    have e5 := upd_same (H := H4) (a := s) (o := .ins (He.ga K "Scale") dx f5)
    have a5 : (upd H4 s (.ins (He.ga K "Scale") dx f5)) t2 = some (.lst []) := by rw [upd_ne nt2.symm]; exact a4
    generalize upd H4 s (.ins (He.ga K "Scale") dx f5) = H5 at x5 e5 a5
    -- ranks
    refine ⟨_, rfl, a, w, rfl, hW0.monoX hS x5, ok, fun H6 y6 => ?_⟩
    refine ⟨_, rfl, s, _, dx, _, rfl, y6 _ _ e5, T.cl_Scale, T.n_Scale_ranks, by simp at l1; omega, ?_⟩
    have l6 := length_putF "ranks" (nV (wlong w)) f5
    generalize hf6 : putF "ranks" (nV (wlong w)) f5 = f6 at l6
    have x7 : SameX [s] H (upd H6 s (.ins (He.ga K "Scale") dx f6)) := (x5.trans (SameX.of y6)).upd_in (by simp)
    have e7 := upd_same (H := H6) (a := s) (o := .ins (He.ga K "Scale") dx f6)
    have a7 : (upd H6 s (.ins (He.ga K "Scale") dx f6)) t2 = some (.lst []) := by rw [upd_ne nt2.symm]; exact y6 _ _ a5
    generalize upd H6 s (.ins (He.ga K "Scale") dx f6) = H7 at x7 e7 a7
    -- steps
    have lb6 : f6.lookup ("base" : Str) = some (.int (bI w)) := by rw [← hf6, lookup_putF, if_neg (by decide +kernel), ← hf5, lookup_putF, if_pos rfl]
    have lr6 : f6.lookup ("ranks" : Str) = some (nV (wlong w)) := by rw [← hf6, lookup_putF, if_pos rfl]
    refine ⟨_, rfl, s, _, dx, _, _, rfl, e7, T.cl_Scale, T.n_Scale_base, lb6, _, rfl, s, _, dx, _, _, rfl, e7, T.cl_Scale, T.n_Scale_ranks, lr6, bI w, wlong w, rfl, by omega, by omega, by omega, fun st H8 hst y8 a8 => ?_⟩
    have nst : s ≠ st := ne_of_none e7 hst
    refine ⟨_, rfl, s, _, dx, _, rfl, y8 _ _ e7, T.cl_Scale, T.n_Scale_steps, by simp at l1; omega, ?_⟩
    have l7 := length_putF "steps" (V.ref st) f6
    generalize hf7 : putF "steps" (V.ref st) f6 = f7 at l7
    have x9 : SameX [s] H (upd H8 s (.ins (He.ga K "Scale") dx f7)) := (x7.trans (SameX.of y8)).upd_in (by simp)
    have e9 := upd_same (H := H8) (a := s) (o := .ins (He.ga K "Scale") dx f7)
    have a9 : (upd H8 s (.ins (He.ga K "Scale") dx f7)) t2 = some (.lst []) := by rw [upd_ne nt2.symm]; exact y8 _ _ a7
    have b9 : (upd H8 s (.ins (He.ga K "Scale") dx f7)) st = some (.lst ((powL (bI w) (wlong w)).map V.int)) := by rw [upd_ne nst.symm]; exact a8
    generalize upd H8 s (.ins (He.ga K "Scale") dx f7) = H9 at x9 e9 a9 b9
    -- picks
    have lr7 : f7.lookup ("ranks" : Str) = some (nV (wlong w)) := by rw [← hf7, lookup_putF, if_neg (by decide +kernel), lr6]
    have lt7 : f7.lookup ("turns" : Str) = some (.ref t2) := by rw [← hf7, lookup_putF, if_neg (by decide +kernel), ← hf6, lookup_putF, if_neg (by decide +kernel), ← hf5, lookup_putF, if_neg (by decide +kernel), ← hf3, lookup_putF, if_pos rfl]
    refine ⟨_, rfl, s, _, dx, _, _, rfl, e9, T.cl_Scale, T.n_Scale_ranks, lr7, _, _, rfl, rfl, _, rfl, s, _, dx, _, _, rfl, e9, T.cl_Scale, T.n_Scale_turns, lt7, t2, _, rfl, .inl (SqL.of a9), _, 0, rfl, by omega, by omega, by omega, fun pk H10 hpk y10 a10 => ?_⟩
    have npk : s ≠ pk := ne_of_none e9 hpk
    refine ⟨_, rfl, s, _, dx, _, rfl, y10 _ _ e9, T.cl_Scale, T.n_Scale_picks, by simp at l1; omega, ?_⟩
    refine k _ ((x9.trans (SameX.of y10)).upd_in (by simp)) ⟨dx, _, t2, st, pk, upd_same, ⟨?_, ?_, ?_, ?_, ?_, ?_, ?_⟩, ⟨?_, ?_, ?_⟩, by rw [upd_ne nt2.symm]; exact y10 _ _ a9, by rw [upd_ne nst.symm]; exact y10 _ _ b9, by rw [upd_ne npk.symm]; exact a10⟩
    all_goals rw [← hf7, ← hf6, ← hf5, ← hf3, ← hf2, ← hf1]
    all_goals repeat (first | rw [lookup_putF, if_pos rfl] | rw [lookup_putF, if_neg (by decide +kernel)])
    all_goals rfl
abbrev N_Scale_by_order : List Str := ["self", "rank", "plain"]
theorem sc_Scale_by_order : FnScope N_Scale_by_order ["self", "rank"] (defScope s_Scale_by_order) := ⟨rfl, rfl, rfl, by decide +kernel, rfl, by decide +kernel, by decide +kernel⟩
theorem ok_Scale_by_order {f : Addr} {fd : FuncData} (F : FnP K "by_order" "Scale.by_order" s_Scale_by_order f fd) (T : Txt K mg)  : FnOk P w K mg base CX0 1 f fd ["self", "rank"] (spByO K) := by
  refine F.ok sc_Scale_by_order (fun vs H Q E h => ?_) (fun cdv A outer s H vs Q E hr h => ?_)
  · obtain ⟨s, w, o, i, rfl, _⟩ := h
    rfl
  · have hu := hu_of hr
    have nd := sc_Scale_by_order.nd
    refine ⟨_, PSs.nox (pss_cons (ps_if (pt_cmpR op_eq (pe_fld (pv 0) rfl) pe_str (nomark _))
      (pss_one (ps_ret (pe_op op_sub (pe_ix ix_list (pe_fld (pv 0) rfl) (pe_fld (pv 0) rfl) (fun _ _ => rfl)) (pe_ix ix_list (pe_fld (pv 0) rfl) (pe_op op_sub (pv 1) pe_int) (fun _ _ => rfl)))))
      pss_nil)
    (pss_cons (ps_set (i := 2) nd rfl (Or.inl rfl) (pe_ix ix_list (pe_fld (pv 0) rfl) (pe_op op_sub (pe_fld (pv 0) rfl) (pv 1)) (fun _ _ => rfl)))
    (pss_cons (ps_if (pt_cmpR op_eq (pe_fld (pv 0) rfl) pe_str (nomark _))
      (pss_one (ps_ret (pe_op op_add (pv 2) (pe_ix ix_list (pe_fld (pv 0) rfl) (pe_fld (pv 0) rfl) (fun _ _ => rfl)))))
      pss_nil)
    (pss_one (ps_ret (pv 2)))))), ?_⟩
    obtain ⟨s, w, o, i, rfl, ⟨dx, fs, t, st, pk, hS, ⟨g1, g2, g3, g4, g5, g6, g7⟩, _, hT, hSt, hPk⟩, h1, h2, k⟩ := h
    refine ⟨_, rfl, s, _, dx, _, _, rfl, hS, T.cl_Scale, T.n_Scale_order, g1, rfl, _, rfl, ?_⟩
    rw [ordS_lasts]
    refine if2 (fun h => ?_) fun h => ?_
    · have ho := of_decide_eq_true h
      refine ⟨_, rfl, s, _, dx, _, _, rfl, hS, T.cl_Scale, T.n_Scale_steps, g6, _, rfl, s, _, dx, _, _, rfl, hS, T.cl_Scale, T.n_Scale_ranks, g5, st, _, _, _, rfl, rfl, SqL.of hSt, at_nat V.int (powL_get (Nat.le_refl _)), ?_⟩
      have ei : ((i : Nat) : Int) - 1 = ((i - 1 : Nat) : Int) := by omega
      refine ⟨_, rfl, s, _, dx, _, _, rfl, hS, T.cl_Scale, T.n_Scale_steps, g6, _, rfl, _, _, rfl, rfl, st, _, _, _, rfl, rfl, SqL.of hSt, by show atI _ (((i : Nat) : Int) - 1) = _; rw [ei]; exact at_nat V.int (powL_get (show i - 1 ≤ wlong w by omega)), _, _, rfl, rfl, ?_⟩
      have eo : byO o (bI w) (wlong w) i = bp (bI w) (wlong w) - bp (bI w) (i - 1) := by
        match o, ho with
        | o + 2, _ => rfl
      rw [eo] at k
      exact k
    · have ho := of_decide_eq_false h
      have ei : ((wlong w : Nat) : Int) - ((i : Nat) : Int) = ((wlong w - i : Nat) : Int) := by omega
      refine ⟨_, rfl, s, _, dx, _, _, rfl, hS, T.cl_Scale, T.n_Scale_steps, g6, _, rfl, s, _, dx, _, _, rfl, hS, T.cl_Scale, T.n_Scale_ranks, g5, _, rfl, _, _, rfl, rfl, st, _, _, _, rfl, rfl, SqL.of hSt, by show atI _ (((wlong w : Nat) : Int) - ((i : Nat) : Int)) = _; rw [ei]; exact at_nat V.int (powL_get (show wlong w - i ≤ wlong w by omega)), ?_⟩
      refine ⟨_, rfl, s, _, dx, _, _, rfl, hS, T.cl_Scale, T.n_Scale_order, g1, rfl, _, rfl, ?_⟩
      rw [ordS_full o ho]
      refine if2 (fun h => ?_) fun h => ?_
      · have ho1 := of_decide_eq_true h
        subst ho1
        exact ⟨_, rfl, _, rfl, s, _, dx, _, _, rfl, hS, T.cl_Scale, T.n_Scale_steps, g6, _, rfl, s, _, dx, _, _, rfl, hS, T.cl_Scale, T.n_Scale_ranks, g5, st, _, _, _, rfl, rfl, SqL.of hSt, at_nat V.int (powL_get (Nat.le_refl _)), _, _, rfl, rfl, k⟩
      · have ho1 := of_decide_eq_false h
        have : o = 0 := by omega
        subst this
        exact ⟨_, rfl, k⟩
abbrev N_Scale_pick_of : List Str := ["self", "asker", "rank", "behind"]
theorem sc_Scale_pick_of : FnScope N_Scale_pick_of ["self", "asker", "rank"] (defScope s_Scale_pick_of) := ⟨rfl, rfl, rfl, by decide +kernel, rfl, by decide +kernel, by decide +kernel⟩
theorem ok_Scale_pick_of {f : Addr} {fd : FuncData} (F : FnP K "pick_of" "Scale.pick_of" s_Scale_pick_of f fd) (T : Txt K mg)  : FnOk P w K mg base CX0 1 f fd ["self", "asker", "rank"] (spPick K) := by
  refine F.ok sc_Scale_pick_of (fun vs H Q E h => ?_) (fun cdv A outer s H vs Q E hr h => ?_)
  · obtain ⟨s, w, o, a, i, rfl, _⟩ := h
    rfl
  · have hu := hu_of hr
    have nd := sc_Scale_pick_of.nd
    refine ⟨_, PSs.nox (pss_cons (ps_if (pt_cmpR op_notIn_seq (pv 1) (pe_fld (pv 0) rfl) rfl)
      (pss_one (ps_ret pe_int))
      pss_nil)
    pss_never), ?_⟩
    obtain ⟨s, w, o, a, i, rfl, ⟨dx, fs, t, st, pk, hS, ⟨g1, g2, g3, g4, g5, g6, g7⟩, _, hT, hSt, hPk⟩, k⟩ := h
    exact ⟨_, rfl, _, rfl, s, _, dx, _, _, rfl, hS, T.cl_Scale, T.n_Scale_turns, g3, t, [], rfl, .inl (SqL.of hT), rfl, rfl, _, rfl, ifT rfl k⟩
abbrev N_Scale_of : List Str := ["self", "asker", "thing", "rank", "worth"]
theorem sc_Scale_of : FnScope N_Scale_of ["self", "asker", "thing", "rank"] (defScope s_Scale_of) := ⟨rfl, rfl, rfl, by decide +kernel, rfl, by decide +kernel, by decide +kernel⟩
theorem ok_Scale_of {f : Addr} {fd : FuncData} (F : FnP K "of" "Scale.of" s_Scale_of f fd) (T : Txt K mg) (c_Scale_by_order : CalM P w K mg base (He.ga K "Scale") "by_order" 1 ["self", "rank"] (spByO K)) (c_Scale_pick_of : CalM P w K mg base (He.ga K "Scale") "pick_of" 1 ["self", "asker", "rank"] (spPick K)) : FnOk P w K mg base CX0 2 f fd ["self", "asker", "thing", "rank"] (spOf K) := by
  refine F.ok sc_Scale_of (fun vs H Q E h => ?_) (fun cdv A outer s H vs Q E hr h => ?_)
  · obtain ⟨s, w, o, a, i, t, rfl, _⟩ := h
    rfl
  · have hu := hu_of hr
    have nd := sc_Scale_of.nd
    refine ⟨_, PSs.nox (pss_cons (ps_set (i := 4) nd rfl (Or.inl rfl) (pe_op op_mul (pe_meth (pv 0) T.cl_Scale c_Scale_by_order.m c_Scale_by_order.ok (hr.mono (by decide)) c_Scale_by_order.b .nil pass0 (pa_cons (pv 3) pa_nil)) (pe_fld (pv 0) rfl)))
    (pss_cons (ps_if (PW.pt (pw_and (pt_cmpR op_notN (pe_fld (pv 0) rfl) pe_non (nomark _)) (pw_and1 pt_never)))
      pss_never
      pss_nil)
    (pss_one (ps_ret (pe_op op_add (pe_op op_mul (pv 4) (pe_ix ix_list (pe_fld (pv 0) rfl) (pe_un un_neg pe_int) (fun _ _ => rfl))) (pe_meth (pv 0) T.cl_Scale c_Scale_pick_of.m c_Scale_pick_of.ok (hr.mono (by decide)) c_Scale_pick_of.b .nil pass0 (pa_cons (pv 1) (pa_cons (pv 3) pa_nil)))))))), ?_⟩
    obtain ⟨s, w, o, a, i, x, rfl, hSc, ok, h1, h2, k⟩ := h
    have bb := bI_bd ok
    obtain ⟨dx, fs, t, st, pk, hS, ⟨g1, g2, g3, g4, g5, g6, g7⟩, ⟨n1, n2, n3⟩, hT, hSt, hPk⟩ := id hSc
    refine ⟨_, rfl, s, dx, _, rfl, hS, n1, _, rfl, s, w, o, i, rfl, hSc, h1, h2, ?_⟩
    refine ⟨_, rfl, s, _, dx, _, _, rfl, hS, T.cl_Scale, T.n_Scale_base, g4, _, _, rfl, rfl, .inr ⟨by omega, by omega⟩, ?_⟩
    refine ⟨_, rfl, s, _, dx, _, _, rfl, hS, T.cl_Scale, T.n_Scale_old, g2, rfl, _, rfl, ifF rfl ?_⟩
    refine ⟨_, rfl, _, rfl, s, _, dx, _, _, rfl, hS, T.cl_Scale, T.n_Scale_picks, g7, _, rfl, pk, _, _, _, rfl, rfl, SqL.of hPk, rfl, _, _, rfl, rfl, .inr ⟨by decide, by decide⟩, ?_⟩
    refine ⟨_, rfl, s, dx, _, rfl, hS, n2, _, rfl, _, rfl, s, w, o, a, _, rfl, hSc, _, _, rfl, rfl, ?_⟩
    have e : byO o (bI w) (wlong w) i * bI w * 1 + 0 = rw_ w o i := by
      rw [Int.mul_one, Int.add_zero]
      rfl
    rw [← e] at k
    exact k
end
end Wd
namespace Wd
open PySem PySem.Spec PyProof.Rows L2
theorem flat_split {ranks : List (List Nat)} {i j t : Nat} {row : List Nat} (hi : ranks[i]? = some row) (hj : row[j]? = some t) :
    ranks.flatten = ((ranks.take i).flatten ++ row.take j) ++ (t :: (row.drop (j + 1) ++ (ranks.drop (i + 1)).flatten)) := by
  have li := lt_of_get hi
  have lj := lt_of_get hj
  have ei : ranks[i] = row := by
    rw [List.getElem?_eq_getElem li] at hi
    exact Option.some.inj hi
  have ej : row[j] = t := by
    rw [List.getElem?_eq_getElem lj] at hj
    exact Option.some.inj hj
  conv => lhs; rw [← List.take_append_drop i ranks, List.flatten_append, List.drop_eq_getElem_cons li, List.flatten_cons, ei]
  rw [List.append_assoc]
  congr 1
  conv => lhs; lhs; rw [← List.take_append_drop j row, List.drop_eq_getElem_cons lj, ej]
  simp
theorem RkOk.notIn {n : Nat} {ranks : List (List Nat)} (ok : RkOk n ranks) {i j t : Nat} {row : List Nat} (hi : ranks[i]? = some row) (hj : row[j]? = some t) : t ∉ (ranks.take i).flatten ++ row.take j := by
  have nd1 := ok.nd
  rw [flat_split hi hj] at nd1
  exact fun q => (List.nodup_append.mp nd1).2.2 t q t List.mem_cons_self rfl
theorem RkOk.plen {n : Nat} {ranks : List (List Nat)} (ok : RkOk n ranks) {i j t : Nat} {row : List Nat} (hi : ranks[i]? = some row) (hj : row[j]? = some t) : ((ranks.take i).flatten ++ row.take j).length < n := by
  have := ok.flen
  rw [flat_split hi hj, List.length_append, List.length_cons] at this
  omega
theorem RkOk.rk {n : Nat} {ranks : List (List Nat)} (ok : RkOk n ranks) {i j t : Nat} {row : List Nat} (hi : ranks[i]? = some row) (hj : row[j]? = some t) : rkI ranks t = i + 1 := by
  refine rkI_at (fun k r hk e ht => ok.notIn hi hj (List.mem_append_left _ (List.mem_flatten.mpr ⟨r, ?_, ht⟩))) hi (List.mem_of_getElem? hj)
  have : (ranks.take i)[k]? = some r := by
    rw [List.getElem?_take, if_pos hk]
    exact e
  exact List.mem_of_getElem? this
theorem rkI_mem : ∀ {rs : List (List Nat)} {t : Nat}, rkI rs t ≠ 0 ↔ t ∈ rs.flatten
  | [], t => by simp [rkI]
  | a :: rs, t => by
    have ih := rkI_mem (rs := rs) (t := t)
    unfold rkI
    rw [List.flatten_cons, List.mem_append]
    by_cases h : t ∈ a
    · rw [if_pos h]
      exact ⟨fun _ => .inl h, fun _ => by decide⟩
    · rw [if_neg h]
      by_cases q : rkI rs t = 0
      · rw [if_pos q]
        exact ⟨fun z => absurd rfl z, fun z => by
          rcases z with z | z
          · exact absurd z h
          · exact absurd q (ih.mpr z)⟩
      · rw [if_neg q]
        exact ⟨fun _ => .inr (ih.mp q), fun _ => by omega⟩
def woL (w : Wi) (o : Nat) (ranks : List (List Nat)) : List (Nat × Int) := ranks.flatten.map fun t => (t, rw_ w o (rkI ranks t))
theorem woL_get {w : Wi} {o t : Nat} {ranks : List (List Nat)} (hn : ranks.flatten.Nodup) (h : rkI ranks t ≠ 0) : (woL w o ranks).lookup t = some (rw_ w o (rkI ranks t)) := by
  refine mem_lookup ?_ (List.mem_map.mpr ⟨t, rkI_mem.mp h, rfl⟩)
  unfold woL
  rw [List.map_map]
  have e : ((fun p : Nat × Int => p.1) ∘ fun t => (t, rw_ w o (rkI ranks t))) = id := rfl
  rw [e, List.map_id]
  exact hn
def keyN (w : Wi) (a : Nat) : List Nat := (List.range w.c.length).filter fun t => decide (rkI (w.l.getD a []) t ≠ 0)
def rowsN (w : Wi) (o a : Nat) : List (Nat × Int) := (keyN w a).map fun t => (t, rw_ w o (rkI (w.l.getD a []) t))
def trip (w : Wi) (o k : Nat) : List (Nat × Nat × Int) := (List.range k).flatMap fun a => (rowsN w o a).map fun p => (a, p.1, p.2)
theorem keyN_nd (w : Wi) (a : Nat) : (keyN w a).Nodup := List.Nodup.sublist List.filter_sublist List.nodup_range
theorem keyN_le (w : Wi) (a : Nat) : (keyN w a).length ≤ w.c.length := by
  have := List.length_filter_le (fun t => decide (rkI (w.l.getD a []) t ≠ 0)) (List.range w.c.length)
  rw [List.length_range] at this
  exact this
theorem keyN_mem {w : Wi} {a t : Nat} : t ∈ keyN w a ↔ t < w.c.length ∧ rkI (w.l.getD a []) t ≠ 0 := by
  unfold keyN
  rw [List.mem_filter, List.mem_range, decide_eq_true_iff]
/-- the sorted keys -/
theorem keys_sorted {w : Wi} {a : Nat} {ranks : List (List Nat)} (hr : w.l[a]? = some ranks) (ok : RkOk w.c.length ranks) {ys : List Int} (hp : ys.Perm (ranks.flatten.map fun t : Nat => (t : Int))) (hs : ys.Pairwise (· ≤ ·)) : ys = (keyN w a).map fun t : Nat => (t : Int) := by
  have el : w.l.getD a [] = ranks := by rw [List.getD_eq_getElem?_getD, hr]; rfl
  have hpk : (keyN w a).Perm ranks.flatten := (List.perm_ext_iff_of_nodup (keyN_nd w a) ok.nd).mpr fun t => by
    rw [keyN_mem, el, rkI_mem]
    exact ⟨fun h => h.2, fun h => ⟨by
      obtain ⟨row, h1, h2⟩ := List.mem_flatten.mp h
      exact ok.lt row h1 t h2, h⟩⟩
  have hsk : ((keyN w a).map fun t : Nat => (t : Int)).Pairwise (· ≤ ·) := by
    rw [List.pairwise_map]
    have : (keyN w a).Pairwise (· < ·) := List.Pairwise.sublist List.filter_sublist List.pairwise_lt_range
    exact this.imp fun h => by omega
  exact List.Perm.eq_of_pairwise (le := (· ≤ ·)) (fun a b _ _ h1 h2 => Int.le_antisymm h1 h2) hs hsk (hp.trans (hpk.map _).symm)
theorem trip_succ (w : Wi) (o k : Nat) : trip w o (k + 1) = trip w o k ++ (rowsN w o k).map fun p => (k, p.1, p.2) := by
  unfold trip
  rw [List.range_succ, List.flatMap_append]
  simp
theorem trip_len (w : Wi) (o : Nat) : ∀ k, (trip w o k).length ≤ k * w.c.length
  | 0 => by simp [trip]
  | k + 1 => by
    have h1 := trip_len w o k
    have h2 := keyN_le w k
    rw [trip_succ, List.length_append, List.length_map, Nat.add_mul]
    unfold rowsN
    rw [List.length_map]
    omega
/-- tuples of three at these places -/
def TripAt (H : Hp) (qs : List Addr) (L : List (Nat × Nat × Int)) : Prop := qs.length = L.length ∧ ∀ (i : Nat) (q : Addr) (p : Nat × Nat × Int), qs[i]? = some q → L[i]? = some p → H q = some (.tup [nV p.1, nV p.2.1, .int p.2.2])
theorem TripAt.mono {H H' : Hp} {qs : List Addr} {L : List (Nat × Nat × Int)} (s : Same H H') (h : TripAt H qs L) : TripAt H' qs L := ⟨h.1, fun i q p e1 e2 => s _ _ (h.2 i q p e1 e2)⟩
/-- .. though a list is written -/
theorem TripAt.upd {H : Hp} {qs : List Addr} {L : List (Nat × Nat × Int)} {f : Addr} {xs : List V} {o : HO} (hf : H f = some (.lst xs)) (h : TripAt H qs L) : TripAt (upd H f o) qs L := ⟨h.1, fun i q p e1 e2 => by
  have g := h.2 i q p e1 e2
  rw [upd_ne (ne_of g hf (by intro z; cases z))]
  exact g⟩
theorem TripAt.app {H : Hp} {qs rs : List Addr} {L M : List (Nat × Nat × Int)} (h : TripAt H qs L) (g : TripAt H rs M) : TripAt H (qs ++ rs) (L ++ M) := by
  refine ⟨by rw [List.length_append, List.length_append, h.1, g.1], fun i q p e1 e2 => ?_⟩
  by_cases hi : i < qs.length
  · rw [List.getElem?_append_left hi] at e1
    rw [List.getElem?_append_left (by rw [← h.1]; exact hi)] at e2
    exact h.2 i q p e1 e2
  · rw [List.getElem?_append_right (by omega)] at e1
    rw [List.getElem?_append_right (by rw [← h.1]; omega), ← h.1] at e2
    exact g.2 _ q p e1 e2
theorem TripAt.one {H : Hp} {q : Addr} {p : Nat × Nat × Int} (h : H q = some (.tup [nV p.1, nV p.2.1, .int p.2.2])) : TripAt H [q] [p] := ⟨rfl, fun i q' p' e1 e2 => by
  cases i with
  | zero =>
    cases e1
    cases e2
    exact h
  | succ i => simp at e1⟩
/-- what a dealing is worth -/
def wv (w : Wi) (o a : Nat) : Option Nat → Int
  | some t => (wt w o a t).getD 0
  | Option.none => 0
def valL (w : Wi) (o : Nat) (d : List (Option Nat)) (k : Nat) : Int := S k fun a => wv w o a (d.getD a Option.none)
def spWo (K : PySem.W.Frag) : Sp := fun vs H Q _ => ∃ (s r : Addr) (w : Wi) (o a : Nat) (ranks : List (List Nat)), vs = [.ref s, nV a, .ref r] ∧ ScAt K H s w o ∧ w.Ok ∧ ranks ∈ w.l ∧ RanksAt H r ranks ∧
  ∀ p H', H p = Option.none → Same H H' → H' p = some (.dK (enc V.int (woL w o ranks))) → Q (.ref p) H'
def spAW : Sp := fun vs H Q _ => ∃ (a b : Addr) (w : Wi) (o : Nat), vs = [.ref a, .ref b] ∧ WAt H a w ∧ w.Ok ∧ AimAt H b o ∧
  ∀ p qs H', H p = Option.none → Same H H' → H' p = some (.lst (qs.map V.ref)) → TripAt H' qs (trip w o w.l.length) → Q (.ref p) H'
def spWorth : Sp := fun vs H Q _ => ∃ (a b e : Addr) (w : Wi) (o : Nat) (d : List (Option Nat)), vs = [.ref a, .ref b, .ref e] ∧ WAt H a w ∧ w.Ok ∧ AimAt H b o ∧ H e = some (.lst (d.map onV)) ∧ DealL w d ∧ ∀ H', Same H H' → Q (.int (valL w o d d.length)) H'
section
variable {P : Program} {w : World} {K : PySem.W.Frag} {mg : Str → Option Value} {base : Heap}
abbrev N_worths_of : List Str := ["scale", "asker", "ranks", "found", "k", "row", "thing"]
theorem sc_worths_of : FnScope N_worths_of ["scale", "asker", "ranks"] (defScope s_worths_of) := ⟨rfl, rfl, rfl, by decide +kernel, rfl, by decide +kernel, by decide +kernel⟩
theorem ok_worths_of {f : Addr} {fd : FuncData} (F : FnP K "worths_of" "worths_of" s_worths_of f fd) (T : Txt K mg) (c_Scale_of : CalM P w K mg base (He.ga K "Scale") "of" 2 ["self", "asker", "thing", "rank"] (spOf K)) : FnOk P w K mg base CX0 3 f fd ["scale", "asker", "ranks"] (spWo K) := by
  refine F.ok sc_worths_of (fun vs H Q E h => ?_) (fun cdv A outer s H vs Q E hr h => ?_)
  · obtain ⟨s, r, w, o, a, ranks, rfl, _⟩ := h
    rfl
  · have hu := hu_of hr
    have nd := sc_worths_of.nd
    refine ⟨_, PSs.nox (pss_cons (ps_set (i := 3) nd rfl (Or.inl rfl) pe_dnewK)
    (pss_cons (ps_for PassesOwn.never rfl (pi_enum (by rfl) T.enumerate (pa_cons (pv 2) pa_nil)) (pg_tup rfl (pgs_cons (pg_name (i := 4) nd rfl (Or.inl rfl)) (pgs_cons (pg_name (i := 5) nd rfl (Or.inl rfl)) pgs_nil)))
      (pss_one (ps_for PassesOwn.never rfl (pi_list (pv 5)) (pg_name (i := 6) nd rfl (Or.inl rfl))
        (pss_one (ps_dput hu (pv 3) (pv 6) (pe_meth (pv 0) T.cl_Scale c_Scale_of.m c_Scale_of.ok (hr.mono (by decide)) c_Scale_of.b .nil pass0 (pa_cons (pv 1) (pa_cons (pv 6) (pa_cons (pe_op op_add (pv 4) pe_int) pa_nil)))) rfl)))))
    (pss_one (ps_ret (pv 3))))), ?_⟩
    obtain ⟨s, r, w, o, a, ranks, rfl, hSc, ok, hm, ⟨as, hA, hn, hR⟩, k⟩ := h
    have rk := ok.rk ranks hm
    have n6 := ok.c6
    refine fun p hp => ?_
    have s1 : Same H (upd H p (.dK [])) := same_new hp
    refine ⟨_, rfl, r, _, rfl, SqL.of (s1 _ _ hA), for_enum (fun i σ H' => ∃ v4 v5 v6, σ = [some (.ref s), some (nV a), some (.ref r), some (.ref p), v4, v5, v6] ∧ Same H H' ∧ H' p = some (.dK (enc V.int ((ranks.take i).flatten.map fun t => (t, rw_ w o (rkI ranks t))))))
      ⟨_, _, _, rfl, s1, upd_same⟩ (fun i σ H' _ ⟨_, _, _, _, s, _⟩ => SqL.of (s _ _ hA)) ?_ ?_⟩
    · rintro i y T σ H' hy ⟨v4, v5, v6, rfl, sm, hP⟩ hT
      obtain ⟨b, hb, rfl⟩ := get_map hy
      have hi : i < ranks.length := by rw [← hn]; exact lt_of_get hb
      have hri : ranks[i]? = some ranks[i] := List.getElem?_eq_getElem hi
      generalize ranks[i] = row at hri
      have hil : i + 1 ≤ wlong w := by
        have := rkI_long (w := w) hm
        have h2 := maxL_ge (List.mem_map.mpr ⟨ranks, hm, rfl⟩ : ranks.length ∈ w.l.map List.length)
        unfold wlong
        omega
      have s2 := same_and (o := .tup [.int (i : Int), .ref b]) sm hT
      have hP2 := (same_new (o := .tup [.int (i : Int), .ref b]) hT) _ _ hP
      have hB := hR i b row hb hri
      refine pair_to ?_
      refine ⟨_, rfl, b, rfl, ⟨_, SqL.of (s2 _ _ hB)⟩, for_list (xs := row.map nV) (fun j σ H3 => ∃ v6, σ = [some (.ref s), some (nV a), some (.ref r), some (.ref p), some (.int (i : Int)), some (.ref b), v6] ∧ Same H H3 ∧ H3 p = some (.dK (enc V.int (((ranks.take i).flatten ++ row.take j).map fun t => (t, rw_ w o (rkI ranks t))))))
        ⟨_, rfl, s2, by rw [List.take_zero, List.append_nil]; exact hP2⟩ (fun j σ H3 _ ⟨_, _, s, _⟩ => SqL.of (s _ _ hB)) ?_ ?_⟩
      · rintro j x σ H3 hx ⟨v6, rfl, s3, hP3⟩
        obtain ⟨t, ht, rfl⟩ := get_nV hx
        have hrk := rk.rk hri ht
        have hno := rk.notIn hri ht
        have hpl := rk.plen hri ht
        obtain ⟨dx, fs, t0, st, pk, hS, _, ⟨n1, n2, n3⟩, _⟩ := hSc.mono s3
        refine ⟨_, rfl, s, dx, _, rfl, hS, n3, _, rfl, _, rfl, _, rfl, _, _, rfl, rfl, s, w, o, a, i + 1, nV t, rfl, hSc.mono s3, ok, by omega, hil, ?_⟩
        have e : (((ranks.take i).flatten ++ row.take j).map fun t => (t, rw_ w o (rkI ranks t))).lookup t = Option.none := lookup_none fun q hq z => by
          obtain ⟨t', h1, rfl⟩ := List.mem_map.mp hq
          exact hno (by rw [← z]; exact h1)
        refine ⟨_, rfl, _, rfl, p, _, rfl, dput t _ hP3 ?_, ?_⟩
        · rw [List.length_map]
          omega
        · refine ⟨_, rfl, same_mut s3 hp, ?_⟩
          rw [upd_same, put_new _ e, take_snoc ht, ← List.append_assoc, List.map_append (l₂ := [t]), ← hrk]
          rfl
      · rintro σ H3 ⟨v6, rfl, s3, hP3⟩
        refine ⟨_, _, _, rfl, s3, ?_⟩
        rw [hP3, take_all, take_snoc hri, List.flatten_append, List.flatten_singleton]
    · rintro σ H' ⟨v4, v5, v6, rfl, sm, hP⟩
      rw [List.length_map, hn, List.take_length] at hP
      exact ⟨_, rfl, k p H' hp sm hP⟩
abbrev N_all_worths : List Str := ["wishes", "aim", "scale", "found", "asker", "ranks", "worths", "thing"]
theorem sc_all_worths : FnScope N_all_worths ["wishes", "aim"] (defScope s_all_worths) := ⟨rfl, rfl, rfl, by decide +kernel, rfl, by decide +kernel, by decide +kernel⟩
theorem ok_all_worths {f : Addr} {fd : FuncData} (F : FnP K "all_worths" "all_worths" s_all_worths f fd) (T : Txt K mg) (c_Scale_init : CalN P w K mg base "Scale" (He.ga K "Scale") 6 ["self", "wishes", "aim"] (spScI K)) (c_look_at_aim : Cal P w K mg base "look_at_aim" 5 ["wishes", "thing"] (spLookA)) (c_worths_of : Cal P w K mg base "worths_of" 3 ["scale", "asker", "ranks"] (spWo K)) : FnOk P w K mg base CX0 8 f fd ["wishes", "aim"] (spAW) := by
  refine F.ok sc_all_worths (fun vs H Q E h => ?_) (fun cdv A outer s H vs Q E hr h => ?_)
  · obtain ⟨a, b, w, o, rfl, _⟩ := h
    rfl
  · have hu := hu_of hr
    have nd := sc_all_worths.nd
    refine ⟨_, PSs.nox (pss_cons (ps_expr (pe_call c_look_at_aim.ok (hr.mono (by decide)) (by rfl) c_look_at_aim.g c_look_at_aim.kp c_look_at_aim.b .nil pass0 (pa_cons (pv 0) (pa_cons (pv 1) pa_nil))))
    (pss_cons (ps_set (i := 2) nd rfl (Or.inl rfl) (pe_make c_Scale_init.mkr c_Scale_init.ok (hr.mono (by decide)) (by rfl) c_Scale_init.g c_Scale_init.b .nil pass0 (pa_cons (pv 0) (pa_cons (pv 1) pa_nil))))
    (pss_cons (ps_set (i := 3) nd rfl (Or.inl rfl) (pe_lst pa_nil))
    (pss_cons (ps_for PassesOwn.never rfl (pi_enum (by rfl) T.enumerate (pa_cons (pe_ix ix_tup (pv 0) pe_int (fun _ _ => rfl)) pa_nil)) (pg_tup rfl (pgs_cons (pg_name (i := 4) nd rfl (Or.inr rfl)) (pgs_cons (pg_name (i := 5) nd rfl (Or.inl rfl)) pgs_nil)))
      (pss_cons (ps_set (i := 6) nd rfl (Or.inr rfl) (pe_call c_worths_of.ok (hr.mono (by decide)) (by rfl) c_worths_of.g c_worths_of.kp c_worths_of.b .nil pass0 (pa_cons (pv 2) (pa_cons (pv 4) (pa_cons (pv 5) pa_nil)))))
      (pss_one (ps_expr (pe_bm PySem.F.plainAttrs_list PySem.F.slot_list_extend PySem.F.type_list_extend mt_extend (pv 3) (pa_cons (pe_lc (own := [("thing", 7)]) (g := (gName 7)) (tt := tYes) (te := (tTup (tCons (tVar 4) (tCons (tVar 7) (tCons (tDGet (tVar 6) (tVar 7)) tNil))))) (by rfl) nd (pi_list (pe_callB (call_sortedDI rfl) (by rfl) T.sorted (by decide +kernel) (pa_cons (pv 6) pa_nil))) (blkOk_by (own := [("thing", 7)]) (N := N_all_worths) (sc := defScope s_all_worths) (by decide +kernel)) (fun _ _ _ _ _ => (pg_name (i := 7) nd rfl (Or.inl rfl))) (fun _ _ _ _ _ => pts_nil) (fun _ _ _ _ _ => (pe_tup (pa_cons (pv 4) (pa_cons (pv 7) (pa_cons (pe_dget hu (pv 6) (pv 7) (fun _ _ => rfl)) pa_nil)))))) pa_nil))))))
    (pss_one (ps_ret (pv 3))))))), ?_⟩
    obtain ⟨a, b, w, o, rfl, hW, ok, hAim, k⟩ := h
    have n6 := ok.c6
    have m7 := ok.l7
    refine ⟨_, rfl, _, rfl, a, b, w, o, rfl, hW, ok, hAim, fun H1 s1 => ?_⟩
    refine ⟨_, rfl, _, rfl, fun sc dx nsc ndx nex => ?_⟩
    have m0 := made0 (C := He.ga K "Scale") nsc ndx
    refine ⟨sc, a, b, dx, w, o, rfl, hW.mono (s1.trans m0), ok, hAim.mono (s1.trans m0), upd_same, fun H2 x2 hSc => ⟨rfl, ?_⟩⟩
    have s2 := made nsc ndx x2
    obtain ⟨c, l, hA, hC, as, hL, hn, hR⟩ := hW.mono (s1.trans s2)
    refine ⟨Nat.zero_le _, fun fo hfo => ?_⟩
    have s3 : Same H2 (upd H2 fo (.lst [])) := same_new hfo
    refine ⟨_, rfl, a, _, 1, _, rfl, rfl, SqT.of (s3 _ _ hA), rfl, l, _, rfl, SqL.of (s3 _ _ hL), for_enum (fun i σ H' => ∃ (v4 v5 v6 v7 : Option V) (qs : List Addr), σ = [some (.ref a), some (.ref b), some (.ref sc), some (.ref fo), v4, v5, v6, v7] ∧ Same H2 H' ∧ H' fo = some (.lst (qs.map V.ref)) ∧ TripAt H' qs (trip w o i))
      ⟨_, _, _, _, [], rfl, s3, upd_same, rfl, fun i q p h => by simp at h⟩ (fun i σ H' _ ⟨_, _, _, _, _, _, s, _⟩ => SqL.of (s _ _ hL)) ?_ ?_⟩
    · rintro i y T σ H' hy ⟨v4, v5, v6, v7, qs, rfl, s, hF, hQ⟩ hT
      obtain ⟨r, hr', rfl⟩ := get_map hy
      have hi : i < w.l.length := by rw [← hn]; exact lt_of_get hr'
      have hri : w.l[i]? = some w.l[i] := List.getElem?_eq_getElem hi
      generalize w.l[i] = ranks at hri
      have rk := ok.rk ranks (List.mem_of_getElem? hri)
      have el : w.l.getD i [] = ranks := by rw [List.getD_eq_getElem?_getD, hri]; rfl
      have t1 : Same H' (upd H' T (.tup [.int (i : Int), .ref r])) := same_new hT
      refine pair_to ?_
      refine ⟨_, rfl, _, rfl, _, rfl, sc, r, w, o, i, ranks, rfl, hSc.mono (s.trans t1), ok, List.mem_of_getElem? hri, (hR i r ranks hr' hri).mono (s.trans t1), fun p H3 hp s3 hP => ?_⟩
      have t3 := t1.trans s3
      have hF3 := t3 _ _ hF
      -- the list of this asker's tuples
      refine ⟨_, rfl, .inl ⟨rfl, _, SqL.of hF3⟩, _, rfl, p, _, ranks.flatten.map (fun t : Nat => (t : Int)), rfl, .inl hP, ?_, ?_, fun ys q hperm hsort hq => ?_⟩
      · unfold enc woL
        rw [List.map_map, List.map_map, List.map_map]
        rfl
      · have := rk.flen
        rw [List.length_map]
        omega
      have ey := keys_sorted hri rk hperm hsort
      subst ey
      rw [map_nV]
      have t4 : Same H3 (upd H3 q (.lst ((keyN w i).map nV))) := same_new hq
      have hq4 := upd_same (H := H3) (a := q) (o := .lst ((keyN w i).map nV))
      refine ⟨q, rfl, ⟨_, SqL.of hq4⟩, fun D hD => ?_⟩
      refine lc_list (xs := (keyN w i).map nV) (fun j H4 => Same (upd H3 q (.lst ((keyN w i).map nV))) H4 ∧ ∃ rs : List Addr, H4 D = some (.lst (rs.map V.ref)) ∧ TripAt H4 rs (((rowsN w o i).take j).map fun p => (i, p.1, p.2)))
        ⟨same_new hD, [], upd_same, rfl, fun i q p h => by simp at h⟩ (fun j H4 _ ⟨s, _⟩ => SqL.of (s _ _ hq4)) ?_ ?_
      · rintro j x H4 hx ⟨s5, rs, hD4, hRs⟩
        obtain ⟨t, ht, rfl⟩ := get_nV hx
        have htk := keyN_mem.mp (List.mem_of_getElem? ht)
        rw [el] at htk
        have hP4 := s5 _ _ (t4 _ _ hP)
        have hrow : (rowsN w o i)[j]? = some (t, rw_ w o (rkI ranks t)) := by
          unfold rowsN
          rw [List.getElem?_map, ht, el]
          rfl
        refine ⟨rfl, yes_ ⟨_, rfl, _, rfl, _, rfl, _, rfl, p, _, rfl, dget_some (.inl hP4) (woL_get rk.nd htk.2), by show 3 ≤ sizeLine; decide, fun T2 hT2 => ?_⟩⟩
        have t6 : Same H4 (upd H4 T2 (.tup [nV i, nV t, .int (rw_ w o (rkI ranks t))])) := same_new hT2
        have hD6 := t6 _ _ hD4
        refine ⟨_, hD6, ?_, same_mut (s5.trans t6) hD, rs ++ [T2], ?_, ?_⟩
        · rw [List.length_map, hRs.1, List.length_map, List.length_take]
          have h1 := keyN_le w i
          have h2 : (rowsN w o i).length = (keyN w i).length := List.length_map ..
          exact sl100 (by omega)
        · rw [upd_same, List.map_append]
          rfl
        · rw [take_snoc hrow, List.map_append]
          exact ((hRs.mono t6).app (.one (p := (i, t, rw_ w o (rkI ranks t))) upd_same)).upd hD6
      · rintro H4 ⟨s5, rs, hD4, hRs⟩
        have hlen : ((keyN w i).map nV).length = (rowsN w o i).length := by
          unfold rowsN
          rw [List.length_map, List.length_map]
        rw [hlen, List.take_length] at hRs
        have hF5 := s5 _ _ (t4 _ _ hF3)
        have hQ5 := hQ.mono (t3.trans (t4.trans s5))
        have l1 := trip_len w o (i + 1)
        have l0 : (i + 1) * w.c.length ≤ 7 * 6 := Nat.mul_le_mul (by omega) n6
        rw [trip_succ, List.length_append] at l1
        refine ⟨fo, D, _, _, rfl, rfl, hF5, hD4, ?_, ?_⟩
        · rw [List.length_map, List.length_map, hQ5.1, hRs.1]
          exact sz100 (by omega)
        · refine ⟨_, _, _, _, qs ++ rs, rfl, same_mut (s.trans (t3.trans (t4.trans s5))) hfo, ?_, ?_⟩
          · rw [upd_same, List.map_append]
          · rw [trip_succ]
            exact (hQ5.app hRs).upd hF5
    · rintro σ H' ⟨v4, v5, v6, v7, qs, rfl, s, hF, hQ⟩
      rw [List.length_map, hn] at hQ
      have hQ : TripAt H' qs (trip w o w.l.length) := hQ
      exact ⟨_, rfl, k fo qs H' (s1.free (s2.free hfo)) (s1.trans (s2.trans s)) hF hQ⟩
abbrev N_worth_of : List Str := ["wishes", "aim", "dealing", "scale", "worth", "asker", "thing"]
theorem sc_worth_of : FnScope N_worth_of ["wishes", "aim", "dealing"] (defScope s_worth_of) := ⟨rfl, rfl, rfl, by decide +kernel, rfl, by decide +kernel, by decide +kernel⟩
theorem ok_worth_of {f : Addr} {fd : FuncData} (F : FnP K "worth_of" "worth_of" s_worth_of f fd) (T : Txt K mg) (c_Scale_init : CalN P w K mg base "Scale" (He.ga K "Scale") 6 ["self", "wishes", "aim"] (spScI K)) (c_look_at_aim : Cal P w K mg base "look_at_aim" 5 ["wishes", "thing"] (spLookA)) (c_worths_of : Cal P w K mg base "worths_of" 3 ["scale", "asker", "ranks"] (spWo K)) : FnOk P w K mg base CX0 8 f fd ["wishes", "aim", "dealing"] (spWorth) := by
  refine F.ok sc_worth_of (fun vs H Q E h => ?_) (fun cdv A outer s H vs Q E hr h => ?_)
  · obtain ⟨a, b, e, w, o, d, rfl, _⟩ := h
    rfl
  · have hu := hu_of hr
    have nd := sc_worth_of.nd
    refine ⟨_, PSs.nox (pss_cons (ps_expr (pe_call c_look_at_aim.ok (hr.mono (by decide)) (by rfl) c_look_at_aim.g c_look_at_aim.kp c_look_at_aim.b .nil pass0 (pa_cons (pv 0) (pa_cons (pv 1) pa_nil))))
    (pss_cons (ps_set (i := 3) nd rfl (Or.inl rfl) (pe_make c_Scale_init.mkr c_Scale_init.ok (hr.mono (by decide)) (by rfl) c_Scale_init.g c_Scale_init.b .nil pass0 (pa_cons (pv 0) (pa_cons (pv 1) pa_nil))))
    (pss_cons (ps_set (i := 4) nd rfl (Or.inl rfl) pe_int)
    (pss_cons (ps_for PassesOwn.never rfl (pi_enum (by rfl) T.enumerate (pa_cons (pv 2) pa_nil)) (pg_tup rfl (pgs_cons (pg_name (i := 5) nd rfl (Or.inl rfl)) (pgs_cons (pg_name (i := 6) nd rfl (Or.inl rfl)) pgs_nil)))
      (pss_one (ps_if (pt_cmpR op_notN (pv 6) pe_non (nomark _))
        (pss_one (ps_aug (i := 4) nd rfl (Or.inl rfl) (pe_dget hu (pe_call c_worths_of.ok (hr.mono (by decide)) (by rfl) c_worths_of.g c_worths_of.kp c_worths_of.b .nil pass0 (pa_cons (pv 3) (pa_cons (pv 5) (pa_cons (pe_ix ix_list (pe_ix ix_tup (pv 0) pe_int (fun _ _ => rfl)) (pv 5) (fun _ _ => rfl)) pa_nil)))) (pv 6) (fun _ _ => rfl)) ip_add))
        pss_nil)))
    (pss_one (ps_ret (pv 4))))))), ?_⟩
    obtain ⟨a, b, e, w, o, d, rfl, hW, ok, hAim, hE, dl, k⟩ := h
    refine ⟨_, rfl, _, rfl, a, b, w, o, rfl, hW, ok, hAim, fun H1 s1 => ?_⟩
    refine ⟨_, rfl, _, rfl, fun sc dx nsc ndx nex => ?_⟩
    have m0 := made0 (C := He.ga K "Scale") nsc ndx
    refine ⟨sc, a, b, dx, w, o, rfl, hW.mono (s1.trans m0), ok, hAim.mono (s1.trans m0), upd_same, fun H2 x2 hSc => ⟨rfl, ?_⟩⟩
    have s2 := s1.trans (made nsc ndx x2)
    obtain ⟨c, l, hA, hC, as, hL, hn, hR⟩ := hW.mono s2
    have hE2 := s2 _ _ hE
    refine ⟨_, rfl, e, _, rfl, SqL.of hE2, for_enum (fun i σ H' => ∃ v5 v6, σ = [some (.ref a), some (.ref b), some (.ref e), some (.ref sc), some (.int (valL w o d i)), v5, v6] ∧ Same H2 H')
      ⟨_, _, rfl, Same.refl _⟩ (fun i σ H' _ ⟨_, _, _, s⟩ => SqL.of (s _ _ hE2)) ?_ ?_⟩
    · rintro i y T σ H' hy ⟨v5, v6, rfl, s⟩ hT
      obtain ⟨ot, ho, rfl⟩ := get_map hy
      have ed : d.getD i Option.none = ot := by rw [List.getD_eq_getElem?_getD, ho]; rfl
      have es : valL w o d (i + 1) = valL w o d i + wv w o i ot := by
        rw [← ed]
        rfl
      have hi : i < w.l.length := by rw [← dl.len]; exact lt_of_get ho
      have t1 : Same H' (upd H' T (.tup [.int (i : Int), onV ot])) := same_new hT
      refine pair_to ?_
      refine ⟨_, rfl, rfl, _, rfl, if2 (fun h => ?_) fun h => ?_⟩
      · obtain ⟨t, rfl⟩ := som_of (o := ot) (by
          cases q : decide (onV ot = V.non) with
          | true => rw [q] at h; cases h
          | false => rfl)
        have hri : w.l[i]? = some w.l[i] := List.getElem?_eq_getElem hi
        have hb : i < as.length := by rw [hn]; exact hi
        have h0 := dl.wi i t _ ho hri
        have el : w.l.getD i [] = w.l[i] := by rw [List.getD_eq_getElem?_getD, hri]; rfl
        have sA := s.trans t1
        refine ⟨_, rfl, _, rfl, _, rfl, _, rfl, a, _, 1, _, rfl, rfl, SqT.of (sA _ _ hA), rfl, _, rfl, l, _, (i : Int), _, rfl, rfl, SqL.of (sA _ _ hL), at_nat V.ref (List.getElem?_eq_getElem hb), sc, _, w, o, i, w.l[i], rfl, hSc.mono sA, ok, List.getElem_mem hi, (hR i _ _ (List.getElem?_eq_getElem hb) hri).mono sA, fun p H3 hp s3 hP => ?_⟩
        refine ⟨_, rfl, p, _, rfl, dget_some (.inl hP) (woL_get (ok.rk _ (List.getElem_mem hi)).nd h0), _, _, rfl, rfl, ?_⟩
        have ew : (wt w o i t).getD 0 = rw_ w o (rkI w.l[i] t) := by
          unfold wt
          rw [el, if_neg h0]
          rfl
        refine ⟨some (.int (i : Int)), some (onV (some t)), ?_, sA.trans s3⟩
        rw [es]
        show _ = [_, _, _, _, some (V.int (valL w o d i + (wt w o i t).getD 0)), _, _]
        rw [ew]
        rfl
      · have eo := non_of (o := ot) (by
          cases q : decide (onV ot = V.non) with
          | true => rfl
          | false => rw [q] at h; cases h)
        subst eo
        refine ⟨some (.int (i : Int)), some .non, ?_, s.trans t1⟩
        rw [es]
        show _ = [_, _, _, _, some (V.int (valL w o d i + 0)), _, _]
        rw [Int.add_zero]
        rfl
    · rintro σ H' ⟨v5, v6, rfl, s⟩
      rw [List.length_map]
      exact ⟨_, rfl, k H' (s2.trans s)⟩
end
end Wd
namespace Wd
open PySem PySem.Spec PyProof.Rows L2
/-- dicts of rows at these places -/
def RowsD (H : Hp) (ds : List Addr) (w : Wi) (o : Nat) : Prop := ds.length = w.l.length ∧ ∀ (i : Nat) (d : Addr), ds[i]? = some d → H d = some (.dK (enc V.int (rowsN w o i)))
theorem RowsD.mono {H H' : Hp} {ds : List Addr} {w : Wi} {o : Nat} (s : Same H H') (h : RowsD H ds w o) : RowsD H' ds w o := ⟨h.1, fun i d e => s _ _ (h.2 i d e)⟩
theorem trip_nd (w : Wi) (o : Nat) : ∀ k, ((trip w o k).map fun p => (p.1, p.2.1)).Nodup
  | 0 => by
    show ([] : List (Nat × Nat)).Nodup
    exact List.nodup_nil
  | k + 1 => by
    rw [trip_succ, List.map_append, List.nodup_append]
    refine ⟨trip_nd w o k, ?_, ?_⟩
    · unfold rowsN
      rw [List.map_map, List.map_map]
      have h := keyN_nd w k
      refine List.pairwise_map.mpr (h.imp fun hne e => hne ?_)
      exact (Prod.mk.inj e).2
    · intro a ha b hb e
      obtain ⟨p, hp, rfl⟩ := List.mem_map.mp ha
      obtain ⟨q, hq, rfl⟩ := List.mem_map.mp hb
      obtain ⟨i, hi, hp⟩ := List.mem_flatMap.mp hp
      obtain ⟨p', _, rfl⟩ := List.mem_map.mp hp
      obtain ⟨q', _, rfl⟩ := List.mem_map.mp hq
      have h1 := List.mem_range.mp hi
      have h2 : i = k := (Prod.mk.inj e).1
      omega
/-- the pairs of one asker -/
def rowOf (L : List (Nat × Nat × Int)) (i : Nat) : List (Nat × Int) := (L.filter fun p => decide (p.1 = i)).map (·.2)
theorem rowOf_all (w : Wi) (o i : Nat) : ∀ k, rowOf (trip w o k) i = if i < k then rowsN w o i else []
  | 0 => rfl
  | k + 1 => by
    unfold rowOf
    rw [trip_succ, List.filter_append, List.map_append]
    have ih := rowOf_all w o i k
    unfold rowOf at ih
    rw [ih]
    by_cases h : i = k
    · subst h
      rw [if_neg (Nat.lt_irrefl i), if_pos (Nat.lt_succ_self i), List.nil_append, List.filter_map]
      have e : (rowsN w o i).filter ((fun p : Nat × Nat × Int => decide (p.1 = i)) ∘ fun p => (i, p.1, p.2)) = rowsN w o i := List.filter_eq_self.mpr fun p _ => decide_eq_true rfl
      rw [e, List.map_map]
      exact List.map_id _
    · have e : ((rowsN w o k).map fun p => (k, p.1, p.2)).filter (fun p => decide (p.1 = i)) = [] := List.filter_eq_nil_iff.mpr fun p hp => by
        obtain ⟨q, _, rfl⟩ := List.mem_map.mp hp
        intro z
        exact h (of_decide_eq_true z).symm
      rw [e, List.map_nil, List.append_nil]
      by_cases q : i < k
      · rw [if_pos q, if_pos (by omega)]
      · rw [if_neg q, if_neg (by omega)]
theorem rowOf_snoc (L : List (Nat × Nat × Int)) (p : Nat × Nat × Int) (i : Nat) : rowOf (L ++ [p]) i = if p.1 = i then rowOf L i ++ [p.2] else rowOf L i := by
  unfold rowOf
  rw [List.filter_append, List.map_append]
  by_cases h : p.1 = i
  · rw [if_pos h, List.filter_cons, if_pos (decide_eq_true h)]
    rfl
  · rw [if_neg h, List.filter_cons, if_neg (by rw [decide_eq_false h]; decide)]
    exact List.append_nil _
theorem nd_get {α : Type} {l : List α} (h : l.Nodup) {i j : Nat} {x : α} (hi : l[i]? = some x) (hj : l[j]? = some x) : i = j := by
  obtain ⟨li, ei⟩ := List.getElem?_eq_some_iff.mp hi
  obtain ⟨lj, ej⟩ := List.getElem?_eq_some_iff.mp hj
  rcases Nat.lt_trichotomy i j with q | q | q
  · exact absurd (ei.trans ej.symm) ((List.pairwise_iff_getElem.mp h) i j li lj q)
  · exact q
  · exact absurd (ej.trans ei.symm) ((List.pairwise_iff_getElem.mp h) j i lj li q)
theorem rowOf_new {L : List (Nat × Nat × Int)} {k : Nat} {a t : Nat} {x : Int} (nd : (L.map fun p => (p.1, p.2.1)).Nodup) (h : L[k]? = some (a, t, x)) : (rowOf (L.take k) a).lookup t = Option.none := lookup_none fun p hp e => by
  obtain ⟨q, hq, rfl⟩ := List.mem_map.mp hp
  obtain ⟨h1, h2⟩ := List.mem_filter.mp hq
  obtain ⟨j, hj, ej⟩ := List.mem_iff_getElem.mp h1
  have lj : j < k := by
    rw [List.length_take] at hj
    omega
  have ej2 : L[j]? = some q := by
    have := List.getElem?_eq_getElem hj
    rw [ej, List.getElem?_take, if_pos lj] at this
    exact this
  have e1 := map_get (fun p : Nat × Nat × Int => (p.1, p.2.1)) ej2
  have e2 := map_get (fun p : Nat × Nat × Int => (p.1, p.2.1)) h
  have e3 : (q.1, q.2.1) = (a, t) := by rw [of_decide_eq_true h2, e]
  rw [e3] at e1
  have := nd_get nd e1 e2
  omega
theorem rowOf_le (L : List (Nat × Nat × Int)) (i : Nat) : (rowOf L i).length ≤ L.length := by
  unfold rowOf
  rw [List.length_map]
  exact List.length_filter_le _ _
def spRows : Sp := fun vs H Q _ => ∃ (a b : Addr) (w : Wi) (o : Nat), vs = [.ref a, .ref b] ∧ WAt H a w ∧ w.Ok ∧ AimAt H b o ∧
  ∀ p ds H', H p = Option.none → Same H H' → H' p = some (.lst (ds.map V.ref)) → RowsD H' ds w o → Q (.ref p) H'
def spLeftBy : Sp := fun vs H Q _ => ∃ (a b : Addr) (cs : List Nat) (d : List (Option Nat)), vs = [.ref a, .ref b] ∧ H a = some (.lst (cs.map nV)) ∧ H b = some (.lst (d.map onV)) ∧ cs.length ≤ 1000 ∧ (∀ i t : Nat, d[i]? = some (some t) → t < cs.length) ∧
  ∀ p H', H p = Option.none → Same H H' → H' p = some (.lst ((leftL cs (toI d)).map V.int)) → Q (.ref p) H'
theorem leftL_get {cs : List Nat} {d : List (Option Nat)} {t : Nat} (h : t < cs.length) : (leftL cs (toI d))[t]? = some ((cs.getD t 0 : Int) - (d.count (some t) : Nat)) := by
  unfold leftL
  rw [List.getElem?_map, List.getElem?_range h, ← toI_count]
  rfl
theorem leftL_len (cs : List Nat) (d : List (Option Int)) : (leftL cs d).length = cs.length := by
  unfold leftL
  rw [List.length_map, List.length_range]
theorem leftL_nil (cs : List Nat) : leftL cs (toI []) = cs.map fun n : Nat => (n : Int) := by
  refine List.ext_getElem? fun i => ?_
  by_cases h : i < cs.length
  · rw [leftL_get h, List.getElem?_map, List.getElem?_eq_getElem h, List.getD_eq_getElem?_getD, List.getElem?_eq_getElem h]
    show some ((cs[i] : Int) - ((0 : Nat) : Int)) = some (cs[i] : Int)
    rw [show ((0 : Nat) : Int) = 0 from rfl, Int.sub_zero]
  · rw [List.getElem?_eq_none (by rw [leftL_len]; omega), List.getElem?_eq_none (by rw [List.length_map]; omega)]
theorem leftL_none (cs : List Nat) (d : List (Option Nat)) : leftL cs (toI (d ++ [Option.none])) = leftL cs (toI d) := by
  refine List.ext_getElem? fun i => ?_
  by_cases h : i < cs.length
  · rw [leftL_get h, leftL_get h, List.count_append]
    rfl
  · rw [List.getElem?_eq_none (by rw [leftL_len]; omega), List.getElem?_eq_none (by rw [leftL_len]; omega)]
theorem leftL_some {cs : List Nat} (d : List (Option Nat)) {t : Nat} (ht : t < cs.length) : leftL cs (toI (d ++ [some t])) = (leftL cs (toI d)).set t ((cs.getD t 0 : Int) - (d.count (some t) : Nat) - 1) := by
  refine List.ext_getElem? fun i => ?_
  by_cases h : i < cs.length
  · rw [leftL_get h, List.getElem?_set, List.count_append]
    by_cases e : t = i
    · subst e
      rw [if_pos rfl, if_pos (by rw [leftL_len]; exact h)]
      have : [some t].count (some t) = 1 := by simp
      rw [this]
      congr 1
      omega
    · rw [if_neg e, leftL_get h]
      have : [some t].count (some i) = 0 := by simp [e]
      rw [this]
      rfl
  · rw [List.getElem?_eq_none (by rw [leftL_len]; omega), List.getElem?_eq_none (by rw [List.length_set, leftL_len]; omega)]
section
variable {P : Program} {w : World} {K : PySem.W.Frag} {mg : Str → Option Value} {base : Heap}
abbrev N_rows_by : List Str := ["wishes", "aim", "worths", "rows", "ranks", "asker", "thing", "worth"]
theorem sc_rows_by : FnScope N_rows_by ["wishes", "aim"] (defScope s_rows_by) := ⟨rfl, rfl, rfl, by decide +kernel, rfl, by decide +kernel, by decide +kernel⟩
theorem ok_rows_by {f : Addr} {fd : FuncData} (F : FnP K "rows_by" "rows_by" s_rows_by f fd) (T : Txt K mg) (c_all_worths : Cal P w K mg base "all_worths" 8 ["wishes", "aim"] (spAW)) : FnOk P w K mg base CX0 9 f fd ["wishes", "aim"] (spRows) := by
  refine F.ok sc_rows_by (fun vs H Q E h => ?_) (fun cdv A outer s H vs Q E hr h => ?_)
  · obtain ⟨a, b, w, o, rfl, _⟩ := h
    rfl
  · have hu := hu_of hr
    have nd := sc_rows_by.nd
    refine ⟨_, PSs.nox (pss_cons (ps_set (i := 2) nd rfl (Or.inl rfl) (pe_call c_all_worths.ok (hr.mono (by decide)) (by rfl) c_all_worths.g c_all_worths.kp c_all_worths.b .nil pass0 (pa_cons (pv 0) (pa_cons (pv 1) pa_nil))))
    (pss_cons (ps_setLc (i := 3) (own := [("ranks", 4)]) (g := (gName 4)) (tt := tYes) (te := tDNewK) (by rfl) nd rfl rfl (sw_true rfl rfl rfl (by decide +kernel)) (pi_list (pe_ix ix_tup (pv 0) pe_int (fun _ _ => rfl))) (blkOk_by (own := [("ranks", 4)]) (N := N_rows_by) (sc := defScope s_rows_by) (by decide +kernel)) (fun _ _ _ _ _ => (pg_name (i := 4) nd rfl (Or.inl rfl))) (fun _ _ _ _ _ => pts_nil) (fun _ _ _ _ _ => pe_dnewK))
    (pss_cons (ps_for PassesOwn.never rfl (pi_list (pv 2)) (pg_tup rfl (pgs_cons (pg_name (i := 5) nd rfl (Or.inl rfl)) (pgs_cons (pg_name (i := 6) nd rfl (Or.inl rfl)) (pgs_cons (pg_name (i := 7) nd rfl (Or.inl rfl)) pgs_nil))))
      (pss_one (ps_dput hu (pe_ix ix_list (pv 3) (pv 5) (fun _ _ => rfl)) (pv 6) (pv 7) rfl)))
    (pss_one (ps_ret (pv 3)))))), ?_⟩
    obtain ⟨a, b, w, o, rfl, hW, ok, hAim, k⟩ := h
    have n6 := ok.c6
    have m7 := ok.l7
    refine ⟨_, rfl, _, rfl, a, b, w, o, rfl, hW, ok, hAim, fun q qs H1 hq s1 hQ hT => ?_⟩
    obtain ⟨c, l, hA, hC, as, hL, hn, hR⟩ := hW.mono s1
    refine ⟨_, rfl, a, _, 1, _, rfl, rfl, SqT.of hA, rfl, l, rfl, ⟨_, SqL.of hL⟩, fun D hD => ?_⟩
    refine lc_list (xs := as.map V.ref) (fun i H' => Same H1 H' ∧ ∃ ds : List Addr, H' D = some (.lst (ds.map V.ref)) ∧ ds.length = i ∧ ds.Nodup ∧ ∀ d ∈ ds, H1 d = Option.none ∧ H' d = some (.dK [])) ⟨same_new hD, [], upd_same, rfl, List.nodup_nil, fun d h => by cases h⟩ (fun i H' _ ⟨s, _⟩ => SqL.of (s _ _ hL)) ?_ ?_
    · rintro i x H' hx ⟨s, ds, hDs, hl, hnd, hd⟩
      have hi := lt_of_get hx
      rw [List.length_map] at hi
      refine ⟨rfl, yes_ fun d hd1 => ?_⟩
      have ndD : D ≠ d := ne_of_none hDs hd1
      refine ⟨_, (same_new hd1) _ _ hDs, ?_, same_mut (same_and s hd1) hD, ds ++ [d], ?_, ?_, ?_, ?_⟩
      · rw [List.length_map]
        exact sl100 (by omega)
      · rw [upd_same, List.map_append]
        rfl
      · rw [List.length_append, hl]
        rfl
      · refine nd_snoc hnd fun m => ?_
        have := (hd d m).2
        rw [hd1] at this
        cases this
      · intro d' hd'
        rcases List.mem_append.mp hd' with m | m
        · obtain ⟨g1, g2⟩ := hd d' m
          refine ⟨g1, ?_⟩
          rw [upd_ne (ne_of g2 hDs (by intro z; cases z))]
          exact (same_new hd1) _ _ g2
        · rw [List.mem_singleton] at m
          subst m
          refine ⟨s.free hd1, ?_⟩
          rw [upd_ne ndD.symm, upd_same]
    rintro H2 ⟨s2, ds, hDs, hl, hnd, hd⟩
    rw [List.length_map] at hl
    refine ⟨_, rfl, q, rfl, ⟨_, SqL.of (s2 _ _ hQ)⟩, for_list (xs := qs.map V.ref) (fun j σ H' => ∃ v4 v5 v6 v7, σ = [some (.ref a), some (.ref b), some (.ref q), some (.ref D), v4, v5, v6, v7] ∧ Same H1 H' ∧ H' D = some (.lst (ds.map V.ref)) ∧ ∀ (i : Nat) (d : Addr), ds[i]? = some d → H' d = some (.dK (enc V.int (rowOf ((trip w o w.l.length).take j) i))))
      ⟨_, _, _, _, rfl, s2, hDs, fun i d e => (hd d (List.mem_of_getElem? e)).2⟩ (fun i σ H' _ ⟨_, _, _, _, _, s, _⟩ => SqL.of (s _ _ hQ)) ?_ ?_⟩
    · rintro j y σ H' hy ⟨v4, v5, v6, v7, rfl, s, hD', hds⟩
      obtain ⟨p, hp, rfl⟩ := get_map hy
      have hj : j < (trip w o w.l.length).length := by rw [← hT.1]; exact lt_of_get hp
      have ht := List.getElem?_eq_getElem hj
      generalize (trip w o w.l.length)[j] = x at ht
      obtain ⟨x1, x2, x3⟩ := x
      have hP := (hT.mono s).2 j p _ hp ht
      have h1 : x1 < w.l.length := by
        obtain ⟨i, hi, hm⟩ := List.mem_flatMap.mp (List.mem_of_getElem? ht)
        obtain ⟨q', _, e⟩ := List.mem_map.mp hm
        have := List.mem_range.mp hi
        cases e
        exact this
      have hi : x1 < ds.length := by omega
      have hg := List.getElem?_eq_getElem hi
      have hd1 := hds x1 _ hg
      have hnew := rowOf_new (trip_nd w o w.l.length) ht
      refine ⟨p, _, rfl, SqT.of hP, rfl, _, _, rfl, _, _, rfl, _, _, rfl, rfl, ?_⟩
      refine ⟨_, rfl, _, rfl, _, rfl, D, _, (x1 : Int), _, rfl, rfl, SqL.of hD', at_nat V.ref hg, _, rfl, ds[x1], _, rfl, dput x2 x3 hd1 ?_, ?_⟩
      · have h2 := rowOf_le ((trip w o w.l.length).take j) x1
        have h3 := trip_len w o w.l.length
        have h4 : w.l.length * w.c.length ≤ 7 * 6 := Nat.mul_le_mul m7 n6
        rw [List.length_take] at h2
        omega
      · refine ⟨_, _, _, _, rfl, same_mut s (hd _ (List.mem_of_getElem? hg)).1, ?_, fun i d e => ?_⟩
        · rw [upd_ne (ne_of hD' hd1 (by intro z; cases z))]
          exact hD'
        · rw [take_snoc ht, rowOf_snoc]
          by_cases q2 : x1 = i
          · subst q2
            rw [hg] at e
            cases e
            rw [if_pos rfl, upd_same, put_new _ hnew]
          · rw [if_neg q2, upd_ne (fun z => q2 (by subst z; exact (nd_get hnd e hg).symm))]
            exact hds i d e
    · rintro σ H' ⟨v4, v5, v6, v7, rfl, s, hD', hds⟩
      refine ⟨_, rfl, k D ds H' (s1.free hD) (s1.trans s) hD' ⟨hl.trans hn, fun i d e => ?_⟩⟩
      rw [hds i d e, List.length_map, hT.1, List.take_length, rowOf_all, if_pos (by rw [← hn, ← hl]; exact lt_of_get e)]
abbrev N_left_by : List Str := ["copies", "dealt", "left", "thing"]
theorem sc_left_by : FnScope N_left_by ["copies", "dealt"] (defScope s_left_by) := ⟨rfl, rfl, rfl, by decide +kernel, rfl, by decide +kernel, by decide +kernel⟩
theorem ok_left_by {f : Addr} {fd : FuncData} (F : FnP K "left_by" "left_by" s_left_by f fd) (T : Txt K mg)  : FnOk P w K mg base CX0 1 f fd ["copies", "dealt"] (spLeftBy) := by
  refine F.ok sc_left_by (fun vs H Q E h => ?_) (fun cdv A outer s H vs Q E hr h => ?_)
  · obtain ⟨a, b, cs, d, rfl, _⟩ := h
    rfl
  · have hu := hu_of hr
    have nd := sc_left_by.nd
    refine ⟨_, PSs.nox (pss_cons (ps_set (i := 2) nd rfl (Or.inl rfl) (pe_callTy call_list_of (by rfl) T.list (by decide +kernel) (pa_cons (pv 0) pa_nil)))
    (pss_cons (ps_for PassesOwn.never rfl (pi_list (pv 1)) (pg_name (i := 3) nd rfl (Or.inl rfl))
      (pss_one (ps_if (pt_cmpR op_notN (pv 3) pe_non (nomark _))
        (pss_one (ps_augS (pv 2) (pv 3) get_list pe_int ip_sub set_list))
        pss_nil)))
    (pss_one (ps_ret (pv 2))))), ?_⟩
    obtain ⟨a, b, cs, d, rfl, hA, hB, hl, hlt, k⟩ := h
    refine ⟨_, rfl, a, _, rfl, .inl (SqL.of hA), fun p hp => ?_⟩
    have s1 : Same H (upd H p (.lst (cs.map nV))) := same_new hp
    refine ⟨_, rfl, b, rfl, ⟨_, SqL.of (s1 _ _ hB)⟩, for_list (xs := d.map onV) (fun j σ H' => ∃ v3, σ = [some (.ref a), some (.ref b), some (.ref p), v3] ∧ Same H H' ∧ H' p = some (.lst ((leftL cs (toI (d.take j))).map V.int))) ⟨_, rfl, s1, ?_⟩ (fun i σ H' _ ⟨_, _, s, _⟩ => SqL.of (s _ _ hB)) ?_ ?_⟩
    · rw [List.take_zero, leftL_nil, map_nV, upd_same]
    · rintro j y σ H' hy ⟨v3, rfl, s, hP⟩
      obtain ⟨x, hx, rfl⟩ := get_map hy
      refine ⟨_, rfl, rfl, _, rfl, if2 (fun h => ?_) fun h => ?_⟩
      · obtain ⟨t, rfl⟩ := som_of (o := x) (by
          cases q : decide (onV x = V.non) with
          | true => rw [q] at h; cases h
          | false => rfl)
        have ht := hlt j t hx
        refine ⟨_, rfl, _, rfl, p, _, _, _, rfl, rfl, SqL.of hP, at_nat V.int (leftL_get ht), _, _, rfl, rfl, p, _, _, t, rfl, rfl, hP, ?_, _, rfl, same_mut s hp, ?_⟩
        · rw [List.length_map, leftL_len]
          exact ixN_nat ht
        · rw [upd_same, take_snoc hx, leftL_some _ ht]
          rw [← set_map]
      · have : onV x = V.non := by
          cases q : decide (onV x = V.non) with
          | true => exact of_decide_eq_true q
          | false => rw [q] at h; cases h
        have hx2 : x = Option.none := by cases x with
          | none => rfl
          | some t => cases this
        subst hx2
        refine ⟨_, rfl, s, ?_⟩
        rw [take_snoc hx, leftL_none]
        exact hP
    · rintro σ H' ⟨v3, rfl, s, hP⟩
      rw [take_all] at hP
      exact ⟨_, rfl, k p H' hp s hP⟩
end
end Wd
namespace Wd
open PySem PySem.Spec PyProof.Rows L2
theorem wt_some {w : Wi} {o a t : Nat} {x : Int} (h : wt w o a t = some x) : rkI (w.l.getD a []) t ≠ 0 ∧ x = rw_ w o (rkI (w.l.getD a []) t) := by
  unfold wt at h
  by_cases e : rkI (w.l.getD a []) t = 0
  · rw [if_pos e] at h
    cases h
  · rw [if_neg e] at h
    exact ⟨e, (Option.some.inj h).symm⟩
theorem rk_lt {w : Wi} (ok : w.Ok) {a t : Nat} (h : rkI (w.l.getD a []) t ≠ 0) : a < w.l.length ∧ t < w.c.length := by
  by_cases ha : a < w.l.length
  · have e : w.l.getD a [] = w.l[a] := by rw [List.getD_eq_getElem?_getD, List.getElem?_eq_getElem ha]; rfl
    rw [e] at h
    obtain ⟨row, h1, h2⟩ := List.mem_flatten.mp (rkI_mem.mp h)
    exact ⟨ha, (ok.rk _ (List.getElem_mem ha)).lt row h1 t h2⟩
  · have e : w.l.getD a [] = [] := by rw [List.getD_eq_getElem?_getD, List.getElem?_eq_none (by omega)]; rfl
    rw [e] at h
    exact absurd rfl h
def insW (w : Wi) (o : Nat) (ok : w.Ok) : Ins := ⟨w.l.length, w.c.length, fun t => (w.c.getD t 0 : Int), wt w o, fun a t x h => (rk_lt ok (wt_some h).1).2⟩
theorem insW_m {w : Wi} {o : Nat} {ok : w.Ok} : (insW w o ok).m = w.l.length := rfl
theorem insW_n {w : Wi} {o : Nat} {ok : w.Ok} : (insW w o ok).n = w.c.length := rfl
theorem insW_w {w : Wi} {o : Nat} {ok : w.Ok} : (insW w o ok).w = wt w o := rfl
theorem insW_c {w : Wi} {o : Nat} {ok : w.Ok} {t : Nat} : (insW w o ok).c t = (w.c.getD t 0 : Int) := rfl
theorem rowsN_mem {w : Wi} (ok : w.Ok) {o a t : Nat} {x : Int} : (t, x) ∈ rowsN w o a ↔ wt w o a t = some x := by
  unfold rowsN
  rw [List.mem_map]
  constructor
  · rintro ⟨t', h1, h2⟩
    have e1 : t' = t := (Prod.mk.inj h2).1
    subst e1
    have h3 := (keyN_mem.mp h1).2
    unfold wt
    rw [if_neg h3]
    exact congrArg some (Prod.mk.inj h2).2
  · intro h
    obtain ⟨h1, rfl⟩ := wt_some h
    exact ⟨t, keyN_mem.mpr ⟨(rk_lt ok h1).2, h1⟩, rfl⟩
theorem rowsN_fst (w : Wi) (o a : Nat) : (rowsN w o a).map (·.1) = keyN w a := by
  unfold rowsN
  rw [List.map_map]
  exact List.map_id _
theorem rowsN_lookup {w : Wi} (ok : w.Ok) (o a t : Nat) : (rowsN w o a).lookup t = wt w o a t := by
  cases e : wt w o a t with
  | some x =>
    refine mem_lookup ?_ ((rowsN_mem ok).mpr e)
    rw [rowsN_fst]
    exact keyN_nd w a
  | none =>
    refine lookup_none fun p hp q => ?_
    have := (rowsN_mem ok (o := o) (a := a) (t := t) (x := p.2)).mp (by rw [← q]; exact hp)
    rw [e] at this
    cases this
/-- the dealing that a list is -/
def dD (d : List (Option Nat)) (a : Nat) : Option Nat := d.getD a Option.none
theorem dD_get {d : List (Option Nat)} {a : Nat} {x : Option Nat} (h : d[a]? = some x) : dD d a = x := by
  unfold dD
  rw [List.getD_eq_getElem?_getD, h]
  rfl
theorem get_dD {d : List (Option Nat)} {a : Nat} (h : a < d.length) : d[a]? = some (dD d a) := by
  rw [List.getElem?_eq_getElem h]
  exact congrArg some (dD_get (List.getElem?_eq_getElem h)).symm
theorem dD_lt {d : List (Option Nat)} {a t : Nat} (h : dD d a = some t) : a < d.length := by
  by_cases q : a < d.length
  · exact q
  · unfold dD at h
    rw [List.getD_eq_getElem?_getD, List.getElem?_eq_none (by omega)] at h
    cases h
theorem S_count (d : List (Option Nat)) (t : Nat) : ∀ k, k ≤ d.length → S k (fun a => isT (dD d a) t) = ((d.take k).count (some t) : Nat)
  | 0, _ => rfl
  | k + 1, h => by
    have hk : k < d.length := by omega
    have ih := S_count d t k (by omega)
    have e := get_dD hk
    rw [take_snoc e, List.count_append]
    show S k (fun a => isT (dD d a) t) + isT (dD d k) t = _
    rw [ih]
    unfold isT
    by_cases q : dD d k = some t
    · rw [if_pos q, q]
      simp
    · rw [if_neg q]
      have : [dD d k].count (some t) = 0 := List.count_eq_zero.mpr fun m => q (List.mem_singleton.mp m).symm
      rw [this]
      simp
theorem cnt_dD {d : List (Option Nat)} {m : Nat} (h : d.length = m) (t : Nat) : cnt m (dD d) t = (d.count (some t) : Nat) := by
  subst h
  unfold cnt
  rw [S_count d t d.length (Nat.le_refl _), List.take_length]
/-- where a search stands -/
structure RSt (w : Wi) (o : Nat) (ok : w.Ok) (d : List (Option Nat)) (k : Nat) (u p : Nat → Int) (C B : Int) (lF lT : List (Nat × Int)) (lK : List (Nat × Nat)) (st : Nat → Nat) (r : Nat) : Prop where
  du : Dual (insW w o ok) k (dD d) u p
  bd : Bds (insW w o ok) k u p C B
  la : Lab (insW w o ok) k (dD d) p C B (fun a => lF.lookup a) (fun t => lT.lookup t) (fun t => lK.lookup t) st r
  nF : (lF.map (·.1)).Nodup
  nT : (lT.map (·.1)).Nodup
  eK : lK.map (·.1) = lT.map (·.1)
  dl : d.length = w.l.length
  km : k < w.l.length
theorem key_some {α : Type} {l : List (Nat × α)} {p : Nat × α} (hn : (l.map (·.1)).Nodup) (h : p ∈ l) : l.lookup p.1 = some p.2 := mem_lookup hn h
/-- dicts with these keys are short -/
theorem keys_len {α : Type} {l : List (Nat × α)} {n : Nat} (hn : (l.map (·.1)).Nodup) (h : ∀ t X, l.lookup t = some X → t < n) : l.length ≤ n := by
  have := sub_len (l2 := List.range n) hn fun t ht => by
    obtain ⟨p, hp, rfl⟩ := List.mem_map.mp ht
    exact List.mem_range.mpr (h p.1 p.2 (key_some hn hp))
  rw [List.length_range, List.length_map] at this
  exact this
theorem put_fst {α : Type} (l : List (Nat × α)) (t : Nat) (x : α) : (put l t x).map (·.1) = if t ∈ l.map (·.1) then l.map (·.1) else l.map (·.1) ++ [t] := by
  have e : (l.any fun p => decide (p.1 = t)) = decide (t ∈ l.map (·.1)) := by
    rw [Bool.eq_iff_iff, List.any_eq_true, decide_eq_true_iff, List.mem_map]
    exact ⟨fun ⟨p, h1, h2⟩ => ⟨p, h1, of_decide_eq_true h2⟩, fun ⟨p, h1, h2⟩ => ⟨p, h1, decide_eq_true h2⟩⟩
  unfold put
  rw [e]
  by_cases h : t ∈ l.map (·.1)
  · rw [if_pos (decide_eq_true h), if_pos h, List.map_map]
    refine List.map_congr_left fun p _ => ?_
    show (if p.1 = t then (p.1, x) else p).1 = p.1
    split <;> rfl
  · rw [if_neg (by rw [decide_eq_false h]; decide), if_neg h, List.map_append]
    rfl
theorem put_keys {α β : Type} {l : List (Nat × α)} {l' : List (Nat × β)} (t : Nat) (x : α) (y : β) (h : l'.map (·.1) = l.map (·.1)) : (put l' t y).map (·.1) = (put l t x).map (·.1) := by
  rw [put_fst, put_fst, h]
theorem lookup_setO {α : Type} (l : List (Nat × α)) (t : Nat) (x : α) : (fun i => (put l t x).lookup i) = setO (fun i => l.lookup i) t x := funext fun i => lookup_put l t x i
/-- a search's instance -/
structure RchAt (K : PySem.W.Frag) (H : Hp) (s rw de fr tk tr : Addr) (ds : List Addr) (w : Wi) (o : Nat) (d : List (Option Nat)) (k : Nat) (lF lT : List (Nat × Int)) (lK : List (Nat × Nat)) : Prop where
  ins : ∃ (dx : Addr) (fs : List (Str × V)), H s = some (.ins (He.ga K "Reach") dx fs) ∧
    (fl fs "rows" = some (.ref rw) ∧ fl fs "dealt" = some (.ref de) ∧ fl fs "start" = some (nV k) ∧ fl fs "freed" = some (.ref fr) ∧ fl fs "taken" = some (.ref tk) ∧ fl fs "takers" = some (.ref tr)) ∧
    (fl fs "to_things" = Option.none ∧ fl fs "to_askers" = Option.none ∧ fl fs "go_on" = Option.none ∧ fl fs "end_by" = Option.none ∧ fl fs "way_to" = Option.none)
  hRw : H rw = some (.lst (ds.map V.ref))
  hRows : RowsD H ds w o
  hDe : H de = some (.lst (d.map onV))
  hF : H fr = some (.dK (enc V.int lF))
  hT : H tk = some (.dK (enc V.int lT))
  hK : H tr = some (.dK (enc nV lK))
  ne : tk ≠ fr ∧ tr ≠ fr ∧ tr ≠ tk
  nd : ∀ x ∈ ds, x ≠ fr ∧ x ≠ tk ∧ x ≠ tr
theorem RchAt.go {K : PySem.W.Frag} {H H' : Hp} {s rw de fr tk tr : Addr} {ds : List Addr} {w : Wi} {o : Nat} {d : List (Option Nat)} {k : Nat} {lF lT lF' lT' : List (Nat × Int)} {lK lK' : List (Nat × Nat)} (R : RchAt K H s rw de fr tk tr ds w o d k lF lT lK) (sx : SameX [fr, tk, tr] H H')
    (h1 : H' fr = some (.dK (enc V.int lF'))) (h2 : H' tk = some (.dK (enc V.int lT'))) (h3 : H' tr = some (.dK (enc nV lK'))) : RchAt K H' s rw de fr tk tr ds w o d k lF' lT' lK' := by
  have gen : ∀ {b : Addr} {u : HO}, H b = some u → (∀ xs, u ≠ .dK xs) → H' b = some u := fun {b u} e hu => by
    refine sx b u ?_ e
    simp only [List.mem_cons, List.not_mem_nil, or_false, not_or]
    exact ⟨ne_of e R.hF (hu _), ne_of e R.hT (hu _), ne_of e R.hK (hu _)⟩
  obtain ⟨dx, fs, e1, e2, e3⟩ := R.ins
  refine ⟨⟨dx, fs, gen e1 (fun xs q => by cases q), e2, e3⟩, gen R.hRw (fun xs q => by cases q), ⟨R.hRows.1, fun i x e => ?_⟩, gen R.hDe (fun xs q => by cases q), h1, h2, h3, R.ne, R.nd⟩
  refine sx x _ ?_ (R.hRows.2 i x e)
  simp only [List.mem_cons, List.not_mem_nil, or_false, not_or]
  exact R.nd x (List.mem_of_getElem? e)
theorem RchAt.mono {K : PySem.W.Frag} {H H' : Hp} {s rw de fr tk tr : Addr} {ds : List Addr} {w : Wi} {o : Nat} {d : List (Option Nat)} {k : Nat} {lF lT : List (Nat × Int)} {lK : List (Nat × Nat)} (sx : Same H H') (R : RchAt K H s rw de fr tk tr ds w o d k lF lT lK) : RchAt K H' s rw de fr tk tr ds w o d k lF lT lK :=
  R.go (SameX.of sx) (sx _ _ R.hF) (sx _ _ R.hT) (sx _ _ R.hK)
/-- a loop over items of a dict of numbers, locked -/
theorem for_items {α : Type} {f : α → V} {l : List (Nat × α)} {dd : Addr} {od : Obj} {g : TG} {tb : TS} {D : Ends} {σ : L2.St} {H : Hp} (Pv : Nat → L2.St → Hp → Prop) (h0 : Pv 0 σ H) (hG : ∀ i σ H, i ≤ l.length → Pv i σ H → H dd = some (.frz od (.dK (enc f l))))
    (hs : ∀ (i t : Nat) (x : α) (T : Addr) (σ : L2.St) (H : Hp), l[i]? = some (t, x) → Pv i σ H → H T = Option.none → g (.ref T) σ (upd H T (.tup [nV t, f x])) fun σ2 H2 => tb { D with nx := Pv (i + 1), ct := Pv (i + 1), bk := D.nx } σ2 H2)
    (hd : ∀ σ H, Pv l.length σ H → D.nx σ H) :
    ∃ W : Nat → Nat → L2.St → Hp → Prop, (∃ m, W 0 m σ H) ∧ ∀ i m σ H, W i m σ H →
      ((Iti dd od (enc f l)).stop i H ∧ D.nx σ H) ∨ ((Iti dd od (enc f l)).go i H ∧ ∃ N : L2.St → Hp → Prop, (∀ σ' H', N σ' H' → ∃ m', m' < m ∧ W (i + 1) m' σ' H') ∧ ∀ x H', (Iti dd od (enc f l)).yld i H x H' → g x σ H' fun σ2 H2 => tb { D with nx := N, ct := N, bk := D.nx } σ2 H2) :=
  for_it walk_items Pv h0 (fun i σ H hi p => hG i σ H (by rw [enc_len] at hi; exact hi) p) (fun i x σ H H' hi p ⟨T, u, v, e, hT, e2, eu, ev⟩ => by
    rw [enc_len] at hi
    subst e e2
    have e3 : (enc f l)[i]? = some (Sum.inl ((l[i]).1 : Int), f (l[i]).2) := by
      unfold enc
      rw [List.getElem?_map, List.getElem?_eq_getElem hi]
      rfl
    have eu : (enc f l)[i]?.map (fun kv => kV kv.1) = some u := eu
    have ev : (enc f l)[i]?.map Prod.snd = some v := ev
    rw [e3] at eu ev
    cases eu
    cases ev
    exact hs i _ _ T σ H (List.getElem?_eq_getElem hi) p hT) (fun σ H p => hd σ H (by rw [enc_len] at p; exact p))
theorem SameX.free {S : List Addr} {H H' : Hp} {b : Addr} (s : SameX S H H') (h : H' b = Option.none) (n : b ∉ S) : H b = Option.none := by
  cases e : H b with
  | none => rfl
  | some v =>
    have := s b v n e
    rw [h] at this
    cases this
theorem SameX.same {S : List Addr} {H0 H H' : Hp} (s0 : Same H0 H) (s : SameX S H H') (h : ∀ b ∈ S, H0 b = Option.none) : Same H0 H' := fun b o e => s b o (fun m => by
  have := h b m
  rw [e] at this
  cases this) (s0 b o e)
theorem SameX.lock {S : List Addr} {H H' : Hp} {dd : Addr} {od : Obj} {u : HO} (hd : H dd = some u) (s : SameX S (upd H dd (.frz od u)) H') : SameX S H (upd H' dd u) := fun b o n e => by
  by_cases q : b = dd
  · subst q
    rw [upd_same, ← e, hd]
  · rw [upd_ne q]
    refine s b o n ?_
    rw [upd_ne q]
    exact e
theorem scal_on (t : Nat) (x : Option Nat) : scal (nV t) (onV x) = true := by cases x <;> rfl
theorem scal_no (t : Nat) (x : Option Nat) : scal (onV x) (nV t) = true := by cases x <;> rfl
theorem dec_nVonV (t : Nat) (x : Option Nat) : decide (nV t = onV x) = decide (x = some t) := by
  have h := dec_onV (some t) x
  rw [show onV (some t) = nV t from rfl] at h
  rw [h]
  by_cases e : x = some t
  · rw [decide_eq_true e, decide_eq_true e.symm]
  · rw [decide_eq_false e, decide_eq_false fun z => e z.symm]
/-- whether v is more than what is there -/
def betr : Option Int → Int → Bool
  | Option.none, _ => true
  | some Z, v => decide (Z < v)
theorem betr_t {o : Option Int} {v : Int} (h : betr o v = true) : ∀ Z, o = some Z → Z < v := fun Z e => by
  subst e
  exact of_decide_eq_true h
theorem betr_f {o : Option Int} {v : Int} (h : betr o v = false) : ∃ Z, o = some Z ∧ v ≤ Z := by
  cases o with
  | none => cases h
  | some Z => exact ⟨Z, rfl, Int.not_lt.mp (of_decide_eq_false h)⟩
theorem and_split {t u : TT} {σ : L2.St} {H : Hp} {Q : Bool → Hp → Prop} (c : Bool) (h : ∀ Q' : Bool → Hp → Prop, Q' c H → tAnd t u σ H Q') (k : Q c H) : tAnd t u σ H Q := h Q k
theorem or_split {t u : TT} {σ : L2.St} {H : Hp} {Q : Bool → Hp → Prop} (c : Bool) (h : ∀ Q' : Bool → Hp → Prop, Q' c H → tOr t u σ H Q') (k : Q c H) : tOr t u σ H Q := h Q k
end Wd
namespace Wd
open PySem PySem.Spec PyProof.Rows L2
def spRI (K : PySem.W.Frag) : Sp := fun vs H Q _ => ∃ (s rw de dx : Addr) (ds : List Addr) (w : Wi) (o : Nat) (d : List (Option Nat)) (k : Nat), vs = [.ref s, .ref rw, .ref de, nV k] ∧ H s = some (.ins (He.ga K "Reach") dx []) ∧
  H rw = some (.lst (ds.map V.ref)) ∧ RowsD H ds w o ∧ H de = some (.lst (d.map onV)) ∧
  ∀ H' fr tk tr, SameX [s] H H' → (∀ b ∈ [fr, tk, tr], H b = Option.none) → RchAt K H' s rw de fr tk tr ds w o d k [(k, 0)] [] [] → Q .non H'
def spToT (K : PySem.W.Frag) : Sp := fun vs H Q _ => ∃ (s rw de fr tk tr : Addr) (ds : List Addr) (w : Wi) (o : Nat) (ok : w.Ok) (d : List (Option Nat)) (k : Nat) (u p : Nat → Int) (C B : Int) (lF lT : List (Nat × Int)) (lK : List (Nat × Nat)) (st : Nat → Nat) (r : Nat), vs = [.ref s] ∧
  RchAt K H s rw de fr tk tr ds w o d k lF lT lK ∧ RSt w o ok d k u p C B lF lT lK st r ∧
  ∀ H' lT' lK' st' more, SameX [fr, tk, tr] H H' → RchAt K H' s rw de fr tk tr ds w o d k lF lT' lK' →
    Mid (insW w o ok) (dD d) p C B (fun a => lF.lookup a) (fun t => lT.lookup t) (fun t => lK.lookup t) st r (fun t => lT'.lookup t) (fun t => lK'.lookup t) st' more →
    (lT'.map (·.1)).Nodup → lK'.map (·.1) = lT'.map (·.1) →
    (∀ a g t x, lF.lookup a = some g → wt w o a t = some x → dD d a ≠ some t → ∃ Y, lT'.lookup t = some Y ∧ g + x ≤ Y) → Q (.bl more) H'
/-- all these are reached so well -/
def CovP (d : List (Option Nat)) (lT : List (Nat × Int)) (Pr : Nat → Int → Nat → Int → Prop) : Prop := ∀ a g t x, Pr a g t x → dD d a ≠ some t → ∃ Y, lT.lookup t = some Y ∧ g + x ≤ Y
theorem CovP.put {d : List (Option Nat)} {lT : List (Nat × Int)} {Pr : Nat → Int → Nat → Int → Prop} {t : Nat} {v : Int} (h : CovP d lT Pr) (hv : ∀ Z, lT.lookup t = some Z → Z < v) : CovP d (put lT t v) Pr := fun a g t' x hp hd => by
  obtain ⟨Y, h1, h2⟩ := h a g t' x hp hd
  by_cases e : t' = t
  · subst e
    have := hv Y h1
    exact ⟨v, by rw [lookup_put, if_pos rfl], by omega⟩
  · exact ⟨Y, by rw [lookup_put, if_neg e]; exact h1, h2⟩
/-- within to_things -/
structure TT (H0 : Hp) (fr tk tr : Addr) (w : Wi) (o : Nat) (ok : w.Ok) (d : List (Option Nat)) (p : Nat → Int) (C B : Int) (lF lT0 : List (Nat × Int)) (lK0 : List (Nat × Nat)) (st0 : Nat → Nat) (r : Nat) (Pr : Nat → Int → Nat → Int → Prop) (more : Bool) (lT : List (Nat × Int)) (lK : List (Nat × Nat)) (H : Hp) : Prop where
  sx : SameX [fr, tk, tr] H0 H
  hF : H fr = some (.dK (enc V.int lF))
  hT : H tk = some (.dK (enc V.int lT))
  hK : H tr = some (.dK (enc nV lK))
  mid : ∃ st, Mid (insW w o ok) (dD d) p C B (fun a => lF.lookup a) (fun t => lT0.lookup t) (fun t => lK0.lookup t) st0 r (fun t => lT.lookup t) (fun t => lK.lookup t) st more
  nT : (lT.map (·.1)).Nodup
  eK : lK.map (·.1) = lT.map (·.1)
  cov : CovP d lT Pr
section
variable {P : Program} {w : World} {K : PySem.W.Frag} {mg : Str → Option Value} {base : Heap}
abbrev N_Reach_init : List Str := ["self", "rows", "dealt", "start"]
theorem sc_Reach_init : FnScope N_Reach_init ["self", "rows", "dealt", "start"] (defScope s_Reach_init) := ⟨rfl, rfl, rfl, by decide +kernel, rfl, by decide +kernel, by decide +kernel⟩
theorem ok_Reach_init {f : Addr} {fd : FuncData} (F : FnP K "__init__" "Reach.__init__" s_Reach_init f fd) (T : Txt K mg)  : FnOk P w K mg base CX0 1 f fd ["self", "rows", "dealt", "start"] (spRI K) := by
  refine F.ok sc_Reach_init (fun vs H Q E h => ?_) (fun cdv A outer s H vs Q E hr h => ?_)
  · obtain ⟨s, rw, de, dx, ds, w, o, d, k, rfl, _⟩ := h
    rfl
  · have hu := hu_of hr
    have nd := sc_Reach_init.nd
    refine ⟨_, PSs.nox (pss_cons (ps_fld (pv 0) (pv 1) rfl)
    (pss_cons (ps_fld (pv 0) (pv 2) rfl)
    (pss_cons (ps_fld (pv 0) (pv 3) rfl)
    (pss_cons (ps_fld (pv 0) (pe_disp (pps_cons (pv 3) pe_int pps_nil) (by rfl) (by rfl) (fun z => by cases z) (by decide)) rfl)
    (pss_cons (ps_fld (pv 0) pe_dnewK rfl)
    (pss_one (ps_fld (pv 0) pe_dnewK rfl))))))), ?_⟩
    obtain ⟨s, rw, de, dx, ds, w, o, d, k, rfl, hS, hR, hRs, hDe, q⟩ := h
    refine ⟨_, rfl, _, rfl, s, _, dx, _, rfl, hS, T.cl_Reach, T.n_Reach_rows, by show 0 < 1000; decide, ?_⟩
    have l1 := length_putF "rows" (V.ref rw) []
    generalize hf1 : putF "rows" (V.ref rw) [] = f1 at l1
    have x1 : SameX [s] H (upd H s (.ins (He.ga K "Reach") dx f1)) := (SameX.refl _ _).upd_in (by simp)
    have e1 := upd_same (H := H) (a := s) (o := .ins (He.ga K "Reach") dx f1)
    generalize upd H s (.ins (He.ga K "Reach") dx f1) = H1 at x1 e1
    refine ⟨_, rfl, _, rfl, s, _, dx, _, rfl, e1, T.cl_Reach, T.n_Reach_dealt, by simp at l1; omega, ?_⟩
    have l2 := length_putF "dealt" (V.ref de) f1
    generalize hf2 : putF "dealt" (V.ref de) f1 = f2 at l2
    have x2 : SameX [s] H (upd H1 s (.ins (He.ga K "Reach") dx f2)) := x1.upd_in (by simp)
    have e2 := upd_same (H := H1) (a := s) (o := .ins (He.ga K "Reach") dx f2)
    generalize upd H1 s (.ins (He.ga K "Reach") dx f2) = H2 at x2 e2
    refine ⟨_, rfl, _, rfl, s, _, dx, _, rfl, e2, T.cl_Reach, T.n_Reach_start, by simp at l1; omega, ?_⟩
    have l3 := length_putF "start" (nV k) f2
    generalize hf3 : putF "start" (nV k) f2 = f3 at l3
    have x3 : SameX [s] H (upd H2 s (.ins (He.ga K "Reach") dx f3)) := x2.upd_in (by simp)
    have e3 := upd_same (H := H2) (a := s) (o := .ins (He.ga K "Reach") dx f3)
    generalize upd H2 s (.ins (He.ga K "Reach") dx f3) = H3 at x3 e3
    -- freed
    intro fr hfr
    have nfr : s ≠ fr := ne_of_none e3 hfr
    refine ⟨_, rfl, upd_same, [(Sum.inl (k : Int), V.int 0)], rfl, by show 1 ≤ 15; decide, ?_⟩
    have y4 : Same H3 (upd (upd H3 fr (.dK [])) fr (.dK (enc V.int [(k, 0)]))) := same_mut (same_new hfr) hfr
    have a4 : upd (upd H3 fr (.dK [])) fr (.dK (enc V.int [(k, 0)])) fr = some (.dK (enc V.int [(k, 0)])) := upd_same
    have em : mergeK [] [((Sum.inl (k : Int) : Key), V.int 0)] = enc V.int [(k, 0)] := rfl
    rw [em]
    generalize upd (upd H3 fr (.dK [])) fr (.dK (enc V.int [(k, 0)])) = H4 at y4 a4
    refine ⟨_, rfl, s, _, dx, _, rfl, y4 _ _ e3, T.cl_Reach, T.n_Reach_freed, by simp at l1; omega, ?_⟩
    have l4 := length_putF "freed" (V.ref fr) f3
    generalize hf4 : putF "freed" (V.ref fr) f3 = f4 at l4
    have x5 : SameX [s] H (upd H4 s (.ins (He.ga K "Reach") dx f4)) := (x3.trans (SameX.of y4)).upd_in (by simp)
    have e5 := upd_same (H := H4) (a := s) (o := .ins (He.ga K "Reach") dx f4)
    have a5 : upd H4 s (.ins (He.ga K "Reach") dx f4) fr = some (.dK (enc V.int [(k, 0)])) := by rw [upd_ne nfr.symm]; exact a4
    have m5 : ∀ b, H4 b = Option.none → b ≠ s → H b = Option.none := fun b hb hn => by
      cases e : H b with
      | none => rfl
      | some v =>
        have := (x3.trans (SameX.of y4)) b v (by simp [hn]) e
        rw [hb] at this
        cases this
    generalize upd H4 s (.ins (He.ga K "Reach") dx f4) = H5 at x5 e5 a5
    -- taken
    intro tk htk
    have ntk : s ≠ tk := ne_of_none e5 htk
    have nft : fr ≠ tk := ne_of_none a5 htk
    have y6 : Same H5 (upd H5 tk (.dK [])) := same_new htk
    have b6 : upd H5 tk (.dK []) tk = some (.dK []) := upd_same
    have x6 : SameX [s] H (upd H5 tk (.dK [])) := x5.trans (SameX.of y6)
    have e6 := y6 _ _ e5
    have a6 := y6 _ _ a5
    generalize upd H5 tk (.dK []) = H6 at y6 b6 x6 e6 a6
    refine ⟨_, rfl, s, _, dx, _, rfl, e6, T.cl_Reach, T.n_Reach_taken, by simp at l1; omega, ?_⟩
    have l5 := length_putF "taken" (V.ref tk) f4
    generalize hf5 : putF "taken" (V.ref tk) f4 = f5 at l5
    have x7 : SameX [s] H (upd H6 s (.ins (He.ga K "Reach") dx f5)) := x6.upd_in (by simp)
    have e7 := upd_same (H := H6) (a := s) (o := .ins (He.ga K "Reach") dx f5)
    have a7 : upd H6 s (.ins (He.ga K "Reach") dx f5) fr = some (.dK (enc V.int [(k, 0)])) := by rw [upd_ne nfr.symm]; exact a6
    have b7 : upd H6 s (.ins (He.ga K "Reach") dx f5) tk = some (.dK []) := by rw [upd_ne ntk.symm]; exact b6
    generalize upd H6 s (.ins (He.ga K "Reach") dx f5) = H7 at x7 e7 a7 b7
    -- takers
    intro tr htr
    have ntr : s ≠ tr := ne_of_none e7 htr
    have nfr2 : fr ≠ tr := ne_of_none a7 htr
    have nkr : tk ≠ tr := ne_of_none b7 htr
    have y8 : Same H7 (upd H7 tr (.dK [])) := same_new htr
    have c8 : upd H7 tr (.dK []) tr = some (.dK []) := upd_same
    have x8 : SameX [s] H (upd H7 tr (.dK [])) := x7.trans (SameX.of y8)
    have e8 := y8 _ _ e7
    have a8 := y8 _ _ a7
    have b8 := y8 _ _ b7
    generalize upd H7 tr (.dK []) = H8 at y8 c8 x8 e8 a8 b8
    refine ⟨_, rfl, s, _, dx, _, rfl, e8, T.cl_Reach, T.n_Reach_takers, by simp at l1; omega, ?_⟩
    have x9 : SameX [s] H (upd H8 s (.ins (He.ga K "Reach") dx (putF "takers" (V.ref tr) f5))) := x8.upd_in (by simp)
    have ns : ∀ {b : Addr} {u : HO}, H b = some u → (∀ C dx fs, u ≠ .ins C dx fs) → b ∉ [s] := fun {b u} e hu => by
      rw [List.mem_singleton]
      exact ne_of e hS (hu _ _ _)
    refine q _ fr tk tr x9 (fun b hb => ?_) ⟨⟨dx, _, upd_same, ⟨?_, ?_, ?_, ?_, ?_, ?_⟩, ?_, ?_, ?_, ?_, ?_⟩, x9 _ _ (ns hR (fun _ _ _ z => by cases z)) hR, ⟨hRs.1, fun i b e => x9 _ _ (ns (hRs.2 i b e) (fun _ _ _ z => by cases z)) (hRs.2 i b e)⟩, x9 _ _ (ns hDe (fun _ _ _ z => by cases z)) hDe, by rw [upd_ne nfr.symm]; exact a8, by rw [upd_ne ntk.symm]; exact b8, by rw [upd_ne ntr.symm]; exact c8, ⟨nft.symm, nfr2.symm, nkr.symm⟩, fun b hb => ?_⟩
    · simp only [List.mem_cons, List.not_mem_nil, or_false] at hb
      rcases hb with rfl | rfl | rfl
      · exact x3.free hfr (by simp [nfr.symm])
      · exact x5.free htk (by simp [ntk.symm])
      · exact x7.free htr (by simp [ntr.symm])
    any_goals rw [← hf5, ← hf4, ← hf3, ← hf2, ← hf1]
    any_goals repeat (first | rw [lookup_putF, if_pos rfl] | rw [lookup_putF, if_neg (by decide +kernel)])
    any_goals rfl
    obtain ⟨i, hi, eb⟩ := List.mem_iff_getElem.mp hb
    have hb1 := hRs.2 i b (by rw [← eb]; exact List.getElem?_eq_getElem hi)
    have nbs := ns hb1 (fun _ _ _ z => by cases z)
    refine ⟨ne_of_none (x3 _ _ nbs hb1) hfr, ne_of_none (x5 _ _ nbs hb1) htk, ne_of_none (x7 _ _ nbs hb1) htr⟩
abbrev N_Reach_to_things : List Str := ["self", "more", "asker", "gain", "thing", "worth"]
theorem sc_Reach_to_things : FnScope N_Reach_to_things ["self"] (defScope s_Reach_to_things) := ⟨rfl, rfl, rfl, by decide +kernel, rfl, by decide +kernel, by decide +kernel⟩
theorem ok_Reach_to_things {f : Addr} {fd : FuncData} (F : FnP K "to_things" "Reach.to_things" s_Reach_to_things f fd) (T : Txt K mg)  : FnOk P w K mg base CX0 1 f fd ["self"] (spToT K) := by
  refine F.ok sc_Reach_to_things (fun vs H Q E h => ?_) (fun cdv A outer s H vs Q E hr h => ?_)
  · obtain ⟨s, rw, de, fr, tk, tr, ds, w, o, ok, d, k, u, p, C, B, lF, lT, lK, st, r, rfl, _⟩ := h
    rfl
  · have hu := hu_of hr
    have nd := sc_Reach_to_things.nd
    refine ⟨_, PSs.nox (pss_cons (ps_set (i := 1) nd rfl (Or.inl rfl) pe_bl)
    (pss_cons (ps_for PassesOwn.never rfl (pi_list (LiI.pe_listItems rfl (pe_fld (pv 0) rfl) (by rfl) T.list (by decide +kernel))) (pg_tup rfl (pgs_cons (pg_name (i := 2) nd rfl (Or.inl rfl)) (pgs_cons (pg_name (i := 3) nd rfl (Or.inl rfl)) pgs_nil)))
      (pss_one (ps_lock (ps_for PassesOwn.never rfl (pi_items (pe_ix ix_list (pe_fld (pv 0) rfl) (pv 2) (fun _ _ => rfl))) (pg_tup rfl (pgs_cons (pg_name (i := 4) nd rfl (Or.inl rfl)) (pgs_cons (pg_name (i := 5) nd rfl (Or.inl rfl)) pgs_nil)))
        (pss_cons (ps_if (pt_cmpR op_eq (pv 4) (pe_ix ix_list (pe_fld (pv 0) rfl) (pv 2) (fun _ _ => rfl)) (nomark _))
          (pss_one ps_continue)
          pss_nil)
        (pss_one (ps_if (PW.pt (pw_or (pt_cmp (pc_dnotin hu (pv 4) (pe_fld (pv 0) rfl))) (pw_or1 (pt_cmpR op_gt (pe_op op_add (pv 3) (pv 5)) (pe_dget hu (pe_fld (pv 0) rfl) (pv 4) (fun _ _ => rfl)) (nomark _)))))
          (pss_cons (ps_dput hu (pe_fld (pv 0) rfl) (pv 4) (pe_op op_add (pv 3) (pv 5)) rfl)
          (pss_cons (ps_dput hu (pe_fld (pv 0) rfl) (pv 4) (pv 2) rfl)
          (pss_one (ps_set (i := 1) nd rfl (Or.inl rfl) pe_bl))))
          pss_nil)))))))
    (pss_one (ps_ret (pv 1))))), ?_⟩
    obtain ⟨s, rw, de, fr, tk, tr, ds, w, o, ok, d, k, u, p, C, B, lF, lT, lK, st, r, rfl, hR, hS, q⟩ := h
    obtain ⟨dx, fs, hI, ⟨g1, g2, g3, g4, g5, g6⟩, n1, n2, n3, n4, n5⟩ := hR.ins
    have n6 := ok.c6
    refine ⟨_, rfl, s, _, dx, _, _, rfl, hI, T.cl_Reach, T.n_Reach_freed, g4, fr, _, rfl, hR.hF, fun H1 pl ts sm hpl hts hpt hP hPair => ?_⟩
    have hR1 := hR.mono sm
    have keep : ∀ {b : Addr} {u : HO}, H1 b = some u → (∀ xs, u ≠ .dK xs) → b ∉ [fr, tk, tr] := fun {b u} e hu => by
      simp only [List.mem_cons, List.not_mem_nil, or_false, not_or]
      exact ⟨ne_of e hR1.hF (hu _), ne_of e hR1.hT (hu _), ne_of e hR1.hK (hu _)⟩
    have hI1 := sm _ _ hI
    refine ⟨pl, rfl, ⟨_, SqL.of hP⟩, for_list (xs := ts.map V.ref) (fun j σ H' => ∃ v2 v3 v4 v5 more lT' lK', σ = [some (.ref s), some (.bl more), v2, v3, v4, v5] ∧
      TT H1 fr tk tr w o ok d p C B lF lT lK st r (fun a g t x => ∃ j', j' < j ∧ lF[j']? = some (a, g) ∧ wt w o a t = some x) more lT' lK' H')
      ⟨_, _, _, _, false, lT, lK, rfl, ?_⟩ (fun i σ H' _ ⟨_, _, _, _, _, _, _, _, tt⟩ => SqL.of (tt.sx _ _ (keep hP (fun xs z => by cases z)) hP)) ?_ ?_⟩
    · exact ⟨SameX.refl _ _, hR1.hF, hR1.hT, hR1.hK, ⟨st, mid_start hS.la⟩, hS.nT, hS.eK, fun a g t x ⟨j', h, _⟩ => absurd h (Nat.not_lt_zero _)⟩
    · rintro j y σ H2 hy ⟨v2, v3, v4, v5, more, lT', lK', rfl, tt⟩
      obtain ⟨ta, hta, rfl⟩ := get_map hy
      obtain ⟨⟨ka, va⟩, hka, htup⟩ := LiI.paired_get hPair hta
      have hj : j < lF.length := by
        have := lt_of_get hka
        rw [enc_len] at this
        exact this
      have hlf := List.getElem?_eq_getElem hj
      generalize lF[j] = ag at hlf
      obtain ⟨a, g⟩ := ag
      have e3 := map_get (fun p : Nat × Int => ((Sum.inl (p.1 : Int) : Key), V.int p.2)) hlf
      have e4 : (enc V.int lF)[j]? = some (Sum.inl (a : Int), V.int g) := e3
      rw [hka] at e4
      cases e4
      have hFa : lF.lookup a = some g := key_some hS.nF (List.mem_of_getElem? hlf)
      have hak : a ≤ k := by
        rcases hS.la.fr a g hFa with e | ⟨e, _⟩ <;> omega
      have km := hS.km
      have ha : a < ds.length := by rw [hR1.hRows.1]; omega
      have hda := List.getElem?_eq_getElem ha
      have hrow0 := hR1.hRows.2 a _ hda
      have hdn := hR1.nd _ (List.getElem_mem ha)
      generalize ds[a] = dd at hda hrow0 hdn
      have hdd : dd ∉ [fr, tk, tr] := by
        simp only [List.mem_cons, List.not_mem_nil, or_false, not_or]
        exact hdn
      have hrow := tt.sx _ _ hdd hrow0
      refine ⟨ta, _, rfl, SqT.of (tt.sx _ _ (keep htup (fun xs z => by cases z)) htup), rfl, _, _, rfl, _, _, rfl, rfl, ?_⟩
      refine ⟨dd, .dK (enc V.int (rowsN w o a)), hrow, trivial, fun od => ?_⟩
      have nsd : ∀ {b : Addr} {u : HO}, H1 b = some u → (∀ xs, u ≠ .dK xs) → b ≠ dd := fun {b u} e hu => ne_of e hrow0 (hu _)
      have nfd : fr ≠ dd := fun z => hdn.1 z.symm
      have ntd : tk ≠ dd := fun z => hdn.2.1 z.symm
      have nrd : tr ≠ dd := fun z => hdn.2.2 z.symm
      have st2 : ∀ {b : Addr} {u : HO}, H1 b = some u → (∀ xs, u ≠ .dK xs) → upd H2 dd (.frz od (.dK (enc V.int (rowsN w o a)))) b = some u := fun {b u} e hu => by
        rw [upd_ne (nsd e hu)]
        exact tt.sx _ _ (keep e hu) e
      refine ⟨_, rfl, s, _, dx, _, _, rfl, st2 hI1 (fun xs z => by cases z), T.cl_Reach, T.n_Reach_rows, g1, _, rfl, rw, _, (a : Int), _, rfl, rfl, SqL.of (st2 hR1.hRw (fun xs z => by cases z)), at_nat V.ref hda, dd, od, _, rfl, upd_same, ?_⟩
      refine for_items (fun i σ H' => ∃ v4 v5 more lT' lK', σ = [some (.ref s), some (.bl more), some (nV a), some (.int g), v4, v5] ∧
        H' dd = some (.frz od (.dK (enc V.int (rowsN w o a)))) ∧
        TT (upd H2 dd (.frz od (.dK (enc V.int (rowsN w o a))))) fr tk tr w o ok d p C B lF lT lK st r (fun a' g' t x => (∃ j', j' < j ∧ lF[j']? = some (a', g') ∧ wt w o a' t = some x) ∨ a' = a ∧ g' = g ∧ ∃ i', i' < i ∧ (rowsN w o a)[i']? = some (t, x)) more lT' lK' H')
        ⟨_, _, more, lT', lK', rfl, upd_same, SameX.refl _ _, by rw [upd_ne nfd]; exact tt.hF, by rw [upd_ne ntd]; exact tt.hT, by rw [upd_ne nrd]; exact tt.hK, tt.mid, tt.nT, tt.eK, ?_⟩ (fun i σ H' _ ⟨_, _, _, _, _, _, h, _⟩ => h) ?_ ?_
      · rintro a' g' t x (h | ⟨_, _, i', h, _⟩)
        · exact tt.cov a' g' t x h
        · exact absurd h (Nat.not_lt_zero _)
      · rintro i t x Ti σ H3 hix ⟨v4, v5, more, lT', lK', rfl, hfz, tu⟩ hTi
        have hw : wt w o a t = some x := (rowsN_mem ok).mp (List.mem_of_getElem? hix)
        have ht : t < w.c.length := (rk_lt ok (wt_some hw).1).2
        have s4 : Same H3 (upd H3 Ti (.tup [nV t, .int x])) := same_new hTi
        have stI : ∀ {b : Addr} {u : HO}, H1 b = some u → (∀ xs, u ≠ .dK xs) → (upd H3 Ti (.tup [nV t, .int x])) b = some u := fun {b u} e hu => s4 _ _ (tu.sx _ _ (keep e hu) (st2 e hu))
        have hI4 := stI hI1 (fun xs z => by cases z)
        have hDe4 := stI hR1.hDe (fun xs z => by cases z)
        have hT4 := s4 _ _ tu.hT
        have hK4 := s4 _ _ tu.hK
        have hF4 := s4 _ _ tu.hF
        have hfz4 := s4 _ _ hfz
        have sx4 := tu.sx.trans (SameX.of s4)
        have hTi4 : upd H3 Ti (.tup [nV t, .int x]) Ti = some (.tup [nV t, .int x]) := upd_same
        refine ⟨Ti, _, rfl, SqT.of hTi4, rfl, _, _, rfl, _, _, rfl, rfl, ?_⟩
        generalize upd H3 Ti (.tup [nV t, .int x]) = H4 at s4 stI hI4 hDe4 hT4 hK4 hF4 hfz4 sx4
        have tv : ∀ {Pr' : Nat → Int → Nat → Int → Prop}, CovP d lT' Pr' → TT (upd H2 dd (.frz od (.dK (enc V.int (rowsN w o a))))) fr tk tr w o ok d p C B lF lT lK st r Pr' more lT' lK' H4 := fun cv => ⟨sx4, hF4, hT4, hK4, tu.mid, tu.nT, tu.eK, cv⟩
        have hga := get_dD (d := d) (a := a) (by rw [hS.dl]; omega)
        refine ⟨_, rfl, _, rfl, s, _, dx, _, _, rfl, hI4, T.cl_Reach, T.n_Reach_dealt, g2, _, rfl, de, _, (a : Int), _, rfl, rfl, SqL.of hDe4, at_nat onV hga, scal_on _ _, _, rfl, ?_⟩
        rw [dec_nVonV]
        have nxt : ∀ {lT2 : List (Nat × Int)}, CovP d lT2 (fun a' g' t x => (∃ j', j' < j ∧ lF[j']? = some (a', g') ∧ wt w o a' t = some x) ∨ a' = a ∧ g' = g ∧ ∃ i', i' < i ∧ (rowsN w o a)[i']? = some (t, x)) →
            (dD d a ≠ some t → ∃ Y, lT2.lookup t = some Y ∧ g + x ≤ Y) →
            CovP d lT2 (fun a' g' t x => (∃ j', j' < j ∧ lF[j']? = some (a', g') ∧ wt w o a' t = some x) ∨ a' = a ∧ g' = g ∧ ∃ i', i' < i + 1 ∧ (rowsN w o a)[i']? = some (t, x)) := fun {lT2} h1 h2 a' g' t' x' hp hd => by
          rcases hp with hp | ⟨rfl, rfl, i', h3, h4⟩
          · exact h1 a' g' t' x' (.inl hp) hd
          · by_cases q : i' = i
            · subst q
              rw [hix] at h4
              cases h4
              exact h2 hd
            · exact h1 a' g' t' x' (.inr ⟨rfl, rfl, i', by omega, h4⟩) hd
        refine if2 (fun h => ?_) fun h => ?_
        · have hdt := of_decide_eq_true h
          exact ⟨_, _, more, lT', lK', rfl, hfz4, tv (nxt tu.cov fun z => absurd hdt z)⟩
        have hdt := of_decide_eq_false h
        unfold tNext
        dsimp only
        unfold tIfS
        refine or_split (betr (lT'.lookup t) (g + x)) (fun Q' k' => ?_) ?_
        · cases e : lT'.lookup t with
          | none =>
            rw [e] at k'
            refine ⟨_, rfl, _, rfl, s, _, dx, _, _, rfl, hI4, T.cl_Reach, T.n_Reach_taken, g5, tk, _, rfl, dget t (.inl hT4), _, rfl, ?_⟩
            rw [e]
            exact ifT rfl k'
          | some Z =>
            rw [e] at k'
            refine ⟨_, rfl, _, rfl, s, _, dx, _, _, rfl, hI4, T.cl_Reach, T.n_Reach_taken, g5, tk, _, rfl, dget t (.inl hT4), _, rfl, ?_⟩
            rw [e]
            refine ifF rfl ?_
            exact ⟨_, rfl, _, rfl, _, _, rfl, rfl, _, rfl, s, _, dx, _, _, rfl, hI4, T.cl_Reach, T.n_Reach_taken, g5, _, rfl, tk, _, rfl, dget_some (.inl hT4) e, _, _, rfl, rfl, _, rfl, k'⟩
        refine if2 (fun h => ?_) fun h => ?_
        · have hc := betr_t h
          obtain ⟨st', hm⟩ := tu.mid
          have hm2 := mid_step hS.du hS.bd hS.la hm hFa hw hdt hc
          have lT1 : lT'.length ≤ w.c.length := keys_len tu.nT fun t' X h' => by
            rcases hm.each t' X h' with ⟨q1, _⟩ | ⟨_, _, b', g', x', _, _, q1, _⟩
            · obtain ⟨b', g', x', _, _, q2, _⟩ := hS.la.tk t' X q1
              exact (insW w o ok).wn b' t' x' q2
            · exact (insW w o ok).wn b' t' x' q1
          have lK1 : lK'.length = lT'.length := by
            have := congrArg List.length tu.eK
            rw [List.length_map, List.length_map] at this
            exact this
          have hI5 : upd H4 tk (.dK (enc V.int (put lT' t (g + x)))) s = some (.ins (He.ga K "Reach") dx fs) := by
            rw [upd_ne (ne_of hI4 hT4 (by intro z; cases z))]
            exact hI4
          have hK5 : upd H4 tk (.dK (enc V.int (put lT' t (g + x)))) tr = some (.dK (enc nV lK')) := by
            rw [upd_ne hR.ne.2.2]
            exact hK4
          refine ⟨_, rfl, _, rfl, _, _, rfl, rfl, _, rfl, s, _, dx, _, _, rfl, hI4, T.cl_Reach, T.n_Reach_taken, g5, _, rfl, tk, _, rfl, dput t (g + x) hT4 (by omega), ?_⟩
          refine ⟨_, rfl, _, rfl, s, _, dx, _, _, rfl, hI5, T.cl_Reach, T.n_Reach_takers, g6, _, rfl, tr, _, rfl, dput t a hK5 (by omega), ?_⟩
          refine ⟨_, _, true, put lT' t (g + x), put lK' t a, rfl, ?_, (sx4.upd_in (by simp)).upd_in (by simp), ?_, ?_, upd_same, ⟨fun i => if i = t then r else st' i, ?_⟩, put_nodup tu.nT, put_keys t _ _ tu.eK, nxt (tu.cov.put hc) fun _ => ⟨g + x, by rw [lookup_put, if_pos rfl], Int.le_refl _⟩⟩
          · rw [upd_ne nrd.symm, upd_ne ntd.symm]
            exact hfz4
          · rw [upd_ne hR.ne.2.1.symm, upd_ne hR.ne.1.symm]
            exact hF4
          · rw [upd_ne hR.ne.2.2.symm, upd_same]
          · rw [lookup_setO, lookup_setO]
            exact hm2
        · have hc := betr_f h
          refine ⟨_, _, more, lT', lK', rfl, hfz4, tv (nxt tu.cov fun z => ?_)⟩
          exact hc
      · rintro σ H3 ⟨v4, v5, more, lT', lK', rfl, hfz, tu⟩
        refine ⟨hfz, _, _, _, _, more, lT', lK', rfl, tt.sx.trans (SameX.lock hrow tu.sx), by rw [upd_ne nfd]; exact tu.hF, by rw [upd_ne ntd]; exact tu.hT, by rw [upd_ne nrd]; exact tu.hK, tu.mid, tu.nT, tu.eK, fun a' g' t x ⟨j', h1, h2, h3⟩ => ?_⟩
        refine tu.cov a' g' t x ?_
        by_cases q : j' = j
        · subst q
          rw [hlf] at h2
          cases h2
          obtain ⟨i', hi', e⟩ := List.mem_iff_getElem.mp ((rowsN_mem ok).mpr h3)
          exact .inr ⟨rfl, rfl, i', hi', by rw [← e]; exact List.getElem?_eq_getElem hi'⟩
        · exact .inl ⟨j', by omega, h2, h3⟩
    · rintro σ H2 ⟨v2, v3, v4, v5, more, lT', lK', rfl, tt⟩
      obtain ⟨st', hm⟩ := tt.mid
      refine ⟨_, rfl, q H2 lT' lK' st' more ((SameX.of sm).trans tt.sx) (hR1.go tt.sx tt.hF tt.hT tt.hK) hm tt.nT tt.eK fun a g t x h1 h2 => tt.cov a g t x ?_⟩
      obtain ⟨j', hj', e⟩ := List.mem_iff_getElem.mp (lookup_mem h1)
      refine ⟨j', ?_, by rw [← e]; exact List.getElem?_eq_getElem hj', h2⟩
      have := hPair.length
      rw [enc_len] at this
      rw [List.length_map, this]
      exact hj'
end
end Wd
namespace Wd
open PySem PySem.Spec PyProof.Rows L2
/-- the gain to an asker, as its thing is reached -/
def newF (w : Wi) (o : Nat) (d : List (Option Nat)) (lF lT : List (Nat × Int)) (a : Nat) : Option Int := match dD d a with
  | some h => (match lT.lookup h with
    | some X => some (X - (wt w o a h).getD 0)
    | Option.none => lF.lookup a)
  | Option.none => lF.lookup a
def spToA (K : PySem.W.Frag) : Sp := fun vs H Q _ => ∃ (s rw de fr tk tr : Addr) (ds : List Addr) (w : Wi) (o : Nat) (d : List (Option Nat)) (k : Nat) (lF lT : List (Nat × Int)) (lK : List (Nat × Nat)), vs = [.ref s] ∧ w.Ok ∧
  RchAt K H s rw de fr tk tr ds w o d k lF lT lK ∧ d.length = w.l.length ∧ (lF.map (·.1)).Nodup ∧ (∀ a g, lF.lookup a = some g → a < w.l.length) ∧ (∀ a t, dD d a = some t → ∃ x, wt w o a t = some x) ∧
  ∀ H' lF', SameX [fr, tk, tr] H H' → RchAt K H' s rw de fr tk tr ds w o d k lF' lT lK → (lF'.map (·.1)).Nodup → (∀ a, lF'.lookup a = newF w o d lF lT a) → Q .non H'
def spGo (K : PySem.W.Frag) : Sp := fun vs H Q _ => ∃ (s rw de fr tk tr : Addr) (ds : List Addr) (w : Wi) (o : Nat) (ok : w.Ok) (d : List (Option Nat)) (k : Nat) (u p : Nat → Int) (C B : Int) (lF lT : List (Nat × Int)) (lK : List (Nat × Nat)) (st : Nat → Nat) (r : Nat), vs = [.ref s] ∧
  RchAt K H s rw de fr tk tr ds w o d k lF lT lK ∧ RSt w o ok d k u p C B lF lT lK st r ∧
  ∀ H' lF' lT' lK' rho, SameX [fr, tk, tr] H H' → RchAt K H' s rw de fr tk tr ds w o d k lF' lT' lK' → (lF'.map (·.1)).Nodup → (lT'.map (·.1)).Nodup → lK'.map (·.1) = lT'.map (·.1) →
    Fin (insW w o ok) k (dD d) p (fun a => lF'.lookup a) (fun t => lT'.lookup t) (fun t => lK'.lookup t) rho → Q .non H'
section
variable {P : Program} {w : World} {K : PySem.W.Frag} {mg : Str → Option Value} {base : Heap}
abbrev N_Reach_to_askers : List Str := ["self", "asker", "thing"]
theorem sc_Reach_to_askers : FnScope N_Reach_to_askers ["self"] (defScope s_Reach_to_askers) := ⟨rfl, rfl, rfl, by decide +kernel, rfl, by decide +kernel, by decide +kernel⟩
theorem ok_Reach_to_askers {f : Addr} {fd : FuncData} (F : FnP K "to_askers" "Reach.to_askers" s_Reach_to_askers f fd) (T : Txt K mg)  : FnOk P w K mg base CX0 1 f fd ["self"] (spToA K) := by
  refine F.ok sc_Reach_to_askers (fun vs H Q E h => ?_) (fun cdv A outer s H vs Q E hr h => ?_)
  · obtain ⟨s, rw, de, fr, tk, tr, ds, w, o, d, k, lF, lT, lK, rfl, _⟩ := h
    rfl
  · have hu := hu_of hr
    have nd := sc_Reach_to_askers.nd
    refine ⟨_, PSs.nox (pss_one (ps_for PassesOwn.never rfl (pi_enum (by rfl) T.enumerate (pa_cons (pe_fld (pv 0) rfl) pa_nil)) (pg_tup rfl (pgs_cons (pg_name (i := 1) nd rfl (Or.inl rfl)) (pgs_cons (pg_name (i := 2) nd rfl (Or.inl rfl)) pgs_nil)))
      (pss_one (ps_if (pt_cmp (pc_dinN hu (pv 2) (pe_fld (pv 0) rfl)))
        (pss_one (ps_dput hu (pe_fld (pv 0) rfl) (pv 1) (pe_op op_sub (pe_dget hu (pe_fld (pv 0) rfl) (pv 2) (fun _ _ => rfl)) (pe_dget hu (pe_ix ix_list (pe_fld (pv 0) rfl) (pv 1) (fun _ _ => rfl)) (pv 2) (fun _ _ => rfl))) rfl))
        pss_nil)))), ?_⟩
    obtain ⟨s, rw, de, fr, tk, tr, ds, w, o, d, k, lF, lT, lK, rfl, ok, hR, hdl, hnF, hbF, hwi, q⟩ := h
    obtain ⟨dx, fs, hI, ⟨g1, g2, g3, g4, g5, g6⟩, n1, n2, n3, n4, n5⟩ := hR.ins
    have m7 := ok.l7
    have keep : ∀ {b : Addr} {u : HO}, H b = some u → (∀ xs, u ≠ .dK xs) → b ∉ [fr, tk, tr] := fun {b u} e hu => by
      simp only [List.mem_cons, List.not_mem_nil, or_false, not_or]
      exact ⟨ne_of e hR.hF (hu _), ne_of e hR.hT (hu _), ne_of e hR.hK (hu _)⟩
    refine ⟨_, rfl, s, _, dx, _, _, rfl, hI, T.cl_Reach, T.n_Reach_dealt, g2, de, _, rfl, SqL.of hR.hDe, for_enum (fun j σ H' => ∃ v1 v2 lF', σ = [some (.ref s), v1, v2] ∧ SameX [fr, tk, tr] H H' ∧ H' tk = some (.dK (enc V.int lT)) ∧ H' tr = some (.dK (enc nV lK)) ∧ H' fr = some (.dK (enc V.int lF')) ∧ (lF'.map (·.1)).Nodup ∧ ∀ a, lF'.lookup a = if a < j then newF w o d lF lT a else lF.lookup a)
      ⟨_, _, lF, rfl, SameX.refl _ _, hR.hT, hR.hK, hR.hF, hnF, fun a => by rw [if_neg (Nat.not_lt_zero a)]⟩ (fun i σ H' _ ⟨_, _, _, _, s, _⟩ => SqL.of (s _ _ (keep hR.hDe (fun xs z => by cases z)) hR.hDe)) ?_ ?_⟩
    · rintro j y Ti σ H' hy ⟨v1, v2, lF', rfl, sx, hT, hK, hF, hnF', hval⟩ hTi
      obtain ⟨x, hx, rfl⟩ := get_map hy
      have hdx := dD_get hx
      have hj : j < w.l.length := by rw [← hdl]; exact lt_of_get hx
      have s4 : Same H' (upd H' Ti (.tup [.int (j : Int), onV x])) := same_new hTi
      have sx4 := sx.trans (SameX.of s4)
      have hT4 := s4 _ _ hT
      have hK4 := s4 _ _ hK
      have hF4 := s4 _ _ hF
      have hI4 := sx4 _ _ (keep hI (fun xs z => by cases z)) hI
      have hRw4 := sx4 _ _ (keep hR.hRw (fun xs z => by cases z)) hR.hRw
      refine pair_to ?_
      generalize upd H' Ti (.tup [.int (j : Int), onV x]) = H4 at s4 sx4 hT4 hK4 hF4 hI4 hRw4
      have stay : newF w o d lF lT j = lF.lookup j → ∀ a, lF'.lookup a = if a < j + 1 then newF w o d lF lT a else lF.lookup a := fun e a => by
        rw [hval a]
        by_cases q : a < j
        · rw [if_pos q, if_pos (by omega)]
        · rw [if_neg q]
          by_cases q2 : a = j
          · subst q2
            rw [if_pos (by omega), e]
          · rw [if_neg (by omega)]
      cases x with
      | none =>
        refine ⟨_, rfl, _, rfl, s, _, dx, _, _, rfl, hI4, T.cl_Reach, T.n_Reach_taken, g5, .inr ⟨tk, _, rfl, rfl, .inl hT4, _, rfl, ifF rfl ⟨_, _, lF', rfl, sx4, hT4, hK4, hF4, hnF', stay ?_⟩⟩⟩
        unfold newF
        rw [hdx]
      | some t =>
        refine ⟨_, rfl, _, rfl, s, _, dx, _, _, rfl, hI4, T.cl_Reach, T.n_Reach_taken, g5, .inl ⟨tk, _, rfl, dget t (.inl hT4), _, rfl, ?_⟩⟩
        cases e : lT.lookup t with
        | none =>
          refine ifF rfl ⟨_, _, lF', rfl, sx4, hT4, hK4, hF4, hnF', stay ?_⟩
          unfold newF
          rw [hdx]
          show (match lT.lookup t with
            | some X => some (X - (wt w o j t).getD 0)
            | Option.none => lF.lookup j) = lF.lookup j
          rw [e]
        | some X =>
          obtain ⟨xw, hxw⟩ := hwi j t hdx
          have hjd : j < ds.length := by rw [hR.hRows.1]; exact hj
          have hdj := List.getElem?_eq_getElem hjd
          have hrow0 := hR.hRows.2 j _ hdj
          have hdn := hR.nd _ (List.getElem_mem hjd)
          generalize ds[j] = dd at hdj hrow0 hdn
          have hrow := sx4 _ _ (by simp only [List.mem_cons, List.not_mem_nil, or_false, not_or]; exact hdn) hrow0
          refine ifT rfl ⟨_, rfl, s, _, dx, _, _, rfl, hI4, T.cl_Reach, T.n_Reach_taken, g5, _, rfl, tk, _, rfl, dget_some (.inl hT4) e, _, rfl, s, _, dx, _, _, rfl, hI4, T.cl_Reach, T.n_Reach_rows, g1, _, rfl, rw, _, (j : Int), _, rfl, rfl, SqL.of hRw4, at_nat V.ref hdj, _, rfl, dd, _, rfl, dget_some (.inl hrow) ((rowsN_lookup ok o j t).trans hxw), _, _, rfl, rfl, _, rfl, s, _, dx, _, _, rfl, hI4, T.cl_Reach, T.n_Reach_freed, g4, _, rfl, fr, _, rfl, dput j (X - xw) hF4 ?_, ?_⟩
          · have := keys_len (n := w.l.length) hnF' fun a g ha => by
              rw [hval a] at ha
              by_cases q : a < j
              · omega
              · rw [if_neg q] at ha
                exact hbF a g ha
            omega
          · refine ⟨_, _, put lF' j (X - xw), rfl, sx4.upd_in (by simp), ?_, ?_, upd_same, put_nodup hnF', fun a => ?_⟩
            · rw [upd_ne hR.ne.1]
              exact hT4
            · rw [upd_ne hR.ne.2.1]
              exact hK4
            · rw [lookup_put]
              by_cases q : a = j
              · subst q
                rw [if_pos rfl, if_pos (by omega)]
                unfold newF
                rw [hdx]
                show _ = match lT.lookup t with
                  | some X => some (X - (wt w o a t).getD 0)
                  | Option.none => lF.lookup a
                rw [e, hxw]
                rfl
              · rw [if_neg q, hval a]
                by_cases q2 : a < j
                · rw [if_pos q2, if_pos (by omega)]
                · rw [if_neg q2, if_neg (by omega)]
    · rintro σ H' ⟨v1, v2, lF', rfl, sx, hT, hK, hF, hnF', hval⟩
      refine q H' lF' sx (hR.go sx hF hT hK) hnF' fun a => ?_
      rw [hval a, List.length_map, hdl]
      by_cases q2 : a < w.l.length
      · rw [if_pos q2]
      · rw [if_neg q2]
        unfold newF
        have : dD d a = Option.none := by
          cases e : dD d a with
          | none => rfl
          | some t => exact absurd (by have := dD_lt e; omega) q2
        rw [this]
abbrev N_Reach_go_on : List Str := ["self"]
theorem sc_Reach_go_on : FnScope N_Reach_go_on ["self"] (defScope s_Reach_go_on) := ⟨rfl, rfl, rfl, by decide +kernel, rfl, by decide +kernel, by decide +kernel⟩
theorem ok_Reach_go_on {f : Addr} {fd : FuncData} (F : FnP K "go_on" "Reach.go_on" s_Reach_go_on f fd) (T : Txt K mg) (c_Reach_to_askers : CalM P w K mg base (He.ga K "Reach") "to_askers" 1 ["self"] (spToA K)) (c_Reach_to_things : CalM P w K mg base (He.ga K "Reach") "to_things" 1 ["self"] (spToT K)) : FnOk P w K mg base CX0 2 f fd ["self"] (spGo K) := by
  refine F.ok sc_Reach_go_on (fun vs H Q E h => ?_) (fun cdv A outer s H vs Q E hr h => ?_)
  · obtain ⟨s, rw, de, fr, tk, tr, ds, w, o, ok, d, k, u, p, C, B, lF, lT, lK, st, r, rfl, _⟩ := h
    rfl
  · have hu := hu_of hr
    have nd := sc_Reach_go_on.nd
    refine ⟨_, PSs.nox (pss_one (ps_while PassesOwn.never (pt_val (pe_meth0 (pv 0) T.cl_Reach c_Reach_to_things.m c_Reach_to_things.ok (hr.mono (by decide)) c_Reach_to_things.b .nil pass0))
      (pss_one (ps_expr (pe_meth0 (pv 0) T.cl_Reach c_Reach_to_askers.m c_Reach_to_askers.ok (hr.mono (by decide)) c_Reach_to_askers.b .nil pass0))))), ?_⟩
    obtain ⟨s, rw, de, fr, tk, tr, ds, w, o, ok, d, k, u, p, C, B, lF, lT, lK, st, r, rfl, hR, hS, q⟩ := h
    refine ⟨fun m σ H' => σ = [some (.ref s)] ∧ ∃ lF lT lK st r, RSt w o ok d k u p C B lF lT lK st r ∧ SameX [fr, tk, tr] H H' ∧ RchAt K H' s rw de fr tk tr ds w o d k lF lT lK ∧ m = (mu (insW w o ok) p C B fun t => lT.lookup t).toNat, ⟨_, rfl, lF, lT, lK, st, r, hS, SameX.refl _ _, hR, rfl⟩, ?_⟩
    rintro m σ H1 ⟨rfl, lF1, lT1, lK1, st1, r1, hS1, sx1, hR1, rfl⟩
    obtain ⟨dx, fs, hI, hg, n1, n2, n3, n4, n5⟩ := hR1.ins
    refine ⟨_, rfl, s, dx, _, rfl, hI, n1, s, rw, de, fr, tk, tr, ds, w, o, ok, d, k, u, p, C, B, lF1, lT1, lK1, st1, r1, rfl, hR1, hS1, fun H2 lT2 lK2 st2 more sx2 hR2 hM nT2 eK2 cov => ⟨_, rfl, ?_⟩⟩
    cases more with
    | true =>
      refine ifT rfl ⟨fun σ H' => σ = [some (.ref s)] ∧ ∃ lF lT lK st r, RSt w o ok d k u p C B lF lT lK st r ∧ SameX [fr, tk, tr] H H' ∧ RchAt K H' s rw de fr tk tr ds w o d k lF lT lK ∧ lT = lT2, ?_, ?_⟩
      · rintro σ H' ⟨e, lF3, lT3, lK3, st3, r3, hS3, sx3, hR3, rfl⟩
        refine ⟨_, ?_, e, lF3, lT3, lK3, st3, r3, hS3, sx3, hR3, rfl⟩
        have h1 := mu_lt hS1.bd hS1.la hM
        have h2 : 0 ≤ mu (insW w o ok) p C B (fun t => lT3.lookup t) := mu_nn hS3.bd hS3.la.up
        omega
      · obtain ⟨dx2, fs2, hI2, _, _, n2', _⟩ := hR2.ins
        have hwi : ∀ a t, dD d a = some t → ∃ x, wt w o a t = some x := hS1.du.wi
        refine ⟨_, rfl, s, dx2, _, rfl, hI2, n2', s, rw, de, fr, tk, tr, ds, w, o, d, k, lF1, lT2, lK2, rfl, ok, hR2, hS1.dl, hS1.nF, fun a g e => ?_, hwi, fun H3 lF3 sx3 hR3 nF3 hv => ?_⟩
        · have := hS1.km
          rcases hS1.la.fr a g e with h | ⟨h, _⟩ <;> omega
        · refine ⟨rfl, lF3, lT2, lK2, st2, r1 + 1, ⟨hS1.du, hS1.bd, lab_next hS1.du hS1.bd hS1.la hM (fun a h X x h1 h2 h3 => ?_) (fun a h1 => ?_), nF3, nT2, eK2, hS1.dl, hS1.km⟩, (sx1.trans sx2).trans sx3, hR3, rfl⟩
          · have h3 : wt w o a h = some x := h3
            have h2 : lT2.lookup h = some X := h2
            show lF3.lookup a = _
            rw [hv a]
            unfold newF
            rw [h1]
            show (match lT2.lookup h with
              | some X => some (X - (wt w o a h).getD 0)
              | Option.none => lF1.lookup a) = _
            rw [h2, h3]
            rfl
          · show lF3.lookup a = lF1.lookup a
            rw [hv a]
            unfold newF
            cases e : dD d a with
            | none => rfl
            | some h =>
              have h2 : lT2.lookup h = Option.none := h1 h e
              show (match lT2.lookup h with
                | some X => some (X - (wt w o a h).getD 0)
                | Option.none => lF1.lookup a) = _
              rw [h2]
    | false =>
      refine ifF rfl ?_
      obtain ⟨eT, eK⟩ := hM.same rfl
      obtain ⟨rho, hf⟩ : ∃ rho, Fin (insW w o ok) k (dD d) p (fun a => lF1.lookup a) (fun t => lT1.lookup t) (fun t => lK1.lookup t) rho := ⟨_, fin_of hS1.la fun a g t x h1 h2 h3 => by
        obtain ⟨Y, e1, e2⟩ := cov a g t x h1 h2 h3
        exact ⟨Y, (congrFun eT t).symm.trans e1, e2⟩⟩
      rw [← eT, ← eK] at hf
      exact q H2 lF1 lT2 lK2 rho (sx1.trans sx2) hR2 hS1.nF nT2 eK2 hf
end
end Wd
namespace Wd
open PySem PySem.Spec PyProof.Rows L2
theorem same_lock {H H' : Hp} {dd : Addr} {od : Obj} {u : HO} (hd : H dd = some u) (s : Same (upd H dd (.frz od u)) H') : Same H (upd H' dd u) := fun b o e => SameX.lock (S := []) hd (fun b o _ e => s b o e) b o (by simp) e
/-- the greatest so far, and the end that has it -/
def EndOk (H : Hp) (w : Wi) (d : List (Option Nat)) (lF lT : List (Nat × Int)) (lK : List (Nat × Nat)) (g : Int) (v : V) : Prop :=
  (v = .non ∧ g = 0) ∨ ∃ (e : Addr) (a : Nat) (x : Option Nat), v = .ref e ∧ H e = some (.tup [nV a, onV x]) ∧ 0 < g ∧ ((x = Option.none ∧ lF.lookup a = some g) ∨ ∃ t, x = some t ∧ lT.lookup t = some g ∧ (d.count (some t) : Nat) < (w.c.getD t 0 : Int) ∧ lK.lookup t = some a)
theorem EndOk.mono {H H' : Hp} {w : Wi} {d : List (Option Nat)} {lF lT : List (Nat × Int)} {lK : List (Nat × Nat)} {g : Int} {v : V} (s : ∀ b vs, H b = some (.tup vs) → H' b = some (.tup vs)) (h : EndOk H w d lF lT lK g v) : EndOk H' w d lF lT lK g v := by
  rcases h with h | ⟨e, a, x, h1, h2, h3⟩
  · exact .inl h
  · exact .inr ⟨e, a, x, h1, s _ _ h2, h3⟩
theorem EndOk.g0 {H : Hp} {w : Wi} {d : List (Option Nat)} {lF lT : List (Nat × Int)} {lK : List (Nat × Nat)} {g : Int} {v : V} (h : EndOk H w d lF lT lK g v) : 0 ≤ g := by
  rcases h with ⟨_, h⟩ | ⟨e, a, x, h1, h2, h3, _⟩ <;> omega
def spEnd (K : PySem.W.Frag) : Sp := fun vs H Q _ => ∃ (s rw de fr tk tr la : Addr) (ds : List Addr) (w : Wi) (o : Nat) (ok : w.Ok) (d : List (Option Nat)) (k : Nat) (lF lT : List (Nat × Int)) (lK : List (Nat × Nat)), vs = [.ref s, .ref la] ∧
  RchAt K H s rw de fr tk tr ds w o d k lF lT lK ∧ d.length = w.l.length ∧ (lF.map (·.1)).Nodup ∧ (lT.map (·.1)).Nodup ∧ lK.map (·.1) = lT.map (·.1) ∧ (∀ t X, lT.lookup t = some X → t < w.c.length) ∧ H la = some (.lst ((leftL w.c (toI d)).map V.int)) ∧
  ∀ H' g v, Same H H' → MaxG (insW w o ok) (dD d) (fun a => lF.lookup a) (fun t => lT.lookup t) g → EndOk H' w d lF lT lK g v → Q v H'
/-- a way, told in tuples -/
def WayAt (H : Hp) (ws : List Addr) (wy : Way) : Prop := ws.length = wy.length ∧ ∀ (i : Nat) (q : Addr) (e : Nat × Option Nat), ws[i]? = some q → wy[i]? = some e → H q = some (.tup [nV e.1, onV e.2])
theorem WayAt.mono {H H' : Hp} {ws : List Addr} {wy : Way} (s : Same H H') (h : WayAt H ws wy) : WayAt H' ws wy := ⟨h.1, fun i q e e1 e2 => s _ _ (h.2 i q e e1 e2)⟩
theorem WayAt.cons {H : Hp} {ws : List Addr} {wy : Way} {q : Addr} {e : Nat × Option Nat} (h : WayAt H ws wy) (hq : H q = some (.tup [nV e.1, onV e.2])) : WayAt H (q :: ws) (e :: wy) := ⟨by rw [List.length_cons, List.length_cons, h.1], fun i q' e' e1 e2 => by
  cases i with
  | zero =>
    cases e1
    cases e2
    exact hq
  | succ i => exact h.2 i q' e' e1 e2⟩
theorem WayAt.nil {H : Hp} : WayAt H [] [] := ⟨rfl, fun i q e h => by simp at h⟩
theorem WayAt.upd {H : Hp} {ws : List Addr} {wy : Way} {f : Addr} {xs : List V} {o : HO} (hf : H f = some (.lst xs)) (h : WayAt H ws wy) : WayAt (upd H f o) ws wy := ⟨h.1, fun i q e e1 e2 => by
  have g := h.2 i q e e1 e2
  rw [upd_ne (ne_of g hf (by intro z; cases z))]
  exact g⟩
theorem way_len {k : Nat} {wy : Way} (hn : (wy.map (·.1)).Nodup) (hl : ∀ e ∈ wy, e.1 ≤ k) : wy.length ≤ k + 1 := by
  have := sub_len (l2 := List.range (k + 1)) hn fun t ht => by
    obtain ⟨e, he, rfl⟩ := List.mem_map.mp ht
    have := hl e he
    exact List.mem_range.mpr (by omega)
  rw [List.length_range, List.length_map] at this
  exact this
/-- how far a way's head is from its beginning -/
def mB (d : List (Option Nat)) (rho : Nat → Nat) (k b : Nat) : Nat := if b = k then 0 else match dD d b with
  | some h => rho h + 1
  | Option.none => 0
def spWayTo (K : PySem.W.Frag) : Sp := fun vs H Q _ => ∃ (s rw de fr tk tr e : Addr) (ds : List Addr) (w : Wi) (o : Nat) (ok : w.Ok) (d : List (Option Nat)) (k : Nat) (u p : Nat → Int) (lF lT : List (Nat × Int)) (lK : List (Nat × Nat)) (rho : Nat → Nat) (g : Int) (a : Nat) (x : Option Nat), vs = [.ref s, .ref e] ∧
  RchAt K H s rw de fr tk tr ds w o d k lF lT lK ∧ d.length = w.l.length ∧ k < w.l.length ∧ Dual (insW w o ok) k (dD d) u p ∧ Fin (insW w o ok) k (dD d) p (fun a => lF.lookup a) (fun t => lT.lookup t) (fun t => lK.lookup t) rho ∧
  H e = some (.tup [nV a, onV x]) ∧ Back (insW w o ok) k (dD d) p (fun a => lF.lookup a) (fun t => lT.lookup t) (fun t => lK.lookup t) rho g [(a, x)] ∧
  ∀ H' q ws wy, H q = Option.none → Same H H' → H' q = some (.lst (ws.map V.ref)) → WayAt H' ws wy → WayOk (insW w o ok) k (dD d) p (fun a => lF.lookup a) (fun t => lT.lookup t) (fun t => lK.lookup t) g wy → Q (.ref q) H'
section
variable {P : Program} {w : World} {K : PySem.W.Frag} {mg : Str → Option Value} {base : Heap}
abbrev N_Reach_end_by : List Str := ["self", "left", "most", "end", "asker", "gain", "thing"]
theorem sc_Reach_end_by : FnScope N_Reach_end_by ["self", "left"] (defScope s_Reach_end_by) := ⟨rfl, rfl, rfl, by decide +kernel, rfl, by decide +kernel, by decide +kernel⟩
theorem ok_Reach_end_by {f : Addr} {fd : FuncData} (F : FnP K "end_by" "Reach.end_by" s_Reach_end_by f fd) (T : Txt K mg)  : FnOk P w K mg base CX0 1 f fd ["self", "left"] (spEnd K) := by
  refine F.ok sc_Reach_end_by (fun vs H Q E h => ?_) (fun cdv A outer s H vs Q E hr h => ?_)
  · obtain ⟨s, rw, de, fr, tk, tr, la, ds, w, o, ok, d, k, lF, lT, lK, rfl, _⟩ := h
    rfl
  · have hu := hu_of hr
    have nd := sc_Reach_end_by.nd
    refine ⟨_, PSs.nox (pss_cons (ps_set (i := 2) nd rfl (Or.inl rfl) pe_int)
    (pss_cons (ps_set (i := 3) nd rfl (Or.inl rfl) pe_non)
    (pss_cons (ps_lock (ps_for PassesOwn.never rfl (pi_items (pe_fld (pv 0) rfl)) (pg_tup rfl (pgs_cons (pg_name (i := 4) nd rfl (Or.inl rfl)) (pgs_cons (pg_name (i := 5) nd rfl (Or.inl rfl)) pgs_nil)))
      (pss_one (ps_if (pt_cmpR op_gt (pv 5) (pv 2) (nomark _))
        (pss_cons (ps_set (i := 2) nd rfl (Or.inl rfl) (pv 5))
        (pss_one (ps_set (i := 3) nd rfl (Or.inl rfl) (pe_tup (pa_cons (pv 4) (pa_cons pe_non pa_nil))))))
        pss_nil))))
    (pss_cons (ps_lock (ps_for PassesOwn.never rfl (pi_items (pe_fld (pv 0) rfl)) (pg_tup rfl (pgs_cons (pg_name (i := 6) nd rfl (Or.inl rfl)) (pgs_cons (pg_name (i := 5) nd rfl (Or.inl rfl)) pgs_nil)))
      (pss_one (ps_if (PW.pt (pw_and (pt_cmpR op_gt (pe_ix ix_list (pv 1) (pv 6) (fun _ _ => rfl)) pe_int (nomark _)) (pw_and1 (pt_cmpR op_gt (pv 5) (pv 2) (nomark _)))))
        (pss_cons (ps_set (i := 2) nd rfl (Or.inl rfl) (pv 5))
        (pss_one (ps_set (i := 3) nd rfl (Or.inl rfl) (pe_tup (pa_cons (pe_dget hu (pe_fld (pv 0) rfl) (pv 6) (fun _ _ => rfl)) (pa_cons (pv 6) pa_nil))))))
        pss_nil))))
    (pss_one (ps_ret (pv 3))))))), ?_⟩
    obtain ⟨s, rw, de, fr, tk, tr, la, ds, w, o, ok, d, k, lF, lT, lK, rfl, hR, hdl, nF, nT, eK, hTn, hla, q⟩ := h
    obtain ⟨dx, fs, hI, ⟨g1, g2, g3, g4, g5, g6⟩, n1, n2, n3, n4, n5⟩ := hR.ins
    refine ⟨fr, .dK (enc V.int lF), hR.hF, trivial, fun od => ?_⟩
    have k1 : ∀ {b : Addr} {u : HO}, H b = some u → (∀ xs, u ≠ .dK xs) → upd H fr (.frz od (.dK (enc V.int lF))) b = some u := fun {b u} e hu => by
      rw [upd_ne (ne_of e hR.hF (hu _))]
      exact e
    refine ⟨_, rfl, s, _, dx, _, _, rfl, k1 hI (fun xs z => by cases z), T.cl_Reach, T.n_Reach_freed, g4, fr, od, _, rfl, upd_same, ?_⟩
    refine for_items (fun i σ H' => ∃ v4 v5 v6 g v, σ = [some (.ref s), some (.ref la), some (.int g), some v, v4, v5, v6] ∧ Same (upd H fr (.frz od (.dK (enc V.int lF)))) H' ∧ EndOk H' w d lF lT lK g v ∧ ∀ (j a : Nat) (x : Int), j < i → lF[j]? = some (a, x) → x ≤ g)
      ⟨_, _, _, 0, .non, rfl, Same.refl _, .inl ⟨rfl, rfl⟩, fun j a x h => absurd h (Nat.not_lt_zero _)⟩ (fun i σ H' _ ⟨_, _, _, _, _, _, sm, _⟩ => sm _ _ upd_same) ?_ ?_
    · rintro i a x Ti σ H1 hi ⟨v4, v5, v6, g, v, rfl, sm, he, hall⟩ hTi
      have s2 : Same H1 (upd H1 Ti (.tup [nV a, .int x])) := same_new hTi
      have he2 := he.mono fun b vs e => s2 _ _ e
      have sm2 := sm.trans s2
      refine ⟨Ti, _, rfl, SqT.of upd_same, rfl, _, _, rfl, _, _, rfl, rfl, ?_⟩
      generalize upd H1 Ti (.tup [nV a, .int x]) = H2 at s2 he2 sm2
      refine ⟨_, rfl, _, rfl, _, _, rfl, rfl, _, rfl, if2 (fun h => ?_) fun h => ?_⟩
      · have hx := of_decide_eq_true h
        have g0 := he.g0
        refine ⟨_, rfl, _, rfl, by show 2 ≤ sizeLine; decide, fun T2 hT2 => ?_⟩
        refine ⟨_, _, _, x, .ref T2, rfl, same_and sm2 hT2, .inr ⟨T2, a, Option.none, rfl, upd_same, by omega, .inl ⟨rfl, key_some nF (List.mem_of_getElem? hi)⟩⟩, fun j a' x' hj e => ?_⟩
        by_cases q2 : j = i
        · subst q2
          rw [hi] at e
          cases e
          omega
        · have := hall j a' x' (by omega) e
          omega
      · have hx := of_decide_eq_false h
        refine ⟨_, _, _, g, v, rfl, sm2, he2, fun j a' x' hj e => ?_⟩
        by_cases q2 : j = i
        · subst q2
          rw [hi] at e
          cases e
          omega
        · exact hall j a' x' (by omega) e
    · rintro σ H1 ⟨v4, v5, v6, g, v, rfl, sm, he, hall⟩
      refine ⟨sm _ _ upd_same, ?_⟩
      have hall1 : ∀ a x, lF.lookup a = some x → x ≤ g := fun a x e => by
        obtain ⟨j, hj, e2⟩ := List.mem_iff_getElem.mp (lookup_mem e)
        exact hall j a x hj (by rw [← e2]; exact List.getElem?_eq_getElem hj)
      have he1 : EndOk (upd H1 fr (.dK (enc V.int lF))) w d lF lT lK g v := he.mono fun b vs e => by
        rw [upd_ne (ne_of e (sm _ _ upd_same) (by intro z; cases z))]
        exact e
      have sm1 := same_lock hR.hF sm
      generalize upd H1 fr (.dK (enc V.int lF)) = H2 at he1 sm1
      have hT2 := sm1 _ _ hR.hT
      refine ⟨tk, .dK (enc V.int lT), hT2, trivial, fun od2 => ?_⟩
      have k2 : ∀ {b : Addr} {u : HO}, H2 b = some u → b ≠ tk → upd H2 tk (.frz od2 (.dK (enc V.int lT))) b = some u := fun {b u} e hu => by
        rw [upd_ne hu]
        exact e
      have hI2 := k2 (sm1 _ _ hI) (ne_of (sm1 _ _ hI) hT2 (by intro z; cases z))
      have hK2 := k2 (sm1 _ _ hR.hK) hR.ne.2.2
      have hla2 := k2 (sm1 _ _ hla) (ne_of (sm1 _ _ hla) hT2 (by intro z; cases z))
      have hee : EndOk (upd H2 tk (.frz od2 (.dK (enc V.int lT)))) w d lF lT lK g v := he1.mono fun b vs e => k2 e (ne_of e hT2 (by intro z; cases z))
      refine ⟨_, rfl, s, _, dx, _, _, rfl, hI2, T.cl_Reach, T.n_Reach_taken, g5, tk, od2, _, rfl, upd_same, ?_⟩
      refine for_items (fun i σ H' => ∃ v4 v5 v6 g' v', σ = [some (.ref s), some (.ref la), some (.int g'), some v', v4, v5, v6] ∧ Same (upd H2 tk (.frz od2 (.dK (enc V.int lT)))) H' ∧ EndOk H' w d lF lT lK g' v' ∧ g ≤ g' ∧ ∀ (j t : Nat) (x : Int), j < i → lT[j]? = some (t, x) → (d.count (some t) : Nat) < (w.c.getD t 0 : Int) → x ≤ g')
        ⟨_, _, _, g, v, rfl, Same.refl _, hee, Int.le_refl _, fun j a x h => absurd h (Nat.not_lt_zero _)⟩ (fun i σ H' _ ⟨_, _, _, _, _, _, sm, _⟩ => sm _ _ upd_same) ?_ ?_
      · rintro i t x Ti σ H3 hi ⟨v4, v5, v6, g', v', rfl, sm3, he3, hg3, hall3⟩ hTi
        have s4 : Same H3 (upd H3 Ti (.tup [nV t, .int x])) := same_new hTi
        have he4 := he3.mono fun b vs e => s4 _ _ e
        have sm4 := sm3.trans s4
        have hlt := key_some nT (List.mem_of_getElem? hi)
        have ht := hTn t x hlt
        refine ⟨Ti, _, rfl, SqT.of upd_same, rfl, _, _, rfl, _, _, rfl, rfl, ?_⟩
        generalize upd H3 Ti (.tup [nV t, .int x]) = H4 at s4 he4 sm4
        unfold tIfS
        refine and_split (decide ((d.count (some t) : Nat) < (w.c.getD t 0 : Int)) && decide (g' < x)) (fun Q' k' => ?_) ?_
        · refine ⟨_, rfl, _, rfl, la, _, (t : Int), _, rfl, rfl, SqL.of (sm4 _ _ hla2), at_nat V.int (leftL_get ht), _, _, rfl, rfl, _, rfl, if2 (fun h => ?_) fun h => ?_⟩
          · have h0 := of_decide_eq_true h
            refine ⟨_, rfl, _, rfl, _, _, rfl, rfl, _, rfl, ?_⟩
            rw [decide_eq_true (show ((d.count (some t) : Nat) : Int) < (w.c.getD t 0 : Int) by omega)] at k'
            exact k'
          · have h0 := of_decide_eq_false h
            rw [decide_eq_false (show ¬ ((d.count (some t) : Nat) : Int) < (w.c.getD t 0 : Int) by omega)] at k'
            exact k'
        refine if2 (fun h => ?_) fun h => ?_
        · obtain ⟨h1, h2⟩ := Bool.and_eq_true_iff.mp h
          have h1 := of_decide_eq_true h1
          have h2 := of_decide_eq_true h2
          have g0 := he3.g0
          obtain ⟨c, hc⟩ : ∃ c, lK.lookup t = some c := by
            have : t ∈ lK.map (·.1) := by
              rw [eK]
              exact List.mem_map.mpr ⟨_, List.mem_of_getElem? hi, rfl⟩
            obtain ⟨q1, h5, h6⟩ := List.mem_map.mp this
            exact ⟨q1.2, by rw [← h6]; exact key_some (by rw [eK]; exact nT) h5⟩
          refine ⟨_, rfl, _, rfl, s, _, dx, _, _, rfl, sm4 _ _ hI2, T.cl_Reach, T.n_Reach_takers, g6, _, rfl, tr, _, rfl, dget_some (.inl (sm4 _ _ hK2)) hc, _, rfl, by show 2 ≤ sizeLine; decide, fun T2 hT2 => ?_⟩
          refine ⟨_, _, _, x, .ref T2, rfl, same_and sm4 hT2, .inr ⟨T2, c, some t, rfl, upd_same, by omega, .inr ⟨t, rfl, hlt, h1, hc⟩⟩, by omega, fun j a' x' hj e hl => ?_⟩
          by_cases q2 : j = i
          · subst q2
            rw [hi] at e
            cases e
            omega
          · have := hall3 j a' x' (by omega) e hl
            omega
        · refine ⟨_, _, _, g', v', rfl, sm4, he4, hg3, fun j a' x' hj e hl => ?_⟩
          by_cases q2 : j = i
          · subst q2
            rw [hi] at e
            cases e
            rw [decide_eq_true hl, Bool.true_and] at h
            have := of_decide_eq_false h
            omega
          · exact hall3 j a' x' (by omega) e hl
      · rintro σ H3 ⟨v4, v5, v6, g', v', rfl, sm3, he3, hg3, hall3⟩
        refine ⟨sm3 _ _ upd_same, _, rfl, q _ g' v' (sm1.trans (same_lock hT2 sm3)) ⟨he3.g0, fun a x e => ?_, fun t x e hl => ?_⟩ (he3.mono fun b vs e => ?_)⟩
        · have := hall1 a x e
          omega
        · obtain ⟨j, hj, e2⟩ := List.mem_iff_getElem.mp (lookup_mem e)
          refine hall3 j t x hj (by rw [← e2]; exact List.getElem?_eq_getElem hj) ?_
          rw [cnt_dD (by exact hdl) t] at hl
          exact hl
        · rw [upd_ne (ne_of e (sm3 _ _ upd_same) (by intro z; cases z))]
          exact e
abbrev N_Reach_way_to : List Str := ["self", "end", "way", "thing"]
theorem sc_Reach_way_to : FnScope N_Reach_way_to ["self", "end"] (defScope s_Reach_way_to) := ⟨rfl, rfl, rfl, by decide +kernel, rfl, by decide +kernel, by decide +kernel⟩
theorem ok_Reach_way_to {f : Addr} {fd : FuncData} (F : FnP K "way_to" "Reach.way_to" s_Reach_way_to f fd) (T : Txt K mg)  : FnOk P w K mg base CX0 1 f fd ["self", "end"] (spWayTo K) := by
  refine F.ok sc_Reach_way_to (fun vs H Q E h => ?_) (fun cdv A outer s H vs Q E hr h => ?_)
  · obtain ⟨s, rw, de, fr, tk, tr, e, ds, w, o, ok, d, k, u, p, lF, lT, lK, rho, g, a, x, rfl, _⟩ := h
    rfl
  · have hu := hu_of hr
    have nd := sc_Reach_way_to.nd
    refine ⟨_, PSs.nox (pss_cons (ps_set (i := 2) nd rfl (Or.inl rfl) (pe_lst (pa_cons (pv 1) pa_nil)))
    (pss_cons (ps_while PassesOwn.never (pt_cmpR op_ne (pe_ix ix_tup (pe_ix ix_list (pv 2) pe_int (fun _ _ => rfl)) pe_int (fun _ _ => rfl)) (pe_fld (pv 0) rfl) (nomark _))
      (pss_cons (ps_set (i := 3) nd rfl (Or.inl rfl) (pe_ix ix_list (pe_fld (pv 0) rfl) (pe_ix ix_tup (pe_ix ix_list (pv 2) pe_int (fun _ _ => rfl)) pe_int (fun _ _ => rfl)) (fun _ _ => rfl)))
      (pss_one (ps_expr (pe_bm PySem.F.plainAttrs_list PySem.F.slot_list_insert PySem.F.type_list_insert mt_insert (pv 2) (pa_cons pe_int (pa_cons (pe_tup (pa_cons (pe_dget hu (pe_fld (pv 0) rfl) (pv 3) (fun _ _ => rfl)) (pa_cons (pv 3) pa_nil))) pa_nil)))))))
    (pss_one (ps_ret (pv 2))))), ?_⟩
    obtain ⟨s, rw, de, fr, tk, tr, e, ds, w, o, ok, d, k, u, p, lF, lT, lK, rho, g, a, x, rfl, hR, hdl, km, hdu, hfi, he, hB, q⟩ := h
    obtain ⟨dx, fs, hI, ⟨g1, g2, g3, g4, g5, g6⟩, n1, n2, n3, n4, n5⟩ := hR.ins
    have m7 := ok.l7
    refine ⟨_, rfl, by show 1 ≤ sizeLine; decide, fun wa hwa => ?_⟩
    obtain ⟨Wn, hWn⟩ : ∃ Wn : Nat → L2.St → Hp → Prop, Wn = fun m σ H' => ∃ v3 ws b x r, σ = [some (.ref s), some (.ref e), some (.ref wa), v3] ∧ Same H H' ∧ H' wa = some (.lst (ws.map V.ref)) ∧ WayAt H' ws ((b, x) :: r) ∧
      Back (insW w o ok) k (dD d) p (fun a => lF.lookup a) (fun t => lT.lookup t) (fun t => lK.lookup t) rho g ((b, x) :: r) ∧ m = mB d rho k b := ⟨_, rfl⟩
    have s1 : Same H (upd H wa (.lst [V.ref e])) := same_new hwa
    refine ⟨Wn, ⟨mB d rho k a, ?_⟩, ?_⟩
    · rw [hWn]
      exact ⟨_, [e], a, x, [], rfl, s1, upd_same, WayAt.nil.cons (s1 _ _ he), hB, rfl⟩
    intro m σ H1 hw
    have hw0 := hw
    rw [hWn] at hw
    obtain ⟨v3, ws, b, x1, r, rfl, sm, hW, hwat, hB1, rfl⟩ := hw
    obtain ⟨q0, ws', rfl⟩ : ∃ q0 ws', ws = q0 :: ws' := by
      cases ws with
      | nil =>
        have := hwat.1
        simp at this
      | cons q0 ws' => exact ⟨_, _, rfl⟩
    have hq0 := hwat.2 0 q0 (b, x1) rfl rfl
    have hbk := hB1.lt (b, x1) List.mem_cons_self
    have hI1 := sm _ _ hI
    have get0 : atI ((q0 :: ws').map V.ref) (0 : Int) = some (.ref q0) := at_nat V.ref (xs := q0 :: ws') (i := 0) (x := q0) rfl
    refine ⟨_, rfl, wa, _, (0 : Int), _, rfl, rfl, SqL.of hW, get0, q0, _, 0, _, rfl, rfl, SqT.of hq0, rfl, _, rfl, s, _, dx, _, _, rfl, hI1, T.cl_Reach, T.n_Reach_start, g3, rfl, _, rfl, ?_⟩
    have ed : decide (nV b = nV k) = decide (b = k) := dec_nV b k
    by_cases hbk2 : b = k
    · subst hbk2
      refine ifF (by rw [decide_eq_true rfl]; rfl) ⟨_, rfl, ?_⟩
      exact q H1 wa _ _ hwa sm hW hwat (back_end hdu hB1)
    refine ifT (by show (!decide (nV b = nV k)) = true; rw [ed, decide_eq_false hbk2]; rfl) ⟨fun σ' H' => ∃ m', m' < mB d rho k b ∧ Wn m' σ' H', fun σ' H' h => h, ?_⟩
    obtain ⟨h, c, hD, hK, hB2, hc⟩ := back_step hdu hfi hB1 hbk2
    have hbd := get_dD (d := d) (a := b) (by rw [hdl]; omega)
    rw [hD] at hbd
    refine ⟨_, rfl, s, _, dx, _, _, rfl, hI1, T.cl_Reach, T.n_Reach_dealt, g2, _, rfl, wa, _, (0 : Int), _, rfl, rfl, SqL.of hW, get0, q0, _, 0, _, rfl, rfl, SqT.of hq0, rfl, de, _, (b : Int), _, rfl, rfl, SqL.of (sm _ _ hR.hDe), at_nat onV hbd, ?_⟩
    refine ⟨_, rfl, .inl ⟨rfl, _, SqL.of hW⟩, _, rfl, s, _, dx, _, _, rfl, hI1, T.cl_Reach, T.n_Reach_takers, g6, _, rfl, tr, _, rfl, dget_some (.inl (sm _ _ hR.hK)) hK, _, rfl, by show 2 ≤ sizeLine; decide, fun T2 hT2 => ?_⟩
    have s2 : Same H1 (upd H1 T2 (.tup [nV c, nV h])) := same_new hT2
    have hW2 := s2 _ _ hW
    refine ⟨wa, _, 0, .ref T2, rfl, rfl, hW2, ?_, by decide, by decide, mB d rho k c, ?_, ?_⟩
    · have h1 := way_len hB1.nd hB1.lt
      have h2 := hwat.1
      rw [List.length_map]
      exact sl100 (by omega)
    · unfold mB
      rw [if_neg hbk2, hD]
      rcases hc with rfl | ⟨h', e1, e2⟩
      · rw [if_pos rfl]
        show 0 < rho h + 1
        omega
      · rw [e1]
        show (if c = k then 0 else rho h' + 1) < rho h + 1
        split <;> omega
    · rw [hWn]
      refine ⟨_, T2 :: q0 :: ws', c, some h, (b, x1) :: r, rfl, same_mut (sm.trans s2) hwa, upd_same, ?_, hB2, rfl⟩
      exact WayAt.upd hW2 (WayAt.cons (hwat.mono s2) upd_same)
end
end Wd
namespace Wd
open PySem PySem.Spec PyProof.Rows L2
theorem byO_nn {o R i : Nat} {B : Int} (hB : 0 < B) (h1 : 1 ≤ i) (h2 : i ≤ R) : 0 ≤ byO o B R i := by
  match o with
  | 0 => 
    show 0 ≤ bp B (R - i)
    have := bp_pos hB (R - i)
    omega
  | 1 => 
    show (0 : Int) ≤ bp B (R - i) + bp B R
    have := bp_pos hB (R - i)
    have := bp_pos hB R
    omega
  | o + 2 =>
    show 0 ≤ bp B R - bp B (i - 1)
    have := bp_le hB (show i - 1 ≤ R by omega)
    omega
theorem wt_rk {w : Wi} {o a t : Nat} {x : Int} (h : wt w o a t = some x) : ∃ i, 1 ≤ i ∧ i ≤ wlong w ∧ x = rw_ w o i := by
  obtain ⟨h1, h2⟩ := wt_some h
  refine ⟨_, by omega, ?_, h2⟩
  by_cases ha : a < w.l.length
  · have e : w.l.getD a [] = w.l[a] := by rw [List.getD_eq_getElem?_getD, List.getElem?_eq_getElem ha]; rfl
    rw [e]
    exact rkI_long (List.getElem_mem ha) t
  · have e : w.l.getD a [] = [] := by rw [List.getD_eq_getElem?_getD, List.getElem?_eq_none (by omega)]; rfl
    rw [e] at h1
    exact absurd rfl h1
theorem wt_nn {w : Wi} (ok : w.Ok) {o a t : Nat} {x : Int} (h : wt w o a t = some x) : 0 ≤ x := by
  obtain ⟨i, h1, h2, rfl⟩ := wt_rk h
  have bb := bI_bd ok
  unfold rw_
  exact Int.mul_nonneg (byO_nn (by omega) h1 h2) (by omega)
theorem bds_ex {w : Wi} {o : Nat} (ok : w.Ok) (k : Nat) (u p : Nat → Int) : ∃ C B, Bds (insW w o ok) k u p C B := by
  obtain ⟨C, c0, hC⟩ := bnd (fun i => rw_ w o i) 6
  obtain ⟨B1, b1, hB1⟩ := bnd p w.c.length
  obtain ⟨B2, b2, hB2⟩ := bnd u k
  refine ⟨C, B1 + B2, c0, by omega, fun a t x _ h => ⟨wt_nn ok h, ?_⟩, fun t ht => ?_, fun a t ha ht => ?_⟩
  · obtain ⟨i, h1, h2, rfl⟩ := wt_rk h
    have := long5 ok
    exact hC i (by omega)
  · have := hB1 t ht
    omega
  · have := hB1 t ht
    have := hB2 a ha
    omega
theorem app_snoc : ∀ (l : Way) (D : Nat → Option Nat) (e : Nat × Option Nat), app D (l ++ [e]) = setD (app D l) e.1 e.2
  | [], D, e => rfl
  | (b, x) :: r, D, e => app_snoc r (setD D b x) e
theorem dD_set {d : List (Option Nat)} {b : Nat} (x : Option Nat) (h : b < d.length) : dD (d.set b x) = setD (dD d) b x := funext fun a => by
  unfold dD setD
  rw [List.getD_eq_getElem?_getD, List.getElem?_set]
  by_cases e : b = a
  · subst e
    rw [if_pos rfl, if_pos h, if_pos rfl]
    rfl
  · rw [if_neg e, if_neg fun z => e z.symm, ← List.getD_eq_getElem?_getD]
theorem dD_rep (m a : Nat) : dD (List.replicate m Option.none) a = Option.none := by
  unfold dD
  rw [List.getD_eq_getElem?_getD, List.getElem?_replicate]
  split <;> rfl
theorem dual_zero (I : Ins) (hc : ∀ t, 0 ≤ I.c t) (D : Nat → Option Nat) (h : ∀ a, D a = Option.none) : Dual I 0 D (fun _ => 0) (fun _ => 0) := by
  have h0 : ∀ t, cnt I.m D t = 0 := fun t => by
    unfold cnt
    rw [S_congr (g := fun _ => 0) fun i _ => by unfold isT; rw [h]; rfl, S_zero]
  exact ⟨Nat.zero_le _, fun t _ => Int.le_refl _, fun a ha => absurd ha (Nat.not_lt_zero a), fun a t x ha => absurd ha (Nat.not_lt_zero a), fun a t x ha => absurd ha (Nat.not_lt_zero a), fun a ha => absurd ha (Nat.not_lt_zero a), fun t _ _ => rfl, fun a _ => h a, fun a t e => (by rw [h] at e; cases e), fun t _ => by rw [h0]; exact hc t⟩
def spBW : Sp := fun vs H Q _ => ∃ (rw c de : Addr) (ds : List Addr) (w : Wi) (o : Nat) (ok : w.Ok) (d : List (Option Nat)) (k : Nat) (u p : Nat → Int), vs = [.ref rw, .ref c, .ref de, nV k] ∧
  H rw = some (.lst (ds.map V.ref)) ∧ RowsD H ds w o ∧ H c = some (.lst (w.c.map nV)) ∧ H de = some (.lst (d.map onV)) ∧ d.length = w.l.length ∧ k < w.l.length ∧ Dual (insW w o ok) k (dD d) u p ∧
  ∀ H' q ws wy, H q = Option.none → Same H H' → H' q = some (.lst (ws.map V.ref)) → WayAt H' ws wy → (∀ e ∈ wy, e.1 < w.l.length) → (∃ u' p', Dual (insW w o ok) (k + 1) (app (dD d) wy) u' p') → Q (.ref q) H'
def spDB : Sp := fun vs H Q _ => ∃ (a b : Addr) (w : Wi) (o : Nat) (ok : w.Ok), vs = [.ref a, .ref b] ∧ WAt H a w ∧ AimAt H b o ∧
  ∀ p d H', H p = Option.none → Same H H' → H' p = some (.lst (d.map onV)) → d.length = w.l.length → (∃ u' p', Dual (insW w o ok) w.l.length (dD d) u' p') → Q (.ref p) H'
section
variable {P : Program} {w : World} {K : PySem.W.Frag} {mg : Str → Option Value} {base : Heap}
abbrev N_best_way : List Str := ["rows", "copies", "dealt", "start", "reach", "end"]
theorem sc_best_way : FnScope N_best_way ["rows", "copies", "dealt", "start"] (defScope s_best_way) := ⟨rfl, rfl, rfl, by decide +kernel, rfl, by decide +kernel, by decide +kernel⟩
theorem ok_best_way {f : Addr} {fd : FuncData} (F : FnP K "best_way" "best_way" s_best_way f fd) (T : Txt K mg) (c_Reach_init : CalN P w K mg base "Reach" (He.ga K "Reach") 1 ["self", "rows", "dealt", "start"] (spRI K)) (c_Reach_end_by : CalM P w K mg base (He.ga K "Reach") "end_by" 1 ["self", "left"] (spEnd K)) (c_Reach_go_on : CalM P w K mg base (He.ga K "Reach") "go_on" 2 ["self"] (spGo K)) (c_Reach_way_to : CalM P w K mg base (He.ga K "Reach") "way_to" 1 ["self", "end"] (spWayTo K)) (c_left_by : Cal P w K mg base "left_by" 1 ["copies", "dealt"] (spLeftBy)) : FnOk P w K mg base CX0 3 f fd ["rows", "copies", "dealt", "start"] (spBW) := by
  refine F.ok sc_best_way (fun vs H Q E h => ?_) (fun cdv A outer s H vs Q E hr h => ?_)
  · obtain ⟨rw, c, de, ds, w, o, ok, d, k, u, p, rfl, _⟩ := h
    rfl
  · have hu := hu_of hr
    have nd := sc_best_way.nd
    refine ⟨_, PSs.nox (pss_cons (ps_set (i := 4) nd rfl (Or.inl rfl) (pe_make c_Reach_init.mkr c_Reach_init.ok (hr.mono (by decide)) (by rfl) c_Reach_init.g c_Reach_init.b .nil pass0 (pa_cons (pv 0) (pa_cons (pv 2) (pa_cons (pv 3) pa_nil)))))
    (pss_cons (ps_expr (pe_meth0 (pv 4) T.cl_Reach c_Reach_go_on.m c_Reach_go_on.ok (hr.mono (by decide)) c_Reach_go_on.b .nil pass0))
    (pss_cons (ps_set (i := 5) nd rfl (Or.inl rfl) (pe_meth (pv 4) T.cl_Reach c_Reach_end_by.m c_Reach_end_by.ok (hr.mono (by decide)) c_Reach_end_by.b .nil pass0 (pa_cons (pe_call c_left_by.ok (hr.mono (by decide)) (by rfl) c_left_by.g c_left_by.kp c_left_by.b .nil pass0 (pa_cons (pv 1) (pa_cons (pv 2) pa_nil))) pa_nil)))
    (pss_cons (ps_if (pt_cmpR op_isN (pv 5) pe_non (nomark _))
      (pss_one (ps_ret (pe_lst pa_nil)))
      pss_nil)
    (pss_one (ps_ret (pe_meth (pv 4) T.cl_Reach c_Reach_way_to.m c_Reach_way_to.ok (hr.mono (by decide)) c_Reach_way_to.b .nil pass0 (pa_cons (pv 5) pa_nil)))))))), ?_⟩
    obtain ⟨rw, c, de, ds, w, o, ok, d, k, u, p, rfl, hRw, hRs, hC, hDe, hdl, km, hdu, q⟩ := h
    have n6 := ok.c6
    refine ⟨_, rfl, _, rfl, _, rfl, fun s dx ns ndx nex => ?_⟩
    have m0 := made0 (C := He.ga K "Reach") ns ndx
    refine ⟨s, rw, de, dx, ds, w, o, d, k, rfl, upd_same, m0 _ _ hRw, hRs.mono m0, m0 _ _ hDe, fun H2 fr tk tr x2 hnew hR => ⟨rfl, ?_⟩⟩
    have s2 := made ns ndx x2
    have hnew0 : ∀ b ∈ [fr, tk, tr], H b = Option.none := fun b hb => m0.free (hnew b hb)
    obtain ⟨dx2, fs, hI, hg, n1, n2, n3, n4, n5⟩ := hR.ins
    obtain ⟨C, B, hbd⟩ := bds_ex (o := o) ok k u p
    have lk1 : ∀ {a : Nat} {g : Int}, ([(k, (0 : Int))] : List (Nat × Int)).lookup a = some g → a = k ∧ g = 0 := fun {a g} h => by
      rw [List.lookup_cons] at h
      by_cases e : a = k
      · subst e
        rw [beq_self_eq_true] at h
        exact ⟨rfl, (Option.some.inj h).symm⟩
      · have hb : (a == k) = false := beq_eq_false_iff_ne.mpr e
        rw [hb] at h
        cases h
    have hst : RSt w o ok d k u p C B [(k, 0)] [] [] (fun _ => 0) 0 := ⟨hdu, hbd, ⟨by simp, fun a g h => .inl (lk1 h).1, fun a h X x _ _ h _ => (by cases h), fun t X h => (by cases h), fun t X h => (by cases h), fun t X h => (by cases h), fun t X h => (by cases h), fun t X h => (by cases h)⟩, by simp, by simp, rfl, hdl, km⟩
    refine ⟨_, rfl, s, dx2, _, rfl, hI, n3, s, rw, de, fr, tk, tr, ds, w, o, ok, d, k, u, p, C, B, [(k, 0)], [], [], fun _ => 0, 0, rfl, hR, hst, fun H3 lF lT lK rho sx3 hR3 nF nT eK hfi => ?_⟩
    have s3 : Same H H3 := SameX.same s2 sx3 hnew0
    obtain ⟨dx3, fs3, hI3, _, _, _, _, n43, n53⟩ := hR3.ins
    have hTn : ∀ t X, lT.lookup t = some X → t < w.c.length := fun t X h => by
      obtain ⟨a, g, x, _, _, e, _⟩ := hfi.tk t X h
      exact (insW w o ok).wn a t x e
    refine ⟨_, rfl, s, dx3, _, rfl, hI3, n43, _, rfl, _, rfl, c, de, w.c, d, rfl, s3 _ _ hC, s3 _ _ hDe, by omega, fun i t h => ?_, fun la H4 hla s4 hla4 => ?_⟩
    · obtain ⟨x, hx⟩ := hdu.wi i t (dD_get h)
      exact (insW w o ok).wn i t x hx
    refine ⟨s, rw, de, fr, tk, tr, la, ds, w, o, ok, d, k, lF, lT, lK, rfl, hR3.mono s4, hdl, nF, nT, eK, hTn, hla4, fun H5 g v s5 hmg heo => ?_⟩
    have s5' := s3.trans (s4.trans s5)
    rcases heo with ⟨rfl, rfl⟩ | ⟨e, a, x, rfl, he, hg0, hx⟩
    · refine ⟨_, rfl, rfl, _, rfl, ifT rfl ⟨Nat.zero_le _, fun q0 hq0 => ?_⟩⟩
      refine q _ q0 [] [] (s5'.free hq0) (same_and s5' hq0) upd_same WayAt.nil (fun e he => by cases he) ⟨_, _, dual_none hdu km hfi hmg⟩
    · refine ⟨_, rfl, rfl, _, rfl, ifF rfl ?_⟩
      have hR5 := (hR3.mono s4).mono s5
      obtain ⟨dx5, fs5, hI5, _, _, _, _, _, n55⟩ := hR5.ins
      have hB : Back (insW w o ok) k (dD d) p (fun a => lF.lookup a) (fun t => lT.lookup t) (fun t => lK.lookup t) rho g [(a, x)] := by
        rcases hx with ⟨rfl, hF⟩ | ⟨t, rfl, hT, hl, hK⟩
        · exact back_start_none hdu hfi hF
        · exact back_start_thing hdu hfi hT (by rw [cnt_dD (by exact hdl) t]; exact hl) hK
      refine ⟨_, rfl, s, dx5, _, rfl, hI5, n55, _, rfl, s, rw, de, fr, tk, tr, e, ds, w, o, ok, d, k, u, p, lF, lT, lK, rho, g, a, x, rfl, hR5, hdl, km, hdu, hfi, he, hB, fun H6 q0 ws wy hq0 s6 hq6 hwa hwo => ?_⟩
      refine q H6 q0 ws wy (s5'.free hq0) (s5'.trans s6) hq6 hwa (fun e he => ?_) ⟨_, _, dual_next hdu km hfi hmg hwo⟩
      have := hwo.lt e he
      omega
abbrev N_dealt_best : List Str := ["wishes", "aim", "rows", "dealt", "row", "asker", "one", "thing"]
theorem sc_dealt_best : FnScope N_dealt_best ["wishes", "aim"] (defScope s_dealt_best) := ⟨rfl, rfl, rfl, by decide +kernel, rfl, by decide +kernel, by decide +kernel⟩
theorem ok_dealt_best {f : Addr} {fd : FuncData} (F : FnP K "dealt_best" "dealt_best" s_dealt_best f fd) (T : Txt K mg) (c_best_way : Cal P w K mg base "best_way" 3 ["rows", "copies", "dealt", "start"] (spBW)) (c_rows_by : Cal P w K mg base "rows_by" 9 ["wishes", "aim"] (spRows)) : FnOk P w K mg base CX0 10 f fd ["wishes", "aim"] (spDB) := by
  refine F.ok sc_dealt_best (fun vs H Q E h => ?_) (fun cdv A outer s H vs Q E hr h => ?_)
  · obtain ⟨a, b, w, o, ok, rfl, _⟩ := h
    rfl
  · have hu := hu_of hr
    have nd := sc_dealt_best.nd
    refine ⟨_, PSs.nox (pss_cons (ps_set (i := 2) nd rfl (Or.inl rfl) (pe_call c_rows_by.ok (hr.mono (by decide)) (by rfl) c_rows_by.g c_rows_by.kp c_rows_by.b .nil pass0 (pa_cons (pv 0) (pa_cons (pv 1) pa_nil))))
    (pss_cons (ps_setLc (i := 3) (own := [("row", 4)]) (g := (gName 4)) (tt := tYes) (te := (tC _)) (by rfl) nd rfl rfl (sw_true rfl rfl rfl (by decide +kernel)) (pi_list (pv 2)) (blkOk_by (own := [("row", 4)]) (N := N_dealt_best) (sc := defScope s_dealt_best) (by decide +kernel)) (fun _ _ _ _ _ => (pg_name (i := 4) nd rfl (Or.inl rfl))) (fun _ _ _ _ _ => pts_nil) (fun _ _ _ _ _ => pe_non))
    (pss_cons (ps_for PassesOwn.never rfl (pi_range1 rfl T.range (pa_cons (pe_callB call_len_seq (by rfl) T.len (by decide +kernel) (pa_cons (pv 2) pa_nil)) pa_nil)) (pg_name (i := 5) nd rfl (Or.inl rfl))
      (pss_one (ps_for PassesOwn.never rfl (pi_list (pe_call c_best_way.ok (hr.mono (by decide)) (by rfl) c_best_way.g c_best_way.kp c_best_way.b .nil pass0 (pa_cons (pv 2) (pa_cons (pe_ix ix_tup (pv 0) pe_int (fun _ _ => rfl)) (pa_cons (pv 3) (pa_cons (pv 5) pa_nil)))))) (pg_tup rfl (pgs_cons (pg_name (i := 6) nd rfl (Or.inl rfl)) (pgs_cons (pg_name (i := 7) nd rfl (Or.inl rfl)) pgs_nil)))
        (pss_one (ps_asg (pv 7) (pg_sub (pv 3) (pv 6) set_list))))))
    (pss_one (ps_ret (pv 3)))))), ?_⟩
    obtain ⟨a, b, w, o, ok, rfl, hW, hAim, q⟩ := h
    have m7 := ok.l7
    refine ⟨_, rfl, _, rfl, a, b, w, o, rfl, hW, ok, hAim, fun rw ds H1 hrw s1 hRw hRs => ?_⟩
    refine ⟨_, rfl, rw, rfl, ⟨_, SqL.of hRw⟩, fun D hD => ?_⟩
    refine lc_list (xs := ds.map V.ref) (fun i H' => Same H1 H' ∧ H' D = some (.lst ((List.replicate i Option.none).map onV))) ⟨same_new hD, upd_same⟩ (fun i H' _ ⟨s, _⟩ => SqL.of (s _ _ hRw)) ?_ ?_
    · rintro i x H' hx ⟨s, hL⟩
      have hi := lt_of_get hx
      rw [List.length_map, hRs.1] at hi
      refine ⟨rfl, yes_ ⟨_, hL, ?_, same_mut s hD, ?_⟩⟩
      · rw [List.length_map, List.length_replicate]
        exact sl100 (by omega)
      · rw [upd_same, List.replicate_succ', List.map_append]
        rfl
    rintro H2 ⟨s2, hL⟩
    rw [List.length_map, hRs.1] at hL
    have hD2 := s2 _ _ hRw
    refine ⟨_, rfl, rw, _, rfl, .inl (SqL.of hD2), ((ds.map V.ref).length : Int), rfl, ?_⟩
    rw [List.length_map, hRs.1]
    refine ⟨by omega, by omega, for_range (n := w.l.length) (fun k σ H' => ∃ v4 v5 v6 v7 d, σ = [some (.ref a), some (.ref b), some (.ref rw), some (.ref D), v4, v5, v6, v7] ∧ Same H1 H' ∧ H' D = some (.lst (d.map onV)) ∧ d.length = w.l.length ∧ ∃ u p, Dual (insW w o ok) k (dD d) u p)
      ⟨_, _, _, _, List.replicate w.l.length Option.none, rfl, s2, hL, List.length_replicate, _, _, dual_zero _ (fun t => by show (0 : Int) ≤ (w.c.getD t 0 : Int); omega) _ (dD_rep _)⟩ ?_ ?_⟩
    · rintro k σ H' hk ⟨v4, v5, v6, v7, d, rfl, sm, hDd, hdl, u, p, hdu⟩
      obtain ⟨c, l, hA, hC, _⟩ := hW.mono (s1.trans sm)
      refine ⟨_, rfl, _, rfl, a, _, 0, _, rfl, rfl, SqT.of hA, rfl, _, rfl, _, rfl, rw, c, D, ds, w, o, ok, d, k, u, p, (by show [V.ref rw, V.ref c, V.ref D, V.int (0 + (k : Int))] = _; rw [Int.zero_add]), sm _ _ hRw, hRs.mono sm, hC, hDd, hdl, hk, hdu, fun Hq q1 ws wy hq1 sq hq hwa hlt hdn => ?_⟩
      have nq : q1 ≠ D := (ne_of_none hDd hq1).symm
      have hDq := sq _ _ hDd
      refine ⟨q1, rfl, ⟨_, SqL.of hq⟩, for_list (xs := ws.map V.ref) (fun j σ H3 => ∃ v6 v7 d', σ = [some (.ref a), some (.ref b), some (.ref rw), some (.ref D), v4, some (.int (0 + (k : Int))), v6, v7] ∧ SameX [D] Hq H3 ∧ H3 D = some (.lst (d'.map onV)) ∧ d'.length = w.l.length ∧ dD d' = app (dD d) (wy.take j))
        ⟨_, _, d, rfl, SameX.refl _ _, hDq, hdl, rfl⟩ (fun i σ H3 _ ⟨_, _, _, _, s, _⟩ => SqL.of (s _ _ (by simp [nq]) hq)) ?_ ?_⟩
      · rintro j y σ H3 hy ⟨v6, v7, d', rfl, s3, hD3, hdl3, he3⟩
        obtain ⟨tw, htw, rfl⟩ := get_map hy
        have hj : j < wy.length := by rw [← hwa.1]; exact lt_of_get htw
        have hwj := List.getElem?_eq_getElem hj
        have hmem := List.getElem_mem hj
        generalize wy[j] = e at hwj hmem
        have hte := hwa.2 j tw e htw hwj
        have hte3 := s3 _ _ (by rw [List.mem_singleton]; exact ne_of hte hDq (by intro z; cases z)) hte
        have hbl := hlt e hmem
        refine ⟨tw, _, rfl, SqT.of hte3, rfl, _, _, rfl, _, _, rfl, rfl, ?_⟩
        refine ⟨_, rfl, _, rfl, _, rfl, D, _, _, e.1, rfl, rfl, hD3, ?_, _, _, d'.set e.1 e.2, rfl, s3.upd_in (by simp), ?_, ?_, ?_⟩
        · rw [List.length_map, hdl3]
          exact ixN_nat hbl
        · rw [upd_same, set_map]
        · rw [List.length_set, hdl3]
        · rw [dD_set _ (by rw [hdl3]; exact hbl), he3, take_snoc hwj, app_snoc]
      · rintro σ H3 ⟨v6, v7, d', rfl, s3, hD3, hdl3, he3⟩
        rw [List.length_map, hwa.1, List.take_length] at he3
        rw [← he3] at hdn
        obtain ⟨u', p', hdn⟩ := hdn
        refine ⟨_, _, _, _, d', rfl, SameX.same (sm.trans sq) s3 (fun b hb => ?_), hD3, hdl3, u', p', hdn⟩
        rw [List.mem_singleton] at hb
        rw [hb]
        exact hD
    · rintro σ H' ⟨v4, v5, v6, v7, d, rfl, sm, hDd, hdl, hdu⟩
      exact ⟨_, rfl, q D d H' (s1.free hD) (s1.trans sm) hDd hdl hdu⟩
end
end Wd
namespace Wd
open PySem PySem.Spec PyProof.Rows L2
def iD (P : List Int) (t : Nat) : Int := P.getD t 0
theorem iD_get {P : List Int} {t : Nat} (h : t < P.length) : P[t]? = some (iD P t) := by
  unfold iD
  rw [List.getD_eq_getElem?_getD, List.getElem?_eq_getElem h]
  rfl
theorem iD_set {P : List Int} {t : Nat} (x : Int) (h : t < P.length) : iD (P.set t x) = setP (iD P) t x := funext fun a => by
  unfold iD setP
  rw [List.getD_eq_getElem?_getD, List.getElem?_set]
  by_cases e : t = a
  · subst e
    rw [if_pos rfl, if_pos h, if_pos rfl]
    rfl
  · rw [if_neg e, if_neg fun z => e z.symm, ← List.getD_eq_getElem?_getD]
theorem iD_rep (n : Nat) : iD (List.replicate n 0) = fun _ => 0 := funext fun a => by
  unfold iD
  rw [List.getD_eq_getElem?_getD, List.getElem?_replicate]
  split <;> rfl
theorem dD_setO {d : List (Option Nat)} {b : Nat} (x : Nat) (h : b < d.length) : dD (d.set b (some x)) = setO (dD d) b x := dD_set (some x) h
/-- dicts of rows, locked or not -/
def RowsR (H : Hp) (ds : List Addr) (w : Wi) (o : Nat) : Prop := ds.length = w.l.length ∧ ∀ (i : Nat) (d : Addr), ds[i]? = some d → Rd H d (.dK (enc V.int (rowsN w o i)))
/-- prices' instance -/
structure PrAt (K : PySem.W.Frag) (H : Hp) (s rw de le pr ra : Addr) (ds : List Addr) (w : Wi) (o : Nat) (d : List (Option Nat)) (P : List Int) (R : List (Option Nat)) : Prop where
  ins : ∃ (dx : Addr) (fs : List (Str × V)), H s = some (.ins (He.ga K "Prices") dx fs) ∧
    (fl fs "rows" = some (.ref rw) ∧ fl fs "dealt" = some (.ref de) ∧ fl fs "left" = some (.ref le) ∧ fl fs "prices" = some (.ref pr) ∧ fl fs "raisers" = some (.ref ra)) ∧
    (fl fs "rest" = Option.none ∧ fl fs "chain" = Option.none ∧ fl fs "way_by" = Option.none ∧ fl fs "raised_by" = Option.none ∧ fl fs "settle" = Option.none ∧ fl fs "told" = Option.none)
  hRw : H rw = some (.lst (ds.map V.ref))
  hRows : RowsR H ds w o
  hDe : H de = some (.lst (d.map onV))
  hLe : H le = some (.lst ((leftL w.c (toI d)).map V.int))
  hPr : H pr = some (.lst (P.map V.int))
  hRa : H ra = some (.lst (R.map onV))
  pl : P.length = w.c.length
  rl : R.length = w.c.length
  ne : pr ≠ ra ∧ pr ≠ rw ∧ pr ≠ de ∧ pr ≠ le ∧ ra ≠ rw ∧ ra ≠ de ∧ ra ≠ le
theorem PrAt.go {K : PySem.W.Frag} {H H' : Hp} {s rw de le pr ra : Addr} {ds : List Addr} {w : Wi} {o : Nat} {d : List (Option Nat)} {P P' : List Int} {R R' : List (Option Nat)} (A : PrAt K H s rw de le pr ra ds w o d P R) (sx : SameX [pr, ra] H H')
    (h1 : H' pr = some (.lst (P'.map V.int))) (h2 : H' ra = some (.lst (R'.map onV))) (e1 : P'.length = P.length) (e2 : R'.length = R.length) : PrAt K H' s rw de le pr ra ds w o d P' R' := by
  obtain ⟨n1, n2, n3, n4, n5, n6, n7⟩ := A.ne
  obtain ⟨dx, fs, g1, g2, g3⟩ := A.ins
  have hs : s ∉ [pr, ra] := by
    simp only [List.mem_cons, List.not_mem_nil, or_false, not_or]
    exact ⟨ne_of g1 A.hPr (by intro z; cases z), ne_of g1 A.hRa (by intro z; cases z)⟩
  refine ⟨⟨dx, fs, sx _ _ hs g1, g2, g3⟩, sx _ _ (by simp [n2.symm, n5.symm]) A.hRw, ⟨A.hRows.1, fun i x e => ?_⟩, sx _ _ (by simp [n3.symm, n6.symm]) A.hDe, sx _ _ (by simp [n4.symm, n7.symm]) A.hLe, h1, h2, e1.trans A.pl, e2.trans A.rl, A.ne⟩
  refine sx.rd ?_ (A.hRows.2 i x e)
  have hr := A.hRows.2 i x e
  simp only [List.mem_cons, List.not_mem_nil, or_false, not_or]
  refine ⟨fun z => ?_, fun z => ?_⟩
  · rw [z] at hr
    rcases hr with hr | ⟨od, hr⟩
    · rw [A.hPr] at hr
      cases hr
    · rw [A.hPr] at hr
      cases hr
  · rw [z] at hr
    rcases hr with hr | ⟨od, hr⟩
    · rw [A.hRa] at hr
      cases hr
    · rw [A.hRa] at hr
      cases hr
theorem PrAt.mono {K : PySem.W.Frag} {H H' : Hp} {s rw de le pr ra : Addr} {ds : List Addr} {w : Wi} {o : Nat} {d : List (Option Nat)} {P : List Int} {R : List (Option Nat)} (sm : Same H H') (A : PrAt K H s rw de le pr ra ds w o d P R) : PrAt K H' s rw de le pr ra ds w o d P R :=
  A.go (SameX.of sm) (sm _ _ A.hPr) (sm _ _ A.hRa) rfl rfl
def spPI (K : PySem.W.Frag) : Sp := fun vs H Q _ => ∃ (s rw c e dx : Addr) (ds : List Addr) (w : Wi) (o : Nat) (d : List (Option Nat)), vs = [.ref s, .ref rw, .ref c, .ref e] ∧ w.Ok ∧ H s = some (.ins (He.ga K "Prices") dx []) ∧
  H rw = some (.lst (ds.map V.ref)) ∧ RowsD H ds w o ∧ H c = some (.lst (w.c.map nV)) ∧ H e = some (.lst (d.map onV)) ∧ (∀ (i t : Nat), d[i]? = some (some t) → t < w.c.length) ∧
  ∀ H' de le pr ra, SameX [s] H H' → (∀ b ∈ [pr, ra], H b = Option.none) → PrAt K H' s rw de le pr ra ds w o d (List.replicate w.c.length 0) (List.replicate w.c.length Option.none) → Q .non H'
def spRest (K : PySem.W.Frag) : Sp := fun vs H Q _ => ∃ (s rw de le pr ra : Addr) (ds : List Addr) (w : Wi) (o : Nat) (ok : w.Ok) (d : List (Option Nat)) (P : List Int) (R : List (Option Nat)) (a : Nat), vs = [.ref s, nV a] ∧
  PrAt K H s rw de le pr ra ds w o d P R ∧ d.length = w.l.length ∧ a < w.l.length ∧ (∀ t, dD d a = some t → ∃ x, wt w o a t = some x) ∧ Q (.int (rst (insW w o ok) (dD d) (iD P) a)) H
/-- how far a step is from the first one -/
def mC (R : List (Option Nat)) (rho : Nat → Nat) : Option Nat → Nat
  | some y => if dD R y = Option.none then 0 else rho y + 1
  | Option.none => 0
/-- within chain -/
structure ChK (H : Hp) (w : Wi) (d R : List (Option Nat)) (rho : Nat → Nat) (t : Nat) (ws : List Addr) (wy : Way) (h : Option Nat) : Prop where
  wa : WayAt H ws wy
  hd : (wy = [] ∧ h = some t) ∨ ∃ b x wy', wy = (b, x) :: wy' ∧ b < w.l.length ∧ dD d b = h ∧ h ≠ some t
  le : ∀ y, h = some y → dD R y ≠ Option.none → rho y ≤ rho t
  nd : (wy.map fun e => e.2.getD 0).Nodup
  lt : ∀ e ∈ wy, e.2.getD 0 < w.c.length ∧ ∀ y, h = some y → dD R y ≠ Option.none → rho y < rho (e.2.getD 0)
def spChain (K : PySem.W.Frag) : Sp := fun vs H Q _ => ∃ (s rw de le pr ra : Addr) (ds : List Addr) (w : Wi) (o : Nat) (ok : w.Ok) (d : List (Option Nat)) (P : List Int) (R : List (Option Nat)) (u p : Nat → Int) (st : Nat → Nat) (r t : Nat), vs = [.ref s, nV t] ∧
  PrAt K H s rw de le pr ra ds w o d P R ∧ d.length = w.l.length ∧ Dual (insW w o ok) w.l.length (dD d) u p ∧ Prc (insW w o ok) (dD d) p (iD P) (dD R) st r ∧ dD R t ≠ Option.none ∧
  ∀ H' q ws wy b x, Same H H' → H' q = some (.lst (ws.map V.ref)) → WayAt H' ws ((b, x) :: wy) → b < w.l.length → dD d b ≠ some t → Q (.ref q) H'
def spWB (K : PySem.W.Frag) : Sp := fun vs H Q _ => ∃ (s rw de le pr ra : Addr) (ds : List Addr) (w : Wi) (o : Nat) (ok : w.Ok) (d : List (Option Nat)) (P : List Int) (R : List (Option Nat)) (u p : Nat → Int) (st : Nat → Nat) (r t : Nat), vs = [.ref s, nV t] ∧
  PrAt K H s rw de le pr ra ds w o d P R ∧ d.length = w.l.length ∧ Dual (insW w o ok) w.l.length (dD d) u p ∧ Prc (insW w o ok) (dD d) p (iD P) (dD R) st r ∧ dD R t ≠ Option.none ∧ 0 < iD P t ∧
  ∀ H', Same H H' → Q .non H'
section
variable {P : Program} {w : World} {K : PySem.W.Frag} {mg : Str → Option Value} {base : Heap}
abbrev N_Prices_init : List Str := ["self", "rows", "copies", "dealt", "many"]
theorem sc_Prices_init : FnScope N_Prices_init ["self", "rows", "copies", "dealt"] (defScope s_Prices_init) := ⟨rfl, rfl, rfl, by decide +kernel, rfl, by decide +kernel, by decide +kernel⟩
theorem ok_Prices_init {f : Addr} {fd : FuncData} (F : FnP K "__init__" "Prices.__init__" s_Prices_init f fd) (T : Txt K mg) (c_left_by : Cal P w K mg base "left_by" 1 ["copies", "dealt"] (spLeftBy)) : FnOk P w K mg base CX0 2 f fd ["self", "rows", "copies", "dealt"] (spPI K) := by
  refine F.ok sc_Prices_init (fun vs H Q E h => ?_) (fun cdv A outer s H vs Q E hr h => ?_)
  · obtain ⟨s, rw, c, e, dx, ds, w, o, d, rfl, _⟩ := h
    rfl
  · have hu := hu_of hr
    have nd := sc_Prices_init.nd
    refine ⟨_, PSs.nox (pss_cons (ps_fld (pv 0) (pv 1) rfl)
    (pss_cons (ps_fld (pv 0) (pe_callTy call_list_of (by rfl) T.list (by decide +kernel) (pa_cons (pv 3) pa_nil)) rfl)
    (pss_cons (ps_fld (pv 0) (pe_call c_left_by.ok (hr.mono (by decide)) (by rfl) c_left_by.g c_left_by.kp c_left_by.b .nil pass0 (pa_cons (pv 2) (pa_cons (pv 3) pa_nil))) rfl)
    (pss_cons (ps_fld (pv 0) (pe_lc (own := [("many", 4)]) (g := (gName 4)) (tt := tYes) (te := (tC _)) (by rfl) nd (pi_list (pv 2)) (blkOk_by (own := [("many", 4)]) (N := N_Prices_init) (sc := defScope s_Prices_init) (by decide +kernel)) (fun _ _ _ _ _ => (pg_name (i := 4) nd rfl (Or.inl rfl))) (fun _ _ _ _ _ => pts_nil) (fun _ _ _ _ _ => pe_int)) rfl)
    (pss_one (ps_fld (pv 0) (pe_lc (own := [("many", 4)]) (g := (gName 4)) (tt := tYes) (te := (tC _)) (by rfl) nd (pi_list (pv 2)) (blkOk_by (own := [("many", 4)]) (N := N_Prices_init) (sc := defScope s_Prices_init) (by decide +kernel)) (fun _ _ _ _ _ => (pg_name (i := 4) nd rfl (Or.inl rfl))) (fun _ _ _ _ _ => pts_nil) (fun _ _ _ _ _ => pe_non)) rfl)))))), ?_⟩
    obtain ⟨s, rw, c, e, dx, ds, w, o, d, rfl, ok, hS, hR, hRs, hC, hE, hdt, q⟩ := h
    have n6 := ok.c6
    have ns : ∀ {b : Addr} {u : HO}, H b = some u → (∀ C dx fs, u ≠ .ins C dx fs) → b ∉ [s] := fun {b u} e hu => by
      rw [List.mem_singleton]
      exact ne_of e hS (hu _ _ _)
    refine ⟨_, rfl, _, rfl, s, _, dx, _, rfl, hS, T.cl_Prices, T.n_Prices_rows, by show 0 < 1000; decide, ?_⟩
    have l1 := length_putF "rows" (V.ref rw) []
    generalize hf1 : putF "rows" (V.ref rw) [] = f1 at l1
    have x1 : SameX [s] H (upd H s (.ins (He.ga K "Prices") dx f1)) := (SameX.refl _ _).upd_in (by simp)
    have e1 := upd_same (H := H) (a := s) (o := .ins (He.ga K "Prices") dx f1)
    generalize upd H s (.ins (He.ga K "Prices") dx f1) = H1 at x1 e1
    -- dealt
    have hE1 := x1 _ _ (ns hE (fun _ _ _ z => by cases z)) hE
    refine ⟨_, rfl, e, _, rfl, .inl (SqL.of hE1), fun de hde => ?_⟩
    have nde : s ≠ de := ne_of_none e1 hde
    have y2 : Same H1 (upd H1 de (.lst (d.map onV))) := same_new hde
    have a2 : upd H1 de (.lst (d.map onV)) de = some (.lst (d.map onV)) := upd_same
    generalize upd H1 de (.lst (d.map onV)) = H2 at y2 a2
    refine ⟨_, rfl, s, _, dx, _, rfl, y2 _ _ e1, T.cl_Prices, T.n_Prices_dealt, by simp at l1; omega, ?_⟩
    have l2 := length_putF "dealt" (V.ref de) f1
    generalize hf2 : putF "dealt" (V.ref de) f1 = f2 at l2
    have x3 : SameX [s] H (upd H2 s (.ins (He.ga K "Prices") dx f2)) := (x1.trans (SameX.of y2)).upd_in (by simp)
    have e3 := upd_same (H := H2) (a := s) (o := .ins (He.ga K "Prices") dx f2)
    have a3 : upd H2 s (.ins (He.ga K "Prices") dx f2) de = some (.lst (d.map onV)) := by rw [upd_ne nde.symm]; exact a2
    generalize upd H2 s (.ins (He.ga K "Prices") dx f2) = H3 at x3 e3 a3
    -- left
    refine ⟨_, rfl, _, rfl, c, e, w.c, d, rfl, x3 _ _ (ns hC (fun _ _ _ z => by cases z)) hC, x3 _ _ (ns hE (fun _ _ _ z => by cases z)) hE, by omega, hdt, fun le H4 hle y4 a4 => ?_⟩
    have nle : s ≠ le := ne_of_none e3 hle
    have e4 := y4 _ _ e3
    have b4 := y4 _ _ a3
    refine ⟨_, rfl, s, _, dx, _, rfl, e4, T.cl_Prices, T.n_Prices_left, by simp at l1; omega, ?_⟩
    have l3 := length_putF "left" (V.ref le) f2
    generalize hf3 : putF "left" (V.ref le) f2 = f3 at l3
    have x5 : SameX [s] H (upd H4 s (.ins (He.ga K "Prices") dx f3)) := (x3.trans (SameX.of y4)).upd_in (by simp)
    have e5 := upd_same (H := H4) (a := s) (o := .ins (He.ga K "Prices") dx f3)
    have a5 : upd H4 s (.ins (He.ga K "Prices") dx f3) le = some (.lst ((leftL w.c (toI d)).map V.int)) := by rw [upd_ne nle.symm]; exact a4
    have b5 : upd H4 s (.ins (He.ga K "Prices") dx f3) de = some (.lst (d.map onV)) := by rw [upd_ne nde.symm]; exact b4
    generalize upd H4 s (.ins (He.ga K "Prices") dx f3) = H5 at x5 e5 a5 b5
    -- prices
    have hC5 := x5 _ _ (ns hC (fun _ _ _ z => by cases z)) hC
    refine ⟨_, rfl, c, rfl, ⟨_, SqL.of hC5⟩, fun pr hpr => ?_⟩
    have npr : s ≠ pr := ne_of_none e5 hpr
    refine lc_list (xs := w.c.map nV) (fun i H' => Same H5 H' ∧ H' pr = some (.lst ((List.replicate i (0 : Int)).map V.int))) ⟨same_new hpr, upd_same⟩ (fun i H' _ ⟨s, _⟩ => SqL.of (s _ _ hC5)) ?_ ?_
    · rintro i x H' hx ⟨s, hL⟩
      have hi := lt_of_get hx
      rw [List.length_map] at hi
      refine ⟨rfl, yes_ ⟨_, hL, ?_, same_mut s hpr, ?_⟩⟩
      · rw [List.length_map, List.length_replicate]
        exact sl100 (by omega)
      · rw [upd_same, List.replicate_succ', List.map_append]
        rfl
    rintro H6 ⟨y6, c6⟩
    rw [List.length_map] at c6
    have e6 := y6 _ _ e5
    have a6 := y6 _ _ a5
    have b6 := y6 _ _ b5
    have x6 := x5.trans (SameX.of y6)
    refine ⟨_, rfl, s, _, dx, _, rfl, e6, T.cl_Prices, T.n_Prices_prices, by simp at l1; omega, ?_⟩
    have l4 := length_putF "prices" (V.ref pr) f3
    generalize hf4 : putF "prices" (V.ref pr) f3 = f4 at l4
    have x7 : SameX [s] H (upd H6 s (.ins (He.ga K "Prices") dx f4)) := x6.upd_in (by simp)
    have e7 := upd_same (H := H6) (a := s) (o := .ins (He.ga K "Prices") dx f4)
    have a7 : upd H6 s (.ins (He.ga K "Prices") dx f4) le = some (.lst ((leftL w.c (toI d)).map V.int)) := by rw [upd_ne nle.symm]; exact a6
    have b7 : upd H6 s (.ins (He.ga K "Prices") dx f4) de = some (.lst (d.map onV)) := by rw [upd_ne nde.symm]; exact b6
    have c7 : upd H6 s (.ins (He.ga K "Prices") dx f4) pr = some (.lst ((List.replicate w.c.length (0 : Int)).map V.int)) := by rw [upd_ne npr.symm]; exact c6
    generalize upd H6 s (.ins (He.ga K "Prices") dx f4) = H7 at x7 e7 a7 b7 c7
    -- raisers
    have hC7 := x7 _ _ (ns hC (fun _ _ _ z => by cases z)) hC
    refine ⟨_, rfl, c, rfl, ⟨_, SqL.of hC7⟩, fun ra hra => ?_⟩
    have nra : s ≠ ra := ne_of_none e7 hra
    refine lc_list (xs := w.c.map nV) (fun i H' => Same H7 H' ∧ H' ra = some (.lst ((List.replicate i (Option.none : Option Nat)).map onV))) ⟨same_new hra, upd_same⟩ (fun i H' _ ⟨s, _⟩ => SqL.of (s _ _ hC7)) ?_ ?_
    · rintro i x H' hx ⟨s, hL⟩
      have hi := lt_of_get hx
      rw [List.length_map] at hi
      refine ⟨rfl, yes_ ⟨_, hL, ?_, same_mut s hra, ?_⟩⟩
      · rw [List.length_map, List.length_replicate]
        exact sl100 (by omega)
      · rw [upd_same, List.replicate_succ', List.map_append]
        rfl
    rintro H8 ⟨y8, d8⟩
    rw [List.length_map] at d8
    have e8 := y8 _ _ e7
    have a8 := y8 _ _ a7
    have b8 := y8 _ _ b7
    have c8 := y8 _ _ c7
    have x8 := x7.trans (SameX.of y8)
    refine ⟨_, rfl, s, _, dx, _, rfl, e8, T.cl_Prices, T.n_Prices_raisers, by simp at l1; omega, ?_⟩
    have x9 : SameX [s] H (upd H8 s (.ins (He.ga K "Prices") dx (putF "raisers" (V.ref ra) f4))) := x8.upd_in (by simp)
    have hRi : ∀ (i : Nat) (b : Addr), ds[i]? = some b → b ∉ [s] := fun i b h => ns (hRs.2 i b h) (fun _ _ _ z => by cases z)
    have hR5 := x5 _ _ (ns hR (fun _ _ _ z => by cases z)) hR
    have hR7 := x7 _ _ (ns hR (fun _ _ _ z => by cases z)) hR
    refine q _ de le pr ra x9 (fun b hb => ?_) ⟨⟨dx, _, upd_same, ⟨?_, ?_, ?_, ?_, ?_⟩, ?_, ?_, ?_, ?_, ?_, ?_⟩, x9 _ _ (ns hR (fun _ _ _ z => by cases z)) hR, ⟨hRs.1, fun i b h => .inl (x9 _ _ (hRi i b h) (hRs.2 i b h))⟩, by rw [upd_ne nde.symm]; exact b8, by rw [upd_ne nle.symm]; exact a8, by rw [upd_ne npr.symm]; exact c8, by rw [upd_ne nra.symm]; exact d8, List.length_replicate, List.length_replicate,
      ⟨ne_of_none c7 hra, (ne_of_none hR5 hpr).symm, (ne_of_none b5 hpr).symm, (ne_of_none a5 hpr).symm, (ne_of_none hR7 hra).symm, (ne_of_none b7 hra).symm, (ne_of_none a7 hra).symm⟩⟩
    · simp only [List.mem_cons, List.not_mem_nil, or_false] at hb
      rcases hb with rfl | rfl
      · exact x5.free hpr (by simp [npr.symm])
      · exact x7.free hra (by simp [nra.symm])
    all_goals rw [← hf4, ← hf3, ← hf2, ← hf1]
    all_goals repeat (first | rw [lookup_putF, if_pos rfl] | rw [lookup_putF, if_neg (by decide +kernel)])
    all_goals rfl
abbrev N_Prices_rest : List Str := ["self", "asker", "thing"]
theorem sc_Prices_rest : FnScope N_Prices_rest ["self", "asker"] (defScope s_Prices_rest) := ⟨rfl, rfl, rfl, by decide +kernel, rfl, by decide +kernel, by decide +kernel⟩
theorem ok_Prices_rest {f : Addr} {fd : FuncData} (F : FnP K "rest" "Prices.rest" s_Prices_rest f fd) (T : Txt K mg)  : FnOk P w K mg base CX0 1 f fd ["self", "asker"] (spRest K) := by
  refine F.ok sc_Prices_rest (fun vs H Q E h => ?_) (fun cdv A outer s H vs Q E hr h => ?_)
  · obtain ⟨s, rw, de, le, pr, ra, ds, w, o, ok, d, Pl, R, a, rfl, _⟩ := h
    rfl
  · have hu := hu_of hr
    have nd := sc_Prices_rest.nd
    refine ⟨_, PSs.nox (pss_cons (ps_set (i := 2) nd rfl (Or.inl rfl) (pe_ix ix_list (pe_fld (pv 0) rfl) (pv 1) (fun _ _ => rfl)))
    (pss_cons (ps_if (pt_cmpR op_isN (pv 2) pe_non (nomark _))
      (pss_one (ps_ret pe_int))
      pss_nil)
    (pss_one (ps_ret (pe_op op_sub (pe_dget hu (pe_ix ix_list (pe_fld (pv 0) rfl) (pv 1) (fun _ _ => rfl)) (pv 2) (fun _ _ => rfl)) (pe_ix ix_list (pe_fld (pv 0) rfl) (pv 2) (fun _ _ => rfl))))))), ?_⟩
    obtain ⟨s, rw, de, le, pr, ra, ds, w, o, ok, d, Pl, R, a, rfl, hA, hdl, ha, hwi, q⟩ := h
    obtain ⟨dx, fs, hI, ⟨g1, g2, g3, g4, g5⟩, n1, n2, n3, n4, n5, n6⟩ := hA.ins
    have hda := get_dD (d := d) (a := a) (by omega)
    refine ⟨_, rfl, s, _, dx, _, _, rfl, hI, T.cl_Prices, T.n_Prices_dealt, g2, _, rfl, de, _, (a : Int), _, rfl, rfl, SqL.of hA.hDe, at_nat onV hda, ?_⟩
    cases e : dD d a with
    | none =>
      rw [rst_none e] at q
      exact ⟨_, rfl, rfl, _, rfl, ifT rfl q⟩
    | some t =>
      obtain ⟨x, hx⟩ := hwi t e
      have ht : t < w.c.length := (insW w o ok).wn a t x hx
      rw [rst_some (I := insW w o ok) e hx] at q
      have hds : a < ds.length := by rw [hA.hRows.1]; exact ha
      have hdd := List.getElem?_eq_getElem hds
      have hrow := hA.hRows.2 a _ hdd
      refine ⟨_, rfl, rfl, _, rfl, ifF rfl ?_⟩
      refine ⟨_, rfl, s, _, dx, _, _, rfl, hI, T.cl_Prices, T.n_Prices_rows, g1, _, rfl, rw, _, (a : Int), _, rfl, rfl, SqL.of hA.hRw, at_nat V.ref hdd, _, rfl, ds[a], _, rfl, dget_some hrow ((rowsN_lookup ok o a t).trans hx), _, rfl, s, _, dx, _, _, rfl, hI, T.cl_Prices, T.n_Prices_prices, g4, _, rfl, pr, _, (t : Int), _, rfl, rfl, SqL.of hA.hPr, at_nat V.int (iD_get (by rw [hA.pl]; exact ht)), _, _, rfl, rfl, q⟩
abbrev N_Prices_chain : List Str := ["self", "thing", "steps", "at", "asker"]
theorem sc_Prices_chain : FnScope N_Prices_chain ["self", "thing"] (defScope s_Prices_chain) := ⟨rfl, rfl, rfl, by decide +kernel, rfl, by decide +kernel, by decide +kernel⟩
theorem ok_Prices_chain {f : Addr} {fd : FuncData} (F : FnP K "chain" "Prices.chain" s_Prices_chain f fd) (T : Txt K mg)  : FnOk P w K mg base CX0 1 f fd ["self", "thing"] (spChain K) := by
  refine F.ok sc_Prices_chain (fun vs H Q E h => ?_) (fun cdv A outer s H vs Q E hr h => ?_)
  · obtain ⟨s, rw, de, le, pr, ra, ds, w, o, ok, d, Pl, R, u, p, st, r, t, rfl, _⟩ := h
    rfl
  · have hu := hu_of hr
    have nd := sc_Prices_chain.nd
    refine ⟨_, PSs.nox (pss_cons (ps_set (i := 2) nd rfl (Or.inl rfl) (pe_lst pa_nil))
    (pss_cons (ps_set (i := 3) nd rfl (Or.inl rfl) (pv 1))
    (pss_cons (ps_while PassesOwn.never (PW.pt (pw_and (pt_cmpR op_notN (pv 3) pe_non (nomark _)) (pw_and1 (pt_cmpR op_notN (pe_ix ix_list (pe_fld (pv 0) rfl) (pv 3) (fun _ _ => rfl)) pe_non (nomark _)))))
      (pss_cons (ps_set (i := 4) nd rfl (Or.inl rfl) (pe_ix ix_list (pe_fld (pv 0) rfl) (pv 3) (fun _ _ => rfl)))
      (pss_cons (ps_expr (pe_bm PySem.F.plainAttrs_list PySem.F.slot_list_insert PySem.F.type_list_insert mt_insert (pv 2) (pa_cons pe_int (pa_cons (pe_tup (pa_cons (pv 4) (pa_cons (pv 3) pa_nil))) pa_nil))))
      (pss_cons (ps_set (i := 3) nd rfl (Or.inl rfl) (pe_ix ix_list (pe_fld (pv 0) rfl) (pv 4) (fun _ _ => rfl)))
      (pss_one (ps_if (pt_cmpR op_eq (pv 3) (pv 1) (nomark _))
        pss_never
        pss_nil))))))
    (pss_one (ps_ret (pv 2)))))), ?_⟩
    obtain ⟨s, rw, de, le, pr, ra, ds, w, o, ok, d, Pl, R, u, p, st, r, t, rfl, hA, hdl, hdu, hpc, hRt, q⟩ := h
    obtain ⟨dx, fs, hI, ⟨g1, g2, g3, g4, g5⟩, n1, n2, n3, n4, n5, n6⟩ := hA.ins
    have n6' := ok.c6
    obtain ⟨rho, hrho⟩ : ∃ rho, rho = rhoP p (iD Pl) st r := ⟨_, rfl⟩
    refine ⟨Nat.zero_le _, fun q0 hq0 => ?_⟩
    have s1 : Same H (upd H q0 (.lst [])) := same_new hq0
    refine ⟨_, rfl, ?_⟩
    obtain ⟨Wn, hWn⟩ : ∃ Wn : Nat → L2.St → Hp → Prop, Wn = fun m σ H' => ∃ v4 ws wy h, σ = [some (.ref s), some (nV t), some (.ref q0), some (onV h), v4] ∧ Same H H' ∧ H' q0 = some (.lst (ws.map V.ref)) ∧ ChK H' w d R rho t ws wy h ∧ m = mC R rho h := ⟨_, rfl⟩
    refine ⟨Wn, ⟨mC R rho (some t), ?_⟩, ?_⟩
    · rw [hWn]
      exact ⟨_, [], [], some t, rfl, s1, upd_same, ⟨WayAt.nil, .inl ⟨rfl, rfl⟩, fun y e _ => (by cases e; exact Nat.le_refl _), List.nodup_nil, fun e he => by cases he⟩, rfl⟩
    intro m σ H1 hw
    rw [hWn] at hw
    obtain ⟨v4, ws, wy, h, rfl, sm, hq, ck, rfl⟩ := hw
    have hI1 := sm _ _ hI
    have fin : h ≠ some t ∨ (∃ y, h = some y ∧ dD R y = Option.none) → Q (.ref q0) H1 := fun z => by
      rcases ck.hd with ⟨rfl, rfl⟩ | ⟨b, x, wy', rfl, hb, e1, e2⟩
      · rcases z with z | ⟨y, e, z⟩
        · exact absurd rfl z
        · cases e
          exact absurd z hRt
      · exact q H1 q0 ws wy' b x sm hq ck.wa hb (by rw [e1]; exact e2)
    cases h with
    | none => exact ⟨_, rfl, rfl, _, rfl, ifF rfl (ifF rfl ⟨_, rfl, fin (.inl fun z => by cases z)⟩)⟩
    | some y =>
      have hy : y < w.c.length := by
        rcases ck.hd with ⟨_, e⟩ | ⟨b, x, wy', _, _, e1, _⟩
        · rw [Option.some.inj e]
          cases e2 : dD R t with
          | none => exact absurd e2 hRt
          | some a => exact (hpc.ra t a e2).1
        · obtain ⟨x0, hx0⟩ := hdu.wi b y e1
          exact (insW w o ok).wn b y x0 hx0
      have hRy := get_dD (d := R) (a := y) (by rw [hA.rl]; exact hy)
      have hRa1 := sm _ _ hA.hRa
      cases e : dD R y with
      | none =>
        rw [e] at hRy
        exact ⟨_, rfl, rfl, _, rfl, ifT rfl ⟨_, rfl, s, _, dx, _, _, rfl, hI1, T.cl_Prices, T.n_Prices_raisers, g5, _, rfl, ra, _, (y : Int), _, rfl, rfl, SqL.of hRa1, at_nat onV hRy, rfl, _, rfl, ifF rfl ⟨_, rfl, fin (.inr ⟨y, rfl, e⟩)⟩⟩⟩
      | some b =>
        rw [e] at hRy
        have hb : b < w.l.length := (hpc.ra y b e).2
        have hdb := get_dD (d := d) (a := b) (by rw [hdl]; exact hb)
        have hyn : dD R y ≠ Option.none := by rw [e]; intro z; cases z
        have hrt : ∀ y', dD d b = some y' → dD R y' ≠ Option.none → rho y' < rho y := fun y' e1 e2 => by
          rw [hrho]
          exact rhoP_lt hpc e e1 e2
        have hbt : dD d b ≠ some t := fun z => by
          have h1 := hrt t z hRt
          have h2 := ck.le y rfl hyn
          omega
        refine ⟨_, rfl, rfl, _, rfl, ifT rfl ⟨_, rfl, s, _, dx, _, _, rfl, hI1, T.cl_Prices, T.n_Prices_raisers, g5, _, rfl, ra, _, (y : Int), _, rfl, rfl, SqL.of hRa1, at_nat onV hRy, rfl, _, rfl, ifT rfl ⟨fun σ' H' => ∃ m', m' < mC R rho (some y) ∧ Wn m' σ' H', fun σ' H' h => h, ?_⟩⟩⟩
        refine ⟨_, rfl, s, _, dx, _, _, rfl, hI1, T.cl_Prices, T.n_Prices_raisers, g5, _, rfl, ra, _, (y : Int), _, rfl, rfl, SqL.of hRa1, at_nat onV hRy, ?_⟩
        refine ⟨_, rfl, .inl ⟨rfl, _, SqL.of hq⟩, _, rfl, _, rfl, by show 2 ≤ sizeLine; decide, fun T2 hT2 => ?_⟩
        have s2 : Same H1 (upd H1 T2 (.tup [onV (some b), onV (some y)])) := same_new hT2
        have hq2 := s2 _ _ hq
        have hT22 : upd H1 T2 (.tup [onV (some b), onV (some y)]) T2 = some (.tup [nV b, onV (some y)]) := upd_same
        refine ⟨q0, _, 0, .ref T2, rfl, rfl, hq2, ?_, by decide, by decide, ?_⟩
        · have h1 := sub_len (l2 := List.range w.c.length) ck.nd fun t' ht' => by
            obtain ⟨e', he', rfl⟩ := List.mem_map.mp ht'
            exact List.mem_range.mpr (ck.lt e' he').1
          rw [List.length_map, List.length_range] at h1
          have h2 := ck.wa.1
          rw [List.length_map]
          exact sl100 (by omega)
        have s3 : Same H (upd (upd H1 T2 (.tup [onV (some b), onV (some y)])) q0 (.lst (List.take (0 : Int).toNat (ws.map V.ref) ++ [V.ref T2] ++ List.drop (0 : Int).toNat (ws.map V.ref)))) := same_mut (sm.trans s2) hq0
        have hq3 : upd (upd H1 T2 (.tup [onV (some b), onV (some y)])) q0 (.lst (List.take (0 : Int).toNat (ws.map V.ref) ++ [V.ref T2] ++ List.drop (0 : Int).toNat (ws.map V.ref))) q0 = some (.lst ((T2 :: ws).map V.ref)) := upd_same
        have hwa3 : WayAt (upd (upd H1 T2 (.tup [onV (some b), onV (some y)])) q0 (.lst (List.take (0 : Int).toNat (ws.map V.ref) ++ [V.ref T2] ++ List.drop (0 : Int).toNat (ws.map V.ref)))) (T2 :: ws) ((b, some y) :: wy) := WayAt.upd hq2 (WayAt.cons (ck.wa.mono s2) hT22)
        generalize upd (upd H1 T2 (.tup [onV (some b), onV (some y)])) q0 (.lst (List.take (0 : Int).toNat (ws.map V.ref) ++ [V.ref T2] ++ List.drop (0 : Int).toNat (ws.map V.ref))) = H3 at s3 hq3 hwa3
        refine ⟨_, rfl, s, _, dx, _, _, rfl, s3 _ _ hI, T.cl_Prices, T.n_Prices_dealt, g2, _, rfl, de, _, (b : Int), _, rfl, rfl, SqL.of (s3 _ _ hA.hDe), at_nat onV hdb, ?_⟩
        refine ⟨_, rfl, _, rfl, scal_no _ _, _, rfl, ifF (decide_eq_false fun z => hbt (onV_inj (b := some t) z)) ⟨mC R rho (dD d b), ?_, ?_⟩⟩
        · show _ < if dD R y = Option.none then 0 else rho y + 1
          rw [if_neg hyn]
          cases e3 : dD d b with
          | none => exact Nat.succ_pos _
          | some y' =>
            show (if dD R y' = Option.none then 0 else rho y' + 1) < _
            by_cases z : dD R y' = Option.none
            · rw [if_pos z]
              exact Nat.succ_pos _
            · rw [if_neg z]
              have := hrt y' e3 z
              omega
        · rw [hWn]
          refine ⟨_, T2 :: ws, (b, some y) :: wy, dD d b, rfl, s3, hq3, ⟨hwa3, .inr ⟨b, some y, wy, rfl, hb, rfl, hbt⟩, fun y' e1 e2 => ?_, ?_, fun e' he' => ?_⟩, rfl⟩
          · have h1 := hrt y' e1 e2
            have h2 := ck.le y rfl hyn
            omega
          · show (y :: wy.map fun e => e.2.getD 0).Nodup
            refine List.nodup_cons.mpr ⟨fun hm => ?_, ck.nd⟩
            obtain ⟨e', he', ey⟩ := List.mem_map.mp hm
            have := (ck.lt e' he').2 y rfl hyn
            rw [ey] at this
            exact Nat.lt_irrefl _ this
          · rcases List.mem_cons.mp he' with rfl | he'
            · exact ⟨hy, fun y' e1 e2 => hrt y' e1 e2⟩
            · obtain ⟨h1, h2⟩ := ck.lt e' he'
              refine ⟨h1, fun y' e1 e2 => ?_⟩
              have h3 := hrt y' e1 e2
              have h4 := h2 y rfl hyn
              omega
abbrev N_Prices_way_by : List Str := ["self", "thing", "steps", "asker", "had"]
theorem sc_Prices_way_by : FnScope N_Prices_way_by ["self", "thing"] (defScope s_Prices_way_by) := ⟨rfl, rfl, rfl, by decide +kernel, rfl, by decide +kernel, by decide +kernel⟩
theorem ok_Prices_way_by {f : Addr} {fd : FuncData} (F : FnP K "way_by" "Prices.way_by" s_Prices_way_by f fd) (T : Txt K mg) (c_Prices_chain : CalM P w K mg base (He.ga K "Prices") "chain" 1 ["self", "thing"] (spChain K)) (c_Prices_rest : CalM P w K mg base (He.ga K "Prices") "rest" 1 ["self", "asker"] (spRest K)) : FnOk P w K mg base CX0 2 f fd ["self", "thing"] (spWB K) := by
  refine F.ok sc_Prices_way_by (fun vs H Q E h => ?_) (fun cdv A outer s H vs Q E hr h => ?_)
  · obtain ⟨s, rw, de, le, pr, ra, ds, w, o, ok, d, Pl, R, u, p, st, r, t, rfl, _⟩ := h
    rfl
  · have hu := hu_of hr
    have nd := sc_Prices_way_by.nd
    refine ⟨_, PSs.nox (pss_cons (ps_set (i := 2) nd rfl (Or.inl rfl) (pe_meth (pv 0) T.cl_Prices c_Prices_chain.m c_Prices_chain.ok (hr.mono (by decide)) c_Prices_chain.b .nil pass0 (pa_cons (pv 1) pa_nil)))
    (pss_cons (ps_if (PW.pt (pw_or (pt_cmpR op_gt (pe_ix ix_list (pe_fld (pv 0) rfl) (pv 1) (fun _ _ => rfl)) pe_int (nomark _)) (pw_or1 (pt_cmpR op_eq (pe_ix ix_list (pe_fld (pv 0) rfl) (pe_ix ix_tup (pe_ix ix_list (pv 2) pe_int (fun _ _ => rfl)) pe_int (fun _ _ => rfl)) (fun _ _ => rfl)) (pv 1) (nomark _)))))
      pss_never
      pss_nil)
    (pss_cons (ps_for PassesOwn.never rfl (pi_enum (by rfl) T.enumerate (pa_cons (pe_fld (pv 0) rfl) pa_nil)) (pg_tup rfl (pgs_cons (pg_name (i := 3) nd rfl (Or.inl rfl)) (pgs_cons (pg_name (i := 4) nd rfl (Or.inl rfl)) pgs_nil)))
      (pss_one (ps_if (PW.pt (pw_and (pt_cmpR op_eq (pv 4) (pv 1) (nomark _)) (pw_and1 (pt_cmpR op_lt (pe_meth (pv 0) T.cl_Prices c_Prices_rest.m c_Prices_rest.ok (hr.mono (by decide)) c_Prices_rest.b .nil pass0 (pa_cons (pv 3) pa_nil)) pe_int (nomark _)))))
        pss_never
        pss_nil)))
    (pss_one (ps_ret pe_non))))), ?_⟩
    obtain ⟨s, rw, de, le, pr, ra, ds, w, o, ok, d, Pl, R, u, p, st, r, t, rfl, hA, hdl, hdu, hpc, hRt, hPt, q⟩ := h
    obtain ⟨dx, fs, hI, ⟨g1, g2, g3, g4, g5⟩, n1, n2, n3, n4, n5, n6⟩ := hA.ins
    have ht : t < w.c.length := by
      cases e2 : dD R t with
      | none => exact absurd e2 hRt
      | some a => exact (hpc.ra t a e2).1
    refine ⟨_, rfl, s, dx, _, rfl, hI, n2, _, rfl, s, rw, de, le, pr, ra, ds, w, o, ok, d, Pl, R, u, p, st, r, t, rfl, hA, hdl, hdu, hpc, hRt, fun H1 q0 ws wy b x s1 hq hwa hb hdb => ?_⟩
    have hA1 := hA.mono s1
    have hI1 := s1 _ _ hI
    have hbg := get_dD (d := d) (a := b) (by rw [hdl]; exact hb)
    obtain ⟨q', ws', rfl⟩ : ∃ q0 ws', ws = q0 :: ws' := by
      cases ws with
      | nil =>
        have := hwa.1
        simp at this
      | cons q0 ws' => exact ⟨_, _, rfl⟩
    have hq' := hwa.2 0 q' (b, x) rfl rfl
    have get0 : atI ((q' :: ws').map V.ref) (0 : Int) = some (.ref q') := at_nat V.ref (xs := q' :: ws') (i := 0) (x := q') rfl
    have hfull := full_of hdu hpc (by exact ht) hPt
    rw [cnt_dD (by exact hdl) t] at hfull
    have hfull : ¬ ((d.count (some t) : Nat) : Int) < (w.c.getD t 0 : Int) := hfull
    refine ⟨_, rfl, s, _, dx, _, _, rfl, hI1, T.cl_Prices, T.n_Prices_left, g3, _, rfl, le, _, (t : Int), _, rfl, rfl, SqL.of hA1.hLe, at_nat V.int (leftL_get ht), _, _, rfl, rfl, _, rfl, ifF (decide_eq_false (by omega)) ?_⟩
    refine ⟨_, rfl, s, _, dx, _, _, rfl, hI1, T.cl_Prices, T.n_Prices_dealt, g2, _, rfl, q0, _, (0 : Int), _, rfl, rfl, SqL.of hq, get0, q', _, 0, _, rfl, rfl, SqT.of hq', rfl, de, _, (b : Int), _, rfl, rfl, SqL.of hA1.hDe, at_nat onV hbg, _, rfl, scal_no _ _, _, rfl, ifF (decide_eq_false fun z => hdb (onV_inj (b := some t) z)) ?_⟩
    refine ⟨_, rfl, s, _, dx, _, _, rfl, hI1, T.cl_Prices, T.n_Prices_dealt, g2, de, _, rfl, SqL.of hA1.hDe, for_enum (fun i σ H' => ∃ v3 v4, σ = [some (.ref s), some (nV t), some (.ref q0), v3, v4] ∧ Same H1 H')
      ⟨_, _, rfl, Same.refl _⟩ (fun i σ H' _ ⟨_, _, _, sm⟩ => SqL.of (sm _ _ hA1.hDe)) ?_ ?_⟩
    · rintro i y Ti σ H' hy ⟨v3, v4, rfl, sm⟩ hTi
      obtain ⟨x', hx', rfl⟩ := get_map hy
      have hi : i < w.l.length := by rw [← hdl]; exact lt_of_get hx'
      have s4 := same_and (o := .tup [.int (i : Int), onV x']) sm hTi
      have hA4 := hA1.mono s4
      have hI4 := s4 _ _ hI1
      refine pair_to ?_
      generalize upd H' Ti (.tup [.int (i : Int), onV x']) = H4 at s4 hA4 hI4
      refine ⟨_, rfl, _, rfl, scal_no _ _, _, rfl, if2 (fun h => ?_) fun h => ifF rfl ⟨_, _, rfl, s4⟩⟩
      have hge := rst_nn hdu hpc (a := i) (by exact hi)
      exact ⟨_, rfl, s, dx, _, rfl, hI4, n1, _, rfl, s, rw, de, le, pr, ra, ds, w, o, ok, d, Pl, R, i, rfl, hA4, hdl, hi, fun t' e => hdu.wi i t' e, _, _, rfl, rfl, _, rfl, ifF (decide_eq_false (by omega)) ⟨_, _, rfl, s4⟩⟩
    · rintro σ H' ⟨v3, v4, rfl, sm⟩
      exact q H' (s1.trans sm)
end
end Wd
namespace Wd
open PySem PySem.Spec PyProof.Rows L2
theorem RowsD.rd {H : Hp} {ds : List Addr} {w : Wi} {o : Nat} (h : RowsD H ds w o) : RowsR H ds w o := ⟨h.1, fun i d e => .inl (h.2 i d e)⟩
/-- with one row locked -/
theorem PrAt.lock {K : PySem.W.Frag} {H : Hp} {s rw de le pr ra : Addr} {ds : List Addr} {w : Wi} {o : Nat} {d : List (Option Nat)} {P : List Int} {R : List (Option Nat)} {a : Nat} {dd : Addr} {od : Obj} (A : PrAt K H s rw de le pr ra ds w o d P R) (hR : RowsD H ds w o) (ha : ds[a]? = some dd) :
    PrAt K (upd H dd (.frz od (.dK (enc V.int (rowsN w o a))))) s rw de le pr ra ds w o d P R := by
  have hd := hR.2 a dd ha
  have gen : ∀ {b : Addr} {u : HO}, H b = some u → (∀ xs, u ≠ .dK xs) → upd H dd (.frz od (.dK (enc V.int (rowsN w o a)))) b = some u := fun {b u} e hu => by
    rw [upd_ne (ne_of e hd (hu _))]
    exact e
  obtain ⟨dx, fs, g1, g2, g3⟩ := A.ins
  refine ⟨⟨dx, fs, gen g1 (fun _ z => by cases z), g2, g3⟩, gen A.hRw (fun _ z => by cases z), ⟨hR.1, fun i x e => ?_⟩, gen A.hDe (fun _ z => by cases z), gen A.hLe (fun _ z => by cases z), gen A.hPr (fun _ z => by cases z), gen A.hRa (fun _ z => by cases z), A.pl, A.rl, A.ne⟩
  by_cases q : x = dd
  · subst q
    have := hR.2 i x e
    rw [hd] at this
    refine .inr ⟨od, ?_⟩
    rw [upd_same]
    injection this with this
    injection this with this
    rw [this]
  · refine .inl ?_
    rw [upd_ne q]
    exact hR.2 i x e
def spRB (K : PySem.W.Frag) : Sp := fun vs H Q _ => ∃ (s rw de le pr ra : Addr) (ds : List Addr) (w : Wi) (o : Nat) (ok : w.Ok) (d : List (Option Nat)) (P : List Int) (R : List (Option Nat)) (u p : Nat → Int) (st : Nat → Nat) (r a : Nat), vs = [.ref s, nV a] ∧
  PrAt K H s rw de le pr ra ds w o d P R ∧ RowsD H ds w o ∧ d.length = w.l.length ∧ Dual (insW w o ok) w.l.length (dD d) u p ∧ Prc (insW w o ok) (dD d) p (iD P) (dD R) st r ∧ a < w.l.length ∧
  ∀ H' T P' R' st' r' raised, SameX [pr, ra] H H' → RowsD H' ds w o → PrAt K H' s rw de le pr ra ds w o d P' R' → H' T = some (.tup [.bl raised, .non]) → Prc (insW w o ok) (dD d) p (iD P') (dD R') st' r' →
    (∀ t, t < w.c.length → iD P t ≤ iD P' t) → (raised = true → ∃ t, t < w.c.length ∧ iD P t < iD P' t) →
    (raised = false → P' = P ∧ ∀ t x, wt w o a t = some x → x - rst (insW w o ok) (dD d) (iD P) a ≤ iD P t) → Q (.ref T) H'
def spSet (K : PySem.W.Frag) : Sp := fun vs H Q _ => ∃ (s rw de le pr ra : Addr) (ds : List Addr) (w : Wi) (o : Nat) (ok : w.Ok) (d : List (Option Nat)) (P : List Int) (R : List (Option Nat)) (u p : Nat → Int) (st : Nat → Nat) (r : Nat), vs = [.ref s] ∧
  PrAt K H s rw de le pr ra ds w o d P R ∧ RowsD H ds w o ∧ d.length = w.l.length ∧ Dual (insW w o ok) w.l.length (dD d) u p ∧ Prc (insW w o ok) (dD d) p (iD P) (dD R) st r ∧
  ∀ H' P' R', SameX [pr, ra] H H' → PrAt K H' s rw de le pr ra ds w o d P' R' → Dual (insW w o ok) w.l.length (dD d) (rst (insW w o ok) (dD d) (iD P')) (iD P') → Q .non H'
def spTold (K : PySem.W.Frag) : Sp := fun vs H Q _ => ∃ (s rw de le pr ra : Addr) (ds : List Addr) (w : Wi) (o : Nat) (ok : w.Ok) (d : List (Option Nat)) (P : List Int) (R : List (Option Nat)), vs = [.ref s] ∧
  PrAt K H s rw de le pr ra ds w o d P R ∧ d.length = w.l.length ∧ (∀ a t, dD d a = some t → ∃ x, wt w o a t = some x) ∧
  ∀ H' T as ps, Same H H' → H' T = some (.tup [.int 1, .ref as, .ref ps]) → H' as = some (.lst (((List.range w.l.length).map (rst (insW w o ok) (dD d) (iD P))).map V.int)) → H' ps = some (.lst (P.map V.int)) → Q (.ref T) H'
section
variable {P : Program} {w : World} {K : PySem.W.Frag} {mg : Str → Option Value} {base : Heap}
abbrev N_Prices_raised_by : List Str := ["self", "asker", "raised", "thing", "worth", "price", "way"]
theorem sc_Prices_raised_by : FnScope N_Prices_raised_by ["self", "asker"] (defScope s_Prices_raised_by) := ⟨rfl, rfl, rfl, by decide +kernel, rfl, by decide +kernel, by decide +kernel⟩
theorem ok_Prices_raised_by {f : Addr} {fd : FuncData} (F : FnP K "raised_by" "Prices.raised_by" s_Prices_raised_by f fd) (T : Txt K mg) (c_Prices_rest : CalM P w K mg base (He.ga K "Prices") "rest" 1 ["self", "asker"] (spRest K)) (c_Prices_way_by : CalM P w K mg base (He.ga K "Prices") "way_by" 2 ["self", "thing"] (spWB K)) : FnOk P w K mg base CX0 3 f fd ["self", "asker"] (spRB K) := by
  refine F.ok sc_Prices_raised_by (fun vs H Q E h => ?_) (fun cdv A outer s H vs Q E hr h => ?_)
  · obtain ⟨s, rw, de, le, pr, ra, ds, w, o, ok, d, Pl, R, u, p, st, r, a, rfl, _⟩ := h
    rfl
  · have hu := hu_of hr
    have nd := sc_Prices_raised_by.nd
    refine ⟨_, PSs.nox (pss_cons (ps_set (i := 2) nd rfl (Or.inl rfl) pe_bl)
    (pss_cons (ps_lock (ps_for PassesOwn.never rfl (pi_items (pe_ix ix_list (pe_fld (pv 0) rfl) (pv 1) (fun _ _ => rfl))) (pg_tup rfl (pgs_cons (pg_name (i := 3) nd rfl (Or.inl rfl)) (pgs_cons (pg_name (i := 4) nd rfl (Or.inl rfl)) pgs_nil)))
      (pss_cons (ps_set (i := 5) nd rfl (Or.inl rfl) (pe_op op_sub (pv 4) (pe_meth (pv 0) T.cl_Prices c_Prices_rest.m c_Prices_rest.ok (hr.mono (by decide)) c_Prices_rest.b .nil pass0 (pa_cons (pv 1) pa_nil))))
      (pss_one (ps_if (pt_cmpR op_gt (pv 5) (pe_ix ix_list (pe_fld (pv 0) rfl) (pv 3) (fun _ _ => rfl)) (nomark _))
        (pss_cons (ps_asg (pv 5) (pg_sub (pe_fld (pv 0) rfl) (pv 3) set_list))
        (pss_cons (ps_asg (pv 1) (pg_sub (pe_fld (pv 0) rfl) (pv 3) set_list))
        (pss_cons (ps_set (i := 2) nd rfl (Or.inl rfl) pe_bl)
        (pss_cons (ps_set (i := 6) nd rfl (Or.inl rfl) (pe_meth (pv 0) T.cl_Prices c_Prices_way_by.m c_Prices_way_by.ok (hr.mono (by decide)) c_Prices_way_by.b .nil pass0 (pa_cons (pv 3) pa_nil)))
        (pss_one (ps_if (pt_cmpR op_notN (pv 6) pe_non (nomark _))
          (pss_one ps_never)
          pss_nil))))))
        pss_nil)))))
    (pss_one (ps_ret (pe_tup (pa_cons (pv 2) (pa_cons pe_non pa_nil))))))), ?_⟩
    obtain ⟨s, rw, de, le, pr, ra, ds, w, o, ok, d, Pl, R, u, p, st, r, a, rfl, hA, hRs, hdl, hdu, hpc, ha, q⟩ := h
    obtain ⟨dx, fs, hI, ⟨g1, g2, g3, g4, g5⟩, n1, n2, n3, n4, n5, n6⟩ := hA.ins
    have hds : a < ds.length := by rw [hRs.1]; exact ha
    have hdd := List.getElem?_eq_getElem hds
    generalize ds[a] = dd at hdd
    have hrow := hRs.2 a dd hdd
    refine ⟨dd, .dK (enc V.int (rowsN w o a)), hrow, trivial, fun od => ?_⟩
    have hAl := hA.lock (od := od) hRs hdd
    have hIl : upd H dd (.frz od (.dK (enc V.int (rowsN w o a)))) s = some (.ins (He.ga K "Prices") dx fs) := by
      rw [upd_ne (ne_of hI hrow (by intro z; cases z))]
      exact hI
    have nis : s ∉ [pr, ra] := by
      simp only [List.mem_cons, List.not_mem_nil, or_false, not_or]
      exact ⟨ne_of hI hA.hPr (by intro z; cases z), ne_of hI hA.hRa (by intro z; cases z)⟩
    have ndd : dd ∉ [pr, ra] := by
      simp only [List.mem_cons, List.not_mem_nil, or_false, not_or]
      exact ⟨ne_of hrow hA.hPr (by intro z; cases z), ne_of hrow hA.hRa (by intro z; cases z)⟩
    refine ⟨_, rfl, s, _, dx, _, _, rfl, hIl, T.cl_Prices, T.n_Prices_rows, g1, _, rfl, rw, _, (a : Int), _, rfl, rfl, SqL.of hAl.hRw, at_nat V.ref hdd, dd, od, _, rfl, upd_same, ?_⟩
    refine for_items (fun j σ H' => ∃ v3 v4 v5 v6 raised P' R' st' r', σ = [some (.ref s), some (nV a), some (.bl raised), v3, v4, v5, v6] ∧ SameX [pr, ra] (upd H dd (.frz od (.dK (enc V.int (rowsN w o a))))) H' ∧ PrAt K H' s rw de le pr ra ds w o d P' R' ∧ Prc (insW w o ok) (dD d) p (iD P') (dD R') st' r' ∧
        (∀ t, t < w.c.length → iD Pl t ≤ iD P' t) ∧ (raised = true → ∃ t, t < w.c.length ∧ iD Pl t < iD P' t) ∧
        (raised = false → P' = Pl ∧ ∀ (j' t : Nat) (x : Int), j' < j → (rowsN w o a)[j']? = some (t, x) → x - rst (insW w o ok) (dD d) (iD Pl) a ≤ iD Pl t))
      ⟨_, _, _, _, false, Pl, R, st, r, rfl, SameX.refl _ _, hAl, hpc, fun t _ => Int.le_refl _, (fun z => by cases z), fun _ => ⟨rfl, fun j' t x h => absurd h (Nat.not_lt_zero _)⟩⟩ (fun i σ H' _ ⟨_, _, _, _, _, _, _, _, _, _, sx, _⟩ => sx _ _ ndd upd_same) ?_ ?_
    · rintro j t x Ti σ H1 hj ⟨v3, v4, v5, v6, raised, P', R', st', r', rfl, sx, hA1, hpc1, hmo, hrt, hrf⟩ hTi
      have s2 : Same H1 (upd H1 Ti (.tup [nV t, .int x])) := same_new hTi
      have hT2 : upd H1 Ti (.tup [nV t, .int x]) Ti = some (.tup [nV t, .int x]) := upd_same
      have hA2 := hA1.mono s2
      have sx2 := sx.trans (SameX.of s2)
      refine ⟨Ti, _, rfl, SqT.of hT2, rfl, _, _, rfl, _, _, rfl, rfl, ?_⟩
      generalize upd H1 Ti (.tup [nV t, .int x]) = H2 at s2 hA2 sx2
      have hw : wt w o a t = some x := (rowsN_mem ok).mp (List.mem_of_getElem? hj)
      have ht : t < w.c.length := (insW w o ok).wn a t x hw
      have hI2 := sx2 _ _ nis hIl
      have hP't := iD_get (P := P') (t := t) (by rw [hA2.pl]; exact ht)
      refine ⟨_, rfl, _, rfl, s, dx, _, rfl, hI2, n1, _, rfl, s, rw, de, le, pr, ra, ds, w, o, ok, d, P', R', a, rfl, hA2, hdl, ha, fun t' e => hdu.wi a t' e, _, _, rfl, rfl, ?_⟩
      refine ⟨_, rfl, _, rfl, s, _, dx, _, _, rfl, hI2, T.cl_Prices, T.n_Prices_prices, g4, _, rfl, pr, _, (t : Int), _, rfl, rfl, SqL.of hA2.hPr, at_nat V.int hP't, _, _, rfl, rfl, _, rfl, if2 (fun h => ?_) fun h => ?_⟩
      · have hg := of_decide_eq_true h
        have hps := prc_step (x := x) hdu hpc1 (a := a) (t := t) (by exact ha) hw hg
        have lP : t < P'.length := by rw [hA2.pl]; exact ht
        have lR : t < R'.length := by rw [hA2.rl]; exact ht
        rw [← iD_set _ lP, ← dD_setO _ lR] at hps
        have hpn := hpc1.p0 t ht
        refine ⟨_, rfl, _, rfl, s, _, dx, _, _, rfl, hI2, T.cl_Prices, T.n_Prices_prices, g4, _, rfl, pr, _, _, t, rfl, rfl, hA2.hPr, ?_, ?_⟩
        · rw [List.length_map]
          exact ixN_nat lP
        rw [set_map V.int]
        have x3 : SameX [pr, ra] H2 (upd H2 pr (.lst ((P'.set t (x - rst (insW w o ok) (dD d) (iD P') a)).map V.int))) := (SameX.refl _ _).upd_in (by simp)
        have hI3 := x3 _ _ nis hI2
        have hR3 : upd H2 pr (.lst ((P'.set t (x - rst (insW w o ok) (dD d) (iD P') a)).map V.int)) ra = some (.lst (R'.map onV)) := by
          rw [upd_ne hA.ne.1.symm]
          exact hA2.hRa
        have hP3 : upd H2 pr (.lst ((P'.set t (x - rst (insW w o ok) (dD d) (iD P') a)).map V.int)) pr = some (.lst ((P'.set t (x - rst (insW w o ok) (dD d) (iD P') a)).map V.int)) := upd_same
        generalize upd H2 pr (.lst ((P'.set t (x - rst (insW w o ok) (dD d) (iD P') a)).map V.int)) = H3 at x3 hI3 hR3 hP3
        refine ⟨_, rfl, _, rfl, s, _, dx, _, _, rfl, hI3, T.cl_Prices, T.n_Prices_raisers, g5, _, rfl, ra, _, _, t, rfl, rfl, hR3, ?_, ?_⟩
        · rw [List.length_map]
          exact ixN_nat lR
        have e4 : (R'.map onV).set t (nV a) = (R'.set t (some a)).map onV := set_map onV R' t (some a)
        rw [e4]
        have x4 : SameX [pr, ra] H2 (upd H3 ra (.lst ((R'.set t (some a)).map onV))) := x3.upd_in (by simp)
        have hR4 : upd H3 ra (.lst ((R'.set t (some a)).map onV)) ra = some (.lst ((R'.set t (some a)).map onV)) := upd_same
        have hP4 : upd H3 ra (.lst ((R'.set t (some a)).map onV)) pr = some (.lst ((P'.set t (x - rst (insW w o ok) (dD d) (iD P') a)).map V.int)) := by
          rw [upd_ne hA.ne.1]
          exact hP3
        generalize upd H3 ra (.lst ((R'.set t (some a)).map onV)) = H4 at x4 hR4 hP4
        have hA4 := hA2.go x4 hP4 hR4 (List.length_set ..) (List.length_set ..)
        have hI4 := x4 _ _ nis hI2
        have hmo4 : ∀ t', t' < w.c.length → iD Pl t' ≤ iD (P'.set t (x - rst (insW w o ok) (dD d) (iD P') a)) t' := fun t' ht' => by
          have := hmo t' ht'
          rw [iD_set _ lP]
          by_cases z : t' = t
          · subst z
            rw [setP_same]
            omega
          · rw [setP_ne _ _ z]
            exact this
        have hlt4 : iD Pl t < iD (P'.set t (x - rst (insW w o ok) (dD d) (iD P') a)) t := by
          have := hmo t ht
          rw [iD_set _ lP, setP_same]
          omega
        refine ⟨_, rfl, s, dx, _, rfl, hI4, n3, _, rfl, s, rw, de, le, pr, ra, ds, w, o, ok, d, _, _, u, p, _, _, t, rfl, hA4, hdl, hdu, hps, ?_, ?_, fun H5 s5 => ?_⟩
        · rw [dD_setO _ lR, setO_same]
          intro z
          cases z
        · rw [iD_set _ lP, setP_same]
          omega
        · refine ⟨_, rfl, rfl, _, rfl, ifF rfl ⟨_, _, _, _, true, _, _, _, _, rfl, (sx2.trans x4).trans (SameX.of s5), hA4.mono s5, hps, hmo4, fun _ => ⟨t, ht, hlt4⟩, fun z => by cases z⟩⟩
      · have hg := of_decide_eq_false h
        refine ⟨_, _, _, _, raised, P', R', st', r', rfl, sx2, hA2, hpc1, hmo, hrt, fun z => ?_⟩
        obtain ⟨rfl, h2⟩ := hrf z
        refine ⟨rfl, fun j' t' x' hj' e => ?_⟩
        by_cases z2 : j' = j
        · subst z2
          rw [hj] at e
          cases e
          omega
        · exact h2 j' t' x' (by omega) e
    · rintro σ H1 ⟨v3, v4, v5, v6, raised, P', R', st', r', rfl, sx, hA1, hpc1, hmo, hrt, hrf⟩
      refine ⟨sx _ _ ndd upd_same, ?_⟩
      have x2 := SameX.lock hrow sx
      have e1 : ∀ {b : Addr} {u : HO}, H1 b = some u → (∀ od' xs, u ≠ .frz od' xs) → upd H1 dd (.dK (enc V.int (rowsN w o a))) b = some u := fun {b u} e hu => by
        rw [upd_ne (ne_of e (sx _ _ ndd upd_same) (hu _ _))]
        exact e
      have hA2 := hA.go x2 (e1 hA1.hPr (fun _ _ z => by cases z)) (e1 hA1.hRa (fun _ _ z => by cases z)) (hA1.pl.trans hA.pl.symm) (hA1.rl.trans hA.rl.symm)
      have hRs2 : RowsD (upd H1 dd (.dK (enc V.int (rowsN w o a)))) ds w o := ⟨hRs.1, fun i b e => x2 _ _ (by
        simp only [List.mem_cons, List.not_mem_nil, or_false, not_or]
        exact ⟨ne_of (hRs.2 i b e) hA.hPr (by intro z; cases z), ne_of (hRs.2 i b e) hA.hRa (by intro z; cases z)⟩) (hRs.2 i b e)⟩
      generalize upd H1 dd (.dK (enc V.int (rowsN w o a))) = H2 at x2 hA2 hRs2
      refine ⟨_, rfl, by show 2 ≤ sizeLine; decide, fun T2 hT2 => ?_⟩
      have s3 : Same H2 (upd H2 T2 (.tup [.bl raised, .non])) := same_new hT2
      refine q _ T2 P' R' st' r' raised (x2.trans (SameX.of s3)) (hRs2.mono s3) (hA2.mono s3) upd_same hpc1 hmo hrt fun z => ?_
      obtain ⟨h1, h2⟩ := hrf z
      refine ⟨h1, fun t x hx => ?_⟩
      obtain ⟨j', hj', e⟩ := List.mem_iff_getElem.mp ((rowsN_mem ok).mpr hx)
      exact h2 j' t x hj' (by rw [← e]; exact List.getElem?_eq_getElem hj')
abbrev N_Prices_settle : List Str := ["self", "raised", "asker", "more", "way"]
theorem sc_Prices_settle : FnScope N_Prices_settle ["self"] (defScope s_Prices_settle) := ⟨rfl, rfl, rfl, by decide +kernel, rfl, by decide +kernel, by decide +kernel⟩
theorem ok_Prices_settle {f : Addr} {fd : FuncData} (F : FnP K "settle" "Prices.settle" s_Prices_settle f fd) (T : Txt K mg) (c_Prices_raised_by : CalM P w K mg base (He.ga K "Prices") "raised_by" 3 ["self", "asker"] (spRB K)) : FnOk P w K mg base CX0 4 f fd ["self"] (spSet K) := by
  refine F.ok sc_Prices_settle (fun vs H Q E h => ?_) (fun cdv A outer s H vs Q E hr h => ?_)
  · obtain ⟨s, rw, de, le, pr, ra, ds, w, o, ok, d, Pl, R, u, p, st, r, rfl, _⟩ := h
    rfl
  · have hu := hu_of hr
    have nd := sc_Prices_settle.nd
    refine ⟨_, PSs.nox (pss_cons (ps_set (i := 1) nd rfl (Or.inl rfl) pe_bl)
    (pss_cons (ps_while PassesOwn.never (pt_val (pv 1))
      (pss_cons (ps_set (i := 1) nd rfl (Or.inl rfl) pe_bl)
      (pss_one (ps_for PassesOwn.never rfl (pi_range1 rfl T.range (pa_cons (pe_callB call_len_seq (by rfl) T.len (by decide +kernel) (pa_cons (pe_fld (pv 0) rfl) pa_nil)) pa_nil)) (pg_name (i := 2) nd rfl (Or.inl rfl))
        (pss_cons (ps_asg (pe_meth (pv 0) T.cl_Prices c_Prices_raised_by.m c_Prices_raised_by.ok (hr.mono (by decide)) c_Prices_raised_by.b .nil pass0 (pa_cons (pv 2) pa_nil)) (pg_tup rfl (pgs_cons (pg_name (i := 3) nd rfl (Or.inl rfl)) (pgs_cons (pg_name (i := 4) nd rfl (Or.inl rfl)) pgs_nil))))
        (pss_cons (ps_if (pt_cmpR op_notN (pv 4) pe_non (nomark _))
          (pss_one ps_never)
          pss_nil)
        (pss_one (ps_set (i := 1) nd rfl (Or.inl rfl) (pe_or (pv 1) (pe_one (pv 3)))))))))))
    (pss_one (ps_ret pe_non)))), ?_⟩
    obtain ⟨s, rw, de, le, pr, ra, ds, w, o, ok, d, Pl, R, u, p, st, r, rfl, hA, hRs, hdl, hdu, hpc, q⟩ := h
    have m7 := ok.l7
    obtain ⟨Wn, hWn⟩ : ∃ Wn : Nat → L2.St → Hp → Prop, Wn = fun m σ H' => ∃ v2 v3 v4 raised Pl R st r, σ = [some (.ref s), some (.bl raised), v2, v3, v4] ∧ SameX [pr, ra] H H' ∧ RowsD H' ds w o ∧ PrAt K H' s rw de le pr ra ds w o d Pl R ∧ Prc (insW w o ok) (dD d) p (iD Pl) (dD R) st r ∧
      (raised = false → ∀ a t x, a < w.l.length → wt w o a t = some x → x - rst (insW w o ok) (dD d) (iD Pl) a ≤ iD Pl t) ∧ m = (gap (insW w o ok) p (iD Pl)).toNat * 2 + (if raised = true then 1 else 0) := ⟨_, rfl⟩
    refine ⟨Wn, ⟨(gap (insW w o ok) p (iD Pl)).toNat * 2 + (if true = true then 1 else 0), ?_⟩, ?_⟩
    · rw [hWn]
      exact ⟨_, _, _, true, Pl, R, st, r, rfl, SameX.refl _ _, hRs, hA, hpc, (fun z => by cases z), rfl⟩
    intro m σ H1 hw
    rw [hWn] at hw
    obtain ⟨v2, v3, v4, raised, P1, R1, st1, r1, rfl, sx1, hRs1, hA1, hpc1, hall, rfl⟩ := hw
    obtain ⟨dx, fs, hI, ⟨g1, g2, g3, g4, g5⟩, n1, n2, n3, n4, n5, n6⟩ := hA1.ins
    refine ⟨_, rfl, raised, rfl, ?_⟩
    cases raised with
    | false => exact ifF rfl (q H1 P1 R1 sx1 hA1 (settled hdu hpc1 fun a t x ha hw => hall rfl a t x ha hw))
    | true =>
      refine ifT rfl ⟨fun σ' H' => ∃ m', m' < (gap (insW w o ok) p (iD P1)).toNat * 2 + (if true = true then 1 else 0) ∧ Wn m' σ' H', fun σ' H' h => h, ?_⟩
      refine ⟨_, rfl, s, _, dx, _, _, rfl, hI, T.cl_Prices, T.n_Prices_rows, g1, rw, _, rfl, .inl (SqL.of hA1.hRw), ((ds.map V.ref).length : Int), rfl, ?_⟩
      rw [List.length_map, hRs1.1]
      refine ⟨by omega, by omega, for_range (n := w.l.length) (fun k σ H' => ∃ v2 v3 v4 rd P' R' st' r', σ = [some (.ref s), some (.bl rd), v2, v3, v4] ∧ SameX [pr, ra] H H' ∧ RowsD H' ds w o ∧ PrAt K H' s rw de le pr ra ds w o d P' R' ∧ Prc (insW w o ok) (dD d) p (iD P') (dD R') st' r' ∧
          (∀ t, t < w.c.length → iD P1 t ≤ iD P' t) ∧ (rd = true → ∃ t, t < w.c.length ∧ iD P1 t < iD P' t) ∧
          (rd = false → P' = P1 ∧ ∀ a t x, a < k → wt w o a t = some x → x - rst (insW w o ok) (dD d) (iD P1) a ≤ iD P1 t))
        ⟨_, _, _, false, P1, R1, st1, r1, rfl, sx1, hRs1, hA1, hpc1, fun t _ => Int.le_refl _, (fun z => by cases z), fun _ => ⟨rfl, fun a t x h => absurd h (Nat.not_lt_zero _)⟩⟩ ?_ ?_⟩
      · rintro k σ H2 hk ⟨v2, v3, v4, rd, P2, R2, st2, r2, rfl, sx2, hRs2, hA2, hpc2, hmo, hrt, hrf⟩
        obtain ⟨dx2, fs2, hI2, _, _, _, _, n42, _⟩ := hA2.ins
        refine ⟨_, rfl, s, dx2, _, rfl, hI2, n42, _, rfl, s, rw, de, le, pr, ra, ds, w, o, ok, d, P2, R2, u, p, st2, r2, k, (by show [V.ref s, V.int (0 + (k : Int))] = _; rw [Int.zero_add]), hA2, hRs2, hdl, hdu, hpc2, hk, fun H3 T3 P3 R3 st3 r3 more sx3 hRs3 hA3 hT3 hpc3 hmo3 hrt3 hrf3 => ?_⟩
        refine ⟨T3, _, rfl, SqT.of hT3, rfl, _, _, rfl, _, _, rfl, rfl, ?_⟩
        refine ⟨_, rfl, rfl, _, rfl, ifF rfl ?_⟩
        have hmo' : ∀ t, t < w.c.length → iD P1 t ≤ iD P3 t := fun t ht => Int.le_trans (hmo t ht) (hmo3 t ht)
        refine ⟨_, rfl, rd, rfl, ?_⟩
        cases rd with
        | true =>
          refine ifT rfl ⟨_, _, _, true, P3, R3, st3, r3, rfl, sx2.trans sx3, hRs3, hA3, hpc3, hmo', fun _ => ?_, (fun z => by cases z)⟩
          obtain ⟨t, ht, hl⟩ := hrt rfl
          exact ⟨t, ht, Int.lt_of_lt_of_le hl (hmo3 t ht)⟩
        | false =>
          obtain ⟨e2, hc2⟩ := hrf rfl
          subst e2
          refine ifF rfl ⟨_, rfl, _, _, _, more, P3, R3, st3, r3, rfl, sx2.trans sx3, hRs3, hA3, hpc3, hmo', hrt3, fun z => ?_⟩
          obtain ⟨e3, hc3⟩ := hrf3 z
          refine ⟨e3, fun a t x ha hw => ?_⟩
          by_cases z2 : a = k
          · subst z2
            exact hc3 t x hw
          · exact hc2 a t x (by omega) hw
      · rintro σ H2 ⟨v2, v3, v4, rd, P2, R2, st2, r2, rfl, sx2, hRs2, hA2, hpc2, hmo, hrt, hrf⟩
        refine ⟨(gap (insW w o ok) p (iD P2)).toNat * 2 + (if rd = true then 1 else 0), ?_, ?_⟩
        · cases rd with
          | true =>
            obtain ⟨t, ht, hl⟩ := hrt rfl
            have h1 := gap_lt (I := insW w o ok) (p := p) (fun t ht => hmo t ht) (by exact ht) hl
            have h2 := gap_nn hpc2
            show (gap (insW w o ok) p (iD P2)).toNat * 2 + 1 < (gap (insW w o ok) p (iD P1)).toNat * 2 + 1
            omega
          | false =>
            obtain ⟨e2, _⟩ := hrf rfl
            subst e2
            show (gap (insW w o ok) p (iD P2)).toNat * 2 + 0 < (gap (insW w o ok) p (iD P2)).toNat * 2 + 1
            omega
        · rw [hWn]
          refine ⟨_, _, _, rd, P2, R2, st2, r2, rfl, sx2, hRs2, hA2, hpc2, fun z => ?_, rfl⟩
          obtain ⟨e2, hc⟩ := hrf z
          subst e2
          exact hc
abbrev N_Prices_told : List Str := ["self", "asks", "asker"]
theorem sc_Prices_told : FnScope N_Prices_told ["self"] (defScope s_Prices_told) := ⟨rfl, rfl, rfl, by decide +kernel, rfl, by decide +kernel, by decide +kernel⟩
theorem ok_Prices_told {f : Addr} {fd : FuncData} (F : FnP K "told" "Prices.told" s_Prices_told f fd) (T : Txt K mg) (c_Prices_rest : CalM P w K mg base (He.ga K "Prices") "rest" 1 ["self", "asker"] (spRest K)) : FnOk P w K mg base CX0 2 f fd ["self"] (spTold K) := by
  refine F.ok sc_Prices_told (fun vs H Q E h => ?_) (fun cdv A outer s H vs Q E hr h => ?_)
  · obtain ⟨s, rw, de, le, pr, ra, ds, w, o, ok, d, Pl, R, rfl, _⟩ := h
    rfl
  · have hu := hu_of hr
    have nd := sc_Prices_told.nd
    refine ⟨_, PSs.nox (pss_cons (ps_setLc (i := 1) (own := [("asker", 2)]) (g := (gName 2)) (tt := tYes) (te := (tMeth _ _ _ [] E0 (tVar 0) (tCons (tVar 2) tNil))) (by rfl) nd rfl rfl (sw_true rfl rfl rfl (by decide +kernel)) (pi_range1 rfl T.range (pa_cons (pe_callB call_len_seq (by rfl) T.len (by decide +kernel) (pa_cons (pe_fld (pv 0) rfl) pa_nil)) pa_nil)) (blkOk_by (own := [("asker", 2)]) (N := N_Prices_told) (sc := defScope s_Prices_told) (by decide +kernel)) (fun _ _ _ _ _ => (pg_name (i := 2) nd rfl (Or.inl rfl))) (fun _ _ _ _ _ => pts_nil) (fun _ _ _ _ _ => (pe_meth (pv 0) T.cl_Prices c_Prices_rest.m c_Prices_rest.ok (hr.mono (by decide)) c_Prices_rest.b .nil pass0 (pa_cons (pv 2) pa_nil))))
    (pss_one (ps_ret (pe_tup (pa_cons pe_int (pa_cons (pv 1) (pa_cons (pe_callTy call_list_of (by rfl) T.list (by decide +kernel) (pa_cons (pe_fld (pv 0) rfl) pa_nil)) pa_nil))))))), ?_⟩
    obtain ⟨s, rw, de, le, pr, ra, ds, w, o, ok, d, Pl, R, rfl, hA, hdl, hwi, q⟩ := h
    have m7 := ok.l7
    obtain ⟨dx, fs, hI, ⟨g1, g2, g3, g4, g5⟩, n1, n2, n3, n4, n5, n6⟩ := hA.ins
    refine ⟨_, rfl, s, _, dx, _, _, rfl, hI, T.cl_Prices, T.n_Prices_rows, g1, rw, _, rfl, .inl (SqL.of hA.hRw), ((ds.map V.ref).length : Int), rfl, ?_⟩
    rw [List.length_map, hA.hRows.1]
    refine ⟨by omega, by omega, fun D hD => ?_⟩
    refine lc_range (n := w.l.length) (fun k H' => Same H H' ∧ H' D = some (.lst (((List.range k).map (rst (insW w o ok) (dD d) (iD Pl))).map V.int))) ⟨same_new hD, upd_same⟩ ?_ ?_
    · rintro k H1 hk ⟨sm, hL⟩
      refine ⟨rfl, yes_ ?_⟩
      refine ⟨_, rfl, s, dx, _, rfl, sm _ _ hI, n1, _, rfl, s, rw, de, le, pr, ra, ds, w, o, ok, d, Pl, R, k, (by show [V.ref s, V.int (0 + (k : Int))] = _; rw [Int.zero_add]), hA.mono sm, hdl, hk, hwi k, _, hL, ?_, same_mut sm hD, ?_⟩
      · rw [List.length_map, List.length_map, List.length_range]
        exact sl100 (by omega)
      · rw [upd_same, List.range_succ, List.map_append, List.map_append]
        rfl
    rintro H1 ⟨sm, hL⟩
    refine ⟨_, rfl, _, rfl, s, _, dx, _, _, rfl, sm _ _ hI, T.cl_Prices, T.n_Prices_prices, g4, pr, _, rfl, .inl (SqL.of (sm _ _ hA.hPr)), fun ps hps => ?_⟩
    have s2 : Same H1 (upd H1 ps (.lst (Pl.map V.int))) := same_new hps
    refine ⟨by show 3 ≤ sizeLine; decide, fun T2 hT2 => ?_⟩
    have s3 : Same (upd H1 ps (.lst (Pl.map V.int))) (upd (upd H1 ps (.lst (Pl.map V.int))) T2 (.tup [.int 1, .ref D, .ref ps])) := same_new hT2
    exact q _ T2 D ps (sm.trans (s2.trans s3)) upd_same (s3 _ _ (s2 _ _ hL)) (s3 _ _ upd_same)
end
end Wd
namespace Wd
open PySem PySem.Spec PyProof.Rows L2
theorem Dual.congr {I : Ins} {k : Nat} {D : Nat → Option Nat} {u u' p : Nat → Int} (d : Dual I k D u p) (h : ∀ a, a < k → u' a = u a) : Dual I k D u' p :=
  ⟨d.kl, d.p0, fun a ha => by rw [h a ha]; exact d.u0 a ha, fun a t x ha hw => by rw [h a ha]; exact d.fe a t x ha hw, fun a t x ha hd hw => by rw [h a ha]; exact d.ti a t x ha hd hw, fun a ha hd => by rw [h a ha]; exact d.un a ha hd, d.le, d.out, d.wi, d.co⟩
theorem iD_range {m a : Nat} (f : Nat → Int) (h : a < m) : iD ((List.range m).map f) a = f a := by
  unfold iD
  rw [List.getD_eq_getElem?_getD, List.getElem?_map, List.getElem?_range h]
  rfl
def spBD : Sp := fun vs H Q _ => ∃ (a b : Addr) (w : Wi) (o : Nat) (ok : w.Ok), vs = [.ref a, .ref b] ∧ WAt H a w ∧ AimAt H b o ∧
  ∀ H' T dl pp as ps d U P, H T = Option.none → H dl = Option.none → Same H H' → H' T = some (.tup [.ref dl, .ref pp]) → H' pp = some (.tup [.int 1, .ref as, .ref ps]) → H' dl = some (.lst (d.map onV)) → H' as = some (.lst (U.map V.int)) → H' ps = some (.lst (P.map V.int)) →
    d.length = w.l.length → U.length = w.l.length → P.length = w.c.length → Dual (insW w o ok) w.l.length (dD d) (iD U) (iD P) → Q (.ref T) H'
section
variable {P : Program} {w : World} {K : PySem.W.Frag} {mg : Str → Option Value} {base : Heap}
abbrev N_best_dealing : List Str := ["wishes", "aim", "dealing", "prices"]
theorem sc_best_dealing : FnScope N_best_dealing ["wishes", "aim"] (defScope s_best_dealing) := ⟨rfl, rfl, rfl, by decide +kernel, rfl, by decide +kernel, by decide +kernel⟩
theorem ok_best_dealing {f : Addr} {fd : FuncData} (F : FnP K "best_dealing" "best_dealing" s_best_dealing f fd) (T : Txt K mg) (c_Prices_init : CalN P w K mg base "Prices" (He.ga K "Prices") 2 ["self", "rows", "copies", "dealt"] (spPI K)) (c_Prices_settle : CalM P w K mg base (He.ga K "Prices") "settle" 4 ["self"] (spSet K)) (c_Prices_told : CalM P w K mg base (He.ga K "Prices") "told" 2 ["self"] (spTold K)) (c_dealt_best : Cal P w K mg base "dealt_best" 10 ["wishes", "aim"] (spDB)) (c_rows_by : Cal P w K mg base "rows_by" 9 ["wishes", "aim"] (spRows)) : FnOk P w K mg base CX0 11 f fd ["wishes", "aim"] (spBD) := by
  refine F.ok sc_best_dealing (fun vs H Q E h => ?_) (fun cdv A outer s H vs Q E hr h => ?_)
  · obtain ⟨a, b, w, o, ok, rfl, _⟩ := h
    rfl
  · have hu := hu_of hr
    have nd := sc_best_dealing.nd
    refine ⟨_, PSs.nox (pss_cons (ps_set (i := 2) nd rfl (Or.inl rfl) (pe_call c_dealt_best.ok (hr.mono (by decide)) (by rfl) c_dealt_best.g c_dealt_best.kp c_dealt_best.b .nil pass0 (pa_cons (pv 0) (pa_cons (pv 1) pa_nil))))
    (pss_cons (ps_set (i := 3) nd rfl (Or.inl rfl) (pe_make c_Prices_init.mkr c_Prices_init.ok (hr.mono (by decide)) (by rfl) c_Prices_init.g c_Prices_init.b .nil pass0 (pa_cons (pe_call c_rows_by.ok (hr.mono (by decide)) (by rfl) c_rows_by.g c_rows_by.kp c_rows_by.b .nil pass0 (pa_cons (pv 0) (pa_cons (pv 1) pa_nil))) (pa_cons (pe_ix ix_tup (pv 0) pe_int (fun _ _ => rfl)) (pa_cons (pv 2) pa_nil)))))
    (pss_cons (ps_expr (pe_meth0 (pv 3) T.cl_Prices c_Prices_settle.m c_Prices_settle.ok (hr.mono (by decide)) c_Prices_settle.b .nil pass0))
    (pss_one (ps_ret (pe_tup (pa_cons (pv 2) (pa_cons (pe_meth0 (pv 3) T.cl_Prices c_Prices_told.m c_Prices_told.ok (hr.mono (by decide)) c_Prices_told.b .nil pass0) pa_nil)))))))), ?_⟩
    obtain ⟨a, b, w, o, ok, rfl, hW, hAim, q⟩ := h
    refine ⟨_, rfl, _, rfl, a, b, w, o, ok, rfl, hW, hAim, fun dl d H1 hdl0 s1 hD hdl ⟨u, p, hdu⟩ => ?_⟩
    refine ⟨_, rfl, _, rfl, a, b, w, o, rfl, hW.mono s1, ok, hAim.mono s1, fun rw ds H2 hrw s2 hRw hRs => ?_⟩
    have s12 := s1.trans s2
    obtain ⟨c, l, hA, hC, _⟩ := hW.mono s12
    refine ⟨_, rfl, a, _, 0, _, rfl, rfl, SqT.of hA, rfl, _, rfl, fun s dx ns ndx nex => ?_⟩
    have m0 := made0 (C := He.ga K "Prices") ns ndx
    refine ⟨s, rw, c, dl, dx, ds, w, o, d, rfl, ok, upd_same, m0 _ _ hRw, hRs.mono m0, m0 _ _ hC, m0 _ _ (s2 _ _ hD), fun i t h => ?_, fun H3 de le pr ra x3 hnew hPA => ⟨rfl, ?_⟩⟩
    · obtain ⟨x, hx⟩ := hdu.wi i t (dD_get h)
      exact (insW w o ok).wn i t x hx
    have s3 := made ns ndx x3
    have hRs3 := hRs.mono s3
    obtain ⟨dx3, fs3, hI3, _, _, _, _, _, n5, n6⟩ := hPA.ins
    have hpc := prc_start (I := insW w o ok) (by exact hdu)
    refine ⟨_, rfl, s, dx3, _, rfl, hI3, n5, s, rw, de, le, pr, ra, ds, w, o, ok, d, _, _, u, p, fun _ => 0, 0, rfl, hPA, hRs3, hdl, hdu, ?_, fun H4 P4 R4 sx4 hPA4 hdu4 => ?_⟩
    · rw [iD_rep]
      have : dD (List.replicate w.c.length Option.none) = fun _ => Option.none := funext fun a => dD_rep _ a
      rw [this]
      exact hpc
    have s4 : Same H H4 := SameX.same (s12.trans s3) sx4 fun b hb => s12.free (m0.free (hnew b hb))
    have s24 : Same H2 H4 := SameX.same s3 sx4 fun b hb => m0.free (hnew b hb)
    obtain ⟨dx4, fs4, hI4, _, _, _, _, _, _, n64⟩ := hPA4.ins
    refine ⟨_, rfl, _, rfl, s, dx4, _, rfl, hI4, n64, s, rw, de, le, pr, ra, ds, w, o, ok, d, P4, R4, rfl, hPA4, hdl, fun a t e => hdu.wi a t e, fun H5 T5 as ps s5 hT5 has hps => ?_⟩
    refine ⟨by show 2 ≤ sizeLine; decide, fun T6 hT6 => ?_⟩
    have s45 := s4.trans s5
    have s6 : Same H5 (upd H5 T6 (.tup [.ref dl, .ref T5])) := same_new hT6
    refine q _ T6 dl T5 as ps d _ P4 (s45.free hT6) hdl0 (s45.trans s6) upd_same (s6 _ _ hT5) (s6 _ _ (s5 _ _ (s24 _ _ (s2 _ _ hD)))) (s6 _ _ has) (s6 _ _ hps) hdl ?_ hPA4.pl (hdu4.congr fun a ha => iD_range _ ha)
    rw [List.length_map, List.length_range]
end
end Wd
namespace Wd
open PySem PySem.Spec PyProof.Rows L2
/-- rows of nodes at fs: from x to y where Ar x y -/
structure Adj (H : Hp) (fs : List Addr) (N : Nat) (Ar : Nat → Nat → Prop) (c : Nat) (L : List (List Nat)) : Prop where
  l1 : fs.length = N
  l2 : L.length = N
  nd : fs.Nodup
  at_ : ∀ (i : Nat) (f : Addr), fs[i]? = some f → H f = some (.lst ((L.getD i []).map nV))
  ar : ∀ x y, x < N → (y ∈ L.getD x [] ↔ Ar x y)
  le : ∀ x, (L.getD x []).length ≤ c
theorem Adj.mono {H H' : Hp} {fs : List Addr} {N c : Nat} {Ar : Nat → Nat → Prop} {L : List (List Nat)} (s : Same H H') (A : Adj H fs N Ar c L) : Adj H' fs N Ar c L := ⟨A.l1, A.l2, A.nd, fun i f e => s _ _ (A.at_ i f e), A.ar, A.le⟩
theorem Adj.congr {H : Hp} {fs : List Addr} {N c c' : Nat} {Ar Ar' : Nat → Nat → Prop} {L : List (List Nat)} (A : Adj H fs N Ar c L) (h : ∀ x y, x < N → (Ar x y ↔ Ar' x y)) (hc : c ≤ c') : Adj H fs N Ar' c' L := ⟨A.l1, A.l2, A.nd, A.at_, fun x y hx => (A.ar x y hx).trans (h x y hx), fun x => Nat.le_trans (A.le x) hc⟩
theorem getD_set {L : List (List Nat)} {x : Nat} (l : List Nat) (h : x < L.length) (i : Nat) : (L.set x l).getD i [] = if i = x then l else L.getD i [] := by
  rw [List.getD_eq_getElem?_getD, List.getElem?_set]
  by_cases e : x = i
  · subst e
    rw [if_pos rfl, if_pos h, if_pos rfl]
    rfl
  · rw [if_neg e, if_neg fun z => e z.symm, ← List.getD_eq_getElem?_getD]
theorem Adj.add {H : Hp} {fs : List Addr} {N c x : Nat} {Ar : Nat → Nat → Prop} {L : List (List Nat)} {f : Addr} (A : Adj H fs N Ar c L) (hf : fs[x]? = some f) (y : Nat) :
    Adj (upd H f (.lst ((L.getD x []).map nV ++ [nV y]))) fs N (fun a b => Ar a b ∨ a = x ∧ b = y) (c + 1) (L.set x (L.getD x [] ++ [y])) := by
  have hx : x < L.length := by
    rw [A.l2, ← A.l1]
    exact lt_of_get hf
  refine ⟨A.l1, by rw [List.length_set]; exact A.l2, A.nd, fun i g e => ?_, fun a b ha => ?_, fun a => ?_⟩
  · rw [getD_set _ hx]
    by_cases q : i = x
    · subst q
      rw [hf] at e
      cases e
      rw [upd_same, if_pos rfl, List.map_append]
      rfl
    · rw [if_neg q, upd_ne (fun z => q (by subst z; exact nd_get A.nd e hf))]
      exact A.at_ i g e
  · rw [getD_set _ hx]
    by_cases q : a = x
    · subst q
      rw [if_pos rfl, List.mem_append, List.mem_singleton, A.ar a b ha]
      exact ⟨fun z => z.imp id fun z => ⟨rfl, z⟩, fun z => z.imp id fun z => z.2⟩
    · rw [if_neg q, A.ar a b ha]
      exact ⟨.inl, fun z => z.elim id fun z => absurd z.1 q⟩
  · rw [getD_set _ hx]
    have := A.le a
    by_cases q : a = x
    · subst q
      rw [if_pos rfl, List.length_append]
      exact Nat.succ_le_succ this
    · rw [if_neg q]
      omega
theorem dec_int (a b : Int) : decide (V.int a = V.int b) = decide (a = b) := by
  by_cases h : a = b
  · subst h
    rw [decide_eq_true rfl, decide_eq_true rfl]
  · rw [decide_eq_false h, decide_eq_false fun e => h (by injection e)]
theorem trip_mem {w : Wi} (ok : w.Ok) {o x t : Nat} {v : Int} : (x, t, v) ∈ trip w o w.l.length ↔ wt w o x t = some v := by
  unfold trip
  rw [List.mem_flatMap]
  constructor
  · rintro ⟨a, _, h⟩
    obtain ⟨p, hp, e⟩ := List.mem_map.mp h
    cases e
    exact (rowsN_mem ok).mp hp
  · intro h
    exact ⟨x, List.mem_range.mpr (rk_lt ok (wt_some h).1).1, List.mem_map.mpr ⟨(t, v), (rowsN_mem ok).mpr h, rfl⟩⟩
def P1 (T : List (Nat × Nat × Int)) (m : Nat) (u p : Nat → Int) (j x y : Nat) : Prop := ∃ i t v, i < j ∧ T[i]? = some (x, t, v) ∧ y = m + t ∧ u x + p t = v
theorem P1_succ {T : List (Nat × Nat × Int)} {m : Nat} {u p : Nat → Int} {j x y a t : Nat} {v : Int} (h : T[j]? = some (a, t, v)) : P1 T m u p (j + 1) x y ↔ P1 T m u p j x y ∨ (x = a ∧ y = m + t ∧ u a + p t = v) := by
  constructor
  · rintro ⟨i, t', v', h1, h2, h3, h4⟩
    by_cases q : i = j
    · subst q
      rw [h] at h2
      cases h2
      exact .inr ⟨rfl, h3, h4⟩
    · exact .inl ⟨i, t', v', by omega, h2, h3, h4⟩
  · rintro (⟨i, t', v', h1, h2, h3, h4⟩ | ⟨rfl, h3, h4⟩)
    · exact ⟨i, t', v', by omega, h2, h3, h4⟩
    · exact ⟨j, t, v, Nat.lt_succ_self j, h, h3, h4⟩
def P2 (A : Nat → Nat → Prop) (m n : Nat) (u : Nat → Int) (D : Nat → Option Nat) (k x y : Nat) : Prop := A x y ∨ (x < k ∧ y = m + n ∧ u x = 0) ∨ (x = m + n ∧ y < k ∧ D y = Option.none) ∨ ∃ t, x = m + t ∧ y < k ∧ D y = some t
theorem P2_succ {A : Nat → Nat → Prop} {m n k x y : Nat} {u : Nat → Int} {D : Nat → Option Nat} : P2 A m n u D (k + 1) x y ↔ (P2 A m n u D k x y ∨ (x = k ∧ y = m + n ∧ u k = 0)) ∨ (x = m + n ∧ y = k ∧ D k = Option.none) ∨ ∃ t, x = m + t ∧ y = k ∧ D k = some t := by
  unfold P2
  constructor
  · rintro (h | ⟨h1, h2, h3⟩ | ⟨h1, h2, h3⟩ | ⟨t, h1, h2, h3⟩)
    · exact .inl (.inl (.inl h))
    · by_cases q : x = k
      · subst q
        exact .inl (.inr ⟨rfl, h2, h3⟩)
      · exact .inl (.inl (.inr (.inl ⟨by omega, h2, h3⟩)))
    · by_cases q : y = k
      · subst q
        exact .inr (.inl ⟨h1, rfl, h3⟩)
      · exact .inl (.inl (.inr (.inr (.inl ⟨h1, by omega, h3⟩))))
    · by_cases q : y = k
      · subst q
        exact .inr (.inr ⟨t, h1, rfl, h3⟩)
      · exact .inl (.inl (.inr (.inr (.inr ⟨t, h1, by omega, h3⟩))))
  · rintro (((h | ⟨h1, h2, h3⟩ | ⟨h1, h2, h3⟩ | ⟨t, h1, h2, h3⟩) | ⟨rfl, h2, h3⟩) | ⟨h1, rfl, h3⟩ | ⟨t, h1, rfl, h3⟩)
    · exact .inl h
    · exact .inr (.inl ⟨by omega, h2, h3⟩)
    · exact .inr (.inr (.inl ⟨h1, by omega, h3⟩))
    · exact .inr (.inr (.inr ⟨t, h1, by omega, h3⟩))
    · exact .inr (.inl ⟨Nat.lt_succ_self _, h2, h3⟩)
    · exact .inr (.inr (.inl ⟨h1, Nat.lt_succ_self _, h3⟩))
    · exact .inr (.inr (.inr ⟨t, h1, Nat.lt_succ_self _, h3⟩))
def P3 (A : Nat → Nat → Prop) (m n : Nat) (p lf : Nat → Int) (j x y : Nat) : Prop := A x y ∨ (∃ t, t < j ∧ x = m + n ∧ y = m + t ∧ p t = 0) ∨ ∃ t, t < j ∧ x = m + t ∧ y = m + n ∧ 0 < lf t
theorem P3_succ {A : Nat → Nat → Prop} {m n j x y : Nat} {p lf : Nat → Int} : P3 A m n p lf (j + 1) x y ↔ (P3 A m n p lf j x y ∨ (x = m + n ∧ y = m + j ∧ p j = 0)) ∨ (x = m + j ∧ y = m + n ∧ 0 < lf j) := by
  unfold P3
  constructor
  · rintro (h | ⟨t, h0, h1, h2, h3⟩ | ⟨t, h0, h1, h2, h3⟩)
    · exact .inl (.inl (.inl h))
    · by_cases q : t = j
      · subst q
        exact .inl (.inr ⟨h1, h2, h3⟩)
      · exact .inl (.inl (.inr (.inl ⟨t, by omega, h1, h2, h3⟩)))
    · by_cases q : t = j
      · subst q
        exact .inr ⟨h1, h2, h3⟩
      · exact .inl (.inl (.inr (.inr ⟨t, by omega, h1, h2, h3⟩)))
  · rintro (((h | ⟨t, h0, h1, h2, h3⟩ | ⟨t, h0, h1, h2, h3⟩) | ⟨h1, h2, h3⟩) | ⟨h1, h2, h3⟩)
    · exact .inl h
    · exact .inr (.inl ⟨t, by omega, h1, h2, h3⟩)
    · exact .inr (.inr ⟨t, by omega, h1, h2, h3⟩)
    · exact .inr (.inl ⟨j, Nat.lt_succ_self _, h1, h2, h3⟩)
    · exact .inr (.inr ⟨j, Nat.lt_succ_self _, h1, h2, h3⟩)
theorem P2_zero {A : Nat → Nat → Prop} {m n x y : Nat} {u : Nat → Int} {D : Nat → Option Nat} : P2 A m n u D 0 x y ↔ A x y := by
  unfold P2
  constructor
  · rintro (h | ⟨h, _⟩ | ⟨_, h, _⟩ | ⟨_, _, h, _⟩)
    · exact h
    · exact absurd h (Nat.not_lt_zero _)
    · exact absurd h (Nat.not_lt_zero _)
    · exact absurd h (Nat.not_lt_zero _)
  · exact .inl
theorem P3_zero {A : Nat → Nat → Prop} {m n x y : Nat} {p lf : Nat → Int} : P3 A m n p lf 0 x y ↔ A x y := by
  unfold P3
  constructor
  · rintro (h | ⟨_, h, _⟩ | ⟨_, h, _⟩)
    · exact h
    · exact absurd h (Nat.not_lt_zero _)
    · exact absurd h (Nat.not_lt_zero _)
  · exact .inl
theorem arcs_all {w : Wi} {o : Nat} (ok : w.Ok) {d : List (Option Nat)} {u p : Nat → Int} {x y : Nat} (hdl : d.length = w.l.length) :
    P3 (P2 (P1 (trip w o w.l.length) w.l.length u p (trip w o w.l.length).length) w.l.length w.c.length u (dD d) w.l.length) w.l.length w.c.length p (fun t => (w.c.getD t 0 : Int) - (d.count (some t) : Nat)) w.c.length x y ↔ ArcP (insW w o ok) (dD d) u p x y := by
  have e1 : ∀ t, cnt w.l.length (dD d) t = (d.count (some t) : Nat) := fun t => cnt_dD hdl t
  unfold P3 P2 P1
  show _ ↔ (∃ t v, x < w.l.length ∧ y = w.l.length + t ∧ wt w o x t = some v ∧ u x + p t = v) ∨ (x < w.l.length ∧ y = w.l.length + w.c.length ∧ u x = 0) ∨ (x = w.l.length + w.c.length ∧ y < w.l.length ∧ dD d y = Option.none) ∨
    (∃ t, x = w.l.length + t ∧ y < w.l.length ∧ dD d y = some t) ∨ (∃ t, t < w.c.length ∧ x = w.l.length + w.c.length ∧ y = w.l.length + t ∧ p t = 0) ∨ (∃ t, t < w.c.length ∧ x = w.l.length + t ∧ y = w.l.length + w.c.length ∧ cnt w.l.length (dD d) t < (w.c.getD t 0 : Int))
  constructor
  · rintro ((⟨i, t, v, h1, h2, h3, h4⟩ | ⟨h1, h2, h3⟩ | ⟨h1, h2, h3⟩ | ⟨t, h1, h2, h3⟩) | ⟨t, h0, h1, h2, h3⟩ | ⟨t, h0, h1, h2, h3⟩)
    · have hw := (trip_mem ok).mp (List.mem_of_getElem? h2)
      exact .inl ⟨t, v, (rk_lt ok (wt_some hw).1).1, h3, hw, h4⟩
    · exact .inr (.inl ⟨h1, h2, h3⟩)
    · exact .inr (.inr (.inl ⟨h1, h2, h3⟩))
    · exact .inr (.inr (.inr (.inl ⟨t, h1, h2, h3⟩)))
    · exact .inr (.inr (.inr (.inr (.inl ⟨t, h0, h1, h2, h3⟩))))
    · refine .inr (.inr (.inr (.inr (.inr ⟨t, h0, h1, h2, ?_⟩))))
      rw [e1]
      have h3 : (0 : Int) < (w.c.getD t 0 : Int) - (d.count (some t) : Nat) := h3
      omega
  · rintro (⟨t, v, h1, h2, h3, h4⟩ | ⟨h1, h2, h3⟩ | ⟨h1, h2, h3⟩ | ⟨t, h1, h2, h3⟩ | ⟨t, h0, h1, h2, h3⟩ | ⟨t, h0, h1, h2, h3⟩)
    · obtain ⟨i, hi, e⟩ := List.mem_iff_getElem.mp ((trip_mem ok).mpr h3)
      exact .inl (.inl ⟨i, t, v, hi, by rw [← e]; exact List.getElem?_eq_getElem hi, h2, h4⟩)
    · exact .inl (.inr (.inl ⟨h1, h2, h3⟩))
    · exact .inl (.inr (.inr (.inl ⟨h1, h2, h3⟩)))
    · exact .inl (.inr (.inr (.inr ⟨t, h1, h2, h3⟩)))
    · exact .inr (.inl ⟨t, h0, h1, h2, h3⟩)
    · rw [e1] at h3
      exact .inr (.inr ⟨t, h0, h1, h2, show (0 : Int) < (w.c.getD t 0 : Int) - (d.count (some t) : Nat) by omega⟩)
def spArcs : Sp := fun vs H Q _ => ∃ (a b e pp as ps : Addr) (w : Wi) (o : Nat) (ok : w.Ok) (d : List (Option Nat)) (U P : List Int), vs = [.ref a, .ref b, .ref e, .ref pp] ∧ WAt H a w ∧ AimAt H b o ∧ H e = some (.lst (d.map onV)) ∧
  H pp = some (.tup [.int 1, .ref as, .ref ps]) ∧ H as = some (.lst (U.map V.int)) ∧ H ps = some (.lst (P.map V.int)) ∧ d.length = w.l.length ∧ U.length = w.l.length ∧ P.length = w.c.length ∧ (∀ a t, dD d a = some t → ∃ x, wt w o a t = some x) ∧
  ∀ H' FD fs L, Same H H' → H' FD = some (.lst (fs.map V.ref)) → Adj H' fs (w.l.length + w.c.length + 1) (ArcP (insW w o ok) (dD d) (iD U) (iD P)) 100 L → Q (.ref FD) H'
section
variable {P : Program} {w : World} {K : PySem.W.Frag} {mg : Str → Option Value} {base : Heap}
abbrev N_met_arcs : List Str := ["wishes", "aim", "dealing", "paper", "times", "asks", "prices", "many", "last", "found", "node", "asker", "thing", "worth", "left"]
theorem sc_met_arcs : FnScope N_met_arcs ["wishes", "aim", "dealing", "paper"] (defScope s_met_arcs) := ⟨rfl, rfl, rfl, by decide +kernel, rfl, by decide +kernel, by decide +kernel⟩
theorem ok_met_arcs {f : Addr} {fd : FuncData} (F : FnP K "met_arcs" "met_arcs" s_met_arcs f fd) (T : Txt K mg) (c_all_worths : Cal P w K mg base "all_worths" 8 ["wishes", "aim"] (spAW)) (c_copies_left : Cal P w K mg base "copies_left" 5 ["wishes", "dealing"] (spLeft)) : FnOk P w K mg base CX0 9 f fd ["wishes", "aim", "dealing", "paper"] (spArcs) := by
  refine F.ok sc_met_arcs (fun vs H Q E h => ?_) (fun cdv A outer s H vs Q E hr h => ?_)
  · obtain ⟨a, b, e, pp, as, ps, w, o, ok, d, U, Pl, rfl, _⟩ := h
    rfl
  · have hu := hu_of hr
    have nd := sc_met_arcs.nd
    refine ⟨_, PSs.nox (pss_cons (ps_asg (pv 3) (pg_tup rfl (pgs_cons (pg_name (i := 4) nd rfl (Or.inl rfl)) (pgs_cons (pg_name (i := 5) nd rfl (Or.inl rfl)) (pgs_cons (pg_name (i := 6) nd rfl (Or.inl rfl)) pgs_nil)))))
    (pss_cons (ps_set (i := 7) nd rfl (Or.inl rfl) (pe_callB call_len_seq (by rfl) T.len (by decide +kernel) (pa_cons (pv 5) pa_nil)))
    (pss_cons (ps_set (i := 8) nd rfl (Or.inl rfl) (pe_op op_add (pv 7) (pe_callB call_len_seq (by rfl) T.len (by decide +kernel) (pa_cons (pv 6) pa_nil))))
    (pss_cons (ps_setLc (i := 9) (own := [("node", 10)]) (g := (gName 10)) (tt := tYes) (te := (tLst tNil)) (by rfl) nd rfl rfl (sw_true rfl rfl rfl (by decide +kernel)) (pi_range1 rfl T.range (pa_cons (pe_op op_add (pv 8) pe_int) pa_nil)) (blkOk_by (own := [("node", 10)]) (N := N_met_arcs) (sc := defScope s_met_arcs) (by decide +kernel)) (fun _ _ _ _ _ => (pg_name (i := 10) nd rfl (Or.inl rfl))) (fun _ _ _ _ _ => pts_nil) (fun _ _ _ _ _ => (pe_lst pa_nil)))
    (pss_cons (ps_for PassesOwn.never rfl (pi_list (pe_call c_all_worths.ok (hr.mono (by decide)) (by rfl) c_all_worths.g c_all_worths.kp c_all_worths.b .nil pass0 (pa_cons (pv 0) (pa_cons (pv 1) pa_nil)))) (pg_tup rfl (pgs_cons (pg_name (i := 11) nd rfl (Or.inl rfl)) (pgs_cons (pg_name (i := 12) nd rfl (Or.inl rfl)) (pgs_cons (pg_name (i := 13) nd rfl (Or.inl rfl)) pgs_nil))))
      (pss_one (ps_if (pt_cmpR op_eq (pe_op op_add (pe_ix ix_list (pv 5) (pv 11) (fun _ _ => rfl)) (pe_ix ix_list (pv 6) (pv 12) (fun _ _ => rfl))) (pv 13) (nomark _))
        (pss_one (ps_expr (pe_bm PySem.F.plainAttrs_list PySem.F.slot_list_append PySem.F.type_list_append mt_append (pe_ix ix_list (pv 9) (pv 11) (fun _ _ => rfl)) (pa_cons (pe_op op_add (pv 7) (pv 12)) pa_nil))))
        pss_nil)))
    (pss_cons (ps_for PassesOwn.never rfl (pi_range1 rfl T.range (pa_cons (pv 7) pa_nil)) (pg_name (i := 11) nd rfl (Or.inl rfl))
      (pss_cons (ps_if (pt_cmpR op_eq (pe_ix ix_list (pv 5) (pv 11) (fun _ _ => rfl)) pe_int (nomark _))
        (pss_one (ps_expr (pe_bm PySem.F.plainAttrs_list PySem.F.slot_list_append PySem.F.type_list_append mt_append (pe_ix ix_list (pv 9) (pv 11) (fun _ _ => rfl)) (pa_cons (pv 8) pa_nil))))
        pss_nil)
      (pss_one (ps_if (pt_cmpR op_isN (pe_ix ix_list (pv 2) (pv 11) (fun _ _ => rfl)) pe_non (nomark _))
        (pss_one (ps_expr (pe_bm PySem.F.plainAttrs_list PySem.F.slot_list_append PySem.F.type_list_append mt_append (pe_ix ix_list (pv 9) (pv 8) (fun _ _ => rfl)) (pa_cons (pv 11) pa_nil))))
        (pss_one (ps_expr (pe_bm PySem.F.plainAttrs_list PySem.F.slot_list_append PySem.F.type_list_append mt_append (pe_ix ix_list (pv 9) (pe_op op_add (pv 7) (pe_ix ix_list (pv 2) (pv 11) (fun _ _ => rfl))) (fun _ _ => rfl)) (pa_cons (pv 11) pa_nil))))))))
    (pss_cons (ps_for PassesOwn.never rfl (pi_enum (by rfl) T.enumerate (pa_cons (pe_call c_copies_left.ok (hr.mono (by decide)) (by rfl) c_copies_left.g c_copies_left.kp c_copies_left.b .nil pass0 (pa_cons (pv 0) (pa_cons (pv 2) pa_nil))) pa_nil)) (pg_tup rfl (pgs_cons (pg_name (i := 12) nd rfl (Or.inl rfl)) (pgs_cons (pg_name (i := 14) nd rfl (Or.inl rfl)) pgs_nil)))
      (pss_cons (ps_if (pt_cmpR op_eq (pe_ix ix_list (pv 6) (pv 12) (fun _ _ => rfl)) pe_int (nomark _))
        (pss_one (ps_expr (pe_bm PySem.F.plainAttrs_list PySem.F.slot_list_append PySem.F.type_list_append mt_append (pe_ix ix_list (pv 9) (pv 8) (fun _ _ => rfl)) (pa_cons (pe_op op_add (pv 7) (pv 12)) pa_nil))))
        pss_nil)
      (pss_one (ps_if (pt_cmpR op_gt (pv 14) pe_int (nomark _))
        (pss_one (ps_expr (pe_bm PySem.F.plainAttrs_list PySem.F.slot_list_append PySem.F.type_list_append mt_append (pe_ix ix_list (pv 9) (pe_op op_add (pv 7) (pv 12)) (fun _ _ => rfl)) (pa_cons (pv 8) pa_nil))))
        pss_nil))))
    (pss_one (ps_ret (pv 9)))))))))), ?_⟩
    obtain ⟨a, b, e, pp, as, ps, w, o, ok, d, U, Pl, rfl, hW, hAim, hE, hpp, has, hps, hdl, hul, hpl, hwi, q⟩ := h
    have n6 := ok.c6
    have m7 := ok.l7
    refine ⟨_, rfl, pp, _, rfl, SqT.of hpp, rfl, _, _, rfl, _, _, rfl, _, _, rfl, rfl, ?_⟩
    refine ⟨_, rfl, as, _, rfl, .inl (SqL.of has), ?_⟩
    have em : ((U.map V.int).length : Int) = ((w.l.length : Nat) : Int) := by rw [List.length_map, hul]
    have en : ((Pl.map V.int).length : Int) = ((w.c.length : Nat) : Int) := by rw [List.length_map, hpl]
    rw [em]
    refine ⟨_, rfl, _, rfl, ps, _, rfl, .inl (SqL.of hps), _, _, rfl, rfl, ?_⟩
    rw [en]
    refine ⟨_, rfl, _, _, rfl, rfl, ((w.l.length + w.c.length + 1 : Nat) : Int), rfl, by omega, by omega, fun FD hFD => ?_⟩
    refine lc_range (n := w.l.length + w.c.length + 1) (fun i H' => Same H H' ∧ ∃ fs : List Addr, H' FD = some (.lst (fs.map V.ref)) ∧ fs.length = i ∧ fs.Nodup ∧ ∀ f ∈ fs, H f = Option.none ∧ H' f = some (.lst []) ∧ f ≠ FD) ⟨same_new hFD, [], upd_same, rfl, List.nodup_nil, fun f h => by cases h⟩ ?_ ?_
    · rintro i H' hi ⟨s, fs, hL, hl, hnd, hf⟩
      refine ⟨rfl, yes_ ⟨Nat.zero_le _, fun g hg => ?_⟩⟩
      have ngD : g ≠ FD := fun z => by
        subst z
        rw [hg] at hL
        cases hL
      refine ⟨_, (same_new hg) _ _ hL, ?_, same_mut (same_and s hg) hFD, fs ++ [g], ?_, ?_, ?_, ?_⟩
      · rw [List.length_map]
        exact sl100 (by omega)
      · rw [upd_same, List.map_append]
        rfl
      · rw [List.length_append, hl]
        rfl
      · refine nd_snoc hnd fun m => ?_
        have := (hf g m).2.1
        rw [hg] at this
        cases this
      · intro f' hf'
        rcases List.mem_append.mp hf' with m | m
        · obtain ⟨e1, e2, e3⟩ := hf f' m
          refine ⟨e1, ?_, e3⟩
          rw [upd_ne e3]
          exact (same_new hg) _ _ e2
        · rw [List.mem_singleton] at m
          subst m
          exact ⟨s.free hg, by rw [upd_ne ngD, upd_same], ngD⟩
    rintro HA ⟨sA, fs, hFA, hfl, hnd, hfa⟩
    have nf : ∀ {b : Addr} {u : HO}, H b = some u → b ∉ fs := fun {b u} e hm => by
      have := (hfa b hm).1
      rw [e] at this
      cases this
    have nFD : FD ∉ fs := fun hm => (hfa FD hm).2.2 rfl
    have nHA : ∀ {b : Addr}, HA b = Option.none → b ∉ fs := fun {b} e hm => by
      have := (hfa b hm).2.1
      rw [e] at this
      cases this
    have A0 : Adj HA fs (w.l.length + w.c.length + 1) (fun _ _ => False) 0 (List.replicate (w.l.length + w.c.length + 1) []) := by
      have e0 : ∀ x, (List.replicate (w.l.length + w.c.length + 1) ([] : List Nat)).getD x [] = [] := fun x => by
        rw [List.getD_eq_getElem?_getD, List.getElem?_replicate]
        split <;> rfl
      refine ⟨hfl, List.length_replicate, hnd, fun i f e => ?_, fun x y _ => ?_, fun x => ?_⟩
      · rw [e0]
        exact (hfa f (List.mem_of_getElem? e)).2.1
      · rw [e0]
        exact ⟨fun h => (by cases h), fun h => h.elim⟩
      · rw [e0]
        exact Nat.zero_le _
    have fat : ∀ {x : Nat}, x < w.l.length + w.c.length + 1 → ∃ f, fs[x]? = some f ∧ f ∈ fs := fun {x} hx => ⟨_, List.getElem?_eq_getElem (by rw [hfl]; exact hx), List.getElem_mem _⟩
    -- the wishes
    refine ⟨_, rfl, _, rfl, a, b, w, o, rfl, hW.mono sA, ok, hAim.mono sA, fun ql qs Hq hql sq hQ hTr => ?_⟩
    have sxq : SameX fs HA Hq := SameX.of sq
    refine ⟨ql, rfl, ⟨_, SqL.of hQ⟩, for_list (xs := qs.map V.ref) (fun j σ H' => ∃ v10 v11 v12 v13 v14 L, σ = [some (.ref a), some (.ref b), some (.ref e), some (.ref pp), some (.int 1), some (.ref as), some (.ref ps), some (nV w.l.length), some (nV (w.l.length + w.c.length)), some (.ref FD), v10, v11, v12, v13, v14] ∧ SameX fs Hq H' ∧
        Adj H' fs (w.l.length + w.c.length + 1) (P1 (trip w o w.l.length) w.l.length (iD U) (iD Pl) j) j L)
      ⟨_, _, _, _, _, _, rfl, SameX.refl _ _, (A0.mono sq).congr (fun x y _ => ⟨fun h => h.elim, fun ⟨i, t, v, h, _⟩ => absurd h (Nat.not_lt_zero _)⟩) (Nat.le_refl _)⟩ (fun i σ H' _ ⟨_, _, _, _, _, _, _, sx, _⟩ => SqL.of (sx _ _ (nHA hql) hQ)) ?_ ?_⟩
    · rintro j y σ H1 hy ⟨v10, v11, v12, v13, v14, L, rfl, sx, A1⟩
      obtain ⟨tq, htq, rfl⟩ := get_map hy
      have hj : j < (trip w o w.l.length).length := by rw [← hTr.1]; exact lt_of_get htq
      have htr := List.getElem?_eq_getElem hj
      generalize (trip w o w.l.length)[j] = x at htr
      obtain ⟨x1, x2, x3⟩ := x
      have hw := (trip_mem ok).mp (List.mem_of_getElem? htr)
      obtain ⟨hx1, hx2⟩ := rk_lt ok (wt_some hw).1
      have htl := trip_len w o w.l.length
      have htl2 : w.l.length * w.c.length ≤ 7 * 6 := Nat.mul_le_mul m7 n6
      have hP := hTr.2 j tq _ htq htr
      have ntq : tq ∉ fs := fun hm => by
        have h1 := sq _ _ (hfa tq hm).2.1
        rw [hP] at h1
        cases h1
      have hP1 := sx _ _ ntq hP
      have kp : ∀ {b : Addr} {u : HO}, H b = some u → H1 b = some u := fun {b u} e => (sxq.trans sx) _ _ (nf e) (sA _ _ e)
      obtain ⟨f, hf, hfm⟩ := fat (x := x1) (by omega)
      refine ⟨tq, _, rfl, SqT.of hP1, rfl, _, _, rfl, _, _, rfl, _, _, rfl, rfl, ?_⟩
      refine ⟨_, rfl, _, rfl, as, _, (x1 : Int), _, rfl, rfl, SqL.of (kp has), at_nat V.int (iD_get (by omega)), _, rfl, _, rfl, ps, _, (x2 : Int), _, rfl, rfl, SqL.of (kp hps), at_nat V.int (iD_get (by omega)), _, _, rfl, rfl, _, rfl, rfl, _, rfl, ?_⟩
      show if decide (V.int (iD U x1 + iD Pl x2) = V.int x3) = true then _ else _
      rw [dec_int]
      refine if2 (fun h => ?_) fun h => ?_
      · have hc := of_decide_eq_true h
        have hff := A1.at_ x1 f hf
        have hle := A1.le x1
        refine ⟨_, rfl, _, rfl, FD, _, (x1 : Int), _, rfl, rfl, SqL.of ((sxq.trans sx) _ _ nFD hFA), at_nat V.ref hf, .inl ⟨rfl, _, SqL.of hff⟩, _, rfl, _, rfl, _, _, rfl, rfl, f, _, _, rfl, rfl, hff, ?_, ?_⟩
        · rw [List.length_map]
          exact sl100 (by omega)
        · refine ⟨_, _, _, _, _, _, rfl, sx.upd_in hfm, (A1.add hf (w.l.length + x2)).congr (fun x y _ => ?_) (Nat.le_refl _)⟩
          rw [P1_succ htr]
          exact ⟨fun z => z.imp id fun z => ⟨z.1, z.2, hc⟩, fun z => z.imp id fun z => ⟨z.1, z.2.1⟩⟩
      · have hc := of_decide_eq_false h
        refine ⟨_, _, _, _, _, L, rfl, sx, A1.congr (fun x y _ => ?_) (Nat.le_succ _)⟩
        rw [P1_succ htr]
        exact ⟨.inl, fun z => z.elim id fun z => absurd z.2.2 hc⟩
    rintro σ H1 ⟨v10, v11, v12, v13, v14, L1, rfl, sx1, A1⟩
    rw [List.length_map, hTr.1] at A1
    generalize hA : P1 (trip w o w.l.length) w.l.length (iD U) (iD Pl) (trip w o w.l.length).length = Ar1 at A1
    have htl := trip_len w o w.l.length
    have htl2 : w.l.length * w.c.length ≤ 7 * 6 := Nat.mul_le_mul m7 n6
    have A1 := A1.congr (c' := 42) (fun x y _ => Iff.rfl) (by omega)
    have sxA := sxq.trans sx1
    -- askers
    refine ⟨_, rfl, ((w.l.length : Nat) : Int), rfl, by omega, by omega, for_range (n := w.l.length) (fun k σ H' => ∃ v10 v11 v12 v13 v14 L, σ = [some (.ref a), some (.ref b), some (.ref e), some (.ref pp), some (.int 1), some (.ref as), some (.ref ps), some (nV w.l.length), some (nV (w.l.length + w.c.length)), some (.ref FD), v10, v11, v12, v13, v14] ∧ SameX fs HA H' ∧
        Adj H' fs (w.l.length + w.c.length + 1) (P2 Ar1 w.l.length w.c.length (iD U) (dD d) k) (42 + 2 * k) L)
      ⟨_, _, _, _, _, L1, rfl, sxA, A1.congr (fun x y _ => P2_zero.symm) (Nat.le_refl _)⟩ ?_ ?_⟩
    · rintro k σ H2 hk ⟨v10, v11, v12, v13, v14, L2, rfl, sx2, A2⟩
      rw [Int.zero_add]
      have kp : ∀ {b : Addr} {u : HO}, H b = some u → H2 b = some u := fun {b u} e => sx2 _ _ (nf e) (sA _ _ e)
      have hdk := get_dD (d := d) (a := k) (by omega)
      refine ⟨_, rfl, _, rfl, as, _, (k : Int), _, rfl, rfl, SqL.of (kp has), at_nat V.int (iD_get (by omega)), rfl, _, rfl, ?_⟩
      show if decide (V.int (iD U k) = V.int 0) = true then _ else _
      rw [dec_int]
      refine if2 (fun h => ?_) fun h => ?_
      · have hc := of_decide_eq_true h
        obtain ⟨f, hf, hfm⟩ := fat (x := k) (by omega)
        have hff := A2.at_ k f hf
        have hle := A2.le k
        refine ⟨_, rfl, _, rfl, FD, _, (k : Int), _, rfl, rfl, SqL.of (sx2 _ _ nFD hFA), at_nat V.ref hf, .inl ⟨rfl, _, SqL.of hff⟩, _, rfl, f, _, _, rfl, rfl, hff, by rw [List.length_map]; exact sl100 (by omega), ?_⟩
        have A3 := (A2.add hf (w.l.length + w.c.length)).congr (Ar' := fun x y => P2 Ar1 w.l.length w.c.length (iD U) (dD d) k x y ∨ (x = k ∧ y = w.l.length + w.c.length ∧ iD U k = 0)) (fun x y _ => ⟨fun z => z.imp id fun z => ⟨z.1, z.2, hc⟩, fun z => z.imp id fun z => ⟨z.1, z.2.1⟩⟩) (Nat.le_refl _)
        have sx3 : SameX fs HA (upd H2 f (.lst ((L2.getD k []).map nV ++ [nV (w.l.length + w.c.length)]))) := sx2.upd_in hfm
        generalize upd H2 f (.lst ((L2.getD k []).map nV ++ [nV (w.l.length + w.c.length)])) = H3 at A3 sx3
        have kp3 : ∀ {b : Addr} {u : HO}, H b = some u → H3 b = some u := fun {b u} e => sx3 _ _ (nf e) (sA _ _ e)
        refine ⟨_, rfl, _, rfl, e, _, (k : Int), _, rfl, rfl, SqL.of (kp3 hE), at_nat onV hdk, rfl, _, rfl, ?_⟩
        cases ed : dD d k with
        | none =>
          obtain ⟨g, hg, hgm⟩ := fat (x := w.l.length + w.c.length) (by omega)
          have hgg := A3.at_ _ g hg
          have hle3 := A3.le (w.l.length + w.c.length)
          refine ifT rfl ⟨_, rfl, _, rfl, FD, _, ((w.l.length + w.c.length : Nat) : Int), _, rfl, rfl, SqL.of (sx3 _ _ nFD hFA), at_nat V.ref hg, .inl ⟨rfl, _, SqL.of hgg⟩, _, rfl, g, _, _, rfl, rfl, hgg, by rw [List.length_map]; exact sl100 (by omega), ?_⟩
          refine ⟨_, _, _, _, _, _, rfl, sx3.upd_in hgm, (A3.add hg k).congr (fun x y _ => ?_) (by omega)⟩
          rw [P2_succ, ed]
          exact ⟨fun z => z.imp id fun z => .inl ⟨z.1, z.2, rfl⟩, fun z => z.imp id fun z => by
            rcases z with z | ⟨t, _, _, z⟩
            · exact ⟨z.1, z.2.1⟩
            · cases z⟩
        | some t =>
          obtain ⟨xw, hxw⟩ := hwi k t ed
          have htn : t < w.c.length := (insW w o ok).wn k t xw hxw
          rw [ed] at hdk
          obtain ⟨g, hg, hgm⟩ := fat (x := w.l.length + t) (by omega)
          have hgg := A3.at_ _ g hg
          have hle3 := A3.le (w.l.length + t)
          refine ifF rfl ⟨_, rfl, _, rfl, _, rfl, _, rfl, e, _, (k : Int), _, rfl, rfl, SqL.of (kp3 hE), at_nat onV hdk, _, _, rfl, rfl, FD, _, ((w.l.length + t : Nat) : Int), _, rfl, rfl, SqL.of (sx3 _ _ nFD hFA), at_nat V.ref hg, .inl ⟨rfl, _, SqL.of hgg⟩, _, rfl, g, _, _, rfl, rfl, hgg, by rw [List.length_map]; exact sl100 (by omega), ?_⟩
          refine ⟨_, _, _, _, _, _, rfl, sx3.upd_in hgm, (A3.add hg k).congr (fun x y _ => ?_) (by omega)⟩
          rw [P2_succ, ed]
          exact ⟨fun z => z.imp id fun z => .inr ⟨t, z.1, z.2, rfl⟩, fun z => z.imp id fun z => by
            rcases z with ⟨_, _, z⟩ | ⟨t', z1, z2, z⟩
            · cases z
            · cases z
              exact ⟨z1, z2⟩⟩
      · have hc := of_decide_eq_false h
        have A3 := A2.congr (c' := 42 + 2 * k + 1) (Ar' := fun x y => P2 Ar1 w.l.length w.c.length (iD U) (dD d) k x y ∨ (x = k ∧ y = w.l.length + w.c.length ∧ iD U k = 0)) (fun x y _ => ⟨.inl, fun z => z.elim id fun z => absurd z.2.2 hc⟩) (Nat.le_succ _)
        have sx3 := sx2
        generalize H2 = H3 at A3 sx3
        have kp3 : ∀ {b : Addr} {u : HO}, H b = some u → H3 b = some u := fun {b u} e => sx3 _ _ (nf e) (sA _ _ e)
        refine ⟨_, rfl, _, rfl, e, _, (k : Int), _, rfl, rfl, SqL.of (kp3 hE), at_nat onV hdk, rfl, _, rfl, ?_⟩
        cases ed : dD d k with
        | none =>
          obtain ⟨g, hg, hgm⟩ := fat (x := w.l.length + w.c.length) (by omega)
          have hgg := A3.at_ _ g hg
          have hle3 := A3.le (w.l.length + w.c.length)
          refine ifT rfl ⟨_, rfl, _, rfl, FD, _, ((w.l.length + w.c.length : Nat) : Int), _, rfl, rfl, SqL.of (sx3 _ _ nFD hFA), at_nat V.ref hg, .inl ⟨rfl, _, SqL.of hgg⟩, _, rfl, g, _, _, rfl, rfl, hgg, by rw [List.length_map]; exact sl100 (by omega), ?_⟩
          refine ⟨_, _, _, _, _, _, rfl, sx3.upd_in hgm, (A3.add hg k).congr (fun x y _ => ?_) (by omega)⟩
          rw [P2_succ, ed]
          exact ⟨fun z => z.imp id fun z => .inl ⟨z.1, z.2, rfl⟩, fun z => z.imp id fun z => by
            rcases z with z | ⟨t, _, _, z⟩
            · exact ⟨z.1, z.2.1⟩
            · cases z⟩
        | some t =>
          obtain ⟨xw, hxw⟩ := hwi k t ed
          have htn : t < w.c.length := (insW w o ok).wn k t xw hxw
          rw [ed] at hdk
          obtain ⟨g, hg, hgm⟩ := fat (x := w.l.length + t) (by omega)
          have hgg := A3.at_ _ g hg
          have hle3 := A3.le (w.l.length + t)
          refine ifF rfl ⟨_, rfl, _, rfl, _, rfl, _, rfl, e, _, (k : Int), _, rfl, rfl, SqL.of (kp3 hE), at_nat onV hdk, _, _, rfl, rfl, FD, _, ((w.l.length + t : Nat) : Int), _, rfl, rfl, SqL.of (sx3 _ _ nFD hFA), at_nat V.ref hg, .inl ⟨rfl, _, SqL.of hgg⟩, _, rfl, g, _, _, rfl, rfl, hgg, by rw [List.length_map]; exact sl100 (by omega), ?_⟩
          refine ⟨_, _, _, _, _, _, rfl, sx3.upd_in hgm, (A3.add hg k).congr (fun x y _ => ?_) (by omega)⟩
          rw [P2_succ, ed]
          exact ⟨fun z => z.imp id fun z => .inr ⟨t, z.1, z.2, rfl⟩, fun z => z.imp id fun z => by
            rcases z with ⟨_, _, z⟩ | ⟨t', z1, z2, z⟩
            · cases z
            · cases z
              exact ⟨z1, z2⟩⟩
    rintro σ H2 ⟨v10, v11, v12, v13, v14, L2, rfl, sx2, A2⟩
    generalize hA2 : P2 Ar1 w.l.length w.c.length (iD U) (dD d) w.l.length = Ar2 at A2
    have kp2 : ∀ {b : Addr} {u : HO}, H b = some u → H2 b = some u := fun {b u} e => sx2 _ _ (nf e) (sA _ _ e)
    have s02 : Same H H2 := fun b u e => kp2 e
    -- things
    refine ⟨_, rfl, _, rfl, a, e, w, toI d, rfl, hW.mono s02, ok, by rw [toI_map]; exact kp2 hE, fun cl Hc hcl sc hCl => ?_⟩
    have ncl : cl ∉ fs := fun hm => by
      obtain ⟨i, hi, ei⟩ := List.mem_iff_getElem.mp hm
      have := A2.at_ i cl (by rw [← ei]; exact List.getElem?_eq_getElem hi)
      rw [hcl] at this
      cases this
    have sxc := sx2.trans (SameX.of (S := fs) sc)
    refine ⟨cl, _, rfl, SqL.of hCl, for_enum (fun j σ H' => ∃ v10 v11 v12 v13 v14 L, σ = [some (.ref a), some (.ref b), some (.ref e), some (.ref pp), some (.int 1), some (.ref as), some (.ref ps), some (nV w.l.length), some (nV (w.l.length + w.c.length)), some (.ref FD), v10, v11, v12, v13, v14] ∧ SameX fs Hc H' ∧
        Adj H' fs (w.l.length + w.c.length + 1) (P3 Ar2 w.l.length w.c.length (iD Pl) (fun t => (w.c.getD t 0 : Int) - (d.count (some t) : Nat)) j) (56 + 2 * j) L)
      ⟨_, _, _, _, _, L2, rfl, SameX.refl _ _, (A2.mono sc).congr (fun x y _ => P3_zero.symm) (by omega)⟩ (fun i σ H' _ ⟨_, _, _, _, _, _, _, sx, _⟩ => SqL.of (sx _ _ ncl hCl)) ?_ ?_⟩
    · rintro j y Ti σ H3 hy ⟨v10, v11, v12, v13, v14, L3, rfl, sx3, A3⟩ hTi
      have hj : j < w.c.length := by
        have := lt_of_get hy
        rw [List.length_map, leftL_len] at this
        exact this
      have ey := map_get V.int (leftL_get (d := d) hj)
      rw [hy] at ey
      cases ey
      have s4 : Same H3 (upd H3 Ti (.tup [.int (j : Int), V.int ((w.c.getD j 0 : Int) - (d.count (some j) : Nat))])) := same_new hTi
      have A4 := A3.mono s4
      have sx4 := sx3.trans (SameX.of (S := fs) s4)
      refine pair_to ?_
      generalize upd H3 Ti (.tup [.int (j : Int), V.int ((w.c.getD j 0 : Int) - (d.count (some j) : Nat))]) = H4 at s4 A4 sx4
      have kp : ∀ {b : Addr} {u : HO}, H b = some u → H4 b = some u := fun {b u} e => (sxc.trans sx4) _ _ (nf e) (sA _ _ e)
      refine ⟨_, rfl, _, rfl, ps, _, (j : Int), _, rfl, rfl, SqL.of (kp hps), at_nat V.int (iD_get (by omega)), rfl, _, rfl, ?_⟩
      show if decide (V.int (iD Pl j) = V.int 0) = true then _ else _
      rw [dec_int]
      refine if2 (fun h => ?_) fun h => ?_
      · have hc := of_decide_eq_true h
        obtain ⟨f, hf, hfm⟩ := fat (x := w.l.length + w.c.length) (by omega)
        have hff := A4.at_ _ f hf
        have hle := A4.le (w.l.length + w.c.length)
        refine ⟨_, rfl, _, rfl, FD, _, ((w.l.length + w.c.length : Nat) : Int), _, rfl, rfl, SqL.of ((sxc.trans sx4) _ _ nFD hFA), at_nat V.ref hf, .inl ⟨rfl, _, SqL.of hff⟩, _, rfl, _, rfl, _, _, rfl, rfl, f, _, _, rfl, rfl, hff, by rw [List.length_map]; exact sl100 (by omega), ?_⟩
        have A5 := (A4.add hf (w.l.length + j)).congr (Ar' := fun x y => P3 Ar2 w.l.length w.c.length (iD Pl) (fun t => (w.c.getD t 0 : Int) - (d.count (some t) : Nat)) j x y ∨ (x = w.l.length + w.c.length ∧ y = w.l.length + j ∧ iD Pl j = 0)) (fun x y _ => ⟨fun z => z.imp id fun z => ⟨z.1, z.2, hc⟩, fun z => z.imp id fun z => ⟨z.1, z.2.1⟩⟩) (Nat.le_refl _)
        have sx5 : SameX fs Hc (upd H4 f (.lst ((L3.getD (w.l.length + w.c.length) []).map nV ++ [nV (w.l.length + j)]))) := sx4.upd_in hfm
        have A5' : Adj (upd H4 f (.lst ((L3.getD (w.l.length + w.c.length) []).map nV ++ [V.int ((w.l.length : Nat) + (j : Nat) : Int)]))) fs _ _ _ _ := A5
        have sx5' : SameX fs Hc (upd H4 f (.lst ((L3.getD (w.l.length + w.c.length) []).map nV ++ [V.int ((w.l.length : Nat) + (j : Nat) : Int)]))) := sx5
        generalize upd H4 f (.lst ((L3.getD (w.l.length + w.c.length) []).map nV ++ [V.int ((w.l.length : Nat) + (j : Nat) : Int)])) = H5 at A5' sx5'
        have A5 := A5'
        have sx5 := sx5'
        refine ⟨_, rfl, _, _, rfl, rfl, _, rfl, if2 (fun h2 => ?_) fun h2 => ?_⟩
        · have hc2 := of_decide_eq_true h2
          obtain ⟨g, hg, hgm⟩ := fat (x := w.l.length + j) (by omega)
          have hgg := A5.at_ _ g hg
          have hle3 := A5.le (w.l.length + j)
          refine ⟨_, rfl, _, rfl, _, rfl, _, _, rfl, rfl, FD, _, ((w.l.length + j : Nat) : Int), _, rfl, rfl, SqL.of ((sxc.trans sx5) _ _ nFD hFA), at_nat V.ref hg, .inl ⟨rfl, _, SqL.of hgg⟩, _, rfl, g, _, _, rfl, rfl, hgg, by rw [List.length_map]; exact sl100 (by omega), ?_⟩
          refine ⟨_, _, _, _, _, _, rfl, sx5.upd_in hgm, (A5.add hg (w.l.length + w.c.length)).congr (fun x y _ => ?_) (by omega)⟩
          rw [P3_succ]
          exact ⟨fun z => z.imp id fun z => ⟨z.1, z.2, hc2⟩, fun z => z.imp id fun z => ⟨z.1, z.2.1⟩⟩
        · have hc2 := of_decide_eq_false h2
          refine ⟨_, _, _, _, _, _, rfl, sx5, A5.congr (fun x y _ => ?_) (by omega)⟩
          rw [P3_succ]
          exact ⟨.inl, fun z => z.elim id fun z => absurd z.2.2 hc2⟩
      · have hc := of_decide_eq_false h
        have A5 := A4.congr (c' := 56 + 2 * j + 1) (Ar' := fun x y => P3 Ar2 w.l.length w.c.length (iD Pl) (fun t => (w.c.getD t 0 : Int) - (d.count (some t) : Nat)) j x y ∨ (x = w.l.length + w.c.length ∧ y = w.l.length + j ∧ iD Pl j = 0)) (fun x y _ => ⟨.inl, fun z => z.elim id fun z => absurd z.2.2 hc⟩) (Nat.le_succ _)
        have sx5 := sx4
        generalize H4 = H5 at A5 sx5
        refine ⟨_, rfl, _, _, rfl, rfl, _, rfl, if2 (fun h2 => ?_) fun h2 => ?_⟩
        · have hc2 := of_decide_eq_true h2
          obtain ⟨g, hg, hgm⟩ := fat (x := w.l.length + j) (by omega)
          have hgg := A5.at_ _ g hg
          have hle3 := A5.le (w.l.length + j)
          refine ⟨_, rfl, _, rfl, _, rfl, _, _, rfl, rfl, FD, _, ((w.l.length + j : Nat) : Int), _, rfl, rfl, SqL.of ((sxc.trans sx5) _ _ nFD hFA), at_nat V.ref hg, .inl ⟨rfl, _, SqL.of hgg⟩, _, rfl, g, _, _, rfl, rfl, hgg, by rw [List.length_map]; exact sl100 (by omega), ?_⟩
          refine ⟨_, _, _, _, _, _, rfl, sx5.upd_in hgm, (A5.add hg (w.l.length + w.c.length)).congr (fun x y _ => ?_) (by omega)⟩
          rw [P3_succ]
          exact ⟨fun z => z.imp id fun z => ⟨z.1, z.2, hc2⟩, fun z => z.imp id fun z => ⟨z.1, z.2.1⟩⟩
        · have hc2 := of_decide_eq_false h2
          refine ⟨_, _, _, _, _, _, rfl, sx5, A5.congr (fun x y _ => ?_) (by omega)⟩
          rw [P3_succ]
          exact ⟨.inl, fun z => z.elim id fun z => absurd z.2.2 hc2⟩
    rintro σ H3 ⟨v10, v11, v12, v13, v14, L3, rfl, sx3, A3⟩
    rw [List.length_map, leftL_len] at A3
    refine ⟨_, rfl, q H3 FD fs L3 (fun b u e => (sxc.trans sx3) _ _ (nf e) (sA _ _ e)) ((sxc.trans sx3) _ _ nFD hFA) (A3.congr (fun x y hx => ?_) (by omega))⟩
    rw [← hA2, ← hA]
    exact arcs_all ok hdl
end
end Wd
namespace Wd
open PySem PySem.Spec PyProof.Rows L2
/-- all nodes that x leads to, each with the one ahead -/
structure Led (N : Nat) (Ar : Nat → Nat → Prop) (x : Nat) (lf : List (Nat × Option Nat)) : Prop where
  nd : (lf.map (·.1)).Nodup
  st : lf[0]? = some (x, Option.none)
  re : ∀ y, y ∈ lf.map (·.1) ↔ Rch Ar x y
  lt : ∀ y ∈ lf.map (·.1), y < N
  pa : ∀ (i y : Nat) (v : Option Nat), lf[i]? = some (y, v) → (i = 0 ∧ v = Option.none) ∨ ∃ h j v', v = some h ∧ j < i ∧ lf[j]? = some (h, v') ∧ Ar h y
/-- .. so far; here: the node whose row is read -/
structure LedI (N : Nat) (Ar : Nat → Nat → Prop) (x : Nat) (lf : List (Nat × Option Nat)) (row : List Nat) (here : Option Nat) : Prop where
  nd : (lf.map (·.1)).Nodup
  st : lf[0]? = some (x, Option.none)
  lt : ∀ y ∈ lf.map (·.1), y < N
  pa : ∀ (i y : Nat) (v : Option Nat), lf[i]? = some (y, v) → (i = 0 ∧ v = Option.none) ∨ ∃ h j v', v = some h ∧ j < i ∧ lf[j]? = some (h, v') ∧ Ar h y
  rw : ∀ y ∈ row, y ∈ lf.map (·.1)
  cl : ∀ y ∈ lf.map (·.1), y ∉ row → here ≠ some y → ∀ z, Ar y z → z ∈ lf.map (·.1)
theorem led_rch {Ar : Nat → Nat → Prop} {x : Nat} {lf : List (Nat × Option Nat)} (st : lf[0]? = some (x, Option.none)) (pa : ∀ (i y : Nat) (v : Option Nat), lf[i]? = some (y, v) → (i = 0 ∧ v = Option.none) ∨ ∃ h j v', v = some h ∧ j < i ∧ lf[j]? = some (h, v') ∧ Ar h y) :
    ∀ (n i y : Nat) (v : Option Nat), i < n → lf[i]? = some (y, v) → Rch Ar x y
  | 0, i, _, _, h, _ => absurd h (Nat.not_lt_zero i)
  | n + 1, i, y, v, hi, h => by
    rcases pa i y v h with ⟨rfl, rfl⟩ | ⟨h', j, v', rfl, hj, e, ha⟩
    · rw [st] at h
      cases h
      exact .refl _
    · exact .tail (led_rch st pa n j h' v' (by omega) e) ha
theorem LedI.done {N x : Nat} {Ar : Nat → Nat → Prop} {lf : List (Nat × Option Nat)} (I : LedI N Ar x lf [] Option.none) : Led N Ar x lf := by
  refine ⟨I.nd, I.st, fun y => ⟨fun h => ?_, fun h => ?_⟩, I.lt, I.pa⟩
  · obtain ⟨p, hp, rfl⟩ := List.mem_map.mp h
    obtain ⟨i, hi, e⟩ := List.mem_iff_getElem.mp hp
    exact led_rch I.st I.pa (i + 1) i p.1 p.2 (Nat.lt_succ_self i) (by rw [← e]; exact List.getElem?_eq_getElem hi)
  · induction h with
    | refl => exact List.mem_map.mpr ⟨_, List.mem_of_getElem? I.st, rfl⟩
    | tail _ a ih => exact I.cl _ ih (by simp) (by simp) _ a
theorem LedI.start {N x : Nat} {Ar : Nat → Nat → Prop} (hx : x < N) : LedI N Ar x [(x, Option.none)] [x] Option.none := by
  refine ⟨by simp, rfl, fun y h => ?_, fun i y v h => ?_, fun y h => h, fun y h h2 => absurd h h2⟩
  · simp at h
    omega
  · cases i with
    | zero =>
      cases h
      exact .inl ⟨rfl, rfl⟩
    | succ i => simp at h
theorem LedI.pop {N x h : Nat} {Ar : Nat → Nat → Prop} {lf : List (Nat × Option Nat)} {row : List Nat} (I : LedI N Ar x lf (h :: row) Option.none) : LedI N Ar x lf row (some h) :=
  ⟨I.nd, I.st, I.lt, I.pa, fun y hy => I.rw y (List.mem_cons_of_mem _ hy), fun y hy h1 h2 z hz => I.cl y hy (fun m => by
    rcases List.mem_cons.mp m with e | m
    · exact h2 (by rw [e])
    · exact h1 m) (by simp) z hz⟩
theorem LedI.add {N x h z : Nat} {Ar : Nat → Nat → Prop} {lf : List (Nat × Option Nat)} {row : List Nat} (I : LedI N Ar x lf row (some h)) (hh : h ∈ lf.map (·.1)) (ha : Ar h z) (hz : z < N) (hn : z ∉ lf.map (·.1)) : LedI N Ar x (lf ++ [(z, some h)]) (row ++ [z]) (some h) := by
  have h0 : 0 < lf.length := lt_of_get I.st
  refine ⟨?_, ?_, fun y hy => ?_, fun i y v e => ?_, fun y hy => ?_, fun y hy h1 h2 z' ha' => ?_⟩
  · rw [List.map_append]
    exact nd_snoc I.nd hn
  · rw [List.getElem?_append_left h0]
    exact I.st
  · rw [List.map_append] at hy
    rcases List.mem_append.mp hy with m | m
    · exact I.lt y m
    · simp at m
      omega
  · by_cases hi : i < lf.length
    · rw [List.getElem?_append_left hi] at e
      rcases I.pa i y v e with q | ⟨h', j, v', e1, e2, e3, e4⟩
      · exact .inl q
      · exact .inr ⟨h', j, v', e1, e2, by rw [List.getElem?_append_left (by omega)]; exact e3, e4⟩
    · rw [List.getElem?_append_right (by omega)] at e
      have hi2 : i - lf.length = 0 := by
        have := lt_of_get e
        simp at this
        omega
      rw [hi2] at e
      cases e
      obtain ⟨p, hp, hp1⟩ := List.mem_map.mp hh
      obtain ⟨j, hj, ej⟩ := List.mem_iff_getElem.mp hp
      refine .inr ⟨h, j, p.2, rfl, by omega, ?_, ha⟩
      rw [List.getElem?_append_left hj, List.getElem?_eq_getElem hj, ej, ← hp1]
  · rw [List.map_append, List.mem_append]
    rcases List.mem_append.mp hy with m | m
    · exact .inl (I.rw y m)
    · exact .inr m
  · rw [List.map_append] at hy ⊢
    rcases List.mem_append.mp hy with m | m
    · exact List.mem_append_left _ (I.cl y m (fun q => h1 (List.mem_append_left _ q)) h2 z' ha')
    · exact absurd (List.mem_append_right _ m) h1
theorem LedI.close {N x h : Nat} {Ar : Nat → Nat → Prop} {lf : List (Nat × Option Nat)} {row : List Nat} (I : LedI N Ar x lf row (some h)) (hc : ∀ z, Ar h z → z ∈ lf.map (·.1)) : LedI N Ar x lf row Option.none :=
  ⟨I.nd, I.st, I.lt, I.pa, I.rw, fun y hy h1 _ z hz => by
    by_cases q : y = h
    · subst q
      exact hc z hz
    · exact I.cl y hy h1 (fun e => q (Option.some.inj e).symm) z hz⟩
theorem LedI.len {N x : Nat} {Ar : Nat → Nat → Prop} {lf : List (Nat × Option Nat)} {row : List Nat} {h : Option Nat} (I : LedI N Ar x lf row h) : lf.length ≤ N := by
  have := sub_len (l2 := List.range N) I.nd fun t ht => List.mem_range.mpr (I.lt t ht)
  rw [List.length_range, List.length_map] at this
  exact this
theorem lookup_keys {α : Type} {l : List (Nat × α)} {t : Nat} : (l.lookup t).isSome = true ↔ t ∈ l.map (·.1) := by
  rw [← lookup_any, List.any_eq_true, List.mem_map]
  exact ⟨fun ⟨p, h1, h2⟩ => ⟨p, h1, of_decide_eq_true h2⟩, fun ⟨p, h1, h2⟩ => ⟨p, h1, decide_eq_true h2⟩⟩
theorem seq_zero (n : Nat) : seqIndex? 0 (n + 1) = some 0 := by
  unfold seqIndex?
  simp
def spLed : Sp := fun vs H Q _ => ∃ (FD : Addr) (fs : List Addr) (N c : Nat) (Ar : Nat → Nat → Prop) (L : List (List Nat)) (x : Nat), vs = [.ref FD, nV x] ∧ H FD = some (.lst (fs.map V.ref)) ∧ Adj H fs N Ar c L ∧ x < N ∧ N ≤ 1000 ∧ (∀ a b, Ar a b → b < N) ∧
  ∀ H' p lf, H p = Option.none → Same H H' → H' p = some (.dK (enc onV lf)) → Led N Ar x lf → Q (.ref p) H'
section
variable {P : Program} {w : World} {K : PySem.W.Frag} {mg : Str → Option Value} {base : Heap}
abbrev N_led_to : List Str := ["arcs", "node", "found", "row", "here", "other"]
theorem sc_led_to : FnScope N_led_to ["arcs", "node"] (defScope s_led_to) := ⟨rfl, rfl, rfl, by decide +kernel, rfl, by decide +kernel, by decide +kernel⟩
theorem ok_led_to {f : Addr} {fd : FuncData} (F : FnP K "led_to" "led_to" s_led_to f fd) (T : Txt K mg)  : FnOk P w K mg base CX0 1 f fd ["arcs", "node"] (spLed) := by
  refine F.ok sc_led_to (fun vs H Q E h => ?_) (fun cdv A outer s H vs Q E hr h => ?_)
  · obtain ⟨FD, fs, N, c, Ar, L, x, rfl, _⟩ := h
    rfl
  · have hu := hu_of hr
    have nd := sc_led_to.nd
    refine ⟨_, PSs.nox (pss_cons (ps_set (i := 2) nd rfl (Or.inl rfl) (pe_disp (pps_cons (pv 1) pe_non pps_nil) (by rfl) (by rfl) (fun z => by cases z) (by decide)))
    (pss_cons (ps_set (i := 3) nd rfl (Or.inl rfl) (pe_lst (pa_cons (pv 1) pa_nil)))
    (pss_cons (ps_while PassesOwn.never (pt_cmpR (op_neD hr.units) (pv 3) (pe_lst pa_nil) (nomark _))
      (pss_cons (ps_set (i := 4) nd rfl (Or.inl rfl) (pe_bm PySem.F.plainAttrs_list PySem.F.slot_list_pop PySem.F.type_list_pop mt_popAt (pv 3) (pa_cons pe_int pa_nil)))
      (pss_one (ps_for PassesOwn.never rfl (pi_list (pe_ix ix_list (pv 0) (pv 4) (fun _ _ => rfl))) (pg_name (i := 5) nd rfl (Or.inl rfl))
        (pss_one (ps_if (pt_cmp (pc_dnotin hu (pv 5) (pv 2)))
          (pss_cons (ps_dput hu (pv 2) (pv 5) (pv 4) rfl)
          (pss_one (ps_expr (pe_bm PySem.F.plainAttrs_list PySem.F.slot_list_append PySem.F.type_list_append mt_append (pv 3) (pa_cons (pv 5) pa_nil)))))
          pss_nil))))))
    (pss_one (ps_ret (pv 2)))))), ?_⟩
    obtain ⟨FD, fs, N, c, Ar, L, x, rfl, hF, hAd, hx, hN, hAr, q⟩ := h
    refine fun p hp => ⟨_, rfl, upd_same, [(Sum.inl (x : Int), V.non)], rfl, by show 1 ≤ 15; decide, ?_⟩
    have em : mergeK [] [((Sum.inl (x : Int) : Key), V.non)] = enc onV [(x, Option.none)] := rfl
    rw [em]
    have s1 : Same H (upd (upd H p (.dK [])) p (.dK (enc onV [(x, Option.none)]))) := same_mut (same_new hp) hp
    have hp1 : upd (upd H p (.dK [])) p (.dK (enc onV [(x, Option.none)])) p = some (.dK (enc onV [(x, Option.none)])) := upd_same
    generalize upd (upd H p (.dK [])) p (.dK (enc onV [(x, Option.none)])) = H1 at s1 hp1
    refine ⟨_, rfl, by show 1 ≤ sizeLine; decide, fun r hr => ?_⟩
    have npr : p ≠ r := ne_of_none hp1 hr
    have hp0 := hp
    have hr0 := s1.free hr
    have s2 : Same H (upd H1 r (.lst [nV x])) := same_and s1 hr
    have hp2 : upd H1 r (.lst [nV x]) p = some (.dK (enc onV [(x, Option.none)])) := by rw [upd_ne npr]; exact hp1
    have hr2 : upd H1 r (.lst [nV x]) r = some (.lst ([x].map nV)) := upd_same
    generalize upd H1 r (.lst [nV x]) = H2 at s2 hp2 hr2
    obtain ⟨Wn, hWn⟩ : ∃ Wn : Nat → L2.St → Hp → Prop, Wn = fun m σ H' => ∃ v4 v5 lf row, σ = [some (.ref FD), some (nV x), some (.ref p), some (.ref r), v4, v5] ∧ Same H H' ∧ H' p = some (.dK (enc onV lf)) ∧ H' r = some (.lst (row.map nV)) ∧ LedI N Ar x lf row Option.none ∧ row.length ≤ lf.length ∧ m = 2 * (N - lf.length) + row.length := ⟨_, rfl⟩
    refine ⟨Wn, ⟨2 * (N - [(x, (Option.none : Option Nat))].length) + [x].length, ?_⟩, ?_⟩
    · rw [hWn]
      exact ⟨_, _, _, _, rfl, s2, hp2, hr2, LedI.start hx, Nat.le_refl _, rfl⟩
    intro m σ H3 hw
    rw [hWn] at hw
    obtain ⟨v4, v5, lf, row, rfl, s3, hp3, hr3, I3, hrl3, rfl⟩ := hw
    refine ⟨_, rfl, Nat.zero_le _, fun z hz => ?_⟩
    have s4 : Same H3 (upd H3 z (.lst [])) := same_new hz
    refine neN_nil (s4 _ _ hr3) upd_same ⟨_, rfl, ?_⟩
    have s5 := s3.trans s4
    have hp4 := s4 _ _ hp3
    have hr4 := s4 _ _ hr3
    generalize upd H3 z (.lst []) = H4 at s4 s5 hp4 hr4
    cases row with
    | nil =>
      exact ifF rfl ⟨_, rfl, q H4 p lf hp s5 hp4 I3.done⟩
    | cons h row =>
      refine ifT rfl ⟨fun σ' H' => ∃ m', m' < 2 * (N - lf.length) + (h :: row).length ∧ Wn m' σ' H', fun σ' H' z => z, ?_⟩
      have hh := I3.rw h List.mem_cons_self
      have hhN := I3.lt h hh
      have hlen := I3.len
      refine ⟨_, rfl, .inl ⟨rfl, _, SqL.of hr4⟩, r, _, 0, 0, nV h, rfl, rfl, hr4, by decide, by decide, by rw [List.length_map]; exact seq_zero _, rfl, ?_⟩
      have s6 : Same H (upd H4 r (.lst (((h :: row).map nV).eraseIdx 0))) := same_mut s5 hr0
      have hr6 : upd H4 r (.lst (((h :: row).map nV).eraseIdx 0)) r = some (.lst (row.map nV)) := upd_same
      have hp6 : upd H4 r (.lst (((h :: row).map nV).eraseIdx 0)) p = some (.dK (enc onV lf)) := by rw [upd_ne npr]; exact hp4
      generalize upd H4 r (.lst (((h :: row).map nV).eraseIdx 0)) = H5 at s6 hr6 hp6
      have hfl : h < fs.length := by rw [hAd.l1]; exact hhN
      have hfh := List.getElem?_eq_getElem hfl
      generalize fs[h] = f at hfh
      have hff := hAd.at_ h f hfh
      refine ⟨_, rfl, _, rfl, FD, _, (h : Int), _, rfl, rfl, SqL.of (s6 _ _ hF), at_nat V.ref hfh, f, rfl, ⟨_, SqL.of (s6 _ _ hff)⟩, for_list (xs := (L.getD h []).map nV) (fun j σ H' => ∃ v5 lf' row', σ = [some (.ref FD), some (nV x), some (.ref p), some (.ref r), some (nV h), v5] ∧ Same H H' ∧ H' p = some (.dK (enc onV lf')) ∧ H' r = some (.lst (row'.map nV)) ∧ LedI N Ar x lf' row' (some h) ∧ h ∈ lf'.map (·.1) ∧
          (∀ (j' z : Nat), j' < j → (L.getD h [])[j']? = some z → z ∈ lf'.map (·.1)) ∧ 2 * (N - lf'.length) + row'.length ≤ 2 * (N - lf.length) + row.length ∧ row'.length ≤ row.length + (lf'.length - lf.length) ∧ lf.length ≤ lf'.length)
        ⟨_, lf, row, rfl, s6, hp6, hr6, I3.pop, hh, fun j' z h => absurd h (Nat.not_lt_zero _), Nat.le_refl _, by omega, Nat.le_refl _⟩ (fun i σ H' _ ⟨_, _, _, _, s, _⟩ => SqL.of (s _ _ hff)) ?_ ?_⟩
      · rintro j y σ H6 hy ⟨v5, lf', row', rfl, s7, hp7, hr7, I7, hh7, hk7, hl7, hrl7, hll7⟩
        obtain ⟨z, hz, rfl⟩ := get_nV hy
        have haz : Ar h z := (hAd.ar h z hhN).mp (List.mem_of_getElem? hz)
        refine ⟨_, rfl, _, rfl, p, _, rfl, dget z (.inl hp7), _, rfl, ?_⟩
        have nx : z ∈ lf'.map (·.1) → ∀ (j' z' : Nat), j' < j + 1 → (L.getD h [])[j']? = some z' → z' ∈ lf'.map (·.1) := fun hm j' z' h1 h2 => by
          by_cases q2 : j' = j
          · subst q2
            rw [hz] at h2
            cases h2
            exact hm
          · exact hk7 j' z' (by omega) h2
        have es : ((lf'.lookup z).map onV).isSome = (lf'.lookup z).isSome := by cases lf'.lookup z <;> rfl
        rw [es]
        refine if2 (fun hb => ?_) fun hb => ?_
        · have hn : z ∉ lf'.map (·.1) := fun m => by
            rw [lookup_keys.mpr m] at hb
            cases hb
          have hnl : lf'.lookup z = Option.none := by
            cases e : lf'.lookup z with
            | none => rfl
            | some v => exact absurd (lookup_keys.mp (by rw [e]; rfl)) hn
          have I8 := I7.add hh7 haz (hAr _ _ haz) hn
          have hl8 := I8.len
          rw [List.length_append] at hl8
          have hl81 : [(z, some h)].length = 1 := rfl
          refine ⟨_, rfl, _, rfl, _, rfl, p, _, rfl, dput z (some h) hp7 (by have := I7.len; omega), ?_⟩
          rw [put_new _ hnl]
          have s8 : Same H (upd H6 p (.dK (enc onV (lf' ++ [(z, some h)])))) := same_mut s7 hp0
          have hr8 : upd H6 p (.dK (enc onV (lf' ++ [(z, some h)]))) r = some (.lst (row'.map nV)) := by rw [upd_ne npr.symm]; exact hr7
          have hp8 : upd H6 p (.dK (enc onV (lf' ++ [(z, some h)]))) p = some (.dK (enc onV (lf' ++ [(z, some h)]))) := upd_same
          generalize upd H6 p (.dK (enc onV (lf' ++ [(z, some h)]))) = H8 at s8 hr8 hp8
          refine ⟨_, rfl, .inl ⟨rfl, _, SqL.of hr8⟩, _, rfl, r, _, _, rfl, rfl, hr8, ?_, ?_⟩
          · have := I7.len
            rw [List.length_cons] at hrl3
            rw [List.length_map]
            exact sl100 (by omega)
          · refine ⟨_, lf' ++ [(z, some h)], row' ++ [z], rfl, same_mut s8 hr0, by rw [upd_ne npr]; exact hp8, ?_, I8, ?_, ?_, ?_, ?_, ?_⟩
            · rw [upd_same, List.map_append]
              rfl
            · rw [List.map_append]
              exact List.mem_append_left _ hh7
            · intro j' z' h1 h2
              rw [List.map_append, List.mem_append]
              by_cases q2 : j' = j
              · subst q2
                rw [hz] at h2
                cases h2
                exact .inr (by simp)
              · exact .inl (hk7 j' z' (by omega) h2)
            · rw [List.length_append, List.length_append, hl81]
              show 2 * (N - (lf'.length + 1)) + (row'.length + 1) ≤ _
              omega
            · rw [List.length_append, List.length_append, hl81]
              show row'.length + 1 ≤ _
              omega
            · rw [List.length_append]
              omega
        · have hm : z ∈ lf'.map (·.1) := lookup_keys.mp (by
            cases e : (lf'.lookup z).isSome with
            | true => rfl
            | false =>
              rw [e] at hb
              cases hb)
          exact ⟨_, lf', row', rfl, s7, hp7, hr7, I7, hh7, nx hm, hl7, hrl7, hll7⟩
      · rintro σ H6 ⟨v5, lf', row', rfl, s7, hp7, hr7, I7, hh7, hk7, hl7, hrl7, hll7⟩
        refine ⟨2 * (N - lf'.length) + row'.length, ?_, ?_⟩
        · rw [List.length_cons]
          omega
        · rw [hWn]
          refine ⟨_, _, lf', row', rfl, s7, hp7, hr7, I7.close fun z hz => ?_, ?_, rfl⟩
          rotate_left
          · rw [List.length_cons] at hrl3
            omega
          obtain ⟨j, hj, e⟩ := List.mem_iff_getElem.mp ((hAd.ar h z hhN).mpr hz)
          exact hk7 j z (by rw [List.length_map]; exact hj) (by rw [← e]; exact List.getElem?_eq_getElem hj)
end
end Wd
namespace Wd
open PySem PySem.Spec PyProof.Rows L2
/-- how many nodes each one leads to -/
def PlaL (N : Nat) (Ar : Nat → Nat → Prop) (l : List Nat) : Prop := l.length = N ∧ ∀ x, x < N → ∃ ys : List Nat, ys.Nodup ∧ (∀ y, y ∈ ys ↔ Rch Ar x y) ∧ l.getD x 0 = ys.length
/-- pairs of nodes at these places -/
def StepsAt (H : Hp) (ss : List Addr) (N : Nat) : Prop := ∀ s ∈ ss, ∃ a b : Nat, H s = some (.tup [nV a, nV b]) ∧ a < N ∧ b < N
def spPla : Sp := fun vs H Q _ => ∃ (FD : Addr) (fs : List Addr) (N c : Nat) (Ar : Nat → Nat → Prop) (L : List (List Nat)), vs = [.ref FD] ∧ H FD = some (.lst (fs.map V.ref)) ∧ Adj H fs N Ar c L ∧ N ≤ 1000 ∧ (∀ a b, Ar a b → b < N) ∧
  ∀ H' p l, H p = Option.none → Same H H' → H' p = some (.lst (l.map nV)) → PlaL N Ar l → Q (.ref p) H'
def spStr : Sp := fun vs H Q _ => ∃ (pp as ps FD : Addr) (fs : List Addr) (m n c : Nat) (Ar : Nat → Nat → Prop) (L : List (List Nat)) (U P : List Int), vs = [.ref pp, .ref FD] ∧ H pp = some (.tup [.int 1, .ref as, .ref ps]) ∧ H as = some (.lst (U.map V.int)) ∧ H ps = some (.lst (P.map V.int)) ∧ U.length = m ∧ P.length = n ∧
  H FD = some (.lst (fs.map V.ref)) ∧ Adj H fs (m + n + 1) Ar c L ∧ m + n + 1 ≤ 1000 ∧ (∀ a b, Ar a b → b < m + n + 1) ∧
  ∀ H' T as' ps' l, Same H H' → PlaL (m + n + 1) Ar l → H' T = some (.tup [.int ((m + n + 1 : Nat) : Int), .ref as', .ref ps']) →
    H' as' = some (.lst (((List.range m).map fun a => ((m + n + 1 : Nat) : Int) * iD U a + (l.getD a 0 : Nat) - (l.getD (m + n) 0 : Nat)).map V.int)) →
    H' ps' = some (.lst (((List.range n).map fun t => ((m + n + 1 : Nat) : Int) * iD P t + (l.getD (m + n) 0 : Nat) - (l.getD (m + t) 0 : Nat)).map V.int)) → Q (.ref T) H'
def spMov : Sp := fun vs H Q _ => ∃ (e FD : Addr) (fs : List Addr) (m n c : Nat) (Ar : Nat → Nat → Prop) (L : List (List Nat)) (d : List (Option Nat)) (x y : Nat), vs = [.ref e, .ref FD, nV x, nV y] ∧ H e = some (.lst (d.map onV)) ∧ d.length = m ∧
  H FD = some (.lst (fs.map V.ref)) ∧ Adj H fs (m + n + 1) Ar c L ∧ m + n + 1 ≤ 1000 ∧ (∀ a b, Ar a b → b < m + n + 1) ∧ y < m + n + 1 ∧ Rch Ar y x ∧
  ∀ H' p (f : List (Option Int)), H p = Option.none → Same H H' → H' p = some (.lst (f.map oV)) → f.length = m → Q (.ref p) H'
section
variable {P : Program} {w : World} {K : PySem.W.Frag} {mg : Str → Option Value} {base : Heap}
abbrev N_places_of : List Str := ["arcs", "node"]
theorem sc_places_of : FnScope N_places_of ["arcs"] (defScope s_places_of) := ⟨rfl, rfl, rfl, by decide +kernel, rfl, by decide +kernel, by decide +kernel⟩
theorem ok_places_of {f : Addr} {fd : FuncData} (F : FnP K "places_of" "places_of" s_places_of f fd) (T : Txt K mg) (c_led_to : Cal P w K mg base "led_to" 1 ["arcs", "node"] (spLed)) : FnOk P w K mg base CX0 2 f fd ["arcs"] (spPla) := by
  refine F.ok sc_places_of (fun vs H Q E h => ?_) (fun cdv A outer s H vs Q E hr h => ?_)
  · obtain ⟨FD, fs, N, c, Ar, L, rfl, _⟩ := h
    rfl
  · have hu := hu_of hr
    have nd := sc_places_of.nd
    refine ⟨_, PSs.nox (pss_one (ps_ret (pe_lc (own := [("node", 1)]) (g := (gName 1)) (tt := tYes) (te := (tCB rLenD (tCons (tCall _ [] E0 (tCons (tVar 0) (tCons (tVar 1) tNil))) tNil))) (by rfl) nd (pi_range1 rfl T.range (pa_cons (pe_callB call_len_seq (by rfl) T.len (by decide +kernel) (pa_cons (pv 0) pa_nil)) pa_nil)) (blkOk_by (own := [("node", 1)]) (N := N_places_of) (sc := defScope s_places_of) (by decide +kernel)) (fun _ _ _ _ _ => (pg_name (i := 1) nd rfl (Or.inl rfl))) (fun _ _ _ _ _ => pts_nil) (fun _ _ _ _ _ => (pe_callB (r := rLenD) call_lenD (by rfl) T.len (by decide +kernel) (pa_cons (pe_call c_led_to.ok (hr.mono (by decide)) (by rfl) c_led_to.g c_led_to.kp c_led_to.b .nil pass0 (pa_cons (pv 0) (pa_cons (pv 1) pa_nil))) pa_nil)))))), ?_⟩
    obtain ⟨FD, fs, N, c, Ar, L, rfl, hF, hAd, hN, hAr, q⟩ := h
    have ef : ((fs.map V.ref).length : Int) = ((N : Nat) : Int) := by rw [List.length_map, hAd.l1]
    refine ⟨_, rfl, FD, _, rfl, .inl (SqL.of hF), ((fs.map V.ref).length : Int), rfl, ?_⟩
    rw [ef]
    refine ⟨by omega, by omega, fun D hD => ?_⟩
    refine lc_range (n := N) (fun k H' => Same H H' ∧ ∃ l : List Nat, H' D = some (.lst (l.map nV)) ∧ l.length = k ∧ ∀ x, x < k → ∃ ys : List Nat, ys.Nodup ∧ (∀ y, y ∈ ys ↔ Rch Ar x y) ∧ l.getD x 0 = ys.length) ⟨same_new hD, [], upd_same, rfl, fun x h => absurd h (Nat.not_lt_zero _)⟩ ?_ ?_
    · rintro k H1 hk ⟨sm, l, hL, hll, hall⟩
      refine ⟨rfl, yes_ ⟨_, rfl, _, rfl, FD, fs, N, c, Ar, L, k, (by show [V.ref FD, V.int (0 + (k : Int))] = _; rw [Int.zero_add]), sm _ _ hF, hAd.mono sm, hk, hN, hAr, fun H2 p lf hp s2 hpd hled => ⟨p, _, rfl, hpd, _, s2 _ _ hL, ?_, same_mut (sm.trans s2) hD, l ++ [lf.length], ?_, ?_, fun x hx => ?_⟩⟩⟩
      · rw [List.length_map]
        exact sl100 (by omega)
      · rw [upd_same, List.map_append, enc_len]
        rfl
      · rw [List.length_append, hll]
        rfl
      · by_cases e : x = k
        · subst e
          refine ⟨lf.map (·.1), hled.nd, hled.re, ?_⟩
          rw [List.getD_eq_getElem?_getD, List.getElem?_append_right (by omega), hll, Nat.sub_self, List.length_map]
          rfl
        · obtain ⟨ys, h1, h2, h3⟩ := hall x (by omega)
          refine ⟨ys, h1, h2, ?_⟩
          rw [List.getD_eq_getElem?_getD, List.getElem?_append_left (by omega), ← List.getD_eq_getElem?_getD]
          exact h3
    · rintro H1 ⟨sm, l, hL, hll, hall⟩
      exact q H1 D l hD sm hL ⟨hll, hall⟩
abbrev N_strict_paper : List Str := ["paper", "arcs", "times", "asks", "prices", "places", "many", "size", "asked", "asker", "priced", "thing"]
theorem sc_strict_paper : FnScope N_strict_paper ["paper", "arcs"] (defScope s_strict_paper) := ⟨rfl, rfl, rfl, by decide +kernel, rfl, by decide +kernel, by decide +kernel⟩
theorem ok_strict_paper {f : Addr} {fd : FuncData} (F : FnP K "strict_paper" "strict_paper" s_strict_paper f fd) (T : Txt K mg) (c_places_of : Cal P w K mg base "places_of" 2 ["arcs"] (spPla)) : FnOk P w K mg base CX0 3 f fd ["paper", "arcs"] (spStr) := by
  refine F.ok sc_strict_paper (fun vs H Q E h => ?_) (fun cdv A outer s H vs Q E hr h => ?_)
  · obtain ⟨pp, as, ps, FD, fs, m, n, c, Ar, L, U, Pl, rfl, _⟩ := h
    rfl
  · have hu := hu_of hr
    have nd := sc_strict_paper.nd
    refine ⟨_, PSs.nox (pss_cons (ps_asg (pv 0) (pg_tup rfl (pgs_cons (pg_name (i := 2) nd rfl (Or.inl rfl)) (pgs_cons (pg_name (i := 3) nd rfl (Or.inr rfl)) (pgs_cons (pg_name (i := 4) nd rfl (Or.inr rfl)) pgs_nil)))))
    (pss_cons (ps_set (i := 5) nd rfl (Or.inr rfl) (pe_call c_places_of.ok (hr.mono (by decide)) (by rfl) c_places_of.g c_places_of.kp c_places_of.b .nil pass0 (pa_cons (pv 1) pa_nil)))
    (pss_cons (ps_set (i := 6) nd rfl (Or.inr rfl) (pe_callB call_len_seq (by rfl) T.len (by decide +kernel) (pa_cons (pv 3) pa_nil)))
    (pss_cons (ps_set (i := 7) nd rfl (Or.inr rfl) (pe_callB call_len_seq (by rfl) T.len (by decide +kernel) (pa_cons (pv 1) pa_nil)))
    (pss_cons (ps_setLc (i := 8) (own := [("asker", 9)]) (g := (gName 9)) (tt := tYes) (te := (tOp _ (tOp _ (tOp _ (tVar 7) (tOp (rIxL K) (tVar 3) (tVar 9))) (tOp (rIxL K) (tVar 5) (tVar 9))) (tOp (rIxL K) (tVar 5) (tUn _ (tC _))))) (by rfl) nd rfl rfl (sw_true rfl rfl rfl (by decide +kernel)) (pi_range1 rfl T.range (pa_cons (pv 6) pa_nil)) (blkOk_by (own := [("asker", 9)]) (N := N_strict_paper) (sc := defScope s_strict_paper) (by decide +kernel)) (fun _ _ _ _ _ => (pg_name (i := 9) nd rfl (Or.inl rfl))) (fun _ _ _ _ _ => pts_nil) (fun _ _ _ _ _ => (pe_op op_sub (pe_op op_add (pe_op op_mul (pv 7) (pe_ix (r := rIxL K) ix_list (pv 3) (pv 9) (fun _ _ => rfl))) (pe_ix (r := rIxL K) ix_list (pv 5) (pv 9) (fun _ _ => rfl))) (pe_ix (r := rIxL K) ix_list (pv 5) (pe_un un_neg pe_int) (fun _ _ => rfl)))))
    (pss_cons (ps_setLc (i := 10) (own := [("thing", 11)]) (g := (gName 11)) (tt := tYes) (te := (tOp _ (tOp _ (tOp _ (tVar 7) (tOp (rIxL K) (tVar 4) (tVar 11))) (tOp (rIxL K) (tVar 5) (tUn _ (tC _)))) (tOp (rIxL K) (tVar 5) (tOp _ (tVar 6) (tVar 11))))) (by rfl) nd rfl rfl (sw_true rfl rfl rfl (by decide +kernel)) (pi_range1 rfl T.range (pa_cons (pe_callB call_len_seq (by rfl) T.len (by decide +kernel) (pa_cons (pv 4) pa_nil)) pa_nil)) (blkOk_by (own := [("thing", 11)]) (N := N_strict_paper) (sc := defScope s_strict_paper) (by decide +kernel)) (fun _ _ _ _ _ => (pg_name (i := 11) nd rfl (Or.inl rfl))) (fun _ _ _ _ _ => pts_nil) (fun _ _ _ _ _ => (pe_op op_sub (pe_op op_add (pe_op op_mul (pv 7) (pe_ix (r := rIxL K) ix_list (pv 4) (pv 11) (fun _ _ => rfl))) (pe_ix (r := rIxL K) ix_list (pv 5) (pe_un un_neg pe_int) (fun _ _ => rfl))) (pe_ix (r := rIxL K) ix_list (pv 5) (pe_op op_add (pv 6) (pv 11)) (fun _ _ => rfl)))))
    (pss_one (ps_ret (pe_tup (pa_cons (pe_op op_mul (pv 7) (pv 2)) (pa_cons (pv 8) (pa_cons (pv 10) pa_nil)))))))))))), ?_⟩
    obtain ⟨pp, as, ps, FD, fs, m, n, c, Ar, L, U, Pl, rfl, hpp, has, hps, hul, hpl, hF, hAd, hN, hAr, q⟩ := h
    refine ⟨_, rfl, pp, _, rfl, SqT.of hpp, rfl, _, _, rfl, _, _, rfl, _, _, rfl, rfl, ?_⟩
    refine ⟨_, rfl, FD, fs, m + n + 1, c, Ar, L, rfl, hF, hAd, hN, hAr, fun H1 pa l hpa s1 hl hPl => ?_⟩
    have em : ((U.map V.int).length : Int) = ((m : Nat) : Int) := by rw [List.length_map, hul]
    have en : ((Pl.map V.int).length : Int) = ((n : Nat) : Int) := by rw [List.length_map, hpl]
    have ef : ((fs.map V.ref).length : Int) = ((m + n + 1 : Nat) : Int) := by rw [List.length_map, hAd.l1]
    refine ⟨_, rfl, as, _, rfl, .inl (SqL.of (s1 _ _ has)), ?_⟩
    rw [em]
    refine ⟨_, rfl, FD, _, rfl, .inl (SqL.of (s1 _ _ hF)), ?_⟩
    rw [ef]
    have lat : ∀ {x : Nat}, x < m + n + 1 → l[x]? = some (l.getD x 0) := fun {x} hx => by
      rw [List.getD_eq_getElem?_getD, List.getElem?_eq_getElem (by rw [hPl.1]; exact hx)]
      rfl
    have llast : atI (l.map nV) (-1) = some (nV (l.getD (m + n) 0)) := atI_lastN (n := m + n) (by rw [List.length_map]; exact hPl.1) (map_get nV (lat (by omega)))
    refine ⟨_, rfl, ((m : Nat) : Int), rfl, by omega, by omega, fun D hD => ?_⟩
    refine lc_range (n := m) (fun k H' => Same H1 H' ∧ H' D = some (.lst (((List.range k).map fun a => ((m + n + 1 : Nat) : Int) * iD U a + (l.getD a 0 : Nat) - (l.getD (m + n) 0 : Nat)).map V.int))) ⟨same_new hD, upd_same⟩ ?_ ?_
    · rintro k H2 hk ⟨sm, hL⟩
      refine ⟨rfl, yes_ ?_⟩
      refine ⟨_, rfl, _, rfl, _, rfl, as, _, (0 + (k : Int)), _, rfl, rfl, SqL.of (sm _ _ (s1 _ _ has)), (by rw [Int.zero_add]; exact at_nat V.int (iD_get (by omega))), _, _, rfl, rfl, .inl ⟨by omega, by omega⟩, _, rfl, _, rfl, pa, _, (0 + (k : Int)), _, rfl, rfl, SqL.of (sm _ _ hl), (by rw [Int.zero_add]; exact at_nat nV (lat (by omega))), _, _, rfl, rfl, _, rfl, _, rfl, pa, _, -1, _, rfl, rfl, SqL.of (sm _ _ hl), llast, _, _, rfl, rfl, _, hL, ?_, same_mut sm hD, ?_⟩
      · rw [List.length_map, List.length_map, List.length_range]
        exact sl100 (by omega)
      · rw [upd_same, List.range_succ, List.map_append, List.map_append]
        rfl
    rintro H2 ⟨s2, hL2⟩
    refine ⟨_, rfl, ps, _, rfl, .inl (SqL.of (s2 _ _ (s1 _ _ hps))), _, rfl, ?_⟩
    rw [en]
    refine ⟨by omega, by omega, fun D2 hD2 => ?_⟩
    refine lc_range (n := n) (fun k H' => Same H2 H' ∧ H' D2 = some (.lst (((List.range k).map fun t => ((m + n + 1 : Nat) : Int) * iD Pl t + (l.getD (m + n) 0 : Nat) - (l.getD (m + t) 0 : Nat)).map V.int))) ⟨same_new hD2, upd_same⟩ ?_ ?_
    · rintro k H3 hk ⟨sm, hL⟩
      refine ⟨rfl, yes_ ?_⟩
      have s13 := s2.trans sm
      refine ⟨_, rfl, _, rfl, _, rfl, ps, _, (0 + (k : Int)), _, rfl, rfl, SqL.of (s13 _ _ (s1 _ _ hps)), (by rw [Int.zero_add]; exact at_nat V.int (iD_get (by omega))), _, _, rfl, rfl, .inl ⟨by omega, by omega⟩, _, rfl, _, rfl, pa, _, -1, _, rfl, rfl, SqL.of (s13 _ _ hl), llast, _, _, rfl, rfl, _, rfl, _, rfl, _, rfl, _, _, rfl, rfl, pa, _, ((m : Int) + (0 + (k : Int))), _, rfl, rfl, SqL.of (s13 _ _ hl), (by rw [Int.zero_add]; exact at_nat nV (lat (x := m + k) (by omega))), _, _, rfl, rfl, _, hL, ?_, same_mut sm hD2, ?_⟩
      · rw [List.length_map, List.length_map, List.length_range]
        exact sl100 (by omega)
      · rw [upd_same, List.range_succ, List.map_append, List.map_append]
        rfl
    rintro H3 ⟨s3, hL3⟩
    refine ⟨_, rfl, _, rfl, _, _, rfl, rfl, .inl ⟨by omega, by omega⟩, _, rfl, _, rfl, by show 3 ≤ sizeLine; decide, fun T2 hT2 => ?_⟩
    have s4 : Same H3 (upd H3 T2 (.tup [.int (((m + n + 1 : Nat) : Int) * 1), .ref D, .ref D2])) := same_new hT2
    refine q _ T2 D D2 l (s1.trans (s2.trans (s3.trans s4))) hPl ?_ (s4 _ _ (s3 _ _ hL2)) (s4 _ _ hL3)
    rw [upd_same]
    show some (HO.tup [V.int (((m + n + 1 : Nat) : Int) * 1), .ref D, .ref D2]) = _
    rw [Int.mul_one]
abbrev N_moved_round : List Str := ["dealing", "arcs", "one", "other", "ahead", "steps", "here", "found", "many", "there"]
theorem sc_moved_round : FnScope N_moved_round ["dealing", "arcs", "one", "other"] (defScope s_moved_round) := ⟨rfl, rfl, rfl, by decide +kernel, rfl, by decide +kernel, by decide +kernel⟩
theorem ok_moved_round {f : Addr} {fd : FuncData} (F : FnP K "moved_round" "moved_round" s_moved_round f fd) (T : Txt K mg) (c_led_to : Cal P w K mg base "led_to" 1 ["arcs", "node"] (spLed)) : FnOk P w K mg base CX0 2 f fd ["dealing", "arcs", "one", "other"] (spMov) := by
  refine F.ok sc_moved_round (fun vs H Q E h => ?_) (fun cdv A outer s H vs Q E hr h => ?_)
  · obtain ⟨e, FD, fs, m, n, c, Ar, L, d, x, y, rfl, _⟩ := h
    rfl
  · have hu := hu_of hr
    have nd := sc_moved_round.nd
    refine ⟨_, PSs.nox (pss_cons (ps_set (i := 4) nd rfl (Or.inl rfl) (pe_call c_led_to.ok (hr.mono (by decide)) (by rfl) c_led_to.g c_led_to.kp c_led_to.b .nil pass0 (pa_cons (pv 1) (pa_cons (pv 3) pa_nil))))
    (pss_cons (ps_set (i := 5) nd rfl (Or.inl rfl) (pe_lst (pa_cons (pe_tup (pa_cons (pv 2) (pa_cons (pv 3) pa_nil))) pa_nil)))
    (pss_cons (ps_set (i := 6) nd rfl (Or.inl rfl) (pv 2))
    (pss_cons (ps_while PassesOwn.never (pt_cmpR op_notN (pe_dget hu (pv 4) (pv 6) (fun _ _ => rfl)) pe_non (nomark _))
      (pss_cons (ps_expr (pe_bm PySem.F.plainAttrs_list PySem.F.slot_list_append PySem.F.type_list_append mt_append (pv 5) (pa_cons (pe_tup (pa_cons (pe_dget hu (pv 4) (pv 6) (fun _ _ => rfl)) (pa_cons (pv 6) pa_nil))) pa_nil)))
      (pss_one (ps_set (i := 6) nd rfl (Or.inl rfl) (pe_dget hu (pv 4) (pv 6) (fun _ _ => rfl))))))
    (pss_cons (ps_set (i := 7) nd rfl (Or.inl rfl) (pe_callTy call_list_of (by rfl) T.list (by decide +kernel) (pa_cons (pv 0) pa_nil)))
    (pss_cons (ps_set (i := 8) nd rfl (Or.inl rfl) (pe_callB call_len_seq (by rfl) T.len (by decide +kernel) (pa_cons (pv 0) pa_nil)))
    (pss_cons (ps_for PassesOwn.never rfl (pi_list (pv 5)) (pg_tup rfl (pgs_cons (pg_name (i := 6) nd rfl (Or.inl rfl)) (pgs_cons (pg_name (i := 9) nd rfl (Or.inl rfl)) pgs_nil)))
      (pss_one (ps_if (pt_cmpR op_lt (pv 6) (pv 8) (nomark _))
        (pss_cons (ps_asg pe_non (pg_sub (pv 7) (pv 6) set_list))
        (pss_one (ps_if (pt_cmpR op_lt (pv 9) (pe_op op_sub (pe_callB call_len_seq (by rfl) T.len (by decide +kernel) (pa_cons (pv 1) pa_nil)) pe_int) (nomark _))
          (pss_one (ps_asg (pe_op op_sub (pv 9) (pv 8)) (pg_sub (pv 7) (pv 6) set_list)))
          pss_nil)))
        pss_nil)))
    (pss_one (ps_ret (pv 7)))))))))), ?_⟩
    obtain ⟨e, FD, fs, m, n, c, Ar, L, d, x, y, rfl, hE, hdl, hF, hAd, hN, hAr, hy, hxy, q⟩ := h
    refine ⟨_, rfl, _, rfl, FD, fs, m + n + 1, c, Ar, L, y, rfl, hF, hAd, hy, hN, hAr, fun H1 pa lf hpa s1 hpd hled => ?_⟩
    have hxk := (hled.re x).mpr hxy
    have hxN := hled.lt x hxk
    obtain ⟨px, hpx, hpx1⟩ := List.mem_map.mp hxk
    obtain ⟨ix, hix, eix⟩ := List.mem_iff_getElem.mp hpx
    have hx0 : lf[ix]? = some (x, px.2) := by rw [List.getElem?_eq_getElem hix, eix, ← hpx1]
    refine ⟨_, rfl, _, rfl, by show 2 ≤ sizeLine; decide, fun T2 hT2 => ⟨by show 1 ≤ sizeLine; decide, fun sp hsp => ?_⟩⟩
    have s2 : Same H1 (upd H1 T2 (.tup [nV x, nV y])) := same_new hT2
    have hT22 : upd H1 T2 (.tup [nV x, nV y]) T2 = some (.tup [nV x, nV y]) := upd_same
    generalize upd H1 T2 (.tup [nV x, nV y]) = H2 at s2 hT22 hsp
    have s3 : Same H2 (upd H2 sp (.lst [V.ref T2])) := same_new hsp
    refine ⟨_, rfl, ?_⟩
    have hlen : lf.length ≤ m + n + 1 := by
      have := sub_len (l2 := List.range (m + n + 1)) hled.nd fun t ht => List.mem_range.mpr (hled.lt t ht)
      rw [List.length_range, List.length_map] at this
      exact this
    obtain ⟨Wn, hWn⟩ : ∃ Wn : Nat → L2.St → Hp → Prop, Wn = fun k σ H' => ∃ v7 v8 v9 ss h v, σ = [some (.ref e), some (.ref FD), some (nV x), some (nV y), some (.ref pa), some (.ref sp), some (nV h), v7, v8, v9] ∧ Same H2 H' ∧ H' sp = some (.lst (ss.map V.ref)) ∧ StepsAt H' ss (m + n + 1) ∧ lf[k]? = some (h, v) ∧ ss.length + k ≤ lf.length := ⟨_, rfl⟩
    refine ⟨Wn, ⟨ix, ?_⟩, ?_⟩
    · rw [hWn]
      refine ⟨_, _, _, [T2], x, px.2, rfl, s3, upd_same, fun s hs => ?_, hx0, ?_⟩
      · rw [List.mem_singleton] at hs
        subst hs
        exact ⟨x, y, s3 _ _ hT22, hxN, hy⟩
      · show 1 + ix ≤ lf.length
        omega
    intro k σ H3 hw
    rw [hWn] at hw
    obtain ⟨v7, v8, v9, ss, h, v, rfl, s4, hss, hst, hk, hkl⟩ := hw
    have hpd3 := s4 _ _ (s2 _ _ hpd)
    have hlook : lf.lookup h = some v := key_some hled.nd (List.mem_of_getElem? hk)
    refine ⟨_, rfl, _, rfl, pa, _, rfl, dget_some (.inl hpd3) hlook, rfl, _, rfl, ?_⟩
    cases v with
    | some h' =>
      refine ifT rfl ⟨fun σ' H' => ∃ m', m' < k ∧ Wn m' σ' H', fun σ' H' z => z, ?_⟩
      obtain ⟨j, v', hj, hjg⟩ : ∃ j v', j < k ∧ lf[j]? = some (h', v') := by
        rcases hled.pa k h _ hk with ⟨_, z⟩ | ⟨h2, j, v', e1, e2, e3, _⟩
        · cases z
        · cases e1
          exact ⟨j, v', e2, e3⟩
      have hh'N := hled.lt h' (List.mem_map.mpr ⟨_, List.mem_of_getElem? hjg, rfl⟩)
      have hhN := hled.lt h (List.mem_map.mpr ⟨_, List.mem_of_getElem? hk, rfl⟩)
      refine ⟨_, rfl, .inl ⟨rfl, _, SqL.of hss⟩, _, rfl, _, rfl, pa, _, rfl, dget_some (.inl hpd3) hlook, _, rfl, by show 2 ≤ sizeLine; decide, fun T3 hT3 => ?_⟩
      have s5 : Same H3 (upd H3 T3 (.tup [onV (some h'), nV h])) := same_new hT3
      have hT33 : upd H3 T3 (.tup [onV (some h'), nV h]) T3 = some (.tup [nV h', nV h]) := upd_same
      have hss5 := s5 _ _ hss
      have hpd5 := s5 _ _ hpd3
      generalize upd H3 T3 (.tup [onV (some h'), nV h]) = H5 at s5 hT33 hss5 hpd5
      refine ⟨sp, _, _, rfl, rfl, hss5, ?_, ?_⟩
      · rw [List.length_map]
        exact sl100 (by omega)
      have s6 : Same H2 (upd H5 sp (.lst (ss.map V.ref ++ [V.ref T3]))) := same_mut (s4.trans s5) hsp
      have hss6 : upd H5 sp (.lst (ss.map V.ref ++ [V.ref T3])) sp = some (.lst ((ss ++ [T3]).map V.ref)) := by
        rw [upd_same, List.map_append]
        rfl
      have hst6 : StepsAt (upd H5 sp (.lst (ss.map V.ref ++ [V.ref T3]))) (ss ++ [T3]) (m + n + 1) := fun s hs => by
        rcases List.mem_append.mp hs with z | z
        · obtain ⟨a, b, e1, e2, e3⟩ := hst s z
          have e1' := s5 _ _ e1
          exact ⟨a, b, by rw [upd_ne (ne_of e1' hss5 (by intro z; cases z))]; exact e1', e2, e3⟩
        · rw [List.mem_singleton] at z
          subst z
          exact ⟨h', h, by rw [upd_ne (ne_of hT33 hss5 (by intro z; cases z))]; exact hT33, hh'N, hhN⟩
      have hpd6 := s6 _ _ (s2 _ _ hpd)
      generalize upd H5 sp (.lst (ss.map V.ref ++ [V.ref T3])) = H6 at s6 hss6 hst6 hpd6
      refine ⟨_, rfl, _, rfl, pa, _, rfl, dget_some (.inl hpd6) hlook, j, hj, ?_⟩
      rw [hWn]
      refine ⟨_, _, _, ss ++ [T3], h', v', rfl, s6, hss6, hst6, hjg, ?_⟩
      rw [List.length_append]
      show ss.length + 1 + j ≤ lf.length
      omega
    | none =>
      refine ifF rfl ?_
      have s14 := s1.trans (s2.trans s4)
      have hE4 := s14 _ _ hE
      have hF4 := s14 _ _ hF
      refine ⟨_, rfl, e, _, rfl, .inl (SqL.of hE4), fun fo hfo => ?_⟩
      have s5 : Same H3 (upd H3 fo (.lst (d.map onV))) := same_new hfo
      have hfo5 : upd H3 fo (.lst (d.map onV)) fo = some (.lst ((toI d).map oV)) := by rw [upd_same, toI_map]
      have hE5 := s5 _ _ hE4
      have hF5 := s5 _ _ hF4
      have hss5 := s5 _ _ hss
      generalize upd H3 fo (.lst (d.map onV)) = H5 at s5 hfo5 hE5 hF5 hss5
      have nsf : sp ≠ fo := ne_of_none hss hfo
      have nFf : FD ≠ fo := ne_of_none hF4 hfo
      have em : ((d.map onV).length : Int) = ((m : Nat) : Int) := by rw [List.length_map, hdl]
      refine ⟨_, rfl, e, _, rfl, .inl (SqL.of hE5), ?_⟩
      rw [em]
      refine ⟨_, rfl, sp, rfl, ⟨_, SqL.of hss5⟩, for_list (xs := ss.map V.ref) (fun j σ H' => ∃ v6 v9 f, σ = [some (.ref e), some (.ref FD), some (nV x), some (nV y), some (.ref pa), some (.ref sp), v6, some (.ref fo), some (nV m), v9] ∧ SameX [fo] H5 H' ∧ H' fo = some (.lst (f.map oV)) ∧ f.length = m)
        ⟨_, _, toI d, rfl, SameX.refl _ _, hfo5, by unfold toI; rw [List.length_map, hdl]⟩ (fun i σ H' _ ⟨_, _, _, _, sx, _⟩ => SqL.of (sx _ _ (by simp [nsf]) hss5)) ?_ ?_⟩
      · rintro j z σ H6 hz ⟨v6, v9, f, rfl, sx, hf6, hfl⟩
        obtain ⟨t, ht, rfl⟩ := get_map hz
        obtain ⟨a, b, htu, haN, hbN⟩ := hst t (List.mem_of_getElem? ht)
        have htu6 := sx _ _ (by rw [List.mem_singleton]; exact ne_of_none htu hfo) (s5 _ _ htu)
        have hF6 := sx _ _ (by simp [nFf]) hF5
        refine ⟨t, _, rfl, SqT.of htu6, rfl, _, _, rfl, _, _, rfl, rfl, ?_⟩
        refine ⟨_, rfl, _, rfl, _, _, rfl, rfl, _, rfl, if2 (fun hb => ?_) fun hb => ⟨_, _, f, rfl, sx, hf6, hfl⟩⟩
        have ha := of_decide_eq_true hb
        have ha : a < m := by omega
        refine ⟨_, rfl, _, rfl, fo, _, _, a, rfl, rfl, hf6, by rw [List.length_map]; exact ixN_nat (by omega), ?_⟩
        have ef : (f.map oV).set a V.non = (f.set a Option.none).map oV := set_map oV f a Option.none
        rw [ef]
        have sx7 := sx.upd_in (o := .lst ((f.set a Option.none).map oV)) (p := fo) (by simp)
        have hf7 : upd H6 fo (.lst ((f.set a Option.none).map oV)) fo = some (.lst ((f.set a Option.none).map oV)) := upd_same
        generalize upd H6 fo (.lst ((f.set a Option.none).map oV)) = H7 at sx7 hf7
        have hF7 := sx7 _ _ (by simp [nFf]) hF5
        refine ⟨_, rfl, _, rfl, FD, _, rfl, .inl (SqL.of hF7), _, _, rfl, rfl, _, _, rfl, rfl, _, rfl, if2 (fun hb2 => ?_) fun hb2 => ⟨_, _, f.set a Option.none, rfl, sx7, hf7, by rw [List.length_set]; exact hfl⟩⟩
        refine ⟨_, rfl, _, rfl, _, _, rfl, rfl, _, rfl, _, rfl, fo, _, _, a, rfl, rfl, hf7, by rw [List.length_map, List.length_set]; exact ixN_nat (by omega), ?_⟩
        have ef2 : ((f.set a Option.none).map oV).set a (V.int ((b : Int) - (m : Int))) = ((f.set a Option.none).set a (some ((b : Int) - (m : Int)))).map oV := set_map oV _ a (some _)
        refine ⟨_, _, (f.set a Option.none).set a (some ((b : Int) - (m : Int))), rfl, sx7.upd_in (by simp), ?_, by rw [List.length_set, List.length_set]; exact hfl⟩
        rw [upd_same, ← ef2]
      · rintro σ H6 ⟨v6, v9, f, rfl, sx, hf6, hfl⟩
        refine ⟨_, rfl, q H6 fo f (s14.free hfo) (SameX.same (s14.trans s5) sx fun b hb => ?_) hf6 hfl⟩
        rw [List.mem_singleton] at hb
        rw [hb]
        exact s14.free hfo
end
end Wd
namespace Wd
open PySem PySem.Spec PyProof.Rows L2
/-- the wishes that a paper just meets -/
def tightL (w : Wi) (o : Nat) (k : Int) (U P : List Int) (j : Nat) : List (Nat × Nat) := (((trip w o w.l.length).take j).filter fun q => decide (iD U q.1 + iD P q.2.1 = k * q.2.2)).map fun q => (q.1, q.2.1)
/-- pairs at these places -/
def PairsAt (H : Hp) (qs : List Addr) (L : List (Nat × Nat)) : Prop := qs.length = L.length ∧ ∀ (i : Nat) (q : Addr) (p : Nat × Nat), qs[i]? = some q → L[i]? = some p → H q = some (.tup [nV p.1, nV p.2])
theorem PairsAt.mono {H H' : Hp} {qs : List Addr} {L : List (Nat × Nat)} (s : Same H H') (h : PairsAt H qs L) : PairsAt H' qs L := ⟨h.1, fun i q p e1 e2 => s _ _ (h.2 i q p e1 e2)⟩
theorem PairsAt.upd {H : Hp} {qs : List Addr} {L : List (Nat × Nat)} {f : Addr} {xs : List V} {o : HO} (hf : H f = some (.lst xs)) (h : PairsAt H qs L) : PairsAt (upd H f o) qs L := ⟨h.1, fun i q p e1 e2 => by
  have g := h.2 i q p e1 e2
  rw [upd_ne (ne_of g hf (by intro z; cases z))]
  exact g⟩
theorem PairsAt.snoc {H : Hp} {qs : List Addr} {L : List (Nat × Nat)} {q : Addr} {p : Nat × Nat} (h : PairsAt H qs L) (g : H q = some (.tup [nV p.1, nV p.2])) : PairsAt H (qs ++ [q]) (L ++ [p]) := by
  refine ⟨by rw [List.length_append, List.length_append, h.1]; rfl, fun i q' p' e1 e2 => ?_⟩
  by_cases hi : i < qs.length
  · rw [List.getElem?_append_left hi] at e1
    rw [List.getElem?_append_left (by rw [← h.1]; exact hi)] at e2
    exact h.2 i q' p' e1 e2
  · rw [List.getElem?_append_right (by omega)] at e1
    rw [List.getElem?_append_right (by rw [← h.1]; omega), ← h.1] at e2
    cases e : i - qs.length with
    | zero =>
      rw [e] at e1 e2
      cases e1
      cases e2
      exact g
    | succ n =>
      rw [e] at e1
      simp at e1
theorem tightL_succ {w : Wi} {o : Nat} {k : Int} {U P : List Int} {j a t : Nat} {x : Int} (h : (trip w o w.l.length)[j]? = some (a, t, x)) : tightL w o k U P (j + 1) = if iD U a + iD P t = k * x then tightL w o k U P j ++ [(a, t)] else tightL w o k U P j := by
  unfold tightL
  rw [take_snoc h, List.filter_append, List.map_append]
  by_cases q : iD U a + iD P t = k * x
  · rw [if_pos q, List.filter_cons, if_pos (decide_eq_true q)]
    rfl
  · rw [if_neg q, List.filter_cons, if_neg (by rw [decide_eq_false q]; decide)]
    exact List.append_nil _
theorem tightL_le (w : Wi) (o : Nat) (k : Int) (U P : List Int) (j : Nat) : (tightL w o k U P j).length ≤ w.l.length * w.c.length := by
  unfold tightL
  rw [List.length_map]
  have h1 := List.length_filter_le (fun q : Nat × Nat × Int => decide (iD U q.1 + iD P q.2.1 = k * q.2.2)) ((trip w o w.l.length).take j)
  have h2 := trip_len w o w.l.length
  rw [List.length_take] at h1
  omega
def spTight : Sp := fun vs H Q _ => ∃ (a b pp as ps : Addr) (w : Wi) (o : Nat) (k : Int) (U P : List Int), vs = [.ref a, .ref b, .ref pp] ∧ WAt H a w ∧ w.Ok ∧ AimAt H b o ∧
  H pp = some (.tup [.int k, .ref as, .ref ps]) ∧ H as = some (.lst (U.map V.int)) ∧ H ps = some (.lst (P.map V.int)) ∧ U.length = w.l.length ∧ P.length = w.c.length ∧ 0 ≤ k ∧ k ≤ 1000 ∧
  ∀ H' p qs, H p = Option.none → Same H H' → H' p = some (.lst (qs.map V.ref)) → PairsAt H' qs (tightL w o k U P (trip w o w.l.length).length) → Q (.ref p) H'
/-- dealings of m askers at these places -/
def DealsAt (H : Hp) (as : List Addr) (m : Nat) : Prop := ∀ a ∈ as, ∃ f : List (Option Int), H a = some (.lst (f.map oV)) ∧ f.length = m
theorem DealsAt.mono {H H' : Hp} {as : List Addr} {m : Nat} (s : Same H H') (h : DealsAt H as m) : DealsAt H' as m := fun a ha => by
  obtain ⟨f, h1, h2⟩ := h a ha
  exact ⟨f, s _ _ h1, h2⟩
def oDt : Option Int → PyData
  | some n => .int n
  | Option.none => .none
section
variable {K : PySem.W.Frag} {H : Hp} {Q : VK}
theorem dp_os : ∀ ds : List (Option Int), DpAll K H (ds.map oV) (ds.map oDt)
  | [] => .nil
  | some n :: r => .cons (.int _) (dp_os r)
  | Option.none :: r => .cons .non (dp_os r)
theorem lay_os : ∀ ds : List (Option Int), PyData.canLayAll0 (ds.map oDt) = true ∧ PyData.depthAll (ds.map oDt) = 0
  | [] => ⟨rfl, rfl⟩
  | some n :: r => by
    obtain ⟨h1, h2⟩ := lay_os r
    exact ⟨by simp [PyData.canLayAll0, PyData.canLay0, h1, oDt], by simp [PyData.depthAll, PyData.depth, h2, oDt]⟩
  | Option.none :: r => by
    obtain ⟨h1, h2⟩ := lay_os r
    exact ⟨by simp [PyData.canLayAll0, PyData.canLay0, h1, oDt], by simp [PyData.depthAll, PyData.depth, h2, oDt]⟩
theorem dp_deals {m : Nat} : ∀ as : List Addr, DealsAt H as m → ∃ dss : List (List (Option Int)), DpAll K H (as.map V.ref) (dss.map fun ds => PyData.list (ds.map oDt)) ∧ PyData.canLayAll0 (dss.map fun ds => PyData.list (ds.map oDt)) = true ∧ PyData.depthAll (dss.map fun ds => PyData.list (ds.map oDt)) ≤ 1
  | [], _ => ⟨[], .nil, rfl, by decide⟩
  | a :: r, h => by
    obtain ⟨f, h1, _⟩ := h a List.mem_cons_self
    obtain ⟨dss, g1, g2, g3⟩ := dp_deals r fun b hb => h b (List.mem_cons_of_mem _ hb)
    obtain ⟨l1, l2⟩ := lay_os f
    refine ⟨f :: dss, .cons (.lst (SqL.of h1) (dp_os f)) g1, ?_, ?_⟩
    · show PyData.canLayAll0 (PyData.list (f.map oDt) :: dss.map fun ds => PyData.list (ds.map oDt)) = true
      simp [PyData.canLayAll0, PyData.canLay0, g2, l1]
    · show max (PyData.depth (PyData.list (f.map oDt))) (PyData.depthAll (dss.map fun ds => PyData.list (ds.map oDt))) ≤ 1
      have : PyData.depth (PyData.list (f.map oDt)) = 1 := by simp [PyData.depth, l2]
      rw [this]
      exact Nat.max_le.mpr ⟨Nat.le_refl _, g3⟩
/-- a list of dealings != [] -/
theorem ne_deals {m : Nat} {b q : Addr} {as : List Addr} (hb : H b = some (.lst (as.map V.ref))) (hd : DealsAt H as m) (hq : H q = some (.lst [])) (k : ∀ c, Q (.bl c) H) : rNeD K (.ref b) (.ref q) H Q := by
  obtain ⟨dss, g1, g2, g3⟩ := dp_deals (K := K) as hd
  exact ne_nil hb g1 g2 (Nat.le_trans g3 (by decide)) hq (k _)
end
theorem scal_oo (x y : Option Int) : scal (oV x) (oV y) = true := by cases x <;> cases y <;> rfl
def spHasD : Sp := fun vs H Q _ => ∃ (a : Addr) (as : List Addr) (m x : Nat) (y : Option Int), vs = [.ref a, nV x, oV y] ∧ H a = some (.lst (as.map V.ref)) ∧ DealsAt H as m ∧ as.length ≤ 1000 ∧ x < m ∧ ∀ H' c, Same H H' → Q (.bl c) H'
def spHasL : Sp := fun vs H Q _ => ∃ (wa a : Addr) (w : Wi) (as : List Addr) (m x : Nat), vs = [.ref wa, .ref a, nV x] ∧ WAt H wa w ∧ w.Ok ∧ H a = some (.lst (as.map V.ref)) ∧ DealsAt H as m ∧ as.length ≤ 1000 ∧ x < w.c.length ∧ ∀ H' c, Same H H' → Q (.bl c) H'
section
variable {P : Program} {w : World} {K : PySem.W.Frag} {mg : Str → Option Value} {base : Heap}
abbrev N_tight_wishes : List Str := ["wishes", "aim", "paper", "times", "asks", "prices", "found", "asker", "thing", "worth"]
theorem sc_tight_wishes : FnScope N_tight_wishes ["wishes", "aim", "paper"] (defScope s_tight_wishes) := ⟨rfl, rfl, rfl, by decide +kernel, rfl, by decide +kernel, by decide +kernel⟩
theorem ok_tight_wishes {f : Addr} {fd : FuncData} (F : FnP K "tight_wishes" "tight_wishes" s_tight_wishes f fd) (T : Txt K mg) (c_all_worths : Cal P w K mg base "all_worths" 8 ["wishes", "aim"] (spAW)) : FnOk P w K mg base CX0 9 f fd ["wishes", "aim", "paper"] (spTight) := by
  refine F.ok sc_tight_wishes (fun vs H Q E h => ?_) (fun cdv A outer s H vs Q E hr h => ?_)
  · obtain ⟨a, b, pp, as, ps, w, o, k, U, Pl, rfl, _⟩ := h
    rfl
  · have hu := hu_of hr
    have nd := sc_tight_wishes.nd
    refine ⟨_, PSs.nox (pss_cons (ps_asg (pv 2) (pg_tup rfl (pgs_cons (pg_name (i := 3) nd rfl (Or.inl rfl)) (pgs_cons (pg_name (i := 4) nd rfl (Or.inl rfl)) (pgs_cons (pg_name (i := 5) nd rfl (Or.inl rfl)) pgs_nil)))))
    (pss_cons (ps_set (i := 6) nd rfl (Or.inl rfl) (pe_lst pa_nil))
    (pss_cons (ps_for PassesOwn.never rfl (pi_list (pe_call c_all_worths.ok (hr.mono (by decide)) (by rfl) c_all_worths.g c_all_worths.kp c_all_worths.b .nil pass0 (pa_cons (pv 0) (pa_cons (pv 1) pa_nil)))) (pg_tup rfl (pgs_cons (pg_name (i := 7) nd rfl (Or.inl rfl)) (pgs_cons (pg_name (i := 8) nd rfl (Or.inl rfl)) (pgs_cons (pg_name (i := 9) nd rfl (Or.inl rfl)) pgs_nil))))
      (pss_one (ps_if (pt_cmpR op_eq (pe_op op_add (pe_ix ix_list (pv 4) (pv 7) (fun _ _ => rfl)) (pe_ix ix_list (pv 5) (pv 8) (fun _ _ => rfl))) (pe_op op_mul (pv 3) (pv 9)) (nomark _))
        (pss_one (ps_expr (pe_bm PySem.F.plainAttrs_list PySem.F.slot_list_append PySem.F.type_list_append mt_append (pv 6) (pa_cons (pe_tup (pa_cons (pv 7) (pa_cons (pv 8) pa_nil))) pa_nil))))
        pss_nil)))
    (pss_one (ps_ret (pv 6)))))), ?_⟩
    obtain ⟨a, b, pp, as, ps, w, o, k, U, Pl, rfl, hW, ok, hAim, hpp, has, hps, hul, hpl, hk0, hk1, q⟩ := h
    have n6 := ok.c6
    have m7 := ok.l7
    refine ⟨_, rfl, pp, _, rfl, SqT.of hpp, rfl, _, _, rfl, _, _, rfl, _, _, rfl, rfl, ?_⟩
    refine ⟨Nat.zero_le _, fun fo hfo => ?_⟩
    have s1 : Same H (upd H fo (.lst [])) := same_new hfo
    have hfo1 : upd H fo (.lst []) fo = some (.lst []) := upd_same
    generalize upd H fo (.lst []) = H1 at s1 hfo1
    refine ⟨_, rfl, _, rfl, a, b, w, o, rfl, hW.mono s1, ok, hAim.mono s1, fun ql qs Hq hql sq hQ hTr => ?_⟩
    have nqf : ql ≠ fo := (ne_of_none hfo1 hql).symm
    have hfoq := sq _ _ hfo1
    refine ⟨ql, rfl, ⟨_, SqL.of hQ⟩, for_list (xs := qs.map V.ref) (fun j σ H' => ∃ v7 v8 v9 rs, σ = [some (.ref a), some (.ref b), some (.ref pp), some (.int k), some (.ref as), some (.ref ps), some (.ref fo), v7, v8, v9] ∧ SameX [fo] Hq H' ∧ H' fo = some (.lst (rs.map V.ref)) ∧ PairsAt H' rs (tightL w o k U Pl j))
      ⟨_, _, _, [], rfl, SameX.refl _ _, hfoq, by unfold tightL; exact ⟨rfl, fun i q p h => by simp at h⟩⟩ (fun i σ H' _ ⟨_, _, _, _, _, sx, _⟩ => SqL.of (sx _ _ (by simp [nqf]) hQ)) ?_ ?_⟩
    · rintro j y σ H2 hy ⟨v7, v8, v9, rs, rfl, sx, hf2, hpr⟩
      obtain ⟨tq, htq, rfl⟩ := get_map hy
      have hj : j < (trip w o w.l.length).length := by rw [← hTr.1]; exact lt_of_get htq
      have htr := List.getElem?_eq_getElem hj
      generalize (trip w o w.l.length)[j] = x at htr
      obtain ⟨x1, x2, x3⟩ := x
      have hw := (trip_mem ok).mp (List.mem_of_getElem? htr)
      obtain ⟨hx1, hx2⟩ := rk_lt ok (wt_some hw).1
      have hP := hTr.2 j tq _ htq htr
      have hP1 := sx _ _ (by rw [List.mem_singleton]; exact ne_of hP hfoq (by intro z; cases z)) hP
      have kp : ∀ {b : Addr} {u : HO}, H b = some u → H2 b = some u := fun {b u} e => sx _ _ (by rw [List.mem_singleton]; exact ne_of_none e hfo) (sq _ _ (s1 _ _ e))
      refine ⟨tq, _, rfl, SqT.of hP1, rfl, _, _, rfl, _, _, rfl, _, _, rfl, rfl, ?_⟩
      refine ⟨_, rfl, _, rfl, as, _, (x1 : Int), _, rfl, rfl, SqL.of (kp has), at_nat V.int (iD_get (by omega)), _, rfl, _, rfl, ps, _, (x2 : Int), _, rfl, rfl, SqL.of (kp hps), at_nat V.int (iD_get (by omega)), _, _, rfl, rfl, _, rfl, _, rfl, _, _, rfl, rfl, .inl ⟨by omega, by omega⟩, rfl, _, rfl, ?_⟩
      show if decide (V.int (iD U x1 + iD Pl x2) = V.int (k * x3)) = true then _ else _
      rw [dec_int]
      refine if2 (fun h => ?_) fun h => ?_
      · have hc := of_decide_eq_true h
        refine ⟨_, rfl, .inl ⟨rfl, _, SqL.of hf2⟩, _, rfl, _, rfl, by show 2 ≤ sizeLine; decide, fun T3 hT3 => ?_⟩
        have s3 : Same H2 (upd H2 T3 (.tup [nV x1, nV x2])) := same_new hT3
        have hT33 : upd H2 T3 (.tup [nV x1, nV x2]) T3 = some (.tup [nV x1, nV x2]) := upd_same
        have hf3 := s3 _ _ hf2
        have hpr3 := hpr.mono s3
        have sx3 := sx.trans (SameX.of (S := [fo]) s3)
        generalize upd H2 T3 (.tup [nV x1, nV x2]) = H3 at s3 hT33 hf3 hpr3 sx3
        refine ⟨fo, _, _, rfl, rfl, hf3, ?_, ?_⟩
        · have h1 := tightL_le w o k U Pl j
          have h2 := hpr.1
          have htl2 : w.l.length * w.c.length ≤ 7 * 6 := Nat.mul_le_mul m7 n6
          rw [List.length_map]
          exact sl100 (by omega)
        · refine ⟨_, _, _, rs ++ [T3], rfl, sx3.upd_in (by simp), ?_, ?_⟩
          · rw [upd_same, List.map_append]
            rfl
          · rw [tightL_succ htr, if_pos hc]
            exact PairsAt.upd hf3 (hpr3.snoc hT33)
      · have hc := of_decide_eq_false h
        refine ⟨_, _, _, rs, rfl, sx, hf2, ?_⟩
        rw [tightL_succ htr, if_neg hc]
        exact hpr
    · rintro σ H2 ⟨v7, v8, v9, rs, rfl, sx, hf2, hpr⟩
      rw [List.length_map, hTr.1] at hpr
      refine ⟨_, rfl, q H2 fo rs hfo (SameX.same (s1.trans sq) sx fun b hb => ?_) hf2 hpr⟩
      rw [List.mem_singleton] at hb
      rw [hb]
      exact hfo
abbrev N_has_dealt : List Str := ["dealings", "asker", "thing", "one"]
theorem sc_has_dealt : FnScope N_has_dealt ["dealings", "asker", "thing"] (defScope s_has_dealt) := ⟨rfl, rfl, rfl, by decide +kernel, rfl, by decide +kernel, by decide +kernel⟩
theorem ok_has_dealt {f : Addr} {fd : FuncData} (F : FnP K "has_dealt" "has_dealt" s_has_dealt f fd) (T : Txt K mg)  : FnOk P w K mg base CX0 1 f fd ["dealings", "asker", "thing"] (spHasD) := by
  refine F.ok sc_has_dealt (fun vs H Q E h => ?_) (fun cdv A outer s H vs Q E hr h => ?_)
  · obtain ⟨a, as, m, x, y, rfl, _⟩ := h
    rfl
  · have hu := hu_of hr
    have nd := sc_has_dealt.nd
    refine ⟨_, PSs.nox (pss_one (ps_ret (pe_cmpR (op_neD hr.units) (pe_lc (own := [("one", 3)]) (g := (gName 3)) (tt := (tTest (tOp _ (tOp (rIxL K) (tVar 3) (tVar 1)) (tVar 2)))) (te := (tVar 3)) (by rfl) nd (pi_list (pv 0)) (blkOk_by (own := [("one", 3)]) (N := N_has_dealt) (sc := defScope s_has_dealt) (by decide +kernel)) (fun _ _ _ _ _ => (pg_name (i := 3) nd rfl (Or.inl rfl))) (fun _ _ _ _ _ => (pts_one (pt_cmpR op_eq (pe_ix (r := rIxL K) ix_list (pv 3) (pv 1) (fun _ _ => rfl)) (pv 2) (nomark _)))) (fun _ _ _ _ _ => (pv 3))) (pe_lst pa_nil) (nomark _)))), ?_⟩
    obtain ⟨a, as, m, x, y, rfl, hA, hD, hl, hx, q⟩ := h
    refine ⟨_, rfl, a, rfl, ⟨_, SqL.of hA⟩, fun D hD' => ?_⟩
    refine lc_list (xs := as.map V.ref) (fun i H' => Same H H' ∧ ∃ bs : List Addr, H' D = some (.lst (bs.map V.ref)) ∧ (∀ b ∈ bs, b ∈ as) ∧ bs.length ≤ i) ⟨same_new hD', [], upd_same, (fun b hb => by cases hb), Nat.le_refl _⟩ (fun i H' _ ⟨s, _⟩ => SqL.of (s _ _ hA)) ?_ ?_
    · rintro i v H1 hv ⟨sm, bs, hB, hb, hbl⟩
      have hi := lt_of_get hv
      rw [List.length_map] at hi
      obtain ⟨ai, hai, rfl⟩ := get_map hv
      obtain ⟨f, hf, hfl⟩ := hD ai (List.mem_of_getElem? hai)
      have hfx := List.getElem?_eq_getElem (show x < f.length by omega)
      refine ⟨rfl, _, rfl, _, rfl, ai, _, (x : Int), _, rfl, rfl, SqL.of (sm _ _ hf), at_nat oV hfx, _, rfl, scal_oo _ _, _, rfl, if2 (fun _ => ?_) fun _ => ?_⟩
      · refine ⟨_, rfl, _, hB, ?_, same_mut sm hD', bs ++ [ai], ?_, fun b hb' => ?_, ?_⟩
        · rw [List.length_map]
          exact sl100 (by omega)
        · rw [upd_same, List.map_append]
          rfl
        · rcases List.mem_append.mp hb' with z | z
          · exact hb b z
          · rw [List.mem_singleton] at z
            rw [z]
            exact List.mem_of_getElem? hai
        · rw [List.length_append]
          show bs.length + 1 ≤ i + 1
          omega
      · exact ⟨sm, bs, hB, hb, by omega⟩
    rintro H1 ⟨sm, bs, hB, hb, hbl⟩
    refine ⟨Nat.zero_le _, fun z hz => ?_⟩
    have s2 : Same H1 (upd H1 z (.lst [])) := same_new hz
    refine ne_deals (m := m) (s2 _ _ hB) (fun b hb' => ?_) upd_same fun c => q _ c (sm.trans s2)
    exact (hD.mono (sm.trans s2)) b (hb b hb')
abbrev N_has_left : List Str := ["wishes", "dealings", "thing", "one"]
theorem sc_has_left : FnScope N_has_left ["wishes", "dealings", "thing"] (defScope s_has_left) := ⟨rfl, rfl, rfl, by decide +kernel, rfl, by decide +kernel, by decide +kernel⟩
theorem ok_has_left {f : Addr} {fd : FuncData} (F : FnP K "has_left" "has_left" s_has_left f fd) (T : Txt K mg) (c_copies_left : Cal P w K mg base "copies_left" 5 ["wishes", "dealing"] (spLeft)) : FnOk P w K mg base CX0 6 f fd ["wishes", "dealings", "thing"] (spHasL) := by
  refine F.ok sc_has_left (fun vs H Q E h => ?_) (fun cdv A outer s H vs Q E hr h => ?_)
  · obtain ⟨wa, a, w, as, m, x, rfl, _⟩ := h
    rfl
  · have hu := hu_of hr
    have nd := sc_has_left.nd
    refine ⟨_, PSs.nox (pss_one (ps_ret (pe_cmpR (op_neD hr.units) (pe_lc (own := [("one", 3)]) (g := (gName 3)) (tt := (tTest (tOp _ (tOp (rIxL K) (tCall _ [] E0 (tCons (tVar 0) (tCons (tVar 3) tNil))) (tVar 2)) (tC _)))) (te := (tVar 3)) (by rfl) nd (pi_list (pv 1)) (blkOk_by (own := [("one", 3)]) (N := N_has_left) (sc := defScope s_has_left) (by decide +kernel)) (fun _ _ _ _ _ => (pg_name (i := 3) nd rfl (Or.inl rfl))) (fun _ _ _ _ _ => (pts_one (pt_cmpR op_gt (pe_ix (r := rIxL K) ix_list (pe_call c_copies_left.ok (hr.mono (by decide)) (by rfl) c_copies_left.g c_copies_left.kp c_copies_left.b .nil pass0 (pa_cons (pv 0) (pa_cons (pv 3) pa_nil))) (pv 2) (fun _ _ => rfl)) pe_int (nomark _)))) (fun _ _ _ _ _ => (pv 3))) (pe_lst pa_nil) (nomark _)))), ?_⟩
    obtain ⟨wa, a, w, as, m, x, rfl, hW, ok, hA, hD, hl, hx, q⟩ := h
    refine ⟨_, rfl, a, rfl, ⟨_, SqL.of hA⟩, fun D hD' => ?_⟩
    refine lc_list (xs := as.map V.ref) (fun i H' => Same H H' ∧ ∃ bs : List Addr, H' D = some (.lst (bs.map V.ref)) ∧ (∀ b ∈ bs, b ∈ as) ∧ bs.length ≤ i) ⟨same_new hD', [], upd_same, (fun b hb => by cases hb), Nat.le_refl _⟩ (fun i H' _ ⟨s, _⟩ => SqL.of (s _ _ hA)) ?_ ?_
    · rintro i v H1 hv ⟨sm, bs, hB, hb, hbl⟩
      have hi := lt_of_get hv
      rw [List.length_map] at hi
      obtain ⟨ai, hai, rfl⟩ := get_map hv
      obtain ⟨f, hf, hfl⟩ := hD ai (List.mem_of_getElem? hai)
      refine ⟨rfl, _, rfl, _, rfl, wa, ai, w, f, rfl, hW.mono sm, ok, sm _ _ hf, fun p H2 hp s2 hP => ?_⟩
      have hfx : (leftL w.c f)[x]? = some ((leftL w.c f)[x]'(by rw [leftL_len]; exact hx)) := List.getElem?_eq_getElem _
      have hB2 := s2 _ _ hB
      refine ⟨_, rfl, p, _, (x : Int), _, rfl, rfl, SqL.of hP, at_nat V.int hfx, _, _, rfl, rfl, _, rfl, if2 (fun _ => ?_) fun _ => ?_⟩
      · refine ⟨_, rfl, _, hB2, ?_, same_mut (sm.trans s2) hD', bs ++ [ai], ?_, fun b hb' => ?_, ?_⟩
        · rw [List.length_map]
          exact sl100 (by omega)
        · rw [upd_same, List.map_append]
          rfl
        · rcases List.mem_append.mp hb' with z | z
          · exact hb b z
          · rw [List.mem_singleton] at z
            rw [z]
            exact List.mem_of_getElem? hai
        · rw [List.length_append]
          show bs.length + 1 ≤ i + 1
          omega
      · exact ⟨sm.trans s2, bs, hB2, hb, by omega⟩
    rintro H1 ⟨sm, bs, hB, hb, hbl⟩
    refine ⟨Nat.zero_le _, fun z hz => ?_⟩
    have s2 : Same H1 (upd H1 z (.lst [])) := same_new hz
    refine ne_deals (m := m) (s2 _ _ hB) (fun b hb' => ?_) upd_same fun c => q _ c (sm.trans s2)
    exact (hD.mono (sm.trans s2)) b (hb b hb')
end
end Wd
namespace Wd
open PySem PySem.Spec PyProof.Rows L2
/-- a web's paper at T: (paper, dealings) -/
def WebAt (H : Hp) (T : Addr) (k : Int) (U P : List Int) : Prop := ∃ (sp dd as ps : Addr), H T = some (.tup [.ref sp, .ref dd]) ∧ H sp = some (.tup [.int k, .ref as, .ref ps]) ∧ H as = some (.lst (U.map V.int)) ∧ H ps = some (.lst (P.map V.int))
theorem WebAt.mono {H H' : Hp} {T : Addr} {k : Int} {U P : List Int} (s : Same H H') (h : WebAt H T k U P) : WebAt H' T k U P := by
  obtain ⟨sp, dd, as, ps, h1, h2, h3, h4⟩ := h
  exact ⟨sp, dd, as, ps, s _ _ h1, s _ _ h2, s _ _ h3, s _ _ h4⟩
def plD (l : List Nat) (x : Nat) : Nat := l.getD x 0
/-- the dealings so far -/
structure WebI (H : Hp) (DD : Addr) (m c : Nat) (es : List Addr) : Prop where
  dd : H DD = some (.lst (es.map V.ref))
  da : DealsAt H es m
  ni : DD ∉ es
  le : es.length ≤ c
theorem WebI.mono {H H' : Hp} {DD : Addr} {m c c' : Nat} {es : List Addr} (s : Same H H') (hc : c ≤ c') (h : WebI H DD m c es) : WebI H' DD m c' es := ⟨s _ _ h.dd, h.da.mono s, h.ni, Nat.le_trans h.le hc⟩
theorem WebI.add {H : Hp} {DD p : Addr} {m c : Nat} {es : List Addr} {f : List (Option Int)} (h : WebI H DD m c es) (np : p ≠ DD) (hp : H p = some (.lst (f.map oV))) (hf : f.length = m) : WebI (upd H DD (.lst (es.map V.ref ++ [V.ref p]))) DD m (c + 1) (es ++ [p]) := by
  have hn : DD ∉ es ++ [p] := fun z => by
    rcases List.mem_append.mp z with z | z
    · exact h.ni z
    · rw [List.mem_singleton] at z
      exact np z.symm
  refine ⟨by rw [upd_same, List.map_append]; rfl, fun a ha => ?_, hn, by rw [List.length_append]; exact Nat.succ_le_succ h.le⟩
  have hne : a ≠ DD := fun z => hn (by rw [← z]; exact ha)
  rcases List.mem_append.mp ha with z | z
  · obtain ⟨g, g1, g2⟩ := h.da a z
    exact ⟨g, by rw [upd_ne hne]; exact g1, g2⟩
  · rw [List.mem_singleton] at z
    subst z
    exact ⟨f, by rw [upd_ne hne]; exact hp, hf⟩
theorem tightL_mem {w : Wi} (ok : w.Ok) {o : Nat} {k : Int} {U P : List Int} {a t : Nat} : (a, t) ∈ tightL w o k U P (trip w o w.l.length).length ↔ ∃ x, wt w o a t = some x ∧ iD U a + iD P t = k * x := by
  unfold tightL
  rw [List.take_length, List.mem_map]
  constructor
  · rintro ⟨⟨a', t', x⟩, h, e⟩
    cases e
    obtain ⟨h1, h2⟩ := List.mem_filter.mp h
    exact ⟨x, (trip_mem ok).mp h1, of_decide_eq_true h2⟩
  · rintro ⟨x, h1, h2⟩
    exact ⟨(a, t, x), List.mem_filter.mpr ⟨(trip_mem ok).mpr h1, decide_eq_true h2⟩, rfl⟩
def spWebOf : Sp := fun vs H Q _ => ∃ (a b : Addr) (w : Wi) (o : Nat) (ok : w.Ok), vs = [.ref a, .ref b] ∧ WAt H a w ∧ AimAt H b o ∧
  ∀ H' T d u p l, Same H H' → d.length = w.l.length → Dual (insW w o ok) w.l.length (dD d) u p → Pla (insW w o ok) (dD d) u p (plD l) →
    WebAt H' T (sz (insW w o ok)) ((List.range w.l.length).map (sA (insW w o ok) u (plD l))) ((List.range w.c.length).map (sQ (insW w o ok) p (plD l))) → Q (.ref T) H'
def spPos : Sp := fun vs H Q _ => ∃ (a b T : Addr) (w : Wi) (o : Nat) (k : Int) (U P : List Int), vs = [.ref a, .ref b, .ref T] ∧ WAt H a w ∧ w.Ok ∧ AimAt H b o ∧ WebAt H T k U P ∧ U.length = w.l.length ∧ P.length = w.c.length ∧ 0 ≤ k ∧ k ≤ 1000 ∧
  ∀ H' p qs, H p = Option.none → Same H H' → H' p = some (.lst (qs.map V.ref)) → PairsAt H' qs (tightL w o k U P (trip w o w.l.length).length) → Q (.ref p) H'
/-- what an asker may get -/
def mayL (w : Wi) (o : Nat) (k : Int) (U P : List Int) (x : Nat) : List Nat := ((tightL w o k U P (trip w o w.l.length).length).filter fun q => decide (q.1 = x)).map (·.2)
def spMay : Sp := fun vs H Q _ => ∃ (a b T : Addr) (w : Wi) (o : Nat) (k : Int) (U P : List Int) (x : Nat), vs = [.ref a, .ref b, .ref T, nV x] ∧ WAt H a w ∧ w.Ok ∧ AimAt H b o ∧ WebAt H T k U P ∧ U.length = w.l.length ∧ P.length = w.c.length ∧ 0 ≤ k ∧ k ≤ 1000 ∧ x < w.l.length ∧
  ∀ H' R p, Same H H' → H' R = some (.tup [.ref p, .bl (decide (iD U x = 0))]) → H' p = some (.lst ((mayL w o k U P x).map nV)) → Q (.ref R) H'
section
variable {P : Program} {w : World} {K : PySem.W.Frag} {mg : Str → Option Value} {base : Heap}
abbrev N_web_of : List Str := ["wishes", "aim", "dealing", "paper", "arcs", "strict", "many", "last", "dealings", "asker", "thing", "asked", "price"]
theorem sc_web_of : FnScope N_web_of ["wishes", "aim"] (defScope s_web_of) := ⟨rfl, rfl, rfl, by decide +kernel, rfl, by decide +kernel, by decide +kernel⟩
theorem ok_web_of {f : Addr} {fd : FuncData} (F : FnP K "web_of" "web_of" s_web_of f fd) (T : Txt K mg) (c_best_dealing : Cal P w K mg base "best_dealing" 11 ["wishes", "aim"] (spBD)) (c_has_dealt : Cal P w K mg base "has_dealt" 1 ["dealings", "asker", "thing"] (spHasD)) (c_has_left : Cal P w K mg base "has_left" 6 ["wishes", "dealings", "thing"] (spHasL)) (c_met_arcs : Cal P w K mg base "met_arcs" 9 ["wishes", "aim", "dealing", "paper"] (spArcs)) (c_moved_round : Cal P w K mg base "moved_round" 2 ["dealing", "arcs", "one", "other"] (spMov)) (c_strict_paper : Cal P w K mg base "strict_paper" 3 ["paper", "arcs"] (spStr)) (c_tight_wishes : Cal P w K mg base "tight_wishes" 9 ["wishes", "aim", "paper"] (spTight)) : FnOk P w K mg base CX0 12 f fd ["wishes", "aim"] (spWebOf) := by
  refine F.ok sc_web_of (fun vs H Q E h => ?_) (fun cdv A outer s H vs Q E hr h => ?_)
  · obtain ⟨a, b, w, o, ok, rfl, _⟩ := h
    rfl
  · have hu := hu_of hr
    have nd := sc_web_of.nd
    refine ⟨_, PSs.nox (pss_cons (ps_asg (pe_call c_best_dealing.ok (hr.mono (by decide)) (by rfl) c_best_dealing.g c_best_dealing.kp c_best_dealing.b .nil pass0 (pa_cons (pv 0) (pa_cons (pv 1) pa_nil))) (pg_tup rfl (pgs_cons (pg_name (i := 2) nd rfl (Or.inl rfl)) (pgs_cons (pg_name (i := 3) nd rfl (Or.inl rfl)) pgs_nil))))
    (pss_cons (ps_set (i := 4) nd rfl (Or.inl rfl) (pe_call c_met_arcs.ok (hr.mono (by decide)) (by rfl) c_met_arcs.g c_met_arcs.kp c_met_arcs.b .nil pass0 (pa_cons (pv 0) (pa_cons (pv 1) (pa_cons (pv 2) (pa_cons (pv 3) pa_nil))))))
    (pss_cons (ps_set (i := 5) nd rfl (Or.inl rfl) (pe_call c_strict_paper.ok (hr.mono (by decide)) (by rfl) c_strict_paper.g c_strict_paper.kp c_strict_paper.b .nil pass0 (pa_cons (pv 3) (pa_cons (pv 4) pa_nil))))
    (pss_cons (ps_set (i := 6) nd rfl (Or.inl rfl) (pe_callB call_len_seq (by rfl) T.len (by decide +kernel) (pa_cons (pv 2) pa_nil)))
    (pss_cons (ps_set (i := 7) nd rfl (Or.inl rfl) (pe_op op_sub (pe_callB call_len_seq (by rfl) T.len (by decide +kernel) (pa_cons (pv 4) pa_nil)) pe_int))
    (pss_cons (ps_set (i := 8) nd rfl (Or.inl rfl) (pe_lst (pa_cons (pv 2) pa_nil)))
    (pss_cons (ps_for PassesOwn.never rfl (pi_list (pe_call c_tight_wishes.ok (hr.mono (by decide)) (by rfl) c_tight_wishes.g c_tight_wishes.kp c_tight_wishes.b .nil pass0 (pa_cons (pv 0) (pa_cons (pv 1) (pa_cons (pv 5) pa_nil))))) (pg_tup rfl (pgs_cons (pg_name (i := 9) nd rfl (Or.inl rfl)) (pgs_cons (pg_name (i := 10) nd rfl (Or.inl rfl)) pgs_nil)))
      (pss_one (ps_if (pt_not (pt_val (pe_call c_has_dealt.ok (hr.mono (by decide)) (by rfl) c_has_dealt.g c_has_dealt.kp c_has_dealt.b .nil pass0 (pa_cons (pv 8) (pa_cons (pv 9) (pa_cons (pv 10) pa_nil))))))
        (pss_one (ps_expr (pe_bm PySem.F.plainAttrs_list PySem.F.slot_list_append PySem.F.type_list_append mt_append (pv 8) (pa_cons (pe_call c_moved_round.ok (hr.mono (by decide)) (by rfl) c_moved_round.g c_moved_round.kp c_moved_round.b .nil pass0 (pa_cons (pv 2) (pa_cons (pv 4) (pa_cons (pv 9) (pa_cons (pe_op op_add (pv 6) (pv 10)) pa_nil))))) pa_nil))))
        pss_nil)))
    (pss_cons (ps_for PassesOwn.never rfl (pi_enum (by rfl) T.enumerate (pa_cons (pe_ix ix_tup (pv 5) pe_int (fun _ _ => rfl)) pa_nil)) (pg_tup rfl (pgs_cons (pg_name (i := 9) nd rfl (Or.inl rfl)) (pgs_cons (pg_name (i := 11) nd rfl (Or.inl rfl)) pgs_nil)))
      (pss_one (ps_if (PW.pt (pw_and (pt_cmpR op_eq (pv 11) pe_int (nomark _)) (pw_and1 (pt_not (pt_val (pe_call c_has_dealt.ok (hr.mono (by decide)) (by rfl) c_has_dealt.g c_has_dealt.kp c_has_dealt.b .nil pass0 (pa_cons (pv 8) (pa_cons (pv 9) (pa_cons pe_non pa_nil)))))))))
        (pss_one (ps_expr (pe_bm PySem.F.plainAttrs_list PySem.F.slot_list_append PySem.F.type_list_append mt_append (pv 8) (pa_cons (pe_call c_moved_round.ok (hr.mono (by decide)) (by rfl) c_moved_round.g c_moved_round.kp c_moved_round.b .nil pass0 (pa_cons (pv 2) (pa_cons (pv 4) (pa_cons (pv 9) (pa_cons (pv 7) pa_nil))))) pa_nil))))
        pss_nil)))
    (pss_cons (ps_for PassesOwn.never rfl (pi_enum (by rfl) T.enumerate (pa_cons (pe_ix ix_tup (pv 5) pe_int (fun _ _ => rfl)) pa_nil)) (pg_tup rfl (pgs_cons (pg_name (i := 10) nd rfl (Or.inl rfl)) (pgs_cons (pg_name (i := 12) nd rfl (Or.inl rfl)) pgs_nil)))
      (pss_one (ps_if (PW.pt (pw_and (pt_cmpR op_eq (pv 12) pe_int (nomark _)) (pw_and1 (pt_not (pt_val (pe_call c_has_left.ok (hr.mono (by decide)) (by rfl) c_has_left.g c_has_left.kp c_has_left.b .nil pass0 (pa_cons (pv 0) (pa_cons (pv 8) (pa_cons (pv 10) pa_nil)))))))))
        (pss_one (ps_expr (pe_bm PySem.F.plainAttrs_list PySem.F.slot_list_append PySem.F.type_list_append mt_append (pv 8) (pa_cons (pe_call c_moved_round.ok (hr.mono (by decide)) (by rfl) c_moved_round.g c_moved_round.kp c_moved_round.b .nil pass0 (pa_cons (pv 2) (pa_cons (pv 4) (pa_cons (pv 7) (pa_cons (pe_op op_add (pv 6) (pv 10)) pa_nil))))) pa_nil))))
        pss_nil)))
    (pss_one (ps_ret (pe_tup (pa_cons (pv 5) (pa_cons (pv 8) pa_nil)))))))))))))), ?_⟩
    obtain ⟨a, b, w, o, ok, rfl, hW, hAim, q⟩ := h
    have n6 := ok.c6
    have m7 := ok.l7
    refine ⟨_, rfl, _, rfl, a, b, w, o, ok, rfl, hW, hAim, fun H1 T1 dl pp as ps d U Pl hT0 hdl0 s1 hT1 hpp hdl has hps el eU eP hdu => ?_⟩
    refine ⟨T1, _, rfl, SqT.of hT1, rfl, _, _, rfl, _, _, rfl, rfl, ?_⟩
    refine ⟨_, rfl, _, rfl, _, rfl, _, rfl, a, b, dl, pp, as, ps, w, o, ok, d, U, Pl, rfl, hW.mono s1, hAim.mono s1, hdl, hpp, has, hps, el, eU, eP, hdu.wi, fun H2 FD fs L s2 hF hAd => ?_⟩
    have hAr : ∀ x y, ArcP (insW w o ok) (dD d) (iD U) (iD Pl) x y → y < w.l.length + w.c.length + 1 := fun x y h => (arc_lt (I := insW w o ok) hdu h).2
    refine ⟨_, rfl, _, rfl, pp, as, ps, FD, fs, w.l.length, w.c.length, 100, _, L, U, Pl, rfl, s2 _ _ hpp, s2 _ _ has, s2 _ _ hps, eU, eP, hF, hAd, by omega, hAr, fun H3 T3 as' ps' l s3 hPl hT3 has' hps' => ?_⟩
    generalize hUs : ((List.range w.l.length).map fun a => ((w.l.length + w.c.length + 1 : Nat) : Int) * iD U a + (l.getD a 0 : Nat) - (l.getD (w.l.length + w.c.length) 0 : Nat)) = Us at has'
    generalize hPs : ((List.range w.c.length).map fun t => ((w.l.length + w.c.length + 1 : Nat) : Int) * iD Pl t + (l.getD (w.l.length + w.c.length) 0 : Nat) - (l.getD (w.l.length + t) 0 : Nat)) = Ps at hps'
    have eUs : (List.range w.l.length).map (sA (insW w o ok) (iD U) (plD l)) = Us := hUs
    have ePs : (List.range w.c.length).map (sQ (insW w o ok) (iD Pl) (plD l)) = Ps := hPs
    have lUs : Us.length = w.l.length := by rw [← eUs, List.length_map, List.length_range]
    have lPs : Ps.length = w.c.length := by rw [← ePs, List.length_map, List.length_range]
    have gU : ∀ x, x < w.l.length → iD Us x = sA (insW w o ok) (iD U) (plD l) x := fun x hx => by rw [← eUs]; exact iD_range _ hx
    have gP : ∀ x, x < w.c.length → iD Ps x = sQ (insW w o ok) (iD Pl) (plD l) x := fun x hx => by rw [← ePs]; exact iD_range _ hx
    have pl : Pla (insW w o ok) (dD d) (iD U) (iD Pl) (plD l) := ⟨fun x hx => hPl.2 x hx⟩
    have hdu' : Dual (insW w o ok) (insW w o ok).m (dD d) (iD U) (iD Pl) := hdu
    have s13 := s1.trans (s2.trans s3)
    have s23 := s2.trans s3
    have hdl3 := s23 _ _ hdl
    have hF3 := s3 _ _ hF
    have hAd3 := hAd.mono s3
    have hW3 := hW.mono s13
    have hAim3 := hAim.mono s13
    have em : ((d.map onV).length : Int) = ((w.l.length : Nat) : Int) := by rw [List.length_map, el]
    have ef : ((fs.map V.ref).length : Int) = ((w.l.length + w.c.length + 1 : Nat) : Int) := by rw [List.length_map, hAd.l1]
    refine ⟨_, rfl, dl, _, rfl, .inl (SqL.of hdl3), ?_⟩
    rw [em]
    refine ⟨_, rfl, FD, _, rfl, .inl (SqL.of hF3), _, _, rfl, rfl, ?_⟩
    rw [ef]
    have el1 : ((w.l.length + w.c.length + 1 : Nat) : Int) - 1 = ((w.l.length + w.c.length : Nat) : Int) := by omega
    dsimp only
    rw [el1]
    refine ⟨_, rfl, by show 1 ≤ sizeLine; decide, fun DD hDD => ?_⟩
    have s4 : Same H3 (upd H3 DD (.lst [V.ref dl])) := same_new hDD
    have W4 : WebI (upd H3 DD (.lst [V.ref dl])) DD w.l.length 1 [dl] := ⟨upd_same, fun x hx => by
      rw [List.mem_singleton] at hx
      subst hx
      exact ⟨toI d, by rw [toI_map]; exact s4 _ _ hdl3, by unfold toI; rw [List.length_map]; exact el⟩, (fun z => by
      rw [List.mem_singleton] at z
      rw [z, hdl3] at hDD
      cases hDD), Nat.le_refl _⟩
    generalize upd H3 DD (.lst [V.ref dl]) = H4 at s4 W4
    have kz : sz (insW w o ok) = ((w.l.length + w.c.length + 1 : Nat) : Int) := rfl
    have hT4 := s4 _ _ hT3
    have has4 := s4 _ _ has'
    have hps4 := s4 _ _ hps'
    -- the tight wishes
    refine ⟨_, rfl, _, rfl, _, rfl, a, b, T3, as', ps', w, o, _, Us, Ps, rfl, hW3.mono s4, ok, hAim3.mono s4, hT4, has4, hps4, lUs, lPs, by omega, by omega, fun Ht tl qs htl st hTl hPr => ?_⟩
    have ntl : tl ≠ DD := (ne_of_none W4.dd htl).symm
    have W5 := W4.mono st (Nat.le_refl 1)
    have tle := tightL_le w o ((w.l.length + w.c.length + 1 : Nat) : Int) Us Ps (trip w o w.l.length).length
    have htl2 : w.l.length * w.c.length ≤ 7 * 6 := Nat.mul_le_mul m7 n6
    have sH : ∀ {Hb H' : Hp}, Same H4 Hb → SameX [DD] Hb H' → Same H3 H' := fun {Hb H'} sb sx => SameX.same (s4.trans sb) sx fun b hb => by
      rw [List.mem_singleton] at hb
      rw [hb]
      exact hDD
    refine ⟨tl, rfl, ⟨_, SqL.of hTl⟩, for_list (xs := qs.map V.ref) (fun j σ H' => ∃ v9 v10 v11 v12 es, σ = [some (.ref a), some (.ref b), some (.ref dl), some (.ref pp), some (.ref FD), some (.ref T3), some (nV w.l.length), some (nV (w.l.length + w.c.length)), some (.ref DD), v9, v10, v11, v12] ∧ SameX [DD] Ht H' ∧ WebI H' DD w.l.length (1 + j) es)
      ⟨_, _, _, _, [dl], rfl, SameX.refl _ _, W5⟩ (fun i σ H' _ ⟨_, _, _, _, _, _, sx, _⟩ => SqL.of (sx _ _ (by simp [ntl]) hTl)) ?_ ?_⟩
    · rintro j y σ H5 hy ⟨v9, v10, v11, v12, es, rfl, sx, W⟩
      obtain ⟨tq, htq, rfl⟩ := get_map hy
      have hj : j < (tightL w o ((w.l.length + w.c.length + 1 : Nat) : Int) Us Ps (trip w o w.l.length).length).length := by rw [← hPr.1]; exact lt_of_get htq
      have htr := List.getElem?_eq_getElem hj
      generalize (tightL w o ((w.l.length + w.c.length + 1 : Nat) : Int) Us Ps (trip w o w.l.length).length)[j] = xx at htr
      obtain ⟨x1, x2⟩ := xx
      obtain ⟨x3, hw, hti⟩ := (tightL_mem ok).mp (List.mem_of_getElem? htr)
      obtain ⟨hx1, hx2⟩ := rk_lt ok (wt_some hw).1
      rw [gU x1 hx1, gP x2 hx2] at hti
      have hrch := back_tight hdu' pl (a := x1) (t := x2) (by exact hx1) hw hti
      have hP := hPr.2 j tq _ htq htr
      have hP1 := sx _ _ (by rw [List.mem_singleton]; exact ne_of hP W5.dd (by intro z; cases z)) hP
      have sm := sH st sx
      refine ⟨tq, _, rfl, SqT.of hP1, rfl, _, _, rfl, _, _, rfl, rfl, ?_⟩
      have hl := W.le
      refine ⟨_, rfl, _, rfl, _, rfl, DD, es, w.l.length, x1, some (x2 : Int), rfl, W.dd, W.da, by omega, hx1, fun H6 cc s6 => ⟨cc, rfl, if2 (fun _ => ?_) fun _ => ⟨_, _, _, _, es, rfl, sx.trans (SameX.of s6), W.mono s6 (by omega)⟩⟩⟩
      have W6 := W.mono s6 (Nat.le_refl _)
      have sm6 := sm.trans s6
      refine ⟨_, rfl, .inl ⟨rfl, _, SqL.of W6.dd⟩, _, rfl, _, rfl, _, rfl, _, rfl, _, rfl, _, _, rfl, rfl, dl, FD, fs, w.l.length, w.c.length, 100, _, L, d, x1, w.l.length + x2, rfl, sm6 _ _ hdl3, el, sm6 _ _ hF3, hAd3.mono sm6, by omega, hAr, by omega, hrch, fun H7 p f hp s7 hP7 hfl => ?_⟩
      have W7 := W6.mono s7 (Nat.le_refl _)
      refine ⟨DD, _, _, rfl, rfl, W7.dd, by rw [List.length_map]; exact sl100 (by omega), ?_⟩
      exact ⟨_, _, _, _, es ++ [p], rfl, ((sx.trans (SameX.of s6)).trans (SameX.of s7)).upd_in (by simp), W7.add (ne_of_none W6.dd hp).symm hP7 hfl⟩
    rintro σ H5 ⟨v9, v10, v11, v12, es5, rfl, sx5, W5'⟩
    rw [List.length_map, hPr.1] at W5'
    have W5' := W5'.mono (Same.refl _) (show 1 + (tightL w o ((w.l.length + w.c.length + 1 : Nat) : Int) Us Ps (trip w o w.l.length).length).length ≤ 43 by omega)
    have sm5 := sH st sx5
    -- asks
    refine ⟨_, rfl, T3, _, 1, _, rfl, rfl, SqT.of (sm5 _ _ hT3), rfl, as', _, rfl, SqL.of (sm5 _ _ has'), for_enum (fun j σ H' => ∃ v9 v10 v11 v12 es, σ = [some (.ref a), some (.ref b), some (.ref dl), some (.ref pp), some (.ref FD), some (.ref T3), some (nV w.l.length), some (nV (w.l.length + w.c.length)), some (.ref DD), v9, v10, v11, v12] ∧ Same H3 H' ∧ WebI H' DD w.l.length (43 + j) es)
      ⟨_, _, _, _, es5, rfl, sm5, W5'⟩ (fun i σ H' _ ⟨_, _, _, _, _, _, sm, _⟩ => SqL.of (sm _ _ has')) ?_ ?_⟩
    · rintro j y Ti σ H6 hy ⟨v9, v10, v11, v12, es, rfl, sm, W⟩ hTi
      obtain ⟨ask, hask, rfl⟩ := get_map hy
      have hj : j < w.l.length := by rw [← lUs]; exact lt_of_get hask
      have eask : ask = sA (insW w o ok) (iD U) (plD l) j := by
        have := iD_get (P := Us) (t := j) (by omega)
        rw [hask] at this
        rw [Option.some.inj this, gU j hj]
      have s7 : Same H6 (upd H6 Ti (.tup [.int (j : Int), .int ask])) := same_new hTi
      have W := W.mono s7 (Nat.le_refl _)
      have sm := sm.trans s7
      refine pair_to ?_
      generalize upd H6 Ti (.tup [.int (j : Int), .int ask]) = H7 at W sm
      have hl := W.le
      refine ⟨_, rfl, rfl, _, rfl, ?_⟩
      show if decide (V.int ask = V.int 0) = true then _ else _
      rw [dec_int]
      refine if2 (fun h => ?_) fun h => ifF rfl ⟨_, _, _, _, es, rfl, sm, W.mono (Same.refl _) (by omega)⟩
      have hc := of_decide_eq_true h
      rw [eask] at hc
      have hrch := back_ask hdu' pl (a := j) (by exact hj) hc
      refine ⟨_, rfl, _, rfl, DD, es, w.l.length, j, Option.none, rfl, W.dd, W.da, by omega, hj, fun H8 cc s8 => ⟨cc, rfl, if2 (fun _ => ?_) fun _ => ⟨_, _, _, _, es, rfl, sm.trans s8, W.mono s8 (by omega)⟩⟩⟩
      have W8 := W.mono s8 (Nat.le_refl _)
      have sm8 := sm.trans s8
      refine ⟨_, rfl, .inl ⟨rfl, _, SqL.of W8.dd⟩, _, rfl, _, rfl, _, rfl, _, rfl, dl, FD, fs, w.l.length, w.c.length, 100, _, L, d, j, w.l.length + w.c.length, rfl, sm8 _ _ hdl3, el, sm8 _ _ hF3, hAd3.mono sm8, by omega, hAr, by omega, hrch, fun H9 p f hp s9 hP9 hfl => ?_⟩
      have W9 := W8.mono s9 (Nat.le_refl _)
      refine ⟨DD, _, _, rfl, rfl, W9.dd, by rw [List.length_map]; exact sl100 (by omega), ?_⟩
      exact ⟨_, _, _, _, es ++ [p], rfl, same_mut (sm8.trans s9) hDD, W9.add (ne_of_none W8.dd hp).symm hP9 hfl⟩
    rintro σ H6 ⟨v9, v10, v11, v12, es6, rfl, sm6, W6'⟩
    rw [List.length_map, lUs] at W6'
    have W6' := W6'.mono (Same.refl _) (show 43 + w.l.length ≤ 50 by omega)
    -- prices
    refine ⟨_, rfl, T3, _, 2, _, rfl, rfl, SqT.of (sm6 _ _ hT3), rfl, ps', _, rfl, SqL.of (sm6 _ _ hps'), for_enum (fun j σ H' => ∃ v9 v10 v11 v12 es, σ = [some (.ref a), some (.ref b), some (.ref dl), some (.ref pp), some (.ref FD), some (.ref T3), some (nV w.l.length), some (nV (w.l.length + w.c.length)), some (.ref DD), v9, v10, v11, v12] ∧ Same H3 H' ∧ WebI H' DD w.l.length (50 + j) es)
      ⟨_, _, _, _, es6, rfl, sm6, W6'⟩ (fun i σ H' _ ⟨_, _, _, _, _, _, sm, _⟩ => SqL.of (sm _ _ hps')) ?_ ?_⟩
    · rintro j y Ti σ H7 hy ⟨v9, v10, v11, v12, es, rfl, sm, W⟩ hTi
      obtain ⟨prc, hprc, rfl⟩ := get_map hy
      have hj : j < w.c.length := by rw [← lPs]; exact lt_of_get hprc
      have eprc : prc = sQ (insW w o ok) (iD Pl) (plD l) j := by
        have := iD_get (P := Ps) (t := j) (by omega)
        rw [hprc] at this
        rw [Option.some.inj this, gP j hj]
      have s8 : Same H7 (upd H7 Ti (.tup [.int (j : Int), .int prc])) := same_new hTi
      have W := W.mono s8 (Nat.le_refl _)
      have sm := sm.trans s8
      refine pair_to ?_
      generalize upd H7 Ti (.tup [.int (j : Int), .int prc]) = H8 at W sm
      have hl := W.le
      refine ⟨_, rfl, rfl, _, rfl, ?_⟩
      show if decide (V.int prc = V.int 0) = true then _ else _
      rw [dec_int]
      refine if2 (fun h => ?_) fun h => ifF rfl ⟨_, _, _, _, es, rfl, sm, W.mono (Same.refl _) (by omega)⟩
      have hc := of_decide_eq_true h
      rw [eprc] at hc
      have hrch := back_price hdu' pl (t := j) (by exact hj) hc
      refine ⟨_, rfl, _, rfl, _, rfl, a, DD, w, es, w.l.length, j, rfl, hW3.mono sm, ok, W.dd, W.da, by omega, hj, fun H9 cc s9 => ⟨cc, rfl, if2 (fun _ => ?_) fun _ => ⟨_, _, _, _, es, rfl, sm.trans s9, W.mono s9 (by omega)⟩⟩⟩
      have W9 := W.mono s9 (Nat.le_refl _)
      have sm9 := sm.trans s9
      refine ⟨_, rfl, .inl ⟨rfl, _, SqL.of W9.dd⟩, _, rfl, _, rfl, _, rfl, _, rfl, _, rfl, _, _, rfl, rfl, dl, FD, fs, w.l.length, w.c.length, 100, _, L, d, w.l.length + w.c.length, w.l.length + j, rfl, sm9 _ _ hdl3, el, sm9 _ _ hF3, hAd3.mono sm9, by omega, hAr, by omega, hrch, fun HA p f hp sA' hPA hfl => ?_⟩
      have WA := W9.mono sA' (Nat.le_refl _)
      refine ⟨DD, _, _, rfl, rfl, WA.dd, by rw [List.length_map]; exact sl100 (by omega), ?_⟩
      exact ⟨_, _, _, _, es ++ [p], rfl, same_mut (sm9.trans sA') hDD, WA.add (ne_of_none W9.dd hp).symm hPA hfl⟩
    rintro σ H7 ⟨v9, v10, v11, v12, es7, rfl, sm7, W7⟩
    refine ⟨_, rfl, _, rfl, by show 2 ≤ sizeLine; decide, fun T9 hT9 => ?_⟩
    have s9 : Same H7 (upd H7 T9 (.tup [.ref T3, .ref DD])) := same_new hT9
    refine q _ T9 d (iD U) (iD Pl) l (s13.trans (sm7.trans s9)) el hdu pl ⟨T3, DD, as', ps', upd_same, s9 _ _ (sm7 _ _ hT3), ?_, ?_⟩
    · rw [eUs]
      exact s9 _ _ (sm7 _ _ has')
    · rw [ePs]
      exact s9 _ _ (sm7 _ _ hps')
abbrev N_possible : List Str := ["wishes", "aim", "web"]
theorem sc_possible : FnScope N_possible ["wishes", "aim", "web"] (defScope s_possible) := ⟨rfl, rfl, rfl, by decide +kernel, rfl, by decide +kernel, by decide +kernel⟩
theorem ok_possible {f : Addr} {fd : FuncData} (F : FnP K "possible" "possible" s_possible f fd) (T : Txt K mg) (c_look_at_aim : Cal P w K mg base "look_at_aim" 5 ["wishes", "thing"] (spLookA)) (c_look_at_wishes : Cal P w K mg base "look_at_wishes" 4 ["thing"] (spLook)) (c_tight_wishes : Cal P w K mg base "tight_wishes" 9 ["wishes", "aim", "paper"] (spTight)) : FnOk P w K mg base CX0 10 f fd ["wishes", "aim", "web"] (spPos) := by
  refine F.ok sc_possible (fun vs H Q E h => ?_) (fun cdv A outer s H vs Q E hr h => ?_)
  · obtain ⟨a, b, T, w, o, k, U, Pl, rfl, _⟩ := h
    rfl
  · have hu := hu_of hr
    have nd := sc_possible.nd
    refine ⟨_, PSs.nox (pss_cons (ps_expr (pe_call c_look_at_wishes.ok (hr.mono (by decide)) (by rfl) c_look_at_wishes.g c_look_at_wishes.kp c_look_at_wishes.b .nil pass0 (pa_cons (pv 0) pa_nil)))
    (pss_cons (ps_expr (pe_call c_look_at_aim.ok (hr.mono (by decide)) (by rfl) c_look_at_aim.g c_look_at_aim.kp c_look_at_aim.b .nil pass0 (pa_cons (pv 0) (pa_cons (pv 1) pa_nil))))
    (pss_one (ps_ret (pe_call c_tight_wishes.ok (hr.mono (by decide)) (by rfl) c_tight_wishes.g c_tight_wishes.kp c_tight_wishes.b .nil pass0 (pa_cons (pv 0) (pa_cons (pv 1) (pa_cons (pe_ix ix_tup (pv 2) pe_int (fun _ _ => rfl)) pa_nil)))))))), ?_⟩
    obtain ⟨a, b, T', w, o, k, U, Pl, rfl, hW, ok, hAim, ⟨sp, dd, as, ps, hT, hsp, has, hps⟩, eU, eP, hk0, hk1, q⟩ := h
    refine ⟨_, rfl, a, w, rfl, hW, ok, fun H1 s1 => ?_⟩
    refine ⟨_, rfl, _, rfl, a, b, w, o, rfl, hW.mono s1, ok, hAim.mono s1, fun H2 s2 => ?_⟩
    have s12 := s1.trans s2
    refine ⟨_, rfl, _, rfl, _, rfl, T', _, 0, _, rfl, rfl, SqT.of (s12 _ _ hT), rfl, a, b, sp, as, ps, w, o, k, U, Pl, rfl, hW.mono s12, ok, hAim.mono s12, s12 _ _ hsp, s12 _ _ has, s12 _ _ hps, eU, eP, hk0, hk1, fun H3 p qs hp s3 hP hpr => q H3 p qs (s12.free hp) (s12.trans s3) hP hpr⟩
abbrev N_may_get : List Str := ["wishes", "aim", "web", "asker", "some", "one", "thing"]
theorem sc_may_get : FnScope N_may_get ["wishes", "aim", "web", "asker"] (defScope s_may_get) := ⟨rfl, rfl, rfl, by decide +kernel, rfl, by decide +kernel, by decide +kernel⟩
theorem ok_may_get {f : Addr} {fd : FuncData} (F : FnP K "may_get" "may_get" s_may_get f fd) (T : Txt K mg) (c_possible : Cal P w K mg base "possible" 10 ["wishes", "aim", "web"] (spPos)) : FnOk P w K mg base CX0 11 f fd ["wishes", "aim", "web", "asker"] (spMay) := by
  refine F.ok sc_may_get (fun vs H Q E h => ?_) (fun cdv A outer s H vs Q E hr h => ?_)
  · obtain ⟨a, b, T, w, o, k, U, Pl, x, rfl, _⟩ := h
    rfl
  · have hu := hu_of hr
    have nd := sc_may_get.nd
    refine ⟨_, PSs.nox (pss_cons (ps_setLc (i := 4) (own := [("one", 5), ("thing", 6)]) (g := (gTup K 2 (gCons (gName 5) (gCons (gName 6) gNil)))) (tt := (tTest (tOp _ (tVar 5) (tVar 3)))) (te := (tVar 6)) (by rfl) nd rfl rfl (sw_true rfl rfl rfl (by decide +kernel)) (pi_list (pe_call c_possible.ok (hr.mono (by decide)) (by rfl) c_possible.g c_possible.kp c_possible.b .nil pass0 (pa_cons (pv 0) (pa_cons (pv 1) (pa_cons (pv 2) pa_nil))))) (blkOk_by (own := [("one", 5), ("thing", 6)]) (N := N_may_get) (sc := defScope s_may_get) (by decide +kernel)) (fun _ _ _ _ _ => (pg_tup rfl (pgs_cons (pg_name (i := 5) nd rfl (Or.inl rfl)) (pgs_cons (pg_name (i := 6) nd rfl (Or.inl rfl)) pgs_nil)))) (fun _ _ _ _ _ => (pts_one (pt_cmpR op_eq (pv 5) (pv 3) (nomark _)))) (fun _ _ _ _ _ => (pv 6)))
    (pss_one (ps_ret (pe_tup (pa_cons (pv 4) (pa_cons (pe_cmpR op_eq (pe_ix ix_list (pe_ix ix_tup (pe_ix ix_tup (pv 2) pe_int (fun _ _ => rfl)) pe_int (fun _ _ => rfl)) (pv 3) (fun _ _ => rfl)) pe_int (nomark _)) pa_nil)))))), ?_⟩
    obtain ⟨a, b, T', w, o, k, U, Pl, x, rfl, hW, ok, hAim, hWeb, eU, eP, hk0, hk1, hx, q⟩ := h
    refine ⟨_, rfl, _, rfl, _, rfl, a, b, T', w, o, k, U, Pl, rfl, hW, ok, hAim, hWeb, eU, eP, hk0, hk1, fun H1 pl qs hpl s1 hP hpr => ⟨pl, rfl, ⟨_, SqL.of hP⟩, fun D hD => ?_⟩⟩
    have n6 := ok.c6
    have m7 := ok.l7
    have tle := tightL_le w o k U Pl (trip w o w.l.length).length
    have htl2 : w.l.length * w.c.length ≤ 7 * 6 := Nat.mul_le_mul m7 n6
    generalize hTL : tightL w o k U Pl (trip w o w.l.length).length = TL at hpr tle
    refine lc_list (xs := qs.map V.ref) (fun j H' => Same H1 H' ∧ H' D = some (.lst ((((TL.take j).filter fun q => decide (q.1 = x)).map (·.2)).map nV))) ⟨same_new hD, upd_same⟩ (fun i H' _ ⟨s, _⟩ => SqL.of (s _ _ hP)) ?_ ?_
    · rintro j y H2 hy ⟨sm, hL⟩
      obtain ⟨tq, htq, rfl⟩ := get_map hy
      have hj : j < TL.length := by rw [← hpr.1]; exact lt_of_get htq
      have htr := List.getElem?_eq_getElem hj
      generalize TL[j] = xx at htr
      obtain ⟨x1, x2⟩ := xx
      have hPq := hpr.2 j tq _ htq htr
      have hle := List.length_filter_le (fun q : Nat × Nat => decide (q.1 = x)) (TL.take j)
      rw [List.length_take] at hle
      refine ⟨tq, _, rfl, SqT.of (sm _ _ hPq), rfl, _, _, rfl, _, _, rfl, rfl, rfl, ?_⟩
      refine ⟨_, rfl, _, rfl, rfl, _, rfl, ?_⟩
      show if decide (nV x1 = nV x) = true then _ else _
      rw [dec_nV]
      refine if2 (fun h => ?_) fun h => ?_
      · have hc := of_decide_eq_true h
        refine ⟨_, rfl, _, hL, ?_, same_mut sm hD, ?_⟩
        · rw [List.length_map, List.length_map]
          exact sl100 (by omega)
        · rw [upd_same, take_snoc htr, List.filter_append, List.map_append, List.map_append, List.filter_cons, if_pos (decide_eq_true hc)]
          rfl
      · have hc := of_decide_eq_false h
        refine ⟨sm, ?_⟩
        rw [take_snoc htr, List.filter_append, List.filter_cons, if_neg (by rw [decide_eq_false hc]; decide), List.filter_nil, List.append_nil]
        exact hL
    rintro H2 ⟨s2, hL⟩
    rw [List.length_map, hpr.1, List.take_length] at hL
    obtain ⟨sp, dd, as, ps, hT, hsp, has, hps⟩ := hWeb
    have s12 := s1.trans s2
    refine ⟨_, rfl, _, rfl, T', _, 0, _, rfl, rfl, SqT.of (s12 _ _ hT), rfl, sp, _, 1, _, rfl, rfl, SqT.of (s12 _ _ hsp), rfl, _, rfl, as, _, (x : Int), _, rfl, rfl, SqL.of (s12 _ _ has), at_nat V.int (iD_get (by omega)), rfl, by show 2 ≤ sizeLine; decide, fun R hR => ?_⟩
    have s3 : Same H2 (upd H2 R (.tup [.ref D, .bl (decide (V.int (iD U x) = V.int 0))])) := same_new hR
    refine q _ R D (s12.trans s3) ?_ ?_
    · rw [upd_same, dec_int]
    · unfold mayL
      rw [hTL]
      exact s3 _ _ hL
end
end Wd
namespace Wd
open PySem PySem.Spec PyProof.Rows L2
/-! Copies, each a thing of its own: what the tellings have to do with one another. -/
def own (cs : List Nat) (c : Nat) : Nat := (ownL cs).getD c 0
theorem ownP_succ (cs : List Nat) (i : Nat) : ownP cs (i + 1) = ownP cs i ++ List.replicate (cs.getD i 0) i := by
  unfold ownP
  rw [List.range_succ, List.map_append, List.flatten_append]
  simp
theorem take_sum_succ (cs : List Nat) (i : Nat) : (cs.take (i + 1)).sum = (cs.take i).sum + cs.getD i 0 := by
  rw [← ownP_len, ← ownP_len, ownP_succ, List.length_append, List.length_replicate]
theorem ownP_get {cs : List Nat} {t j : Nat} (hj : j < cs.getD t 0) : ∀ n, t < n → (ownP cs n)[(cs.take t).sum + j]? = some t
  | 0, h => absurd h (Nat.not_lt_zero t)
  | n + 1, h => by
    rw [ownP_succ]
    by_cases e : t = n
    · subst e
      rw [List.getElem?_append_right (by rw [ownP_len]; omega), ownP_len, List.getElem?_replicate, if_pos (by omega)]
    · have ih := ownP_get hj n (by omega)
      rw [List.getElem?_append_left (lt_of_get ih)]
      exact ih
theorem getD_pos_lt {cs : List Nat} {t : Nat} (h : 0 < cs.getD t 0) : t < cs.length := by
  by_cases q : t < cs.length
  · exact q
  · rw [List.getD_eq_getElem?_getD, List.getElem?_eq_none (by omega)] at h
    exact absurd h (Nat.lt_irrefl 0)
theorem own_at {cs : List Nat} {t j : Nat} (hj : j < cs.getD t 0) : own cs ((cs.take t).sum + j) = t := by
  unfold own ownL
  rw [List.getD_eq_getElem?_getD, ownP_get hj cs.length (getD_pos_lt (by omega))]
  rfl
theorem mem_cps {cs : List Nat} {t c : Nat} : c ∈ cps cs t ↔ ∃ j, j < cs.getD t 0 ∧ c = (cs.take t).sum + j := by
  unfold cps
  rw [List.mem_map]
  exact ⟨fun ⟨j, h1, h2⟩ => ⟨j, List.mem_range.mp h1, h2.symm⟩, fun ⟨j, h1, h2⟩ => ⟨j, List.mem_range.mpr h1, h2.symm⟩⟩
theorem own_cps {cs : List Nat} {t c : Nat} (h : c ∈ cps cs t) : own cs c = t := by
  obtain ⟨j, hj, rfl⟩ := mem_cps.mp h
  exact own_at hj
theorem cover {cs : List Nat} {c : Nat} : ∀ n, c < (cs.take n).sum → ∃ t, t < n ∧ c ∈ cps cs t
  | 0, h => by simp at h
  | n + 1, h => by
    rw [take_sum_succ] at h
    by_cases q : c < (cs.take n).sum
    · obtain ⟨t, h1, h2⟩ := cover n q
      exact ⟨t, by omega, h2⟩
    · exact ⟨n, Nat.lt_succ_self n, mem_cps.mpr ⟨c - (cs.take n).sum, by omega, by omega⟩⟩
theorem cps_own {cs : List Nat} {c : Nat} (h : c < cs.sum) : c ∈ cps cs (own cs c) ∧ own cs c < cs.length := by
  have h' : c < (cs.take cs.length).sum := by rw [List.take_length]; exact h
  obtain ⟨t, h1, h2⟩ := cover cs.length h'
  rw [own_cps h2]
  exact ⟨h2, h1⟩
theorem take_sum_le (cs : List Nat) : ∀ n k, n ≤ k → (cs.take n).sum ≤ (cs.take k).sum
  | n, 0, h => by
    have : n = 0 := by omega
    subst this
    exact Nat.le_refl _
  | n, k + 1, h => by
    by_cases e : n = k + 1
    · subst e
      exact Nat.le_refl _
    · have := take_sum_le cs n k (by omega)
      rw [take_sum_succ]
      omega
theorem cps_lt {cs : List Nat} {t c : Nat} (h : c ∈ cps cs t) : c < cs.sum := by
  obtain ⟨j, hj, rfl⟩ := mem_cps.mp h
  have h1 := getD_pos_lt (cs := cs) (t := t) (by omega)
  have h2 := take_sum_le cs (t + 1) cs.length (by omega)
  rw [take_sum_succ, List.take_length] at h2
  omega
theorem S_split (f : Nat → Int) (a : Nat) : ∀ b, S (a + b) f = S a f + S b fun j => f (a + j)
  | 0 => by
    show S a f = S a f + 0
    omega
  | b + 1 => by
    show S (a + b) f + f (a + b) = S a f + (S b (fun j => f (a + j)) + f (a + b))
    rw [S_split f a b]
    omega
theorem own_sum (cs : List Nat) (t : Nat) : ∀ n, S (cs.take n).sum (fun i => if own cs i = t then 1 else 0) = if t < n then ((cs.getD t 0 : Nat) : Int) else 0
  | 0 => by
    rw [if_neg (Nat.not_lt_zero t)]
    simp [S]
  | n + 1 => by
    rw [take_sum_succ, S_split, own_sum cs t n]
    rw [S_congr (g := fun _ => if n = t then 1 else 0) fun j hj => by rw [own_at hj], S_const]
    by_cases e : n = t
    · subst e
      rw [if_neg (Nat.lt_irrefl n), if_pos rfl, if_pos (Nat.lt_succ_self n)]
      omega
    · rw [if_neg e]
      by_cases q : t < n
      · rw [if_pos q, if_pos (by omega)]
        omega
      · rw [if_neg q, if_neg (by omega)]
        omega
theorem flat_sgR (cs : List Nat) : ∀ ranks : List (List Nat), (sgR cs ranks).flatten = (ranks.flatten.map (cps cs)).flatten
  | [] => rfl
  | r :: rs => by
    have ih := flat_sgR cs rs
    unfold sgR at ih ⊢
    rw [List.map_cons, List.filter_cons, List.flatten_cons, List.map_append, List.flatten_append, ← ih]
    by_cases h : (!(sgRow cs r).isEmpty) = true
    · rw [if_pos h, List.flatten_cons]
      rfl
    · rw [if_neg h]
      have : sgRow cs r = [] := by
        cases e : sgRow cs r with
        | nil => rfl
        | cons a b =>
          rw [e] at h
          exact absurd rfl h
      have e2 : (r.map (cps cs)).flatten = [] := this
      rw [e2]
      rfl
theorem mem_sgR {cs : List Nat} {ranks : List (List Nat)} {c : Nat} : c ∈ (sgR cs ranks).flatten ↔ ∃ t, t ∈ ranks.flatten ∧ c ∈ cps cs t := by
  rw [flat_sgR, List.mem_flatten]
  constructor
  · rintro ⟨l, h1, h2⟩
    obtain ⟨t, h3, rfl⟩ := List.mem_map.mp h1
    exact ⟨t, h3, h2⟩
  · rintro ⟨t, h3, h2⟩
    exact ⟨cps cs t, List.mem_map.mpr ⟨t, h3, rfl⟩, h2⟩
theorem cps_nd (cs : List Nat) (t : Nat) : (cps cs t).Nodup := by
  unfold cps
  exact List.pairwise_map.mpr (List.nodup_range.imp fun h e => h (by omega))
theorem flat_nd (cs : List Nat) : ∀ l : List Nat, l.Nodup → (l.map (cps cs)).flatten.Nodup
  | [], _ => List.nodup_nil
  | t :: r, h => by
    obtain ⟨h1, h2⟩ := List.nodup_cons.mp h
    rw [List.map_cons, List.flatten_cons, List.nodup_append]
    refine ⟨cps_nd cs t, flat_nd cs r h2, fun a ha b hb e => h1 ?_⟩
    subst e
    obtain ⟨l, h3, h4⟩ := List.mem_flatten.mp hb
    obtain ⟨t', h5, rfl⟩ := List.mem_map.mp h3
    rw [← own_cps ha, own_cps h4]
    exact h5
theorem sgR_ok {n : Nat} {cs : List Nat} {ranks : List (List Nat)} (h : RkOk n ranks) : RkOk cs.sum (sgR cs ranks) := by
  refine ⟨?_, fun row hr => ?_, fun row hr c hc => ?_, ?_⟩
  · unfold sgR
    have := List.length_filter_le (fun row : List Nat => !row.isEmpty) (ranks.map (sgRow cs))
    rw [List.length_map] at this
    have := h.len
    omega
  · unfold sgR at hr
    intro e
    subst e
    have := (List.mem_filter.mp hr).2
    exact absurd this (by decide)
  · obtain ⟨t, _, h2⟩ := mem_sgR.mp (List.mem_flatten.mpr ⟨row, hr, hc⟩)
    exact cps_lt h2
  · rw [flat_sgR]
    exact flat_nd cs _ h.nd
theorem sgl_n (w : Wi) : (sgl w).c.length = w.c.sum := List.length_replicate
theorem sgl_m (w : Wi) : (sgl w).l.length = w.l.length := List.length_map ..
theorem sgl_c {w : Wi} {c : Nat} (h : c < w.c.sum) : (sgl w).c.getD c 0 = 1 := by
  show (List.replicate w.c.sum 1).getD c 0 = 1
  rw [List.getD_eq_getElem?_getD, List.getElem?_replicate, if_pos h]
  rfl
theorem sgl_l (w : Wi) (a : Nat) : (sgl w).l.getD a [] = sgR w.c (w.l.getD a []) := by
  show (w.l.map (sgR w.c)).getD a [] = _
  rw [List.getD_eq_getElem?_getD, List.getD_eq_getElem?_getD, List.getElem?_map]
  cases w.l[a]? <;> rfl
theorem sgl_ok {w : Wi} (ok : w.Sg) : (sgl w).Ok := by
  refine ⟨by rw [sgl_n]; exact ok.s1, by rw [sgl_n]; exact ok.s6, fun x hx => ?_, by rw [sgl_m]; exact ok.l1, by rw [sgl_m]; exact ok.l7, fun r hr => ?_⟩
  · have := List.eq_of_mem_replicate hx
    omega
  · obtain ⟨r', h1, rfl⟩ := List.mem_map.mp hr
    rw [sgl_n]
    exact sgR_ok (ok.rk r' h1)
/-- each rank has a thing with copies -/
def Whole (w : Wi) : Prop := ∀ r ∈ w.l, ∀ row ∈ r, ∃ t ∈ row, 0 < w.c.getD t 0
theorem mem_sgRow {cs : List Nat} {row : List Nat} {c : Nat} (h : c < cs.sum) : c ∈ sgRow cs row ↔ own cs c ∈ row := by
  unfold sgRow
  rw [List.mem_flatten]
  constructor
  · rintro ⟨l, h1, h2⟩
    obtain ⟨t, h3, rfl⟩ := List.mem_map.mp h1
    rw [own_cps h2]
    exact h3
  · intro h2
    exact ⟨_, List.mem_map.mpr ⟨_, h2, rfl⟩, (cps_own h).1⟩
theorem sgR_whole {cs : List Nat} : ∀ {ranks : List (List Nat)}, (∀ row ∈ ranks, ∃ t ∈ row, 0 < cs.getD t 0) → sgR cs ranks = ranks.map (sgRow cs)
  | ranks, h => by
    unfold sgR
    refine List.filter_eq_self.mpr fun row hr => ?_
    obtain ⟨row', h1, rfl⟩ := List.mem_map.mp hr
    obtain ⟨t, ht, hc⟩ := h row' h1
    have : (cs.take t).sum + 0 ∈ sgRow cs row' := by
      unfold sgRow
      exact List.mem_flatten.mpr ⟨_, List.mem_map.mpr ⟨t, ht, rfl⟩, mem_cps.mpr ⟨0, hc, rfl⟩⟩
    cases e : sgRow cs row' with
    | nil =>
      rw [e] at this
      cases this
    | cons a b => rfl
theorem rkI_sg {cs : List Nat} {c : Nat} (h : c < cs.sum) : ∀ ranks : List (List Nat), rkI (ranks.map (sgRow cs)) c = rkI ranks (own cs c)
  | [] => rfl
  | r :: rs => by
    have ih := rkI_sg h rs
    rw [List.map_cons]
    unfold rkI
    rw [ih]
    by_cases q : own cs c ∈ r
    · rw [if_pos q, if_pos ((mem_sgRow h).mpr q)]
    · rw [if_neg q, if_neg fun z => q ((mem_sgRow h).mp z)]
theorem whole_at {w : Wi} (hw : Whole w) (a : Nat) : ∀ row ∈ w.l.getD a [], ∃ t ∈ row, 0 < w.c.getD t 0 := fun row hr => by
  by_cases ha : a < w.l.length
  · have e : w.l.getD a [] = w.l[a] := by rw [List.getD_eq_getElem?_getD, List.getElem?_eq_getElem ha]; rfl
    rw [e] at hr
    exact hw _ (List.getElem_mem ha) row hr
  · have e : w.l.getD a [] = [] := by rw [List.getD_eq_getElem?_getD, List.getElem?_eq_none (by omega)]; rfl
    rw [e] at hr
    cases hr
theorem wlong_sg {w : Wi} (hw : Whole w) : wlong (sgl w) = wlong w := by
  unfold wlong
  show maxL ((w.l.map (sgR w.c)).map List.length) = _
  rw [List.map_map]
  congr 1
  refine List.map_congr_left fun r hr => ?_
  show (sgR w.c r).length = r.length
  rw [sgR_whole (hw r hr), List.length_map]
theorem rk_sg {w : Wi} (hw : Whole w) {a c : Nat} (h : c < w.c.sum) : rkI ((sgl w).l.getD a []) c = rkI (w.l.getD a []) (own w.c c) := by
  rw [sgl_l, sgR_whole (whole_at hw a), rkI_sg h]
theorem rw_sg {w : Wi} (hw : Whole w) (o i : Nat) : rw_ (sgl w) o i = rw_ w o i := by
  unfold rw_
  have e : bI (sgl w) = bI w := by
    show ((((sgl w).l.length + 1 : Nat)) : Int) = ((w.l.length + 1 : Nat) : Int)
    rw [sgl_m]
  rw [e, wlong_sg hw]
theorem wt_sg {w : Wi} (hw : Whole w) {o a c : Nat} (h : c < w.c.sum) : wt (sgl w) o a c = wt w o a (own w.c c) := by
  unfold wt
  rw [rk_sg hw h, rw_sg hw]
theorem sgl_sgl {w : Wi} (ok : w.Sg) (hw : Whole w) (o : Nat) : Sgl (insW w o ok.toOk) (insW (sgl w) o (sgl_ok ok)) (own w.c) := by
  refine ⟨sgl_m w, fun i hi => ?_, fun i hi => ?_, fun a i hi => ?_, fun t ht => ?_⟩
  · have hi : i < (sgl w).c.length := hi
    rw [sgl_n] at hi
    show (((sgl w).c.getD i 0 : Nat) : Int) = 1
    rw [sgl_c hi]
    rfl
  · have hi : i < (sgl w).c.length := hi
    rw [sgl_n] at hi
    exact (cps_own hi).2
  · have hi : i < (sgl w).c.length := hi
    rw [sgl_n] at hi
    exact wt_sg hw hi
  · have ht : t < w.c.length := ht
    show ((w.c.getD t 0 : Nat) : Int) = S (sgl w).c.length _
    rw [sgl_n]
    have := own_sum w.c t w.c.length
    rw [List.take_length, if_pos ht] at this
    exact this.symm
/-! ### dealings -/
theorem deal_of {w : Wi} {o : Nat} (ok : w.Ok) {d : List (Option Nat)} (h : Deal (insW w o ok) (dD d)) (hl : d.length = w.l.length) : DealL w d := by
  refine ⟨hl, fun i t r e1 e2 => ?_, fun t ht => ?_⟩
  · obtain ⟨x, hx⟩ := h.wi i t (show i < w.l.length by rw [← hl]; exact lt_of_get e1) (dD_get e1)
    have := (wt_some hx).1
    have el : w.l.getD i [] = r := by rw [List.getD_eq_getElem?_getD, e2]; rfl
    rw [el] at this
    exact this
  · have h1 : cnt w.l.length (dD d) t ≤ ((w.c.getD t 0 : Nat) : Int) := h.co t ht
    rw [cnt_dD hl] at h1
    omega
theorem to_deal {w : Wi} {o : Nat} (ok : w.Ok) {d : List (Option Nat)} (h : DealL w d) : Deal (insW w o ok) (dD d) := by
  refine ⟨fun a t ha e => ?_, fun t ht => ?_⟩
  · have ha : a < w.l.length := ha
    have hd := get_dD (d := d) (a := a) (by rw [h.len]; exact ha)
    rw [e] at hd
    have h1 := h.wi a t _ hd (List.getElem?_eq_getElem ha)
    have el : w.l.getD a [] = w.l[a] := by rw [List.getD_eq_getElem?_getD, List.getElem?_eq_getElem ha]; rfl
    show ∃ x, wt w o a t = some x
    unfold wt
    rw [el, if_neg h1]
    exact ⟨_, rfl⟩
  · show cnt w.l.length (dD d) t ≤ ((w.c.getD t 0 : Nat) : Int)
    rw [cnt_dD h.len]
    have := h.co t ht
    omega
theorem valL_val {w : Wi} {o : Nat} (ok : w.Ok) {d : List (Option Nat)} (hl : d.length = w.l.length) : valL w o d d.length = val (insW w o ok) (dD d) := by
  rw [hl]
  unfold valL val
  refine S_congr fun a _ => ?_
  show wv w o a (dD d a) = wOf _ a (dD d a)
  cases dD d a <;> rfl
theorem count_one {l : List (Option Nat)} {x : Option Nat} (h : ∀ i j : Nat, l[i]? = some x → l[j]? = some x → i = j) : l.count x ≤ 1 := by
  induction l with
  | nil => exact Nat.zero_le _
  | cons a r ih =>
    rw [List.count_cons]
    by_cases e : a = x
    · subst e
      have : r.count a = 0 := List.count_eq_zero.mpr fun m => by
        obtain ⟨j, hj, ej⟩ := List.mem_iff_getElem.mp m
        have := h 0 (j + 1) rfl (by rw [List.getElem?_cons_succ, List.getElem?_eq_getElem hj, ej])
        omega
      rw [this]
      simp
    · have := ih fun i j h1 h2 => by
        have := h (i + 1) (j + 1) (by rw [List.getElem?_cons_succ]; exact h1) (by rw [List.getElem?_cons_succ]; exact h2)
        omega
      simp [e]
      exact this
theorem sglD_get {cs : List Nat} {d : List (Option Nat)} {i : Nat} (h : i < d.length) : (sglD cs d)[i]? = some (sgAt cs d i) := by
  unfold sglD
  rw [List.getElem?_map, List.getElem?_range h]
  rfl
theorem sglD_len (cs : List Nat) (d : List (Option Nat)) : (sglD cs d).length = d.length := by
  unfold sglD
  rw [List.length_map, List.length_range]
theorem sgAt_some {w : Wi} {d : List (Option Nat)} (h : DealL w d) (ok : w.Ok) {i c : Nat} (hi : i < d.length) (e : sgAt w.c d i = some c) : ∃ t, d[i]? = some (some t) ∧ c ∈ cps w.c t ∧ c = (w.c.take t).sum + (d.take i).count (some t) := by
  have hd := List.getElem?_eq_getElem hi
  have ed : d.getD i Option.none = d[i] := by rw [List.getD_eq_getElem?_getD, hd]; rfl
  unfold sgAt at e
  rw [ed] at e
  cases ex : d[i] with
  | none =>
    rw [ex] at e
    cases e
  | some t =>
    rw [ex] at e hd
    have e : (w.c.take t).sum + (d.take i).count (some t) = c := Option.some.inj e
    refine ⟨t, hd, mem_cps.mpr ⟨_, ?_, e.symm⟩, e.symm⟩
    have hiw : i < w.l.length := by rw [← h.len]; exact hi
    have h0 := h.wi i t _ hd (List.getElem?_eq_getElem hiw)
    obtain ⟨row, h1, h2⟩ := List.mem_flatten.mp (rkI_mem.mp h0)
    have ht := (ok.rk _ (List.getElem_mem hiw)).lt row h1 t h2
    have h3 := h.co t ht
    have h4 : (d.take (i + 1)).count (some t) ≤ d.count (some t) := List.Sublist.count_le _ (List.take_sublist _ _)
    rw [take_snoc hd, List.count_append] at h4
    have h5 : [some t].count (some t) = 1 := by simp
    omega
theorem sglD_deal {w : Wi} (ok : w.Sg) {d : List (Option Nat)} (h : DealL w d) : DealL (sgl w) (sglD w.c d) := by
  refine ⟨by rw [sglD_len, sgl_m]; exact h.len, fun i c r e1 e2 => ?_, fun c hc => ?_⟩
  · have hi : i < d.length := by rw [← sglD_len w.c]; exact lt_of_get e1
    rw [sglD_get hi] at e1
    obtain ⟨t, h1, h2, _⟩ := sgAt_some h ok.toOk hi (Option.some.inj e1)
    have hiw : i < w.l.length := by rw [← h.len]; exact hi
    have h0 := h.wi i t _ h1 (List.getElem?_eq_getElem hiw)
    have er : r = sgR w.c w.l[i] := by
      have : (w.l.map (sgR w.c))[i]? = some r := e2
      rw [List.getElem?_map, List.getElem?_eq_getElem hiw] at this
      exact (Option.some.inj this).symm
    rw [er]
    exact rkI_mem.mpr (mem_sgR.mpr ⟨t, rkI_mem.mp h0, h2⟩)
  · rw [sgl_n] at hc
    rw [sgl_c hc]
    refine count_one fun i j e1 e2 => ?_
    have hi : i < d.length := by rw [← sglD_len w.c]; exact lt_of_get e1
    have hj : j < d.length := by rw [← sglD_len w.c]; exact lt_of_get e2
    rw [sglD_get hi] at e1
    rw [sglD_get hj] at e2
    obtain ⟨t, h1, h2, h3⟩ := sgAt_some h ok.toOk hi (Option.some.inj e1)
    obtain ⟨t', h1', h2', h3'⟩ := sgAt_some h ok.toOk hj (Option.some.inj e2)
    have et : t = t' := by rw [← own_cps h2, own_cps h2']
    subst et
    have key : ∀ {i j : Nat}, i < j → d[i]? = some (some t) → (d.take i).count (some t) < (d.take j).count (some t) := fun {i j} hij e => by
      have h4 : (d.take (i + 1)).count (some t) ≤ (d.take j).count (some t) := by
        have : d.take (i + 1) = (d.take j).take (i + 1) := by rw [List.take_take, Nat.min_eq_left (by omega)]
        rw [this]
        exact List.Sublist.count_le _ (List.take_sublist _ _)
      rw [take_snoc e, List.count_append] at h4
      have h5 : [some t].count (some t) = 1 := by simp
      omega
    rcases Nat.lt_trichotomy i j with q | q | q
    · have := key q h1
      omega
    · exact q
    · have := key q h1'
      omega
theorem sglD_back {w : Wi} (ok : w.Ok) {d : List (Option Nat)} (h : DealL w d) (a : Nat) : dD d a = backD (own w.c) (dD (sglD w.c d)) a := by
  unfold backD
  by_cases ha : a < d.length
  · rw [dD_get (sglD_get (cs := w.c) ha)]
    cases e : sgAt w.c d a with
    | none =>
      unfold sgAt at e
      show d.getD a Option.none = Option.none
      cases e2 : d.getD a Option.none with
      | none => rfl
      | some t =>
        rw [e2] at e
        cases e
    | some c =>
      obtain ⟨t, h1, h2, _⟩ := sgAt_some h ok ha e
      rw [dD_get h1]
      show some t = some (own w.c c)
      rw [own_cps h2]
  · have h1 : dD d a = Option.none := by
      unfold dD
      rw [List.getD_eq_getElem?_getD, List.getElem?_eq_none (by omega)]
      rfl
    have h2 : dD (sglD w.c d) a = Option.none := by
      unfold dD
      rw [List.getD_eq_getElem?_getD, List.getElem?_eq_none (by rw [sglD_len]; omega)]
      rfl
    rw [h1, h2]
    rfl
theorem backL_D (cs : List Nat) (e : List (Option Nat)) : dD (backL cs e) = backD (own cs) (dD e) := funext fun a => by
  show (e.map fun o => o.map fun c => (ownL cs).getD c 0).getD a Option.none = (e.getD a Option.none).map fun c => (ownL cs).getD c 0
  rw [List.getD_eq_getElem?_getD, List.getD_eq_getElem?_getD, List.getElem?_map]
  cases e[a]? <;> rfl
/-! ### counts -/
/-- the rank of what an asker gets, 0 where it gets nothing -/
def rkD (w : Wi) (d : List (Option Nat)) (a : Nat) : Nat := match dD d a with
  | some t => rkI (w.l.getD a []) t
  | Option.none => 0
theorem rkD_le {w : Wi} {d : List (Option Nat)} (a : Nat) : rkD w d a ≤ wlong w := by
  unfold rkD
  cases dD d a with
  | none => exact Nat.zero_le _
  | some t =>
    show rkI (w.l.getD a []) t ≤ wlong w
    by_cases ha : a < w.l.length
    · have e : w.l.getD a [] = w.l[a] := by rw [List.getD_eq_getElem?_getD, List.getElem?_eq_getElem ha]; rfl
      rw [e]
      exact rkI_long (List.getElem_mem ha) t
    · have e : w.l.getD a [] = [] := by rw [List.getD_eq_getElem?_getD, List.getElem?_eq_none (by omega)]; rfl
      rw [e]
      exact Nat.zero_le _
theorem wv_rk (w : Wi) (o : Nat) (d : List (Option Nat)) (a : Nat) : wv w o a (dD d a) = if rkD w d a = 0 then 0 else rw_ w o (rkD w d a) := by
  unfold rkD
  cases dD d a with
  | none => rfl
  | some t =>
    show (wt w o a t).getD 0 = if rkI (w.l.getD a []) t = 0 then 0 else rw_ w o (rkI (w.l.getD a []) t)
    unfold wt
    by_cases h : rkI (w.l.getD a []) t = 0
    · rw [if_pos h, if_pos h]
      rfl
    · rw [if_neg h, if_neg h]
      rfl
theorem slot_rk {w : Wi} {d : List (Option Nat)} (h : DealL w d) {a : Nat} (ha : a < w.l.length) : slot w d a = if rkD w d a = 0 then wlong w else rkD w d a - 1 := by
  have hd := get_dD (d := d) (a := a) (by rw [h.len]; exact ha)
  unfold slot rkD
  show (match dD d a with
    | some t => rkI (w.l.getD a []) t - 1
    | Option.none => wlong w) = _
  cases e : dD d a with
  | none => rfl
  | some t =>
    rw [e] at hd
    have h0 := h.wi a t _ hd (List.getElem?_eq_getElem ha)
    have el : w.l.getD a [] = w.l[a] := by rw [List.getD_eq_getElem?_getD, List.getElem?_eq_getElem ha]; rfl
    show rkI (w.l.getD a []) t - 1 = if rkI (w.l.getD a []) t = 0 then wlong w else rkI (w.l.getD a []) t - 1
    rw [el, if_neg h0]
theorem cntL_rk {w : Wi} {d : List (Option Nat)} (h : DealL w d) : cntL w d d.length = (List.range (wlong w + 1)).map fun i => rkN w.l.length (rkD w d) (if i = wlong w then 0 else i + 1) := by
  unfold cntL
  refine List.map_congr_left fun i hi => ?_
  have hi := List.mem_range.mp hi
  rw [h.len]
  unfold rkN
  refine S_congr fun a ha => ?_
  rw [slot_rk h ha]
  have hle := rkD_le (w := w) (d := d) a
  by_cases q : rkD w d a = 0
  · rw [if_pos q, q]
    by_cases e : i = wlong w
    · rw [if_pos e, if_pos e.symm, if_pos rfl]
    · rw [if_neg e, if_neg fun z => e z.symm, if_neg (by omega)]
  · rw [if_neg q]
    by_cases e : i = wlong w
    · rw [if_pos e, if_neg (by omega), if_neg q]
    · rw [if_neg e]
      by_cases e2 : rkD w d a - 1 = i
      · rw [if_pos e2, if_pos (by omega)]
      · rw [if_neg e2, if_neg (by omega)]
/-- dealings worth the same have the same counts -/
theorem cnt_same {w : Wi} (hw : Whole w) {o : Nat} {d e : List (Option Nat)} (hd : DealL w d) (he : DealL (sgl w) e) (hv : valL w o d d.length = valL (sgl w) o e e.length) : cntL w d d.length = cntL (sgl w) e e.length := by
  rw [cntL_rk hd, cntL_rk he, wlong_sg hw, sgl_m]
  have key := counts_same (o := o) (m := w.l.length) (R := wlong w) (r := rkD w d) (s := rkD (sgl w) e) (fun a _ => rkD_le a) (fun a _ => by rw [← wlong_sg hw]; exact rkD_le a) (by
    have e1 : valL w o d d.length = S w.l.length fun a => if rkD w d a = 0 then 0 else byO o ((w.l.length + 1 : Nat) : Int) (wlong w) (rkD w d a) * ((w.l.length + 1 : Nat) : Int) := by
      rw [hd.len]
      exact S_congr fun a _ => wv_rk w o d a
    have e2 : valL (sgl w) o e e.length = S w.l.length fun a => if rkD (sgl w) e a = 0 then 0 else byO o ((w.l.length + 1 : Nat) : Int) (wlong w) (rkD (sgl w) e a) * ((w.l.length + 1 : Nat) : Int) := by
      rw [he.len, sgl_m]
      refine S_congr fun a _ => ?_
      have h1 := wv_rk (sgl w) o e a
      have h2 : ∀ i, rw_ (sgl w) o i = byO o ((w.l.length + 1 : Nat) : Int) (wlong w) i * ((w.l.length + 1 : Nat) : Int) := fun i => rw_sg hw o i
      rw [h2] at h1
      exact h1
    rw [← e1, ← e2]
    exact hv)
  refine List.map_congr_left fun i hi => ?_
  have hi := List.mem_range.mp hi
  refine key _ ?_
  split <;> omega
end Wd
namespace Wd
open PySem PySem.Spec PyProof.Rows L2
theorem sqL_mono {K : PySem.W.Frag} {H H' : Hp} {a : Addr} {xs : List V} (s : Same H H') (h : SqL K H a xs) : SqL K H' a xs := h.imp (same_rd s) id
def spCell (K : PySem.W.Frag) : Sp := fun vs H Q _ => ∃ (s : Addr) (ns : List Int) (k : Nat), vs = [.ref s, nV k] ∧ SqL K H s (ns.map V.int) ∧ ∀ i : Int, Q (.int i) H
def spNum : Sp := fun vs H Q _ => ∃ (c salt : Int) (z : Addr) (ss : List Nat), vs = [.int c, .int salt, .ref z] ∧ H z = some (.lst (ss.map nV)) ∧ ss.length ≤ 1000 ∧ (∀ s ∈ ss, 1 ≤ s ∧ s ≤ 1000) ∧
  ∀ (H' : Hp) (p : Addr) (ds : List Nat), H p = Option.none → Same H H' → H' p = some (.lst (ds.map nV)) → ds.length = ss.length → (∀ k, k < ss.length → ds.getD k 0 < ss.getD k 0) → Q (.ref p) H'
section
variable {P : Program} {w : World} {K : PySem.W.Frag} {mg : Str → Option Value} {base : Heap}
abbrev N_law_cell_at : List Str := ["_law_script", "_law_k"]
theorem sc_law_cell_at : FnScope N_law_cell_at ["_law_script", "_law_k"] (defScope s_law_cell_at) := ⟨rfl, rfl, rfl, by decide +kernel, rfl, by decide +kernel, by decide +kernel⟩
theorem ok_law_cell_at {f : Addr} {fd : FuncData} (F : FnP K "_law_cell_at" "_law_cell_at" s_law_cell_at f fd) (T : Txt K mg)  : FnOk P w K mg base CX0 1 f fd ["_law_script", "_law_k"] (spCell K) := by
  refine F.ok sc_law_cell_at (fun vs H Q E h => ?_) (fun cdv A outer s H vs Q E hr h => ?_)
  · obtain ⟨s, ns, k, rfl, _⟩ := h
    rfl
  · have hu := hu_of hr
    have nd := sc_law_cell_at.nd
    refine ⟨_, PSs.nox (pss_cons (ps_if (pt_cmpR op_lt (pv 1) (pe_callB call_len_seq (by rfl) T.len (by decide +kernel) (pa_cons (pv 0) pa_nil)) (nomark _))
      (pss_one (ps_ret (pe_ix ix_list (pv 0) (pv 1) (fun _ _ => rfl))))
      pss_nil)
    (pss_one (ps_ret pe_int))), ?_⟩
    obtain ⟨s, ns, k, rfl, hS, q⟩ := h
    refine ⟨_, rfl, _, rfl, s, _, rfl, .inl hS, _, _, rfl, rfl, _, rfl, if2 (fun h => ?_) fun h => q 0⟩
    have hk := of_decide_eq_true h
    rw [List.length_map] at hk
    have hk : k < ns.length := by omega
    exact ⟨_, rfl, _, rfl, s, _, (k : Int), _, rfl, rfl, hS, at_nat V.int (List.getElem?_eq_getElem hk), q _⟩
abbrev N_law_numbers : List Str := ["_law_cell", "_law_salt", "_law_sizes", "_law_number", "_law_left", "_law_found", "_law_k", "_law_one"]
theorem sc_law_numbers : FnScope N_law_numbers ["_law_cell", "_law_salt", "_law_sizes"] (defScope s_law_numbers) := ⟨rfl, rfl, rfl, by decide +kernel, rfl, by decide +kernel, by decide +kernel⟩
theorem ok_law_numbers {f : Addr} {fd : FuncData} (F : FnP K "_law_numbers" "_law_numbers" s_law_numbers f fd) (T : Txt K mg)  : FnOk P w K mg base CX0 1 f fd ["_law_cell", "_law_salt", "_law_sizes"] (spNum) := by
  refine F.ok sc_law_numbers (fun vs H Q E h => ?_) (fun cdv A outer s H vs Q E hr h => ?_)
  · obtain ⟨c, salt, z, ss, rfl, _⟩ := h
    rfl
  · have hu := hu_of hr
    have nd := sc_law_numbers.nd
    refine ⟨_, PSs.nox (pss_cons (ps_set (i := 3) nd rfl (Or.inl rfl) (pe_callB (call_max2 rfl) (by rfl) T.max (by decide +kernel) (pa_cons (pv 0) (pa_cons (pe_op op_sub (pe_un un_neg pe_int) (pv 0)) pa_nil))))
    (pss_cons (ps_set (i := 4) nd rfl (Or.inl rfl) (pv 3))
    (pss_cons (ps_set (i := 5) nd rfl (Or.inl rfl) (pe_lst pa_nil))
    (pss_cons (ps_for PassesOwn.never rfl (pi_range1 rfl T.range (pa_cons (pe_callB call_len_seq (by rfl) T.len (by decide +kernel) (pa_cons (pv 2) pa_nil)) pa_nil)) (pg_name (i := 6) nd rfl (Or.inl rfl))
      (pss_one (ps_if (PW.pt (pw_and (pt_cmpR op_ge (pv 3) (pe_op op_pow pe_int pe_int) (nomark _)) (pw_and1 (pt_cmpR op_gt (pv 4) pe_int (nomark _)))))
        (pss_cons (ps_expr (pe_bm PySem.F.plainAttrs_list PySem.F.slot_list_append PySem.F.type_list_append mt_append (pv 5) (pa_cons (pe_op op_mod (pv 4) (pe_ix ix_list (pv 2) (pv 6) (fun _ _ => rfl))) pa_nil)))
        (pss_one (ps_set (i := 4) nd rfl (Or.inl rfl) (pe_op op_fdiv (pv 4) (pe_ix ix_list (pv 2) (pv 6) (fun _ _ => rfl))))))
        (pss_cons (ps_set (i := 7) nd rfl (Or.inl rfl) (pe_op op_mod (pe_op op_add (pe_op op_add (pe_op op_add (pv 3) (pe_op op_mul pe_int (pv 1))) (pe_op op_mul (pe_op op_mul pe_int (pv 6)) (pv 6))) (pv 6)) pe_int))
        (pss_cons (ps_set (i := 7) nd rfl (Or.inl rfl) (pe_op op_mod (pe_op op_mul (pv 7) pe_int) pe_int))
        (pss_cons (ps_set (i := 7) nd rfl (Or.inl rfl) (pe_op op_mod (pe_op op_mul (pe_op op_mod (pe_op op_mul (pv 7) (pv 7)) pe_int) pe_int) pe_int))
        (pss_one (ps_expr (pe_bm PySem.F.plainAttrs_list PySem.F.slot_list_append PySem.F.type_list_append mt_append (pv 5) (pa_cons (pe_op op_mod (pe_op op_fdiv (pv 7) pe_int) (pe_ix ix_list (pv 2) (pv 6) (fun _ _ => rfl))) pa_nil))))))))))
    (pss_one (ps_ret (pv 5))))))), ?_⟩
    obtain ⟨c, salt, z, ss, rfl, hZ, hl, hs, q⟩ := h
    refine ⟨_, rfl, _, rfl, _, rfl, _, _, rfl, rfl, _, _, rfl, ?_⟩
    generalize (if -1 - c > c then -1 - c else c) = N
    refine ⟨_, rfl, Nat.zero_le _, fun p hp => ?_⟩
    have s1 : Same H (upd H p (.lst [])) := same_new hp
    refine ⟨_, rfl, z, _, rfl, .inl (SqL.of (s1 _ _ hZ)), ((ss.map nV).length : Int), rfl, ?_⟩
    rw [List.length_map]
    refine ⟨by omega, by omega, for_range (n := ss.length) (fun k σ H' => ∃ lf v6 v7 ds, σ = [some (.int c), some (.int salt), some (.ref z), some (.int N), some (.int lf), some (.ref p), v6, v7] ∧ Same H H' ∧ H' p = some (.lst (ds.map nV)) ∧ ds.length = k ∧ ∀ j, j < k → ds.getD j 0 < ss.getD j 0)
      ⟨N, _, _, [], rfl, s1, upd_same, rfl, fun j h => absurd h (Nat.not_lt_zero _)⟩ ?_ ?_⟩
    · rintro k σ H' hk ⟨lf, v6, v7, ds, rfl, sm, hP, hdl, hall⟩
      rw [Int.zero_add]
      have hsk := List.getElem?_eq_getElem hk
      obtain ⟨hs1, hs2⟩ := hs _ (List.getElem_mem hk)
      have egd : ss.getD k 0 = ss[k] := by rw [List.getD_eq_getElem?_getD, hsk]; rfl
      generalize ss[k] = sz at hsk hs1 hs2 egd
      have fin : ∀ (x : Int), ∃ n : Nat, V.int (x % (sz : Int)) = nV n ∧ (ds ++ [n]).length = k + 1 ∧ ∀ j, j < k + 1 → (ds ++ [n]).getD j 0 < ss.getD j 0 := fun x => by
        have h0 := Int.emod_nonneg x (show (sz : Int) ≠ 0 by omega)
        have h1 := Int.emod_lt_of_pos x (show (0 : Int) < sz by omega)
        refine ⟨(x % (sz : Int)).toNat, ?_, by rw [List.length_append, hdl]; rfl, fun j hj => ?_⟩
        · show _ = V.int (((x % (sz : Int)).toNat : Nat) : Int)
          congr 1
          omega
        · by_cases e : j = k
          · subst e
            rw [egd, List.getD_eq_getElem?_getD, List.getElem?_append_right (by omega), hdl, Nat.sub_self]
            show (x % (sz : Int)).toNat < sz
            omega
          · rw [List.getD_eq_getElem?_getD, List.getElem?_append_left (by omega), ← List.getD_eq_getElem?_getD]
            exact hall j (by omega)
      have hZ' := sm _ _ hZ
      unfold tIfS
      refine and_split (decide ((10 : Int) ^ (18 : Int).toNat ≤ N) && decide (0 < lf)) (fun Q' k' => ?_) ?_
      · refine ⟨_, rfl, _, _, rfl, rfl, ⟨by decide, by decide, by decide⟩, _, _, rfl, rfl, _, rfl, ?_⟩
        cases h1 : decide ((10 : Int) ^ (18 : Int).toNat ≤ N) with
        | false =>
          rw [h1] at k'
          exact ifF rfl k'
        | true =>
          rw [h1] at k'
          exact ifT rfl ⟨_, rfl, _, _, rfl, rfl, _, rfl, k'⟩
      refine if2 (fun _ => ?_) fun _ => ?_
      · obtain ⟨n, en, hn1, hn2⟩ := fin lf
        refine ⟨_, rfl, .inl ⟨rfl, _, SqL.of hP⟩, _, rfl, _, rfl, _, rfl, z, _, (k : Int), _, rfl, rfl, SqL.of hZ', at_nat nV hsk, _, _, rfl, rfl, by omega, p, _, _, rfl, rfl, hP, ?_, ?_⟩
        · rw [List.length_map]
          exact sl100 (by omega)
        have s2 : Same H (upd H' p (.lst (ds.map nV ++ [V.int (lf % (sz : Int))]))) := same_mut sm hp
        have hP2 : upd H' p (.lst (ds.map nV ++ [V.int (lf % (sz : Int))])) p = some (.lst ((ds ++ [n]).map nV)) := by
          rw [upd_same, List.map_append, en]
          rfl
        generalize upd H' p (.lst (ds.map nV ++ [V.int (lf % (sz : Int))])) = H2 at s2 hP2
        exact ⟨_, rfl, _, rfl, _, rfl, z, _, (k : Int), _, rfl, rfl, SqL.of (s2 _ _ hZ), at_nat nV hsk, _, _, rfl, rfl, ⟨by omega, by omega⟩, _, _, _, ds ++ [n], rfl, s2, hP2, hn1, hn2⟩
      · refine ⟨_, rfl, _, rfl, _, _, rfl, rfl, .inl ⟨by decide, by decide⟩, _, _, rfl, rfl, _, rfl, _, _, rfl, rfl, .inl ⟨by decide, by decide⟩, _, rfl, _, _, rfl, rfl, .inr ⟨by omega, by omega⟩, _, _, rfl, rfl, _, rfl, _, _, rfl, rfl, _, _, rfl, rfl, by show (0 : Int) < 2147483647; decide, ?_⟩
        refine ⟨_, rfl, _, _, rfl, rfl, .inr ⟨by decide, by decide⟩, _, _, rfl, rfl, by show (0 : Int) < 2147483647; decide, ?_⟩
        refine ⟨_, rfl, _, rfl, _, _, rfl, rfl, .inl ⟨by omega, by omega⟩, _, _, rfl, rfl, by show (0 : Int) < 2147483629; decide, _, _, rfl, rfl, .inr ⟨by decide, by decide⟩, _, _, rfl, rfl, by show (0 : Int) < 2147483647; decide, ?_⟩
        obtain ⟨n, en, hn1, hn2⟩ := fin (((((N + 7919 * salt + 101 * (k : Int) * (k : Int) + (k : Int)) % 2147483647) * 48271 % 2147483647) * (((N + 7919 * salt + 101 * (k : Int) * (k : Int) + (k : Int)) % 2147483647) * 48271 % 2147483647) % 2147483629 * 48271 % 2147483647) / 16)
        refine ⟨_, rfl, .inl ⟨rfl, _, SqL.of hP⟩, _, rfl, _, _, rfl, rfl, ⟨by decide, by decide⟩, _, rfl, _, rfl, z, _, (k : Int), _, rfl, rfl, SqL.of hZ', at_nat nV hsk, _, _, rfl, rfl, by omega, p, _, _, rfl, rfl, hP, ?_, ?_⟩
        · rw [List.length_map]
          exact sl100 (by omega)
        · refine ⟨_, _, _, ds ++ [n], rfl, same_mut sm hp, ?_, hn1, hn2⟩
          rw [upd_same, List.map_append]
          show some (HO.lst (ds.map nV ++ [V.int (((((N + 7919 * salt + 101 * (k : Int) * (k : Int) + (k : Int)) % 2147483647) * 48271 % 2147483647) * (((N + 7919 * salt + 101 * (k : Int) * (k : Int) + (k : Int)) % 2147483647) * 48271 % 2147483647) % 2147483629 * 48271 % 2147483647) / 16 % (sz : Int))])) = _
          rw [en]
          rfl
    · rintro σ H' ⟨lf, v6, v7, ds, rfl, sm, hP, hdl, hall⟩
      exact ⟨_, rfl, q H' p ds hp sm hP hdl hall⟩
end
end Wd
namespace Wd
open PySem PySem.Spec PyProof.Rows L2
def tabl : List Nat := [1, 1, 2, 0, 3, 7, 1, 4, 5, 6, 1]
theorem tabl_le : ∀ x ∈ tabl, x ≤ 7 := by decide
/-- rows of an asker, by places up to r -/
structure RowsOk (n : Nat) (pl : List Nat) (r : Nat) (rows : List (List Nat)) : Prop where
  len : rows.length ≤ r
  ne : ∀ row ∈ rows, row ≠ []
  lt : ∀ row ∈ rows, ∀ t ∈ row, t < n ∧ pl.getD t 0 ≤ r
  nd : rows.flatten.Nodup
theorem RowsOk.skip {n r : Nat} {pl : List Nat} {rows : List (List Nat)} (h : RowsOk n pl r rows) : RowsOk n pl (r + 1) rows := ⟨Nat.le_succ_of_le h.len, h.ne, fun row hr t ht => ⟨(h.lt row hr t ht).1, Nat.le_succ_of_le (h.lt row hr t ht).2⟩, h.nd⟩
theorem RowsOk.add {n r : Nat} {pl : List Nat} {rows : List (List Nat)} {row : List Nat} (h : RowsOk n pl r rows) (h1 : row ≠ []) (h2 : ∀ t ∈ row, t < n ∧ pl.getD t 0 = r + 1) (h3 : row.Nodup) : RowsOk n pl (r + 1) (rows ++ [row]) := by
  refine ⟨by rw [List.length_append]; exact Nat.succ_le_succ h.len, fun x hx => ?_, fun x hx t ht => ?_, ?_⟩
  · rcases List.mem_append.mp hx with m | m
    · exact h.ne x m
    · rw [List.mem_singleton] at m
      rw [m]
      exact h1
  · rcases List.mem_append.mp hx with m | m
    · exact ⟨(h.lt x m t ht).1, Nat.le_succ_of_le (h.lt x m t ht).2⟩
    · rw [List.mem_singleton] at m
      rw [m] at ht
      exact ⟨(h2 t ht).1, Nat.le_of_eq (h2 t ht).2⟩
  · rw [List.flatten_append, List.nodup_append]
    refine ⟨h.nd, by simpa using h3, fun a ha b hb e => ?_⟩
    subst e
    obtain ⟨x, hx, hax⟩ := List.mem_flatten.mp ha
    have h4 := (h.lt x hx a hax).2
    have h5 := (h2 a (by simpa using hb)).2
    omega
theorem RowsOk.rk {n r : Nat} {pl : List Nat} {rows : List (List Nat)} (h : RowsOk n pl r rows) (hr : r ≤ 5) : RkOk n rows := ⟨Nat.le_trans h.len hr, h.ne, fun row hr t ht => (h.lt row hr t ht).1, h.nd⟩
/-- the things of a place -/
def rowAt (n : Nat) (pl : List Nat) (r k : Nat) : List Nat := (List.range k).filter fun t => decide (pl.getD t 0 = r)
theorem rowAt_succ (n : Nat) (pl : List Nat) (r k : Nat) : rowAt n pl r (k + 1) = if pl.getD k 0 = r then rowAt n pl r k ++ [k] else rowAt n pl r k := by
  unfold rowAt
  rw [List.range_succ, List.filter_append]
  by_cases h : pl.getD k 0 = r
  · rw [if_pos h, List.filter_cons, if_pos (decide_eq_true h)]
    rfl
  · rw [if_neg h, List.filter_cons, if_neg (by rw [decide_eq_false h]; decide)]
    exact List.append_nil _
theorem rowAt_le (n : Nat) (pl : List Nat) (r k : Nat) : (rowAt n pl r k).length ≤ k := by
  have := List.length_filter_le (fun t => decide (pl.getD t 0 = r)) (List.range k)
  rw [List.length_range] at this
  exact this
def spLW (K : PySem.W.Frag) : Sp := fun vs H Q _ => ∃ (s : Addr) (ns : List Int), vs = [.ref s, .int 0, .int 4, .int 5, .int 4] ∧ SqL K H s (ns.map V.int) ∧
  ∀ (H' : Hp) (p : Addr) (w : Wi), Same H H' → WAt H' p w → w.Ok → Q (.ref p) H'
section
variable {P : Program} {w : World} {K : PySem.W.Frag} {mg : Str → Option Value} {base : Heap}
abbrev N_law_wishes : List Str := ["_law_script", "_law_at", "_law_most_things", "_law_most_askers", "_law_most_ranks", "_law_digits", "_law_copies", "_law_digit", "_law_lists", "_law_asker", "_law_cell", "_law_places", "_law_ranks", "_law_rank", "_law_row", "_law_thing"]
theorem sc_law_wishes : FnScope N_law_wishes ["_law_script", "_law_at", "_law_most_things", "_law_most_askers", "_law_most_ranks"] (defScope s_law_wishes) := ⟨rfl, rfl, rfl, by decide +kernel, rfl, by decide +kernel, by decide +kernel⟩
theorem ok_law_wishes {f : Addr} {fd : FuncData} (F : FnP K "_law_wishes" "_law_wishes" s_law_wishes f fd) (T : Txt K mg) (c_law_cell_at : Cal P w K mg base "_law_cell_at" 1 ["_law_script", "_law_k"] (spCell K)) (c_law_numbers : Cal P w K mg base "_law_numbers" 1 ["_law_cell", "_law_salt", "_law_sizes"] (spNum)) : FnOk P w K mg base CX0 2 f fd ["_law_script", "_law_at", "_law_most_things", "_law_most_askers", "_law_most_ranks"] (spLW K) := by
  refine F.ok sc_law_wishes (fun vs H Q E h => ?_) (fun cdv A outer s H vs Q E hr h => ?_)
  · obtain ⟨s, ns, rfl, _⟩ := h
    rfl
  · have hu := hu_of hr
    have nd := sc_law_wishes.nd
    refine ⟨_, PSs.nox (pss_cons (ps_set (i := 5) nd rfl (Or.inl rfl) (pe_call c_law_numbers.ok (hr.mono (by decide)) (by rfl) c_law_numbers.g c_law_numbers.kp c_law_numbers.b .nil pass0 (pa_cons (pe_call c_law_cell_at.ok (hr.mono (by decide)) (by rfl) c_law_cell_at.g c_law_cell_at.kp c_law_cell_at.b .nil pass0 (pa_cons (pv 0) (pa_cons (pv 1) pa_nil))) (pa_cons (pv 1) (pa_cons (pe_op op_cat (pe_lst (pa_cons (pv 2) (pa_cons (pv 3) pa_nil))) (pe_op op_rep (pe_lst (pa_cons pe_int pa_nil)) (pv 2))) pa_nil)))))
    (pss_cons (ps_setLc (i := 6) (own := [("_law_digit", 7)]) (g := (gName 7)) (tt := tYes) (te := (tOp (rIxL K) (tLst (tCons (tC _) (tCons (tC _) (tCons (tC _) (tCons (tC _) (tCons (tC _) (tCons (tC _) (tCons (tC _) (tCons (tC _) (tCons (tC _) (tCons (tC _) (tCons (tC _) tNil)))))))))))) (tVar 7))) (by rfl) nd rfl rfl (sw_true rfl rfl rfl (by decide +kernel)) (pi_list (pe_slice sl_list (pv 5) (po_some pe_int) (po_some (pe_op op_add pe_int (pe_ix ix_list (pv 5) pe_int (fun _ _ => rfl)))))) (blkOk_by (own := [("_law_digit", 7)]) (N := N_law_wishes) (sc := defScope s_law_wishes) (by decide +kernel)) (fun _ _ _ _ _ => (pg_name (i := 7) nd rfl (Or.inl rfl))) (fun _ _ _ _ _ => pts_nil) (fun _ _ _ _ _ => (pe_ix (r := rIxL K) ix_list (pe_lst (pa_cons pe_int (pa_cons pe_int (pa_cons pe_int (pa_cons pe_int (pa_cons pe_int (pa_cons pe_int (pa_cons pe_int (pa_cons pe_int (pa_cons pe_int (pa_cons pe_int (pa_cons pe_int pa_nil)))))))))))) (pv 7) (fun _ _ => rfl))))
    (pss_cons (ps_set (i := 8) nd rfl (Or.inl rfl) (pe_lst pa_nil))
    (pss_cons (ps_for PassesOwn.never rfl (pi_range1 rfl T.range (pa_cons (pe_op op_add pe_int (pe_ix ix_list (pv 5) pe_int (fun _ _ => rfl))) pa_nil)) (pg_name (i := 9) nd rfl (Or.inl rfl))
      (pss_cons (ps_set (i := 10) nd rfl (Or.inl rfl) (pe_call c_law_cell_at.ok (hr.mono (by decide)) (by rfl) c_law_cell_at.g c_law_cell_at.kp c_law_cell_at.b .nil pass0 (pa_cons (pv 0) (pa_cons (pe_op op_add (pe_op op_add (pv 1) pe_int) (pv 9)) pa_nil))))
      (pss_cons (ps_set (i := 11) nd rfl (Or.inr rfl) (pe_call c_law_numbers.ok (hr.mono (by decide)) (by rfl) c_law_numbers.g c_law_numbers.kp c_law_numbers.b .nil pass0 (pa_cons (pv 10) (pa_cons (pe_op op_add (pe_op op_add (pe_op op_mul pe_int (pv 1)) (pe_op op_mul pe_int (pv 9))) pe_int) (pa_cons (pe_op op_cat (pe_op op_rep (pe_lst (pa_cons (pe_op op_add (pv 4) pe_int) pa_nil)) (pv 2)) (pe_lst (pa_cons pe_int pa_nil))) pa_nil)))))
      (pss_cons (ps_set (i := 12) nd rfl (Or.inl rfl) (pe_lst pa_nil))
      (pss_cons (ps_for PassesOwn.never rfl (pi_range2 rfl T.range (pa_cons pe_int (pa_cons (pe_op op_add (pv 4) pe_int) pa_nil))) (pg_name (i := 13) nd rfl (Or.inr rfl))
        (pss_cons (ps_setLc (i := 14) (own := [("_law_thing", 15)]) (g := (gName 15)) (tt := (tTest (tOp _ (tOp (rIxL K) (tVar 11) (tVar 15)) (tVar 13)))) (te := (tVar 15)) (by rfl) nd rfl rfl (sw_true rfl rfl rfl (by decide +kernel)) (pi_range1 rfl T.range (pa_cons (pe_callB call_len_seq (by rfl) T.len (by decide +kernel) (pa_cons (pv 6) pa_nil)) pa_nil)) (blkOk_by (own := [("_law_thing", 15)]) (N := N_law_wishes) (sc := defScope s_law_wishes) (by decide +kernel)) (fun _ _ _ _ _ => (pg_name (i := 15) nd rfl (Or.inl rfl))) (fun _ _ _ _ _ => (pts_one (pt_cmpR op_eq (pe_ix (r := rIxL K) ix_list (pv 11) (pv 15) (fun _ _ => rfl)) (pv 13) (nomark _)))) (fun _ _ _ _ _ => (pv 15)))
        (pss_one (ps_if (pt_cmpR (op_neD hr.units) (pv 14) (pe_lst pa_nil) (nomark _))
          (pss_one (ps_expr (pe_bm PySem.F.plainAttrs_list PySem.F.slot_list_append PySem.F.type_list_append mt_append (pv 12) (pa_cons (pe_ix ix_list (pe_lst (pa_cons (pv 14) (pa_cons (pe_revL (pv 14)) pa_nil))) (pe_ix ix_list (pv 11) (pe_un un_neg pe_int) (fun _ _ => rfl)) (fun _ _ => rfl)) pa_nil))))
          pss_nil))))
      (pss_one (ps_expr (pe_bm PySem.F.plainAttrs_list PySem.F.slot_list_append PySem.F.type_list_append mt_append (pv 8) (pa_cons (pv 12) pa_nil)))))))))
    (pss_one (ps_ret (pe_tup (pa_cons (pv 6) (pa_cons (pv 8) pa_nil))))))))), ?_⟩
    obtain ⟨s, ns, rfl, hS, q⟩ := h
    refine ⟨_, rfl, _, rfl, s, ns, 0, rfl, hS, fun cell => ?_⟩
    refine ⟨_, rfl, _, rfl, _, rfl, by show 2 ≤ sizeLine; decide, fun o1 h1 => ⟨by show 1 ≤ sizeLine; decide, fun o2 h2 => ?_⟩⟩
    have a1 : Same H (upd H o1 (.lst [.int 4, .int 5])) := same_new h1
    have b1 : upd H o1 (.lst [.int 4, .int 5]) o1 = some (.lst [.int 4, .int 5]) := upd_same
    generalize upd H o1 (.lst [.int 4, .int 5]) = H1 at h2 a1 b1
    have a2 : Same H1 (upd H1 o2 (.lst [.int 11])) := same_new h2
    have b2 : upd H1 o2 (.lst [.int 11]) o2 = some (.lst [.int 11]) := upd_same
    generalize upd H1 o2 (.lst [.int 11]) = H2 at a2 b2
    refine ⟨_, rfl, o2, _, _, rfl, rfl, b2, by decide, by decide, by show 1 * 4 ≤ sizeLine; decide, fun o3 h3 => ?_⟩
    have a3 : Same H2 (upd H2 o3 (.lst (List.replicate (4 : Int).toNat [V.int 11]).flatten)) := same_new h3
    have b3 : upd H2 o3 (.lst (List.replicate (4 : Int).toNat [V.int 11]).flatten) o3 = some (.lst ([11, 11, 11, 11].map nV)) := upd_same
    generalize upd H2 o3 (.lst (List.replicate (4 : Int).toNat [V.int 11]).flatten) = H3 at a3 b3
    refine ⟨o1, o3, _, _, rfl, rfl, a3 _ _ (a2 _ _ b1), b3, by show 2 + 4 ≤ sizeLine; decide, fun o4 h4 => ?_⟩
    have a4 : Same H3 (upd H3 o4 (.lst ([.int 4, .int 5] ++ [11, 11, 11, 11].map nV))) := same_new h4
    have b4 : upd H3 o4 (.lst ([.int 4, .int 5] ++ [11, 11, 11, 11].map nV)) o4 = some (.lst ([4, 5, 11, 11, 11, 11].map nV)) := upd_same
    generalize upd H3 o4 (.lst ([.int 4, .int 5] ++ [11, 11, 11, 11].map nV)) = H4 at a4 b4
    have s4 := a1.trans (a2.trans (a3.trans a4))
    refine ⟨cell, 0, o4, [4, 5, 11, 11, 11, 11], rfl, b4, by decide, by decide, fun H5 dg ds hdg s5 hD hdl hdlt => ?_⟩
    have hdl : ds.length = 6 := hdl
    have d0 : ds.getD 0 0 < 4 := hdlt 0 (by decide)
    have d1 : ds.getD 1 0 < 5 := hdlt 1 (by decide)
    have dk : ∀ k, 2 ≤ k → k < 6 → ds.getD k 0 < 11 := fun k h1 h2 => by
      have h := hdlt k h2
      have : k = 2 ∨ k = 3 ∨ k = 4 ∨ k = 5 := by omega
      rcases this with rfl | rfl | rfl | rfl <;> exact h
    have g0 : ds[0]? = some (ds.getD 0 0) := by rw [List.getD_eq_getElem?_getD, List.getElem?_eq_getElem (by omega)]; rfl
    have g1 : ds[1]? = some (ds.getD 1 0) := by rw [List.getD_eq_getElem?_getD, List.getElem?_eq_getElem (by omega)]; rfl
    have s05 := s4.trans s5
    -- copies
    refine ⟨_, rfl, _, rfl, _, rfl, dg, _, (0 : Int), _, rfl, rfl, SqL.of hD, at_nat nV g0, _, _, rfl, rfl, _, rfl, dg, _, rfl, SqL.of hD, fun sl hsl => ?_⟩
    have ecut : cutV (ds.map nV) (some 2) (some (3 + (ds.getD 0 0 : Int))) = ((ds.drop 2).take (1 + ds.getD 0 0)).map nV := by
      unfold cutV
      have e1 := HT.sIx_nat (ds.map nV).length 0 2
      have e2 := HT.sIx_nat (ds.map nV).length (ds.map nV).length (3 + ds.getD 0 0)
      rw [List.length_map, hdl] at e1 e2
      rw [List.length_map, hdl]
      have e1' : HT.sIx 6 0 (some (2 : Int)) = 2 := e1.trans (by omega)
      have e2' : HT.sIx 6 6 (some (3 + (ds.getD 0 0 : Int))) = 3 + ds.getD 0 0 := by
        have : (((3 + ds.getD 0 0 : Nat)) : Int) = 3 + (ds.getD 0 0 : Int) := by omega
        rw [← this]
        exact e2.trans (by omega)
      rw [e1', e2', List.map_take, List.map_drop]
      congr 1
      omega
    have s6 : Same H5 (upd H5 sl (.lst (cutV (ds.map nV) (some 2) (some (3 + (ds.getD 0 0 : Int)))))) := same_new hsl
    have hsl6 : upd H5 sl (.lst (cutV (ds.map nV) (some 2) (some (3 + (ds.getD 0 0 : Int))))) sl = some (.lst (((ds.drop 2).take (1 + ds.getD 0 0)).map nV)) := by rw [upd_same, ecut]
    have hsub : ((ds.drop 2).take (1 + ds.getD 0 0)).length = 1 + ds.getD 0 0 := by
      rw [List.length_take, List.length_drop, hdl]
      omega
    have hsub2 : ∀ (i x : Nat), ((ds.drop 2).take (1 + ds.getD 0 0))[i]? = some x → x < 11 := fun i x h => by
      have hi := lt_of_get h
      rw [hsub] at hi
      rw [List.getElem?_take, if_pos hi, List.getElem?_drop] at h
      have := dk (2 + i) (by omega) (by omega)
      rw [List.getD_eq_getElem?_getD, h] at this
      exact this
    generalize (ds.drop 2).take (1 + ds.getD 0 0) = sub at hsub hsub2 hsl6
    have tget : ∀ {x : Nat}, x < 11 → tabl[x]? = some (tabl.getD x 0) := fun {x} hx => by
      rw [List.getD_eq_getElem?_getD, List.getElem?_eq_getElem (show x < tabl.length from hx)]
      rfl
    refine ⟨sl, rfl, ⟨_, SqL.of hsl6⟩, fun co hco => ?_⟩
    have nsc : sl ≠ co := ne_of_none hsl6 hco
    have hco5 := s6.free hco
    refine lc_list (xs := sub.map nV) (fun i H' => Same H5 H' ∧ H' sl = some (.lst (sub.map nV)) ∧ H' co = some (.lst (((sub.take i).map fun x => tabl.getD x 0).map nV))) ⟨s6.trans (same_new hco), (same_new hco) _ _ hsl6, upd_same⟩ (fun i H' _ ⟨_, s, _⟩ => SqL.of s) ?_ ?_
    · rintro i y H' hy ⟨sm, hsl', hL⟩
      obtain ⟨x, hx, rfl⟩ := get_nV hy
      have hx11 := hsub2 i x hx
      have hi := lt_of_get hx
      refine ⟨rfl, yes_ ⟨by show 11 ≤ sizeLine; decide, fun o ho => ⟨_, rfl, o, _, (x : Int), _, rfl, rfl, SqL.of upd_same, at_nat nV (xs := tabl) (tget hx11), _, (same_new ho) _ _ hL, ?_, same_mut (same_and sm ho) hco5, ?_, ?_⟩⟩⟩
      · rw [List.length_map, List.length_map, List.length_take]
        exact sl100 (by omega)
      · rw [upd_ne nsc]
        exact (same_new ho) _ _ hsl'
      · rw [upd_same, take_snoc hx, List.map_append, List.map_append]
        rfl
    rintro H6 ⟨s56, _, hCo⟩
    rw [List.length_map, List.take_length] at hCo
    have hcl : (sub.map fun x => tabl.getD x 0).length = 1 + ds.getD 0 0 := by rw [List.length_map, hsub]
    have hc7 : ∀ x ∈ sub.map fun x => tabl.getD x 0, x ≤ 7 := fun x hx => by
      obtain ⟨y, hy, rfl⟩ := List.mem_map.mp hx
      obtain ⟨i, hi, e⟩ := List.mem_iff_getElem.mp hy
      have := tget (hsub2 i y (by rw [← e]; exact List.getElem?_eq_getElem hi))
      exact tabl_le _ (List.mem_of_getElem? this)
    generalize sub.map (fun x => tabl.getD x 0) = cs at hCo hcl hc7
    have s06 := s05.trans s56
    have hD6 := s56 _ _ hD
    -- lists
    refine ⟨Nat.zero_le _, fun la hla => ?_⟩
    have s7 : Same H6 (upd H6 la (.lst [])) := same_new hla
    have en : (1 : Int) + (ds.getD 1 0 : Int) = ((1 + ds.getD 1 0 : Nat) : Int) := by omega
    refine ⟨_, rfl, dg, _, (1 : Int), _, rfl, rfl, SqL.of (s7 _ _ hD6), at_nat nV g1, _, _, rfl, rfl, ((1 + ds.getD 1 0 : Nat) : Int), congrArg (fun z => [V.int z]) en, by omega, by omega, for_range (n := 1 + ds.getD 1 0) (fun k σ H' => ∃ v7 v9 v10 v11 v12 v13 v14 v15 qs lists, σ = [some (.ref s), some (.int 0), some (.int 4), some (.int 5), some (.int 4), some (.ref dg), some (.ref co), v7, some (.ref la), v9, v10, v11, v12, v13, v14, v15] ∧ Same H6 H' ∧ H' la = some (.lst (qs.map V.ref)) ∧ qs.length = k ∧ lists.length = k ∧
        (∀ (j : Nat) (q : Addr) (r : List (List Nat)), qs[j]? = some q → lists[j]? = some r → RanksAt (del H' la) q r) ∧ ∀ r ∈ lists, RkOk cs.length r)
      ⟨_, _, _, _, _, _, _, _, [], [], rfl, s7, upd_same, rfl, rfl, fun j q r h => by simp at h, fun r h => by cases h⟩ ?_ ?_⟩
    · rintro k σ H7 hk ⟨v7, v9, v10, v11, v12, v13, v14, v15, qs, lists, rfl, s67, hLa, hql, hll, hqs, hok⟩
      rw [Int.zero_add]
      have s07 := s06.trans s67
      have ek : (0 : Int) + 1 + (k : Int) = ((1 + k : Nat) : Int) := by omega
      refine ⟨_, rfl, _, rfl, _, _, rfl, rfl, _, rfl, _, _, rfl, rfl, s, ns, 1 + k, congrArg (fun z => [V.ref s, V.int z]) ek, sqL_mono s07 hS, fun cell2 => ?_⟩
      refine ⟨_, rfl, _, rfl, _, _, rfl, rfl, .inl ⟨by decide, by decide⟩, _, rfl, _, _, rfl, rfl, .inl ⟨by decide, by decide⟩, _, _, rfl, rfl, _, _, rfl, rfl, _, rfl, _, _, rfl, rfl, by show 1 ≤ sizeLine; decide, fun p1 hp1 => ?_⟩
      have t1 : Same H7 (upd H7 p1 (.lst [.int (4 + 1)])) := same_new hp1
      have e1 : upd H7 p1 (.lst [.int (4 + 1)]) p1 = some (.lst [.int (4 + 1)]) := upd_same
      refine ⟨_, rfl, p1, _, _, rfl, rfl, e1, by decide, by decide, by show 1 * 4 ≤ sizeLine; decide, fun p2 hp2 => ?_⟩
      have t2 : Same (upd H7 p1 (.lst [.int (4 + 1)])) (upd (upd H7 p1 (.lst [.int (4 + 1)])) p2 (.lst ([5, 5, 5, 5].map nV))) := same_new hp2
      have e2 : upd (upd H7 p1 (.lst [.int (4 + 1)])) p2 (.lst ([5, 5, 5, 5].map nV)) p2 = some (.lst ([5, 5, 5, 5].map nV)) := upd_same
      refine ⟨by show 1 ≤ sizeLine; decide, fun p3 hp3 => ?_⟩
      have hp3' : upd (upd H7 p1 (.lst [.int (4 + 1)])) p2 (.lst ([5, 5, 5, 5].map nV)) p3 = Option.none := hp3
      have t3 : Same _ (upd (upd (upd H7 p1 (.lst [.int (4 + 1)])) p2 (.lst ([5, 5, 5, 5].map nV))) p3 (.lst [.int 2])) := same_new hp3'
      have e3 : upd (upd (upd H7 p1 (.lst [.int (4 + 1)])) p2 (.lst ([5, 5, 5, 5].map nV))) p3 (.lst [.int 2]) p3 = some (.lst [.int 2]) := upd_same
      refine ⟨p2, p3, _, _, rfl, rfl, t3 _ _ e2, e3, by show 4 + 1 ≤ sizeLine; decide, fun p4 hp4 => ?_⟩
      have hp4' : upd (upd (upd H7 p1 (.lst [.int (4 + 1)])) p2 (.lst ([5, 5, 5, 5].map nV))) p3 (.lst [.int 2]) p4 = Option.none := hp4
      have t4 : Same _ (upd (upd (upd (upd H7 p1 (.lst [.int (4 + 1)])) p2 (.lst ([5, 5, 5, 5].map nV))) p3 (.lst [.int 2])) p4 (.lst ([5, 5, 5, 5, 2].map nV))) := same_new hp4'
      have e4 : upd (upd (upd (upd H7 p1 (.lst [.int (4 + 1)])) p2 (.lst ([5, 5, 5, 5].map nV))) p3 (.lst [.int 2])) p4 (.lst ([5, 5, 5, 5, 2].map nV)) p4 = some (.lst ([5, 5, 5, 5, 2].map nV)) := upd_same
      have s74 := t1.trans (t2.trans (t3.trans t4))
      refine ⟨cell2, _, p4, [5, 5, 5, 5, 2], rfl, e4, by decide, by decide, fun H8 pa pl hpa t8 hPa hpll hplt => ?_⟩
      have hpll : pl.length = 5 := hpll
      have hp4lt : pl.getD 4 0 < 2 := hplt 4 (by decide)
      have s78 := s74.trans t8
      have s68 := s67.trans s78
      have hCo8 := s68 _ _ hCo
      have hLa8 := s78 _ _ hLa
      have plg : ∀ {j : Nat}, j < 5 → pl[j]? = some (pl.getD j 0) := fun {j} hj => by
        rw [List.getD_eq_getElem?_getD, List.getElem?_eq_getElem (by omega)]
        rfl
      refine ⟨Nat.zero_le _, fun ra hra => ?_⟩
      have nra : la ≠ ra := ne_of_none hLa8 hra
      refine ⟨_, rfl, _, _, rfl, rfl, (1 : Int), (4 + 1 : Int), rfl, by decide, for_range (lo := 1) (n := 4) (fun r σ H' => ∃ v13 v14 v15 as rows, σ = [some (.ref s), some (.int 0), some (.int 4), some (.int 5), some (.int 4), some (.ref dg), some (.ref co), v7, some (.ref la), some (.int (k : Int)), some (.int cell2), some (.ref pa), some (.ref ra), v13, v14, v15] ∧ Same H8 H' ∧ H' ra = some (.lst (as.map V.ref)) ∧ as.length = rows.length ∧
          (∀ (i : Nat) (x : Addr) (row : List Nat), as[i]? = some x → rows[i]? = some row → x ≠ ra ∧ H8 x = Option.none ∧ H' x = some (.lst (row.map nV))) ∧ RowsOk cs.length pl r rows)
        ⟨_, _, _, [], [], rfl, same_new hra, upd_same, rfl, fun i x row h => by simp at h, ⟨Nat.le_refl _, (fun row h => by cases h), (fun row h => by cases h), List.nodup_nil⟩⟩ ?_ ?_⟩
      · rintro r σ H9 hr ⟨v13, v14, v15, as, rows, rfl, s89, hRa, hasl, hAs, hro⟩
        have hCo9 := s89 _ _ hCo8
        have hPa9 := s89 _ _ hPa
        refine ⟨_, rfl, co, _, rfl, .inl (SqL.of hCo9), ((cs.map nV).length : Int), rfl, ?_⟩
        rw [List.length_map]
        refine ⟨by omega, by omega, fun D hD' => ?_⟩
        have nDra : ra ≠ D := ne_of_none hRa hD'
        refine lc_range (n := cs.length) (fun j H' => Same H9 H' ∧ H' D = some (.lst ((rowAt cs.length pl (r + 1) j).map nV))) ⟨same_new hD', upd_same⟩ ?_ ?_
        · rintro j HA hj ⟨sA, hDA⟩
          have hle := rowAt_le cs.length pl (r + 1) j
          refine ⟨rfl, _, rfl, _, rfl, pa, _, (0 + (j : Int)), _, rfl, rfl, SqL.of (sA _ _ hPa9), (by rw [Int.zero_add]; exact at_nat nV (plg (by omega))), _, rfl, rfl, _, rfl, ?_⟩
          show if decide (V.int (pl.getD j 0 : Int) = V.int (1 + (r : Int))) = true then _ else _
          rw [dec_int]
          refine if2 (fun h => ?_) fun h => ?_
          · have hc := of_decide_eq_true h
            refine ⟨_, rfl, _, hDA, ?_, same_mut sA hD', ?_⟩
            · rw [List.length_map]
              exact sl100 (by omega)
            · rw [upd_same, rowAt_succ, if_pos (by omega), List.map_append]
              show some (HO.lst (_ ++ [V.int (0 + (j : Int))])) = _
              rw [Int.zero_add]
              rfl
          · have hc := of_decide_eq_false h
            refine ⟨sA, ?_⟩
            rw [rowAt_succ, if_neg (by omega)]
            exact hDA
        rintro HA ⟨sA, hDA⟩
        have hrow1 : ∀ t ∈ rowAt cs.length pl (r + 1) cs.length, t < cs.length ∧ pl.getD t 0 = r + 1 := fun t ht => by
          obtain ⟨h1, h2⟩ := List.mem_filter.mp ht
          exact ⟨List.mem_range.mp h1, of_decide_eq_true h2⟩
        have hrow2 : (rowAt cs.length pl (r + 1) cs.length).Nodup := List.Nodup.sublist List.filter_sublist List.nodup_range
        have hrow3 := rowAt_le cs.length pl (r + 1) cs.length
        generalize rowAt cs.length pl (r + 1) cs.length = row at hDA hrow1 hrow2 hrow3
        refine ⟨_, rfl, Nat.zero_le _, fun z hz => neN_nil ((same_new hz) _ _ hDA) upd_same ⟨_, rfl, ?_⟩⟩
        have sB : Same HA (upd HA z (.lst [])) := same_new hz
        have hDB := sB _ _ hDA
        have s9B := sA.trans sB
        generalize upd HA z (.lst []) = HB at sB hDB s9B
        have hRaB := s9B _ _ hRa
        have s8B := s89.trans s9B
        refine if2 (fun hb => ?_) fun hb => ?_
        · have hne : row ≠ [] := fun e => by
            subst e
            cases hb
          refine ⟨_, rfl, .inl ⟨rfl, _, SqL.of hRaB⟩, _, rfl, _, rfl, D, _, rfl, SqL.of hDB, fun rv hrv => ⟨by show 2 ≤ sizeLine; decide, fun tl htl => ?_⟩⟩
          have sC : Same HB (upd HB rv (.lst (row.map nV).reverse)) := same_new hrv
          have hrvC : upd HB rv (.lst (row.map nV).reverse) rv = some (.lst (row.reverse.map nV)) := by rw [upd_same, List.map_reverse]
          have htl' : upd HB rv (.lst (row.map nV).reverse) tl = Option.none := htl
          generalize upd HB rv (.lst (row.map nV).reverse) = HC at sC hrvC htl'
          have sD : Same HC (upd HC tl (.lst ([D, rv].map V.ref))) := same_new htl'
          have htlD : upd HC tl (.lst ([D, rv].map V.ref)) tl = some (.lst ([D, rv].map V.ref)) := upd_same
          have llast : atI (pl.map nV) (-1) = some (nV (pl.getD 4 0)) := atI_lastN (n := 4) (by rw [List.length_map]; exact hpll) (map_get nV (plg (by omega)))
          have s8D := s8B.trans (sC.trans sD)
          have hRaD := sD _ _ (sC _ _ hRaB)
          have hDD := sD _ _ (sC _ _ hDB)
          have hrvD := sD _ _ hrvC
          have hx : ∃ (x : Addr) (row' : List Nat), [D, rv][pl.getD 4 0]? = some x ∧ upd HC tl (.lst ([D, rv].map V.ref)) x = some (.lst (row'.map nV)) ∧ x ≠ ra ∧ H8 x = Option.none ∧ row' ≠ [] ∧ (∀ t ∈ row', t < cs.length ∧ pl.getD t 0 = r + 1) ∧ row'.Nodup := by
            have : pl.getD 4 0 = 0 ∨ pl.getD 4 0 = 1 := by omega
            rcases this with e | e
            · rw [e]
              exact ⟨D, row, rfl, hDD, nDra.symm, s89.free hD', hne, hrow1, hrow2⟩
            · rw [e]
              exact ⟨rv, row.reverse, rfl, hrvD, (ne_of_none hRaB hrv).symm, s8B.free hrv, by simpa using hne, fun t ht => hrow1 t (List.mem_reverse.mp ht), List.pairwise_reverse.mpr (hrow2.imp fun h => h.symm)⟩
          obtain ⟨x, row', hxi, hxD, hxra, hx8, hr1, hr2, hr3⟩ := hx
          refine ⟨_, rfl, _, rfl, pa, _, -1, _, rfl, rfl, SqL.of (s8D _ _ hPa), llast, tl, _, ((pl.getD 4 0 : Nat) : Int), _, rfl, rfl, SqL.of htlD, at_nat V.ref hxi, ra, _, _, rfl, rfl, hRaD, ?_, ?_⟩
          · have := hro.len
            rw [List.length_map]
            exact sl100 (by omega)
          · refine ⟨_, _, _, as ++ [x], rows ++ [row'], rfl, same_mut s8D hra, ?_, ?_, fun i y rw1 h1 h2 => ?_, hro.add hr1 hr2 hr3⟩
            · rw [upd_same, List.map_append]
              rfl
            · rw [List.length_append, List.length_append, hasl]
              rfl
            · by_cases hi : i < as.length
              · rw [List.getElem?_append_left hi] at h1
                rw [List.getElem?_append_left (by omega)] at h2
                obtain ⟨q1, q2, q3⟩ := hAs i y rw1 h1 h2
                exact ⟨q1, q2, by rw [upd_ne q1]; exact (s9B.trans (sC.trans sD)) _ _ q3⟩
              · rw [List.getElem?_append_right (by omega)] at h1
                rw [List.getElem?_append_right (by omega), ← hasl] at h2
                have em : i - as.length = 0 := by
                  have := lt_of_get h1
                  simp at this
                  omega
                rw [em] at h1 h2
                cases h1
                cases h2
                exact ⟨hxra, hx8, by rw [upd_ne hxra]; exact hxD⟩
        · refine ⟨_, _, _, as, rows, rfl, s8B, hRaB, hasl, fun i y rw1 h1 h2 => ?_, hro.skip⟩
          obtain ⟨q1, q2, q3⟩ := hAs i y rw1 h1 h2
          exact ⟨q1, q2, s9B _ _ q3⟩
      · rintro σ H9 ⟨v13, v14, v15, as, rows, rfl, s89, hRa, hasl, hAs, hro⟩
        have hLa9 := s89 _ _ hLa8
        refine ⟨_, rfl, .inl ⟨rfl, _, SqL.of hLa9⟩, _, rfl, la, _, _, rfl, rfl, hLa9, ?_, ?_⟩
        · rw [List.length_map, hql]
          exact sl100 (by omega)
        · have hlaf : H6 la = Option.none := hla
          refine ⟨_, _, _, _, _, _, _, _, qs ++ [ra], lists ++ [rows], rfl, same_mut (s68.trans s89) hla, ?_, ?_, ?_, fun j q r e1 e2 => ?_, fun r hr => ?_⟩
          · rw [upd_same, List.map_append]
            rfl
          · rw [List.length_append, hql]
            rfl
          · rw [List.length_append, hll]
            rfl
          · rw [del_upd]
            by_cases hj : j < qs.length
            · rw [List.getElem?_append_left hj] at e1
              rw [List.getElem?_append_left (by omega)] at e2
              exact (hqs j q r e1 e2).mono (del_mono' (s78.trans s89))
            · rw [List.getElem?_append_right (by omega)] at e1
              rw [List.getElem?_append_right (by omega)] at e2
              have ej : j - qs.length = 0 := by
                have := lt_of_get e1
                simp at this
                omega
              have ej2 : j - lists.length = 0 := by omega
              rw [ej] at e1
              rw [ej2] at e2
              cases e1
              cases e2
              refine ⟨as, by rw [del_at nra.symm]; exact hRa, hasl, fun i x row h1 h2 => ?_⟩
              obtain ⟨q1, q2, q3⟩ := hAs i x row h1 h2
              rw [del_at (ne_of_none hLa8 q2).symm]
              exact q3
          · rcases List.mem_append.mp hr with m | m
            · exact hok r m
            · rw [List.mem_singleton] at m
              rw [m]
              exact hro.rk (by decide)
    · rintro σ H7 ⟨v7, v9, v10, v11, v12, v13, v14, v15, qs, lists, rfl, s67, hLa, hql, hll, hqs, hok⟩
      refine ⟨_, rfl, _, rfl, by show 2 ≤ sizeLine; decide, fun T2 hT2 => ?_⟩
      have s8 : Same H7 (upd H7 T2 (.tup [.ref co, .ref la])) := same_new hT2
      refine q _ T2 ⟨cs, lists⟩ (s06.trans (s67.trans s8)) ⟨co, la, upd_same, s8 _ _ (s67 _ _ hCo), qs, s8 _ _ hLa, hql.trans hll.symm, fun j q r e1 e2 => (hqs j q r e1 e2).mono (del_same.trans s8)⟩ ⟨by show 1 ≤ cs.length; omega, by show cs.length ≤ 6; omega, hc7, by show 1 ≤ lists.length; omega, by show lists.length ≤ 7; omega, hok⟩
end
end Wd
namespace Wd
open PySem PySem.Spec PyProof.Rows L2
theorem take_set_lt {xs : List Nat} {k x : Nat} : (xs.set k x).take k = xs.take k := by
  rw [List.take_set]
  exact List.set_eq_of_length_le (by rw [List.length_take]; exact Nat.min_le_left _ _)
theorem getD_setN {xs : List Nat} {k x : Nat} (h : k < xs.length) : (xs.set k x).getD k 0 = x := by
  rw [List.getD_eq_getElem?_getD, List.getElem?_set, if_pos rfl, if_pos h]
  rfl
theorem take_le_sum (xs : List Nat) (k : Nat) : (xs.take k).sum ≤ xs.sum := by
  by_cases h : k ≤ xs.length
  · have := take_sum_le xs k xs.length h
    rw [List.take_length] at this
    exact this
  · rw [List.take_of_length_le (by omega)]
    exact Nat.le_refl _
/-- copies so far cut down -/
structure CutOk (n k : Nat) (xs : List Nat) : Prop where
  l : xs.length = n
  c7 : ∀ x ∈ xs, x ≤ 7
  p6 : (xs.take k).sum ≤ 6
  s1 : 1 ≤ xs.sum
theorem CutOk.step {n k : Nat} {xs : List Nat} (h : CutOk n k xs) (hk : k < n) : CutOk n (k + 1) (xs.set k (min (xs.getD k 0) (6 - (xs.take k).sum))) := by
  have hkl : k < xs.length := by rw [h.l]; exact hk
  have e1 := take_sum_succ (xs.set k (min (xs.getD k 0) (6 - (xs.take k).sum))) k
  rw [take_set_lt, getD_setN hkl] at e1
  have p6 := h.p6
  have hm : xs.getD k 0 ∈ xs := by
    rw [List.getD_eq_getElem?_getD, List.getElem?_eq_getElem hkl]
    exact List.getElem_mem hkl
  have h7 := h.c7 _ hm
  refine ⟨by rw [List.length_set]; exact h.l, fun x hx => ?_, by omega, ?_⟩
  · rcases List.mem_or_eq_of_mem_set hx with m | m
    · exact h.c7 x m
    · omega
  · by_cases q : xs.getD k 0 ≤ 6 - (xs.take k).sum
    · have : xs.set k (min (xs.getD k 0) (6 - (xs.take k).sum)) = xs := by
        rw [Nat.min_eq_left q]
        refine List.ext_getElem? fun i => ?_
        rw [List.getElem?_set]
        by_cases e : k = i
        · subst e
          rw [if_pos rfl, if_pos hkl, List.getD_eq_getElem?_getD, List.getElem?_eq_getElem hkl]
          rfl
        · rw [if_neg e]
      rw [this]
      exact h.s1
    · have := take_le_sum (xs.set k (min (xs.getD k 0) (6 - (xs.take k).sum))) (k + 1)
      omega
def spCut : Sp := fun vs H Q _ => ∃ (a : Addr) (w : Wi), vs = [.ref a] ∧ WAt H a w ∧ w.Ok ∧
  ∀ (H' : Hp) (p : Addr) (w' : Wi), Same H H' → WAt H' p w' → w'.Sg → Q (.ref p) H'
section
variable {P : Program} {w : World} {K : PySem.W.Frag} {mg : Str → Option Value} {base : Heap}
abbrev N_law_cut : List Str := ["_law_wishes_here", "_law_copies", "_law_k"]
theorem sc_law_cut : FnScope N_law_cut ["_law_wishes_here"] (defScope s_law_cut) := ⟨rfl, rfl, rfl, by decide +kernel, rfl, by decide +kernel, by decide +kernel⟩
theorem ok_law_cut {f : Addr} {fd : FuncData} (F : FnP K "_law_cut" "_law_cut" s_law_cut f fd) (T : Txt K mg)  : FnOk P w K mg base CX0 1 f fd ["_law_wishes_here"] (spCut) := by
  refine F.ok sc_law_cut (fun vs H Q E h => ?_) (fun cdv A outer s H vs Q E hr h => ?_)
  · obtain ⟨a, w, rfl, _⟩ := h
    rfl
  · have hu := hu_of hr
    have nd := sc_law_cut.nd
    refine ⟨_, PSs.nox (pss_cons (ps_set (i := 1) nd rfl (Or.inl rfl) (pe_callTy call_list_of (by rfl) T.list (by decide +kernel) (pa_cons (pe_ix ix_tup (pv 0) pe_int (fun _ _ => rfl)) pa_nil)))
    (pss_cons (ps_if (pt_cmpR op_eq (pe_callB (cr_sum rfl) (by rfl) T.sum (by decide +kernel) (pa_cons (pv 1) pa_nil)) pe_int (nomark _))
      (pss_one (ps_asg pe_int (pg_sub (pv 1) pe_int set_list)))
      pss_nil)
    (pss_cons (ps_for PassesOwn.never rfl (pi_range1 rfl T.range (pa_cons (pe_callB call_len_seq (by rfl) T.len (by decide +kernel) (pa_cons (pv 1) pa_nil)) pa_nil)) (pg_name (i := 2) nd rfl (Or.inl rfl))
      (pss_one (ps_asg (pe_callB (call_min2 rfl) (by rfl) T.min (by decide +kernel) (pa_cons (pe_ix ix_list (pv 1) (pv 2) (fun _ _ => rfl)) (pa_cons (pe_callB (call_max2 rfl) (by rfl) T.max (by decide +kernel) (pa_cons pe_int (pa_cons (pe_op op_sub pe_int (pe_callB (cr_sum rfl) (by rfl) T.sum (by decide +kernel) (pa_cons (pe_slice sl_list (pv 1) po_none (po_some (pv 2))) pa_nil))) pa_nil))) pa_nil))) (pg_sub (pv 1) (pv 2) set_list))))
    (pss_one (ps_ret (pe_tup (pa_cons (pv 1) (pa_cons (pe_ix ix_tup (pv 0) pe_int (fun _ _ => rfl)) pa_nil)))))))), ?_⟩
    obtain ⟨a, w, rfl, hW, ok, q⟩ := h
    obtain ⟨c, l, hA, hC, as, hL, hn, hR⟩ := id hW
    have n1 := ok.c1
    have n6 := ok.c6
    refine ⟨_, rfl, a, _, 0, _, rfl, rfl, SqT.of hA, rfl, c, _, rfl, .inl (SqL.of hC), fun co hco => ?_⟩
    have s1 : Same H (upd H co (.lst (w.c.map nV))) := same_new hco
    have hco1 : upd H co (.lst (w.c.map nV)) co = some (.lst ((w.c.map fun n : Nat => (n : Int)).map V.int)) := by rw [upd_same, map_nV]
    have hco1' : upd H co (.lst (w.c.map nV)) co = some (.lst (w.c.map nV)) := upd_same
    refine ⟨_, rfl, co, _, rfl, SqL.of hco1, rfl, _, rfl, ?_⟩
    show if decide (V.int ((w.c.map fun n : Nat => (n : Int)).sum) = V.int 0) = true then _ else _
    rw [dec_int, sum_cast]
    refine if2 (fun h => ?_) fun h => ?_
    · have h0 := of_decide_eq_true h
      refine ⟨_, rfl, co, _, _, 0, rfl, rfl, hco1', by rw [List.length_map]; exact ixN_nat (i := 0) (by omega), ?_⟩
      have hset : (w.c.map nV).set 0 (V.int 1) = (w.c.set 0 1).map nV := set_map nV w.c 0 1
      rw [hset]
      have s2 : Same H (upd (upd H co (.lst (w.c.map nV))) co (.lst ((w.c.set 0 1).map nV))) := same_mut s1 hco
      have hco2 : upd (upd H co (.lst (w.c.map nV))) co (.lst ((w.c.set 0 1).map nV)) co = some (.lst ((w.c.set 0 1).map nV)) := upd_same
      have hx : CutOk w.c.length 0 (w.c.set 0 1) := by
        refine ⟨List.length_set .., fun x hx => ?_, by simp, ?_⟩
        · rcases List.mem_or_eq_of_mem_set hx with m | m
          · exact ok.c7 x m
          · omega
        · have h1 := take_sum_succ (w.c.set 0 1) 0
          rw [getD_setN (by omega)] at h1
          have h2 := take_le_sum (w.c.set 0 1) 1
          simp at h1
          omega
      generalize w.c.set 0 1 = xs0 at s2 hco2 hx
      refine ⟨_, rfl, co, _, rfl, .inl (SqL.of hco2), ((xs0.map nV).length : Int), rfl, ?_⟩
      rw [List.length_map, hx.l]
      refine ⟨by omega, by omega, for_range (n := w.c.length) (fun k σ H' => ∃ v2 xs, σ = [some (.ref a), some (.ref co), v2] ∧ Same H H' ∧ H' co = some (.lst (xs.map nV)) ∧ CutOk w.c.length k xs)
        ⟨_, xs0, rfl, s2, hco2, hx⟩ ?_ ?_⟩
      · rintro k σ H3 hk ⟨v2, xs, rfl, s3, hco3, hc⟩
        rw [Int.zero_add]
        have hkl : k < xs.length := by rw [hc.l]; exact hk
        have hgk : xs[k]? = some (xs.getD k 0) := by
          rw [List.getD_eq_getElem?_getD, List.getElem?_eq_getElem hkl]
          rfl
        have p6 := hc.p6
        refine ⟨_, rfl, _, rfl, co, _, (k : Int), _, rfl, rfl, SqL.of hco3, at_nat nV hgk, _, rfl, _, rfl, _, rfl, co, _, rfl, SqL.of hco3, fun sl hsl => ?_⟩
        have ecut : cutV (xs.map nV) Option.none (some (k : Int)) = ((xs.take k).map fun n : Nat => (n : Int)).map V.int := by
          unfold cutV
          rw [HT.sIx_none, HT.sIx_nat, List.length_map, List.drop_zero, Nat.sub_zero, Nat.min_eq_left (by omega), map_nV, List.map_take]
        have s4 : Same H3 (upd H3 sl (.lst (cutV (xs.map nV) Option.none (some (k : Int))))) := same_new hsl
        have hsl4 : upd H3 sl (.lst (cutV (xs.map nV) Option.none (some (k : Int)))) sl = some (.lst (((xs.take k).map fun n : Nat => (n : Int)).map V.int)) := by rw [upd_same, ecut]
        refine ⟨sl, _, rfl, SqL.of hsl4, _, _, rfl, rfl, _, _, rfl, _, _, rfl, ?_⟩
        have hv : V.int (if (if 6 - ((xs.take k).map fun n : Nat => (n : Int)).sum > 0 then 6 - ((xs.take k).map fun n : Nat => (n : Int)).sum else 0) < (xs.getD k 0 : Int) then (if 6 - ((xs.take k).map fun n : Nat => (n : Int)).sum > 0 then 6 - ((xs.take k).map fun n : Nat => (n : Int)).sum else 0) else (xs.getD k 0 : Int)) = nV (min (xs.getD k 0) (6 - (xs.take k).sum)) := by
          rw [sum_cast]
          show _ = V.int ((min (xs.getD k 0) (6 - (xs.take k).sum) : Nat) : Int)
          congr 1
          split <;> split <;> omega
        rw [hv]
        have hco4 := s4 _ _ hco3
        refine ⟨_, rfl, _, rfl, co, _, _, k, rfl, rfl, hco4, by rw [List.length_map]; exact ixN_nat hkl, ?_⟩
        rw [set_map]
        exact ⟨_, _, rfl, same_mut (s3.trans s4) hco, upd_same, hc.step hk⟩
      · rintro σ H3 ⟨v2, xs, rfl, s3, hco3, hc⟩
        refine ⟨_, rfl, _, rfl, a, _, 1, _, rfl, rfl, SqT.of (s3 _ _ hA), rfl, by show 2 ≤ sizeLine; decide, fun T2 hT2 => ?_⟩
        have s4 : Same H3 (upd H3 T2 (.tup [.ref co, .ref l])) := same_new hT2
        have hp6 := hc.p6
        rw [← hc.l, List.take_length] at hp6
        refine q _ T2 ⟨xs, w.l⟩ (s3.trans s4) ⟨co, l, upd_same, s4 _ _ hco3, as, s4 _ _ (s3 _ _ hL), hn, fun i x r e1 e2 => (hR i x r e1 e2).mono (s3.trans s4)⟩ ⟨⟨by show 1 ≤ xs.length; rw [hc.l]; exact n1, by show xs.length ≤ 6; rw [hc.l]; exact n6, hc.c7, ok.l1, ok.l7, fun r hr => by show RkOk xs.length r; rw [hc.l]; exact ok.rk r hr⟩, hc.s1, hp6⟩
    · have h0 := of_decide_eq_false h
      have s2 := s1
      have hco2 := hco1'
      have hx : CutOk w.c.length 0 w.c := ⟨rfl, ok.c7, by simp, by omega⟩
      obtain ⟨xs0, hxs0⟩ : ∃ xs0, xs0 = w.c := ⟨_, rfl⟩
      have hco2 : upd H co (.lst (w.c.map nV)) co = some (.lst (xs0.map nV)) := by rw [hxs0]; exact hco1'
      have hx : CutOk w.c.length 0 xs0 := by rw [hxs0]; exact hx
      refine ⟨_, rfl, co, _, rfl, .inl (SqL.of hco2), ((xs0.map nV).length : Int), rfl, ?_⟩
      rw [List.length_map, hx.l]
      refine ⟨by omega, by omega, for_range (n := w.c.length) (fun k σ H' => ∃ v2 xs, σ = [some (.ref a), some (.ref co), v2] ∧ Same H H' ∧ H' co = some (.lst (xs.map nV)) ∧ CutOk w.c.length k xs)
        ⟨_, xs0, rfl, s2, hco2, hx⟩ ?_ ?_⟩
      · rintro k σ H3 hk ⟨v2, xs, rfl, s3, hco3, hc⟩
        rw [Int.zero_add]
        have hkl : k < xs.length := by rw [hc.l]; exact hk
        have hgk : xs[k]? = some (xs.getD k 0) := by
          rw [List.getD_eq_getElem?_getD, List.getElem?_eq_getElem hkl]
          rfl
        have p6 := hc.p6
        refine ⟨_, rfl, _, rfl, co, _, (k : Int), _, rfl, rfl, SqL.of hco3, at_nat nV hgk, _, rfl, _, rfl, _, rfl, co, _, rfl, SqL.of hco3, fun sl hsl => ?_⟩
        have ecut : cutV (xs.map nV) Option.none (some (k : Int)) = ((xs.take k).map fun n : Nat => (n : Int)).map V.int := by
          unfold cutV
          rw [HT.sIx_none, HT.sIx_nat, List.length_map, List.drop_zero, Nat.sub_zero, Nat.min_eq_left (by omega), map_nV, List.map_take]
        have s4 : Same H3 (upd H3 sl (.lst (cutV (xs.map nV) Option.none (some (k : Int))))) := same_new hsl
        have hsl4 : upd H3 sl (.lst (cutV (xs.map nV) Option.none (some (k : Int)))) sl = some (.lst (((xs.take k).map fun n : Nat => (n : Int)).map V.int)) := by rw [upd_same, ecut]
        refine ⟨sl, _, rfl, SqL.of hsl4, _, _, rfl, rfl, _, _, rfl, _, _, rfl, ?_⟩
        have hv : V.int (if (if 6 - ((xs.take k).map fun n : Nat => (n : Int)).sum > 0 then 6 - ((xs.take k).map fun n : Nat => (n : Int)).sum else 0) < (xs.getD k 0 : Int) then (if 6 - ((xs.take k).map fun n : Nat => (n : Int)).sum > 0 then 6 - ((xs.take k).map fun n : Nat => (n : Int)).sum else 0) else (xs.getD k 0 : Int)) = nV (min (xs.getD k 0) (6 - (xs.take k).sum)) := by
          rw [sum_cast]
          show _ = V.int ((min (xs.getD k 0) (6 - (xs.take k).sum) : Nat) : Int)
          congr 1
          split <;> split <;> omega
        rw [hv]
        have hco4 := s4 _ _ hco3
        refine ⟨_, rfl, _, rfl, co, _, _, k, rfl, rfl, hco4, by rw [List.length_map]; exact ixN_nat hkl, ?_⟩
        rw [set_map]
        exact ⟨_, _, rfl, same_mut (s3.trans s4) hco, upd_same, hc.step hk⟩
      · rintro σ H3 ⟨v2, xs, rfl, s3, hco3, hc⟩
        refine ⟨_, rfl, _, rfl, a, _, 1, _, rfl, rfl, SqT.of (s3 _ _ hA), rfl, by show 2 ≤ sizeLine; decide, fun T2 hT2 => ?_⟩
        have s4 : Same H3 (upd H3 T2 (.tup [.ref co, .ref l])) := same_new hT2
        have hp6 := hc.p6
        rw [← hc.l, List.take_length] at hp6
        refine q _ T2 ⟨xs, w.l⟩ (s3.trans s4) ⟨co, l, upd_same, s4 _ _ hco3, as, s4 _ _ (s3 _ _ hL), hn, fun i x r e1 e2 => (hR i x r e1 e2).mono (s3.trans s4)⟩ ⟨⟨by show 1 ≤ xs.length; rw [hc.l]; exact n1, by show xs.length ≤ 6; rw [hc.l]; exact n6, hc.c7, ok.l1, ok.l7, fun r hr => by show RkOk xs.length r; rw [hc.l]; exact ok.rk r hr⟩, hc.s1, hp6⟩
end
end Wd
namespace Wd
open PySem PySem.Spec PyProof.Rows L2
theorem DealL.tlt {w : Wi} {d : List (Option Nat)} (h : DealL w d) (ok : w.Ok) {t : Nat} (ht : some t ∈ d) : t < w.c.length := by
  obtain ⟨i, hi, e⟩ := List.mem_iff_getElem.mp ht
  have hiw : i < w.l.length := by rw [← h.len]; exact hi
  have h0 := h.wi i t _ (by rw [List.getElem?_eq_getElem hi, e]) (List.getElem?_eq_getElem hiw)
  have el : w.l.getD i [] = w.l[i] := by rw [List.getD_eq_getElem?_getD, List.getElem?_eq_getElem hiw]; rfl
  rw [← el] at h0
  exact (rk_lt ok h0).2
theorem backL_len (cs : List Nat) (e : List (Option Nat)) : (backL cs e).length = e.length := by
  unfold backL
  rw [List.length_map]
def spAlike : Sp := fun vs H Q _ => ∃ (a b t : Addr) (w : Wi) (o : Nat), vs = [.ref a, .ref b, .ref t] ∧ WAt H a w ∧ WAt H b (sgl w) ∧ w.Sg ∧ Whole w ∧ AimAt H t o ∧ ∀ H', Same H H' → Q (.bl true) H'
section
variable {P : Program} {w : World} {K : PySem.W.Frag} {mg : Str → Option Value} {base : Heap}
abbrev N_law_alike : List Str := ["_law_wishes_here", "_law_single", "_law_aim", "_law_one", "_law_other", "_law_there", "_law_back"]
theorem sc_law_alike : FnScope N_law_alike ["_law_wishes_here", "_law_single", "_law_aim"] (defScope s_law_alike) := ⟨rfl, rfl, rfl, by decide +kernel, rfl, by decide +kernel, by decide +kernel⟩
theorem ok_law_alike {f : Addr} {fd : FuncData} (F : FnP K "_law_alike" "_law_alike" s_law_alike f fd) (T : Txt K mg) (c_best_dealing : Cal P w K mg base "best_dealing" 11 ["wishes", "aim"] (spBD)) (c_counts_of : Cal P w K mg base "counts_of" 6 ["wishes", "dealing"] (spCounts)) (c_singled_dealing : Cal P w K mg base "singled_dealing" 6 ["wishes", "dealing"] (spSD)) (c_what_is_wrong : Cal P w K mg base "what_is_wrong" 5 ["wishes", "thing"] (spWrong)) (c_whole_dealing : Cal P w K mg base "whole_dealing" 6 ["wishes", "dealing"] (spWD)) (c_worth_of : Cal P w K mg base "worth_of" 8 ["wishes", "aim", "dealing"] (spWorth)) : FnOk P w K mg base CX0 12 f fd ["_law_wishes_here", "_law_single", "_law_aim"] (spAlike) := by
  refine F.ok sc_law_alike (fun vs H Q E h => ?_) (fun cdv A outer s H vs Q E hr h => ?_)
  · obtain ⟨a, b, t, w, o, rfl, _⟩ := h
    rfl
  · have hu := hu_of hr
    have nd := sc_law_alike.nd
    refine ⟨_, PSs.nox (pss_cons (ps_set (i := 3) nd rfl (Or.inl rfl) (pe_ix ix_tup (pe_call c_best_dealing.ok (hr.mono (by decide)) (by rfl) c_best_dealing.g c_best_dealing.kp c_best_dealing.b .nil pass0 (pa_cons (pv 0) (pa_cons (pv 2) pa_nil))) pe_int (fun _ _ => rfl)))
    (pss_cons (ps_set (i := 4) nd rfl (Or.inl rfl) (pe_ix ix_tup (pe_call c_best_dealing.ok (hr.mono (by decide)) (by rfl) c_best_dealing.g c_best_dealing.kp c_best_dealing.b .nil pass0 (pa_cons (pv 1) (pa_cons (pv 2) pa_nil))) pe_int (fun _ _ => rfl)))
    (pss_cons (ps_set (i := 5) nd rfl (Or.inl rfl) (pe_call c_singled_dealing.ok (hr.mono (by decide)) (by rfl) c_singled_dealing.g c_singled_dealing.kp c_singled_dealing.b .nil pass0 (pa_cons (pv 0) (pa_cons (pv 3) pa_nil))))
    (pss_cons (ps_set (i := 6) nd rfl (Or.inl rfl) (pe_call c_whole_dealing.ok (hr.mono (by decide)) (by rfl) c_whole_dealing.g c_whole_dealing.kp c_whole_dealing.b .nil pass0 (pa_cons (pv 0) (pa_cons (pv 4) pa_nil))))
    (pss_cons (ps_if (PW.pt (pw_or (pt_cmpR op_notN (pe_call c_what_is_wrong.ok (hr.mono (by decide)) (by rfl) c_what_is_wrong.g c_what_is_wrong.kp c_what_is_wrong.b .nil pass0 (pa_cons (pv 1) (pa_cons (pv 5) pa_nil))) pe_non (nomark _)) (pw_or1 (pt_cmpR op_notN (pe_call c_what_is_wrong.ok (hr.mono (by decide)) (by rfl) c_what_is_wrong.g c_what_is_wrong.kp c_what_is_wrong.b .nil pass0 (pa_cons (pv 0) (pa_cons (pv 6) pa_nil))) pe_non (nomark _)))))
      (pss_one ps_never)
      pss_nil)
    (pss_cons (ps_if (pt_cmpR (op_neD hr.units) (pe_call c_counts_of.ok (hr.mono (by decide)) (by rfl) c_counts_of.g c_counts_of.kp c_counts_of.b .nil pass0 (pa_cons (pv 0) (pa_cons (pv 3) pa_nil))) (pe_call c_counts_of.ok (hr.mono (by decide)) (by rfl) c_counts_of.g c_counts_of.kp c_counts_of.b .nil pass0 (pa_cons (pv 1) (pa_cons (pv 4) pa_nil))) (nomark _))
      (pss_one ps_never)
      pss_nil)
    (pss_cons (ps_if (pt_cmpR op_ne (pe_call c_worth_of.ok (hr.mono (by decide)) (by rfl) c_worth_of.g c_worth_of.kp c_worth_of.b .nil pass0 (pa_cons (pv 1) (pa_cons (pv 2) (pa_cons (pv 5) pa_nil)))) (pe_call c_worth_of.ok (hr.mono (by decide)) (by rfl) c_worth_of.g c_worth_of.kp c_worth_of.b .nil pass0 (pa_cons (pv 1) (pa_cons (pv 2) (pa_cons (pv 4) pa_nil)))) (nomark _))
      (pss_one ps_never)
      pss_nil)
    (pss_one (ps_ret (pe_cmpR op_eq (pe_call c_worth_of.ok (hr.mono (by decide)) (by rfl) c_worth_of.g c_worth_of.kp c_worth_of.b .nil pass0 (pa_cons (pv 0) (pa_cons (pv 2) (pa_cons (pv 6) pa_nil)))) (pe_call c_worth_of.ok (hr.mono (by decide)) (by rfl) c_worth_of.g c_worth_of.kp c_worth_of.b .nil pass0 (pa_cons (pv 0) (pa_cons (pv 2) (pa_cons (pv 3) pa_nil)))) (nomark _))))))))))), ?_⟩
    obtain ⟨a, b, t, w, o, rfl, hW, hJ, ok, hwh, hAim, q⟩ := h
    have okJ := sgl_ok ok
    have l7 := ok.l7
    -- the best dealing here
    refine ⟨_, rfl, _, rfl, a, t, w, o, ok.toOk, rfl, hW, hAim, fun H1 T1 dl pp as ps d U Pl hT0 hdl0 s1 hT1 hpp hdl has hps el eU eP hdu => ?_⟩
    refine ⟨T1, _, 0, _, rfl, rfl, SqT.of hT1, rfl, ?_⟩
    -- .. and there
    refine ⟨_, rfl, _, rfl, b, t, sgl w, o, okJ, rfl, hJ.mono s1, hAim.mono s1, fun H2 T2 dl2 pp2 as2 ps2 e U2 Pl2 hT20 hdl20 s2 hT2 hpp2 hdl2 has2 hps2 el2 eU2 eP2 hdu2 => ?_⟩
    refine ⟨T2, _, 0, _, rfl, rfl, SqT.of hT2, rfl, ?_⟩
    have hd : DealL w d := deal_of ok.toOk (Dual.deal (I := insW w o ok.toOk) hdu) el
    have he : DealL (sgl w) e := deal_of okJ (Dual.deal (I := insW (sgl w) o okJ) hdu2) el2
    have s12 := s1.trans s2
    have el2' : e.length = w.l.length := el2.trans (sgl_m w)
    have S0 := sgl_sgl ok hwh o
    have hT := sglD_deal ok hd
    have hTl := sglD_len w.c d
    obtain ⟨v1, v2, v3⟩ := S0.all_same (T := dD (sglD w.c d)) hdu hdu2 (to_deal okJ hT) (fun a _ => sglD_back ok.toOk hd a)
    have hB : DealL w (backL w.c e) := deal_of (o := o) ok.toOk (by rw [backL_D]; exact S0.back_deal (to_deal okJ he)) (by rw [backL_len]; exact el2')
    have w1 : valL (sgl w) o (sglD w.c d) (sglD w.c d).length = val (insW w o ok.toOk) (dD d) := by
      rw [valL_val okJ hT.len]
      exact v1
    have w2 : valL (sgl w) o e e.length = val (insW w o ok.toOk) (dD d) := by
      rw [valL_val okJ he.len]
      exact v2
    have w3 : valL w o (backL w.c e) (backL w.c e).length = val (insW w o ok.toOk) (dD d) := by
      rw [valL_val ok.toOk hB.len, backL_D]
      exact v3
    have w4 : valL w o d d.length = val (insW w o ok.toOk) (dD d) := valL_val ok.toOk hd.len
    have hcnt := cnt_same hwh (o := o) hd he (by rw [w4, w2])
    refine ⟨_, rfl, _, rfl, a, dl, w, d, rfl, hW.mono s12, ok, s2 _ _ hdl, by omega, fun t ht => hd.co t (hd.tlt ok.toOk ht), fun p5 H3 hp5 s3 hP5 => ?_⟩
    refine ⟨_, rfl, _, rfl, a, dl2, w, e, rfl, (hW.mono s12).mono s3, ok, s3 _ _ hdl2, by omega, fun c hc => (by have := he.tlt okJ hc; rw [sgl_n] at this; exact this), fun p6 H4 hp6 s4 hP6 => ?_⟩
    have s14 := s12.trans (s3.trans s4)
    have hdl4 := s4 _ _ (s3 _ _ (s2 _ _ hdl))
    have hdl24 := s4 _ _ (s3 _ _ hdl2)
    have hP54 := s4 _ _ hP5
    have hW4 := hW.mono s14
    have hJ4 := hJ.mono s14
    have hAim4 := hAim.mono s14
    refine ⟨_, rfl, _, rfl, b, p5, sgl w, sglD w.c d, rfl, hJ4, okJ, hP54, hT, fun H5 s5 => ⟨rfl, _, rfl, ifF rfl ?_⟩⟩
    refine ⟨_, rfl, _, rfl, a, p6, w, backL w.c e, rfl, hW4.mono s5, ok.toOk, s5 _ _ hP6, hB, fun H6 s6 => ⟨rfl, _, rfl, ifF rfl ?_⟩⟩
    have s46 := s5.trans s6
    refine ⟨_, rfl, _, rfl, a, dl, w, d, rfl, hW4.mono s46, ok.toOk, s46 _ _ hdl4, hd, fun p7 H7 hp7 s7 hP7 => ?_⟩
    have s47 := s46.trans s7
    refine ⟨_, rfl, _, rfl, b, dl2, sgl w, e, rfl, hJ4.mono s47, okJ, s47 _ _ hdl24, he, fun p8 H8 hp8 s8 hP8 => ?_⟩
    refine ne_ints (s8 _ _ hP7) hP8 ⟨_, rfl, ifF ?_ ?_⟩
    · rw [decide_eq_true hcnt]
      rfl
    have s48 := s47.trans s8
    refine ⟨_, rfl, _, rfl, _, rfl, b, t, p5, sgl w, o, sglD w.c d, rfl, hJ4.mono s48, okJ, hAim4.mono s48, s48 _ _ hP54, hT, fun H9 s9 => ?_⟩
    have s49 := s48.trans s9
    refine ⟨_, rfl, _, rfl, _, rfl, b, t, dl2, sgl w, o, e, rfl, hJ4.mono s49, okJ, hAim4.mono s49, s49 _ _ hdl24, he, fun H10 s10 => ⟨rfl, _, rfl, ifF ?_ ?_⟩⟩
    · rw [w1, w2, decide_eq_true rfl]
      rfl
    have s4A := s49.trans s10
    refine ⟨_, rfl, _, rfl, _, rfl, a, t, p6, w, o, backL w.c e, rfl, hW4.mono s4A, ok.toOk, hAim4.mono s4A, s4A _ _ hP6, hB, fun H11 s11 => ?_⟩
    have s4B := s4A.trans s11
    refine ⟨_, rfl, _, rfl, _, rfl, a, t, dl, w, o, d, rfl, hW4.mono s4B, ok.toOk, hAim4.mono s4B, s4B _ _ hdl4, hd, fun H12 s12' => ⟨rfl, ?_⟩⟩
    rw [w3, w4, decide_eq_true rfl]
    exact q H12 (s14.trans (s4B.trans s12'))
end
end Wd
namespace Wd
open PySem PySem.Spec PyProof.Rows L2
theorem mayL_mem {w : Wi} (ok : w.Ok) {o : Nat} {k : Int} {U P : List Int} {x t : Nat} : t ∈ mayL w o k U P x ↔ ∃ xw, wt w o x t = some xw ∧ iD U x + iD P t = k * xw := by
  unfold mayL
  rw [List.mem_map]
  constructor
  · rintro ⟨⟨a, t'⟩, h, rfl⟩
    obtain ⟨h1, h2⟩ := List.mem_filter.mp h
    have e : a = x := of_decide_eq_true h2
    subst e
    exact (tightL_mem ok).mp h1
  · intro h
    exact ⟨(x, t), List.mem_filter.mpr ⟨(tightL_mem ok).mpr h, decide_eq_true rfl⟩, rfl⟩
theorem pw_sub {l : List (Nat × Nat × Int)} {c : Nat × Nat × Int → Bool} {x : Nat} (h : (rowOf l x).Pairwise fun p q => p.1 < q.1) : ((((l.filter c).map fun q => (q.1, q.2.1)).filter fun q => decide (q.1 = x)).map (·.2)).Pairwise (· < ·) := by
  induction l with
  | nil => exact List.Pairwise.nil
  | cons a r ih =>
    have hr : (rowOf r x).Pairwise fun p q => p.1 < q.1 := by
      unfold rowOf at h ⊢
      rw [List.filter_cons] at h
      split at h
      · exact (List.pairwise_cons.mp h).2
      · exact h
    have ih := ih hr
    rw [List.filter_cons]
    split
    · rw [List.map_cons, List.filter_cons]
      by_cases e : a.1 = x
      · rw [if_pos (decide_eq_true e), List.map_cons]
        refine List.pairwise_cons.mpr ⟨fun t ht => ?_, ih⟩
        obtain ⟨q, hq, rfl⟩ := List.mem_map.mp ht
        obtain ⟨h1, h2⟩ := List.mem_filter.mp hq
        obtain ⟨z, hz, rfl⟩ := List.mem_map.mp h1
        have hz := (List.mem_filter.mp hz).1
        unfold rowOf at h
        rw [List.filter_cons, if_pos (decide_eq_true e), List.map_cons] at h
        exact (List.pairwise_cons.mp h).1 z.2 (List.mem_map.mpr ⟨z, List.mem_filter.mpr ⟨hz, h2⟩, rfl⟩)
      · rw [if_neg (by rw [decide_eq_false e]; decide)]
        exact ih
    · exact ih
theorem mayL_pw {w : Wi} {o : Nat} {k : Int} {U P : List Int} {x : Nat} (hx : x < w.l.length) : (mayL w o k U P x).Pairwise (· < ·) := by
  unfold mayL tightL
  rw [List.take_length]
  refine pw_sub ?_
  rw [rowOf_all, if_pos hx]
  unfold rowsN
  refine List.pairwise_map.mpr ?_
  exact List.Pairwise.sublist List.filter_sublist List.pairwise_lt_range
theorem mayL_le {w : Wi} (ok : w.Ok) {o : Nat} {k : Int} {U P : List Int} {x : Nat} (hx : x < w.l.length) : (mayL w o k U P x).length ≤ w.c.length := by
  have h1 := mayL_pw (o := o) (k := k) (U := U) (P := P) hx
  have := sub_len (l2 := List.range w.c.length) (h1.imp fun h => Nat.ne_of_lt h) fun t ht => by
    obtain ⟨xw, h2, _⟩ := (mayL_mem ok).mp ht
    exact List.mem_range.mpr (rk_lt ok (wt_some h2).1).2
  rw [List.length_range] at this
  exact this
/-- what may be got, as owners of what may be got copy by copy -/
theorem may_same {w : Wi} (ok : w.Sg) (hwh : Whole w) {o : Nat} {d e : List (Option Nat)} {u p v q : Nat → Int} {l l2 : List Nat} {Us Ps Us2 Ps2 : List Int} (hdl : d.length = w.l.length) (hel : e.length = (sgl w).l.length)
    (hdu : Dual (insW w o ok.toOk) w.l.length (dD d) u p) (hdu2 : Dual (insW (sgl w) o (sgl_ok ok)) (sgl w).l.length (dD e) v q) (pl : Pla (insW w o ok.toOk) (dD d) u p (plD l)) (pl2 : Pla (insW (sgl w) o (sgl_ok ok)) (dD e) v q (plD l2))
    (eU : Us = (List.range w.l.length).map (sA (insW w o ok.toOk) u (plD l))) (eP : Ps = (List.range w.c.length).map (sQ (insW w o ok.toOk) p (plD l)))
    (eU2 : Us2 = (List.range (sgl w).l.length).map (sA (insW (sgl w) o (sgl_ok ok)) v (plD l2))) (eP2 : Ps2 = (List.range (sgl w).c.length).map (sQ (insW (sgl w) o (sgl_ok ok)) q (plD l2))) {x : Nat} (hx : x < w.l.length) :
    (iD Us x = 0 ↔ iD Us2 x = 0) ∧ ∀ t, t ∈ mayL w o (sz (insW w o ok.toOk)) Us Ps x ↔ ∃ c, c ∈ mayL (sgl w) o (sz (insW (sgl w) o (sgl_ok ok))) Us2 Ps2 x ∧ own w.c c = t := by
  have S0 := sgl_sgl ok hwh o
  have okJ := sgl_ok ok
  have hd : DealL w d := deal_of ok.toOk (Dual.deal (I := insW w o ok.toOk) hdu) hdl
  have hT := sglD_deal ok hd
  obtain ⟨_, hv, _⟩ := S0.all_same (T := dD (sglD w.c d)) hdu hdu2 (to_deal okJ hT) (fun a _ => sglD_back ok.toOk hd a)
  obtain ⟨C, B, hb⟩ := bds_ex (o := o) ok.toOk w.l.length u p
  have hC := hb.c0
  have hw : ∀ a t x, a < w.l.length → wt w o a t = some x → x ≤ C := fun a t x ha h => (hb.wc a t x (Nat.le_of_lt ha) h).2
  have hx2 : x < (sgl w).l.length := by rw [sgl_m]; exact hx
  have g1 : iD Us x = sA (insW w o ok.toOk) u (plD l) x := by rw [eU]; exact iD_range _ hx
  have g2 : iD Us2 x = sA (insW (sgl w) o (sgl_ok ok)) v (plD l2) x := by rw [eU2]; exact iD_range _ hx2
  have g3 : ∀ t, t < w.c.length → iD Ps t = sQ (insW w o ok.toOk) p (plD l) t := fun t ht => by rw [eP]; exact iD_range _ ht
  have g4 : ∀ t, t < (sgl w).c.length → iD Ps2 t = sQ (insW (sgl w) o (sgl_ok ok)) q (plD l2) t := fun t ht => by rw [eP2]; exact iD_range _ ht
  refine ⟨?_, fun t => ?_⟩
  · rw [g1, g2]
    exact S0.may_none hdu hdu2 pl pl2 hv hC hw hx
  · rw [mayL_mem ok.toOk]
    constructor
    · rintro ⟨xw, h1, h2⟩
      have ht := (rk_lt ok.toOk (wt_some h1).1).2
      rw [g1, g3 t ht] at h2
      obtain ⟨i, hi, ho, h3⟩ := (S0.may hdu hdu2 pl pl2 hv hC hw (a := x) hx h1).mp h2
      have hi : i < (sgl w).c.length := hi
      have his : i < w.c.sum := by rw [← sgl_n]; exact hi
      refine ⟨i, (mayL_mem okJ).mpr ⟨xw, ?_, ?_⟩, ho⟩
      · rw [wt_sg hwh his, ho]
        exact h1
      · rw [g2, g4 i hi]
        exact h3
    · rintro ⟨c, hc, rfl⟩
      obtain ⟨xw, h1, h2⟩ := (mayL_mem okJ).mp hc
      have hi := (rk_lt okJ (wt_some h1).1).2
      have his : c < w.c.sum := by rw [← sgl_n]; exact hi
      rw [wt_sg hwh his] at h1
      have ht := (rk_lt ok.toOk (wt_some h1).1).2
      rw [g2, g4 c hi] at h2
      refine ⟨xw, h1, ?_⟩
      rw [g1, g3 _ ht]
      exact (S0.may hdu hdu2 pl pl2 hv hC hw (a := x) hx h1).mpr ⟨c, hi, rfl, h2⟩
/-- two lists that rise and have the same members -/
theorem rise_eq {xs ys : List Int} (h1 : xs.Pairwise (· < ·)) (h2 : ys.Pairwise (· < ·)) (h : ∀ k, k ∈ xs ↔ k ∈ ys) : xs = ys :=
  List.Perm.eq_of_pairwise (le := (· ≤ ·)) (fun a b _ _ q1 q2 => Int.le_antisymm q1 q2) (h1.imp fun q => Int.le_of_lt q) (h2.imp fun q => Int.le_of_lt q) ((List.perm_ext_iff_of_nodup (h1.imp fun q => Int.ne_of_lt q) (h2.imp fun q => Int.ne_of_lt q)).mpr h)
def spMayL : Sp := fun vs H Q _ => ∃ (a b t : Addr) (w : Wi) (o : Nat), vs = [.ref a, .ref b, .ref t] ∧ WAt H a w ∧ WAt H b (sgl w) ∧ w.Sg ∧ Whole w ∧ AimAt H t o ∧ ∀ H', Same H H' → Q (.bl true) H'
section
variable {P : Program} {w : World} {K : PySem.W.Frag} {mg : Str → Option Value} {base : Heap}
abbrev N_law_may : List Str := ["_law_wishes_here", "_law_single", "_law_aim", "_law_owners", "_law_what", "_law_number", "_law_web", "_law_other", "_law_asker", "_law_some", "_law_nothing", "_law_copies", "_law_none_there", "_law_copy"]
theorem sc_law_may : FnScope N_law_may ["_law_wishes_here", "_law_single", "_law_aim"] (defScope s_law_may) := ⟨rfl, rfl, rfl, by decide +kernel, rfl, by decide +kernel, by decide +kernel⟩
theorem ok_law_may {f : Addr} {fd : FuncData} (F : FnP K "_law_may" "_law_may" s_law_may f fd) (T : Txt K mg) (c_may_get : Cal P w K mg base "may_get" 11 ["wishes", "aim", "web", "asker"] (spMay)) (c_web_of : Cal P w K mg base "web_of" 12 ["wishes", "aim"] (spWebOf)) : FnOk P w K mg base CX0 13 f fd ["_law_wishes_here", "_law_single", "_law_aim"] (spMayL) := by
  refine F.ok sc_law_may (fun vs H Q E h => ?_) (fun cdv A outer s H vs Q E hr h => ?_)
  · obtain ⟨a, b, t, w, o, rfl, _⟩ := h
    rfl
  · have hu := hu_of hr
    have nd := sc_law_may.nd
    refine ⟨_, PSs.nox (pss_cons (ps_set (i := 3) nd rfl (Or.inr rfl) (pe_lst pa_nil))
    (pss_cons (ps_for PassesOwn.never rfl (pi_enum (by rfl) T.enumerate (pa_cons (pe_ix ix_tup (pv 0) pe_int (fun _ _ => rfl)) pa_nil)) (pg_tup rfl (pgs_cons (pg_name (i := 4) nd rfl (Or.inl rfl)) (pgs_cons (pg_name (i := 5) nd rfl (Or.inl rfl)) pgs_nil)))
      (pss_one (ps_set (i := 3) nd rfl (Or.inr rfl) (pe_op op_cat (pv 3) (pe_op op_rep (pe_lst (pa_cons (pv 4) pa_nil)) (pv 5))))))
    (pss_cons (ps_set (i := 6) nd rfl (Or.inl rfl) (pe_call c_web_of.ok (hr.mono (by decide)) (by rfl) c_web_of.g c_web_of.kp c_web_of.b .nil pass0 (pa_cons (pv 0) (pa_cons (pv 2) pa_nil))))
    (pss_cons (ps_set (i := 7) nd rfl (Or.inl rfl) (pe_call c_web_of.ok (hr.mono (by decide)) (by rfl) c_web_of.g c_web_of.kp c_web_of.b .nil pass0 (pa_cons (pv 1) (pa_cons (pv 2) pa_nil))))
    (pss_cons (ps_for PassesOwn.never rfl (pi_range1 rfl T.range (pa_cons (pe_callB call_len_seq (by rfl) T.len (by decide +kernel) (pa_cons (pe_ix ix_tup (pv 0) pe_int (fun _ _ => rfl)) pa_nil)) pa_nil)) (pg_name (i := 8) nd rfl (Or.inl rfl))
      (pss_cons (ps_asg (pe_call c_may_get.ok (hr.mono (by decide)) (by rfl) c_may_get.g c_may_get.kp c_may_get.b .nil pass0 (pa_cons (pv 0) (pa_cons (pv 2) (pa_cons (pv 6) (pa_cons (pv 8) pa_nil))))) (pg_tup rfl (pgs_cons (pg_name (i := 9) nd rfl (Or.inl rfl)) (pgs_cons (pg_name (i := 10) nd rfl (Or.inl rfl)) pgs_nil))))
      (pss_cons (ps_asg (pe_call c_may_get.ok (hr.mono (by decide)) (by rfl) c_may_get.g c_may_get.kp c_may_get.b .nil pass0 (pa_cons (pv 1) (pa_cons (pv 2) (pa_cons (pv 7) (pa_cons (pv 8) pa_nil))))) (pg_tup rfl (pgs_cons (pg_name (i := 11) nd rfl (Or.inl rfl)) (pgs_cons (pg_name (i := 12) nd rfl (Or.inl rfl)) pgs_nil))))
      (pss_one (ps_if (PW.pt (pw_or (pt_cmpR (op_neD hr.units) (pe_callB (cr_sortedSet rfl) (by rfl) T.sorted (by decide +kernel) (pa_cons (pe_callTy (cr_setL rfl) (by rfl) T.set (by decide +kernel) (pa_cons (pe_lc (own := [("_law_copy", 13)]) (g := (gName 13)) (tt := tYes) (te := (tOp (rIxL K) (tVar 3) (tVar 13))) (by rfl) nd (pi_list (pv 11)) (blkOk_by (own := [("_law_copy", 13)]) (N := N_law_may) (sc := defScope s_law_may) (by decide +kernel)) (fun _ _ _ _ _ => (pg_name (i := 13) nd rfl (Or.inl rfl))) (fun _ _ _ _ _ => pts_nil) (fun _ _ _ _ _ => (pe_ix (r := rIxL K) ix_list (pv 3) (pv 13) (fun _ _ => rfl)))) pa_nil)) pa_nil)) (pv 9) (nomark _)) (pw_or1 (pt_cmpR op_ne (pv 10) (pv 12) (nomark _)))))
        (pss_one ps_never)
        pss_nil)))))
    (pss_one (ps_ret pe_bl))))))), ?_⟩
    obtain ⟨a, b, t, w, o, rfl, hW, hJ, ok, hwh, hAim, q⟩ := h
    have okJ := sgl_ok ok
    have hs := ok.s6
    have n6 := ok.c6
    have m7 := ok.l7
    obtain ⟨c, l, hA, hC, as, hL, hn, hR⟩ := id hW
    refine ⟨Nat.zero_le _, fun o0 ho0 => ?_⟩
    have s2 : Same H (upd H o0 (.lst [])) := same_new ho0
    refine ⟨_, rfl, a, _, 0, _, rfl, rfl, SqT.of (s2 _ _ hA), rfl, c, _, rfl, SqL.of (s2 _ _ hC), for_enum (fun i σ H' => ∃ (o : Addr) (v4 v5 v6 v7 v8 v9 v10 v11 v12 v13 : Option V), σ = [some (.ref a), some (.ref b), some (.ref t), some (.ref o), v4, v5, v6, v7, v8, v9, v10, v11, v12, v13] ∧ Same H H' ∧ H' o = some (.lst ((ownP w.c i).map nV)))
      ⟨o0, _, _, _, _, _, _, _, _, _, _, rfl, s2, upd_same⟩ (fun i σ H' _ ⟨_, _, _, _, _, _, _, _, _, _, _, _, s, _⟩ => SqL.of (s _ _ hC)) ?_ ?_⟩
    · rintro i y T σ H' hy ⟨o, v4, v5, v6, v7, v8, v9, v10, v11, v12, v13, rfl, s, hO⟩ hT
      obtain ⟨n, hn', rfl⟩ := get_nV hy
      have hi := lt_of_get hn'
      have t1 : Same H' (upd H' T (.tup [.int (i : Int), nV n])) := same_new hT
      refine pair_to ?_
      have hle := ownP_len w.c i
      have hle2 := ownP_len w.c (i + 1)
      have hle3 := take_le_sum w.c (i + 1)
      have es : ownP w.c (i + 1) = ownP w.c i ++ List.replicate n i := by
        rw [ownP_succ, List.getD_eq_getElem?_getD, hn']
        rfl
      rw [es, List.length_append, List.length_replicate] at hle2
      refine ⟨_, rfl, _, rfl, by show 1 ≤ sizeLine; decide, fun q hq => ?_⟩
      have t2 := t1.trans (same_new (o := .lst [V.int (i : Int)]) hq)
      refine ⟨_, rfl, q, _, _, rfl, rfl, upd_same, by omega, by omega, by show 1 * _ ≤ _; exact sz100 (by omega), fun r hr' => ?_⟩
      have t3 := t2.trans (same_new (o := .lst (List.replicate ((n : Int)).toNat [V.int (i : Int)]).flatten) hr')
      have er : (List.replicate ((n : Int)).toNat [V.int (i : Int)]).flatten = (List.replicate n i).map nV := by
        rw [Int.toNat_natCast]
        generalize n = m
        induction m with
        | zero => rfl
        | succ m ih => rw [List.replicate_succ, List.flatten_cons, ih, List.replicate_succ, List.map_cons]; rfl
      refine ⟨o, r, _, _, rfl, rfl, t3 _ _ hO, upd_same, ?_, fun x hx => ?_⟩
      · rw [er, List.length_map, List.length_map, List.length_replicate]
        exact sz100 (by omega)
      · refine ⟨x, _, _, _, _, _, _, _, _, _, _, rfl, s.trans (t3.trans (same_new hx)), ?_⟩
        rw [upd_same, er, es, List.map_append]
    rintro σ H1 ⟨oA, v4, v5, v6, v7, v8, v9, v10, v11, v12, v13, rfl, s1, hO⟩
    rw [List.length_map] at hO
    have hO : H1 oA = some (.lst ((ownL w.c).map nV)) := hO
    have olen := ownL_len w.c
    refine ⟨_, rfl, _, rfl, a, t, w, o, ok.toOk, rfl, hW.mono s1, hAim.mono s1, fun H2 T1 d u p l1 s12 hdl hdu pl hWeb => ?_⟩
    have t2 := s1.trans s12
    refine ⟨_, rfl, _, rfl, b, t, sgl w, o, okJ, rfl, hJ.mono t2, hAim.mono t2, fun H3 T2 e v qq l2 s23 hel hdu2 pl2 hWeb2 => ?_⟩
    have t3 := t2.trans s23
    have hWeb3 := hWeb.mono s23
    have hO3 := s23 _ _ (s12 _ _ hO)
    generalize hUs : (List.range w.l.length).map (sA (insW w o ok.toOk) u (plD l1)) = Us at hWeb3
    generalize hPs : (List.range w.c.length).map (sQ (insW w o ok.toOk) p (plD l1)) = Ps at hWeb3
    generalize hUs2 : (List.range (sgl w).l.length).map (sA (insW (sgl w) o okJ) v (plD l2)) = Us2 at hWeb2
    generalize hPs2 : (List.range (sgl w).c.length).map (sQ (insW (sgl w) o okJ) qq (plD l2)) = Ps2 at hWeb2
    have lU : Us.length = w.l.length := by rw [← hUs, List.length_map, List.length_range]
    have lP : Ps.length = w.c.length := by rw [← hPs, List.length_map, List.length_range]
    have lU2 : Us2.length = (sgl w).l.length := by rw [← hUs2, List.length_map, List.length_range]
    have lP2 : Ps2.length = (sgl w).c.length := by rw [← hPs2, List.length_map, List.length_range]
    have k1 : sz (insW w o ok.toOk) = ((w.l.length + w.c.length + 1 : Nat) : Int) := rfl
    have k2 : sz (insW (sgl w) o okJ) = (((sgl w).l.length + (sgl w).c.length + 1 : Nat) : Int) := rfl
    have jm := sgl_m w
    have jn := sgl_n w
    refine ⟨_, rfl, a, _, 1, _, rfl, rfl, SqT.of (t3 _ _ hA), rfl, l, _, rfl, .inl (SqL.of (t3 _ _ hL)), ((as.map V.ref).length : Int), rfl, ?_⟩
    rw [List.length_map, hn]
    refine ⟨by omega, by omega, for_range (n := w.l.length) (fun k σ H' => ∃ v4 v5 v8 v9 v10 v11 v12 v13, σ = [some (.ref a), some (.ref b), some (.ref t), some (.ref oA), v4, v5, some (.ref T1), some (.ref T2), v8, v9, v10, v11, v12, v13] ∧ Same H3 H')
      ⟨_, _, _, _, _, _, _, _, rfl, Same.refl _⟩ ?_ ?_⟩
    · rintro x σ H4 hx ⟨v4, v5, v8, v9, v10, v11, v12, v13, rfl, s34⟩
      rw [Int.zero_add]
      have t4 := t3.trans s34
      have hx2 : x < (sgl w).l.length := by rw [jm]; exact hx
      obtain ⟨hnone, hmay⟩ := may_same ok hwh (o := o) hdl hel hdu hdu2 pl pl2 hUs.symm hPs.symm hUs2.symm hPs2.symm hx
      have hm1 := mayL_pw (o := o) (k := sz (insW w o ok.toOk)) (U := Us) (P := Ps) hx
      have hm2 := mayL_le okJ (o := o) (k := sz (insW (sgl w) o okJ)) (U := Us2) (P := Ps2) hx2
      have hm3 : ∀ c ∈ mayL (sgl w) o (sz (insW (sgl w) o okJ)) Us2 Ps2 x, c < w.c.sum := fun c hc => by
        obtain ⟨xw, h2, _⟩ := (mayL_mem okJ).mp hc
        rw [← jn]
        exact (rk_lt okJ (wt_some h2).1).2
      refine ⟨_, rfl, _, rfl, _, rfl, _, rfl, a, t, T1, w, o, sz (insW w o ok.toOk), Us, Ps, x, rfl, hW.mono t4, ok.toOk, hAim.mono t4, hWeb3.mono s34, lU, lP, by omega, by omega, hx, fun H5 R1 p1 s45 hR1 hp1 => ?_⟩
      refine ⟨R1, _, rfl, SqT.of hR1, rfl, _, _, rfl, _, _, rfl, rfl, ?_⟩
      have t5 := t4.trans s45
      have s35 := s34.trans s45
      refine ⟨_, rfl, _, rfl, _, rfl, _, rfl, b, t, T2, sgl w, o, sz (insW (sgl w) o okJ), Us2, Ps2, x, rfl, hJ.mono t5, okJ, hAim.mono t5, hWeb2.mono s35, lU2, lP2, by omega, by omega, hx2, fun H6 R2 p2 s56 hR2 hp2 => ?_⟩
      refine ⟨R2, _, rfl, SqT.of hR2, rfl, _, _, rfl, _, _, rfl, rfl, ?_⟩
      have s36 := s35.trans s56
      generalize mayL (sgl w) o (sz (insW (sgl w) o okJ)) Us2 Ps2 x = mc at hmay hm2 hm3 hp2
      generalize mayL w o (sz (insW w o ok.toOk)) Us Ps x = mt at hmay hm1 hp1
      refine ⟨_, rfl, p2, rfl, ⟨_, SqL.of hp2⟩, fun D hD => ?_⟩
      refine lc_list (xs := mc.map nV) (fun j H' => Same H6 H' ∧ H' D = some (.lst (((mc.take j).map (own w.c)).map nV))) ⟨same_new hD, upd_same⟩ (fun i H' _ ⟨s, _⟩ => SqL.of (s _ _ hp2)) ?_ ?_
      · rintro j y H7 hy ⟨s67, hL7⟩
        obtain ⟨cc, hcc, rfl⟩ := get_nV hy
        have hcl := hm3 cc (List.mem_of_getElem? hcc)
        have hog : (ownL w.c)[cc]? = some (own w.c cc) := by
          unfold own
          rw [List.getD_eq_getElem?_getD, List.getElem?_eq_getElem (by rw [olen]; exact hcl)]
          rfl
        refine ⟨rfl, yes_ ⟨_, rfl, _, rfl, oA, _, (cc : Int), _, rfl, rfl, SqL.of ((s36.trans s67) _ _ hO3), at_nat nV hog, _, hL7, ?_, same_mut s67 hD, ?_⟩⟩
        · rw [List.length_map, List.length_map, List.length_take]
          exact sl100 (by omega)
        · rw [upd_same, take_snoc hcc, List.map_append, List.map_append]
          rfl
      rintro H7 ⟨s67, hL7⟩
      rw [List.length_map, List.take_length, ← map_nV] at hL7
      refine ⟨D, _, rfl, SqL.of hL7, by rw [List.length_map, List.length_map]; omega, fun sp n hnl hsp => ?_⟩
      rw [List.length_map, List.length_map] at hnl
      refine ⟨sp, _, n, rfl, upd_same, by omega, fun ys p3 hpw hmem hlen hp3 => ?_⟩
      have s78 : ∀ {o : HO}, Same H7 (upd H7 sp o) := fun {o} => same_new hsp
      have s8' : ∀ {H0 : Hp} {o : HO}, H0 p3 = Option.none → Same H0 (upd H0 p3 o) := fun {H0 o} h => same_new h
      have eys : ys = mt.map fun n : Nat => (n : Int) := rise_eq hpw (List.pairwise_map.mpr (hm1.imp fun h => by omega)) fun k => by
        rw [hmem, decide_eq_true_iff, List.map_map]
        constructor
        · intro h
          obtain ⟨c, hc, rfl⟩ := List.mem_map.mp h
          exact List.mem_map.mpr ⟨own w.c c, (hmay _).mpr ⟨c, hc, rfl⟩, rfl⟩
        · intro h
          obtain ⟨t, ht, rfl⟩ := List.mem_map.mp h
          obtain ⟨c, hc, e⟩ := (hmay t).mp ht
          exact List.mem_map.mpr ⟨c, hc, by show ((own w.c c : Nat) : Int) = (t : Int); rw [e]⟩
      have hp17 := s67 _ _ (s56 _ _ hp1)
      rw [← map_nV] at hp17
      refine ⟨_, rfl, ne_ints upd_same (s8' hp3 _ _ (s78 _ _ hp17)) ⟨_, rfl, ifF ?_ ?_⟩⟩
      · rw [decide_eq_true eys]
        rfl
      · refine ⟨_, rfl, _, rfl, rfl, _, rfl, ifF ?_ ⟨_, _, _, _, _, _, _, _, rfl, s36.trans (s67.trans (s78.trans (s8' hp3)))⟩⟩
        have : decide (iD Us x = 0) = decide (iD Us2 x = 0) := by
          by_cases h : iD Us x = 0
          · rw [decide_eq_true h, decide_eq_true (hnone.mp h)]
          · rw [decide_eq_false h, decide_eq_false fun z => h (hnone.mpr z)]
        rw [this, decide_eq_true rfl]
        rfl
    · rintro σ H4 ⟨v4, v5, v8, v9, v10, v11, v12, v13, rfl, s34⟩
      exact q H4 (t3.trans s34)
end
end Wd
namespace Wd
open PySem PySem.Spec PyProof.Rows L2
theorem RowsAt.app {H : Hp} {as bs : List Addr} {xs ys : List (List Nat)} (h : RowsAt H as xs) (g : RowsAt H bs ys) : RowsAt H (as ++ bs) (xs ++ ys) := by
  refine ⟨by rw [List.length_append, List.length_append, h.1, g.1], fun i a r e1 e2 => ?_⟩
  by_cases hi : i < as.length
  · rw [List.getElem?_append_left hi] at e1
    rw [List.getElem?_append_left (by rw [← h.1]; exact hi)] at e2
    exact h.2 i a r e1 e2
  · rw [List.getElem?_append_right (by omega)] at e1
    rw [List.getElem?_append_right (by rw [← h.1]; omega), ← h.1] at e2
    exact g.2 _ a r e1 e2
theorem rows_all {H : Hp} : ∀ {as : List Addr} {lists : List (List (List Nat))}, as.length = lists.length → (∀ (i : Nat) (a : Addr) (r : List (List Nat)), as[i]? = some a → lists[i]? = some r → RanksAt H a r) →
    ∃ bss : List (List Addr), as.length = bss.length ∧ (∀ (i : Nat) (a : Addr) (bs : List Addr), as[i]? = some a → bss[i]? = some bs → H a = some (.lst (bs.map V.ref))) ∧ RowsAt H bss.flatten lists.flatten
  | [], [], _, _ => ⟨[], rfl, fun i a bs h => by simp at h, rfl, fun i a r h => by simp at h⟩
  | [], _ :: _, h, _ => by cases h
  | _ :: _, [], h, _ => by cases h
  | a :: as, r :: lists, h, g => by
    obtain ⟨bs, h1, h2⟩ := g 0 a r rfl rfl
    obtain ⟨bss, h3, h4, h5⟩ := rows_all (as := as) (lists := lists) (Nat.succ.inj h) fun i a' r' e1 e2 => g (i + 1) a' r' (by rw [List.getElem?_cons_succ]; exact e1) (by rw [List.getElem?_cons_succ]; exact e2)
    refine ⟨bs :: bss, by rw [List.length_cons, List.length_cons, h3], fun i a' bs' e1 e2 => ?_, ?_⟩
    · cases i with
      | zero =>
        cases e1
        cases e2
        exact h1
      | succ i =>
        rw [List.getElem?_cons_succ] at e1 e2
        exact h4 i a' bs' e1 e2
    · rw [List.flatten_cons, List.flatten_cons]
      exact RowsAt.app h2 h5
theorem flat_le {lists : List (List (List Nat))} (h : ∀ r ∈ lists, r.length ≤ 5) : lists.flatten.length ≤ lists.length * 5 := by
  induction lists with
  | nil => exact Nat.zero_le _
  | cons r rs ih =>
    have h1 := h r List.mem_cons_self
    have h2 := ih fun x hx => h x (List.mem_cons_of_mem _ hx)
    rw [List.flatten_cons, List.length_append, List.length_cons]
    omega
def spLaw (K : PySem.W.Frag) : Sp := fun vs H Q _ => ∃ (s : Addr) (ns : List Int), vs = [.ref s] ∧ SqL K H s (ns.map V.int) ∧ ∀ H', Q (.bl true) H'
section
variable {P : Program} {w : World} {K : PySem.W.Frag} {mg : Str → Option Value} {base : Heap}
abbrev N_law : List Str := ["_law_script", "_law_wishes_here", "_law_single", "_law_whole", "_law_rank", "_law_what", "_law_order", "_law_aim", "_law_there"]
theorem sc_law : FnScope N_law ["_law_script"] (defScope s_law) := ⟨rfl, rfl, rfl, by decide +kernel, rfl, by decide +kernel, by decide +kernel⟩
theorem ok_law {f : Addr} {fd : FuncData} (F : FnP K "law" "law" s_law f fd) (T : Txt K mg) (c_law_alike : Cal P w K mg base "_law_alike" 12 ["_law_wishes_here", "_law_single", "_law_aim"] (spAlike)) (c_law_cut : Cal P w K mg base "_law_cut" 1 ["_law_wishes_here"] (spCut)) (c_law_may : Cal P w K mg base "_law_may" 13 ["_law_wishes_here", "_law_single", "_law_aim"] (spMayL)) (c_law_wishes : Cal P w K mg base "_law_wishes" 2 ["_law_script", "_law_at", "_law_most_things", "_law_most_askers", "_law_most_ranks"] (spLW K)) (c_best_dealing : Cal P w K mg base "best_dealing" 11 ["wishes", "aim"] (spBD)) (c_singled : Cal P w K mg base "singled" 6 ["wishes"] (spSgl)) (c_singled_dealing : Cal P w K mg base "singled_dealing" 6 ["wishes", "dealing"] (spSD)) (c_what_is_wrong : Cal P w K mg base "what_is_wrong" 5 ["wishes", "thing"] (spWrong)) : FnOk P w K mg base CX0 14 f fd ["_law_script"] (spLaw K) := by
  refine F.ok sc_law (fun vs H Q E h => ?_) (fun cdv A outer s H vs Q E hr h => ?_)
  · obtain ⟨s, ns, rfl, _⟩ := h
    rfl
  · have hu := hu_of hr
    have nd := sc_law.nd
    refine ⟨_, PSs.nox (pss_cons (ps_set (i := 1) nd rfl (Or.inr rfl) (pe_call c_law_cut.ok (hr.mono (by decide)) (by rfl) c_law_cut.g c_law_cut.kp c_law_cut.b .nil pass0 (pa_cons (pe_call c_law_wishes.ok (hr.mono (by decide)) (by rfl) c_law_wishes.g c_law_wishes.kp c_law_wishes.b .nil pass0 (pa_cons (pv 0) (pa_cons pe_int (pa_cons pe_int (pa_cons pe_int (pa_cons pe_int pa_nil)))))) pa_nil)))
    (pss_cons (ps_set (i := 2) nd rfl (Or.inl rfl) (pe_call c_singled.ok (hr.mono (by decide)) (by rfl) c_singled.g c_singled.kp c_singled.b .nil pass0 (pa_cons (pv 1) pa_nil)))
    (pss_cons (ps_set (i := 3) nd rfl (Or.inl rfl) pe_bl)
    (pss_cons (ps_for PassesOwn.never rfl (pi_list (pe_callB (cr_sumL rfl) (by rfl) T.sum (by decide +kernel) (pa_cons (pe_ix ix_tup (pv 1) pe_int (fun _ _ => rfl)) (pa_cons (pe_lst pa_nil) pa_nil)))) (pg_name (i := 4) nd rfl (Or.inl rfl))
      (pss_one (ps_set (i := 3) nd rfl (Or.inl rfl) (pe_and (pv 3) (pe_one (pe_cmpR (op_neD hr.units) (pe_lc (own := [("_law_what", 5)]) (g := (gName 5)) (tt := (tTest (tOp _ (tOp (rIxL K) (tOp (rIxT K) (tVar 1) (tC _)) (tVar 5)) (tC _)))) (te := (tVar 5)) (by rfl) nd (pi_list (pv 4)) (blkOk_by (own := [("_law_what", 5)]) (N := N_law) (sc := defScope s_law) (by decide +kernel)) (fun _ _ _ _ _ => (pg_name (i := 5) nd rfl (Or.inl rfl))) (fun _ _ _ _ _ => (pts_one (pt_cmpR op_gt (pe_ix (r := rIxL K) ix_list (pe_ix (r := rIxT K) ix_tup (pv 1) pe_int (fun _ _ => rfl)) (pv 5) (fun _ _ => rfl)) pe_int (nomark _)))) (fun _ _ _ _ _ => (pv 5))) (pe_lst pa_nil) (nomark _)))))))
    (pss_cons (ps_for PassesOwn.never rfl (pi_list (pe_lst (pa_cons pe_str (pa_cons pe_str (pa_cons pe_str pa_nil))))) (pg_name (i := 6) nd rfl (Or.inl rfl))
      (pss_cons (ps_set (i := 7) nd rfl (Or.inl rfl) (pe_tup (pa_cons (pv 6) (pa_cons pe_non (pa_cons (pe_lst pa_nil) pa_nil)))))
      (pss_cons (ps_if (PW.pt (pw_and (pt_val (pv 3)) (pw_and1 (pt_not (pt_val (pe_call c_law_alike.ok (hr.mono (by decide)) (by rfl) c_law_alike.g c_law_alike.kp c_law_alike.b .nil pass0 (pa_cons (pv 1) (pa_cons (pv 2) (pa_cons (pv 7) pa_nil)))))))))
        (pss_one ps_never)
        pss_nil)
      (pss_cons (ps_if (PW.pt (pw_and (pt_val (pv 3)) (pw_and1 (pt_not (pt_val (pe_call c_law_may.ok (hr.mono (by decide)) (by rfl) c_law_may.g c_law_may.kp c_law_may.b .nil pass0 (pa_cons (pv 1) (pa_cons (pv 2) (pa_cons (pv 7) pa_nil)))))))))
        (pss_one ps_never)
        pss_nil)
      (pss_cons (ps_set (i := 8) nd rfl (Or.inl rfl) (pe_call c_singled_dealing.ok (hr.mono (by decide)) (by rfl) c_singled_dealing.g c_singled_dealing.kp c_singled_dealing.b .nil pass0 (pa_cons (pv 1) (pa_cons (pe_ix ix_tup (pe_call c_best_dealing.ok (hr.mono (by decide)) (by rfl) c_best_dealing.g c_best_dealing.kp c_best_dealing.b .nil pass0 (pa_cons (pv 1) (pa_cons (pv 7) pa_nil))) pe_int (fun _ _ => rfl)) pa_nil))))
      (pss_one (ps_if (pt_cmpR op_notN (pe_call c_what_is_wrong.ok (hr.mono (by decide)) (by rfl) c_what_is_wrong.g c_what_is_wrong.kp c_what_is_wrong.b .nil pass0 (pa_cons (pv 2) (pa_cons (pv 8) pa_nil))) pe_non (nomark _))
        (pss_one ps_never)
        pss_nil)))))))
    (pss_one (ps_ret pe_bl))))))), ?_⟩
    obtain ⟨s, ns, rfl, hS, q⟩ := h
    refine ⟨_, rfl, s, ns, rfl, hS, fun H1 p0 w0 s1 hW0 ok0 => ?_⟩
    refine ⟨p0, w0, rfl, hW0, ok0, fun H2 a w s2 hW ok => ?_⟩
    refine ⟨_, rfl, a, w, rfl, hW, ok, fun b H3 hb s3 hJ => ?_⟩
    have hW3 := hW.mono s3
    have okJ := sgl_ok ok
    have l7 := ok.l7
    have n6 := ok.c6
    obtain ⟨c, l, hA, hC, as, hL, hn, hR⟩ := id hW3
    obtain ⟨bss, hbl, hbs, hrows⟩ := rows_all hn hR
    have hfl := flat_le (lists := w.l) fun r hr => (ok.rk r hr).len
    refine ⟨_, rfl, a, _, 1, _, rfl, rfl, SqT.of hA, rfl, Nat.zero_le _, fun o1 ho1 => ?_⟩
    have s4 : Same H3 (upd H3 o1 (.lst [])) := same_new ho1
    have efl : (bss.map fun bs => bs.map V.ref).flatten = bss.flatten.map V.ref := by rw [List.map_flatten]
    refine ⟨l, o1, as, bss.map fun bs => bs.map V.ref, rfl, SqL.of (s4 _ _ hL), upd_same, by rw [List.length_map]; exact hbl, fun i p xs e1 e2 => ?_, ?_, fun h0 => ?_, fun p hp => ?_⟩
    · obtain ⟨bs, e3, rfl⟩ := get_map e2
      exact s4 _ _ (hbs i p bs e1 e3)
    · rw [efl, List.length_map, hrows.1]
      exact sz100 (by omega)
    · rw [List.map_eq_nil_iff] at h0
      rw [h0] at hbl
      have := ok.l1
      rw [hn] at hbl
      rw [hbl] at this
      exact absurd this (by decide)
    rw [efl]
    have s5 := s4.trans (same_new (o := .lst (bss.flatten.map V.ref)) hp)
    have hp5 : upd (upd H3 o1 (.lst [])) p (.lst (bss.flatten.map V.ref)) p = some (.lst (bss.flatten.map V.ref)) := upd_same
    generalize upd (upd H3 o1 (.lst [])) p (.lst (bss.flatten.map V.ref)) = H5 at s5 hp5
    have hA5 := s5 _ _ hA
    have hC5 := s5 _ _ hC
    have hrows5 : RowsAt H5 bss.flatten w.l.flatten := ⟨hrows.1, fun i a r e1 e2 => s5 _ _ (hrows.2 i a r e1 e2)⟩
    refine ⟨p, rfl, ⟨_, SqL.of hp5⟩, for_list (xs := bss.flatten.map V.ref) (fun j σ H' => ∃ wh v4 v5 v6 v7 v8, σ = [some (.ref s), some (.ref a), some (.ref b), some (.bl wh), v4, v5, v6, v7, v8] ∧ Same H5 H' ∧ (wh = true → ∀ row ∈ w.l.flatten.take j, ∃ t ∈ row, 0 < w.c.getD t 0))
      ⟨true, _, _, _, _, _, rfl, Same.refl _, fun _ row hr => by simp at hr⟩ (fun i σ H' _ ⟨_, _, _, _, _, _, _, sm, _⟩ => SqL.of (sm _ _ hp5)) ?_ ?_⟩
    · rintro j y σ H6 hy ⟨wh, v4, v5, v6, v7, v8, rfl, s6, hwh⟩
      obtain ⟨ra, hra, rfl⟩ := get_map hy
      have hj : j < w.l.flatten.length := by rw [← hrows5.1]; exact lt_of_get hra
      have hrj := List.getElem?_eq_getElem hj
      generalize w.l.flatten[j] = row at hrj
      have hrow := hrows5.2 j ra row hra hrj
      obtain ⟨r0, hr0, hrr⟩ := List.mem_flatten.mp (List.mem_of_getElem? hrj)
      have rk := ok.rk r0 hr0
      refine ⟨_, rfl, wh, rfl, ?_⟩
      cases wh with
      | false => exact ifF rfl ⟨false, _, _, _, _, _, rfl, s6, fun z => by cases z⟩
      | true =>
        refine ifT rfl ⟨_, rfl, ra, rfl, ⟨_, SqL.of (s6 _ _ hrow)⟩, fun D hD => ?_⟩
        refine lc_list (xs := row.map nV) (fun i H' => Same H6 H' ∧ H' D = some (.lst (((row.take i).filter fun t => decide (0 < w.c.getD t 0)).map nV))) ⟨same_new hD, upd_same⟩ (fun i H' _ ⟨sm, _⟩ => SqL.of (sm _ _ (s6 _ _ hrow))) ?_ ?_
        · rintro i y H7 hy ⟨s7, hL7⟩
          obtain ⟨t, ht, rfl⟩ := get_nV hy
          have hi := lt_of_get ht
          have htn := rk.lt row hrr t (List.mem_of_getElem? ht)
          have hct : w.c[t]? = some (w.c.getD t 0) := by
            rw [List.getD_eq_getElem?_getD, List.getElem?_eq_getElem htn]
            rfl
          have hle := List.length_filter_le (fun t => decide (0 < w.c.getD t 0)) (row.take i)
          have hrl : row.length ≤ 6 := by
            have h1 := rk.flen
            have h2 : row.length ≤ r0.flatten.length := by
              obtain ⟨l1, l2, e⟩ := List.append_of_mem hrr
              rw [e, List.flatten_append, List.flatten_cons, List.length_append, List.length_append]
              omega
            omega
          rw [List.length_take] at hle
          have s57 := s6.trans s7
          refine ⟨rfl, _, rfl, a, _, 0, _, rfl, rfl, SqT.of (s57 _ _ hA5), rfl, _, rfl, c, _, (t : Int), _, rfl, rfl, SqL.of (s57 _ _ hC5), at_nat nV hct, _, _, rfl, rfl, _, rfl, if2 (fun h => ?_) fun h => ?_⟩
          · have hc := of_decide_eq_true h
            refine ⟨_, rfl, _, hL7, ?_, same_mut s7 hD, ?_⟩
            · rw [List.length_map]
              exact sl100 (by omega)
            · rw [upd_same, take_snoc ht, List.filter_append, List.filter_cons, if_pos (decide_eq_true (show 0 < w.c.getD t 0 by omega)), List.map_append]
              rfl
          · have hc := of_decide_eq_false h
            refine ⟨s7, ?_⟩
            rw [take_snoc ht, List.filter_append, List.filter_cons, if_neg (by rw [decide_eq_false (show ¬ 0 < w.c.getD t 0 by omega)]; decide), List.filter_nil, List.append_nil]
            exact hL7
        rintro H7 ⟨s7, hL7⟩
        rw [List.length_map, List.take_length] at hL7
        refine ⟨Nat.zero_le _, fun z hz => neN_nil ((same_new hz) _ _ hL7) upd_same ⟨_, _, _, _, _, _, rfl, s6.trans (s7.trans (same_new hz)), fun hb rw1 hr1 => ?_⟩⟩
        rw [take_snoc hrj] at hr1
        rcases List.mem_append.mp hr1 with m | m
        · exact hwh rfl rw1 m
        · rw [List.mem_singleton] at m
          rw [m]
          cases e : row.filter (fun t => decide (0 < w.c.getD t 0)) with
          | nil =>
            rw [e] at hb
            cases hb
          | cons t r =>
            have hm : t ∈ row.filter (fun t => decide (0 < w.c.getD t 0)) := by rw [e]; exact List.mem_cons_self
            obtain ⟨h1, h2⟩ := List.mem_filter.mp hm
            exact ⟨t, h1, of_decide_eq_true h2⟩
    rintro σ H6 ⟨wh, v4, v5, v6, v7, v8, rfl, s6, hwh⟩
    rw [List.length_map, hrows5.1, List.take_length] at hwh
    have hwhole : wh = true → Whole w := fun h r hr row hrow => hwh h row (List.mem_flatten.mpr ⟨r, hr, hrow⟩)
    have s36 := s5.trans s6
    have hW6 := hW3.mono s36
    have hJ6 := hJ.mono s36
    -- the orders
    refine ⟨by show 3 ≤ sizeLine; decide, fun ol hol => ?_⟩
    have s7 : Same H6 (upd H6 ol (.lst [.str "firsts", .str "full", .str "lasts"])) := same_new hol
    refine ⟨ol, rfl, ⟨_, SqL.of upd_same⟩, for_list (xs := [.str "firsts", .str "full", .str "lasts"]) (fun i σ H' => ∃ v4 v5 v6 v7 v8, σ = [some (.ref s), some (.ref a), some (.ref b), some (.bl wh), v4, v5, v6, v7, v8] ∧ Same (upd H6 ol (.lst [.str "firsts", .str "full", .str "lasts"])) H')
      ⟨_, _, _, _, _, rfl, Same.refl _⟩ (fun i σ H' _ ⟨_, _, _, _, _, _, sm⟩ => SqL.of (sm _ _ upd_same)) ?_ ?_⟩
    · rintro i y σ H8 hy ⟨v4, v5, v6, v7, v8, rfl, s8⟩
      have ey : y = .str (ordS i) := by
        match i, hy with
        | 0, h => exact (Option.some.inj h).symm
        | 1, h => exact (Option.some.inj h).symm
        | 2, h => exact (Option.some.inj h).symm
      subst ey
      refine ⟨_, rfl, Nat.zero_le _, fun tl htl => ⟨by show 3 ≤ sizeLine; decide, fun TT hTT => ?_⟩⟩
      have t1 : Same H8 (upd H8 tl (.lst [])) := same_new htl
      have t1a : upd H8 tl (.lst []) tl = some (.lst []) := upd_same
      have hTT' : upd H8 tl (.lst []) TT = Option.none := hTT
      have t2 : Same (upd H8 tl (.lst [])) (upd (upd H8 tl (.lst [])) TT (.tup [.str (ordS i), .non, .ref tl])) := same_new hTT'
      have hA9 : AimAt (upd (upd H8 tl (.lst [])) TT (.tup [.str (ordS i), .non, .ref tl])) TT i := ⟨tl, upd_same, t2 _ _ t1a⟩
      have sm9 := s8.trans (t1.trans t2)
      have hW9 := hW6.mono (s7.trans sm9)
      have hJ9 := hJ6.mono (s7.trans sm9)
      generalize upd (upd H8 tl (.lst [])) TT (.tup [.str (ordS i), .non, .ref tl]) = H9 at hA9 sm9 hW9 hJ9
      refine ⟨_, rfl, wh, rfl, ?_⟩
      cases wh with
      | true =>
        refine ifT rfl ⟨_, rfl, _, rfl, _, rfl, a, b, TT, w, i, rfl, hW9, hJ9, ok, hwhole rfl, hA9, fun HA sA => ⟨true, rfl, ifF rfl ?_⟩⟩
        refine ⟨_, rfl, true, rfl, ifT rfl ⟨_, rfl, _, rfl, _, rfl, a, b, TT, w, i, rfl, hW9.mono sA, hJ9.mono sA, ok, hwhole rfl, hA9.mono sA, fun HB sB => ⟨true, rfl, ifF rfl ?_⟩⟩⟩
        have sAB := sA.trans sB
        have hWx := hW9.mono sAB
        have hJx := hJ9.mono sAB
        have hAx := hA9.mono sAB
        have smx := sm9.trans sAB
        refine ⟨_, rfl, _, rfl, _, rfl, a, TT, w, i, ok.toOk, rfl, hWx, hAx, fun H6 T1 dl pp as' ps d U Pl hT0 hdl0 s6 hT1 hpp hdl has hps el eU eP hdu => ?_⟩
        have hd : DealL w d := deal_of ok.toOk (Dual.deal (I := insW w i ok.toOk) hdu) el
        refine ⟨T1, _, 0, _, rfl, rfl, SqT.of hT1, rfl, a, dl, w, d, rfl, hWx.mono s6, ok, hdl, by omega, fun t ht => hd.co t (hd.tlt ok.toOk ht), fun p5 H7 hp5 s7 hP5 => ?_⟩
        refine ⟨_, rfl, _, rfl, b, p5, sgl w, sglD w.c d, rfl, hJx.mono (s6.trans s7), okJ, hP5, sglD_deal ok hd, fun H8 s8 => ⟨rfl, _, rfl, ifF rfl ⟨_, _, _, _, _, rfl, smx.trans (s6.trans (s7.trans s8))⟩⟩⟩
      | false =>
        refine ifF rfl (ifF rfl ⟨_, rfl, false, rfl, ifF rfl (ifF rfl ?_)⟩)
        have hWx := hW9
        have hJx := hJ9
        have hAx := hA9
        have smx := sm9
        refine ⟨_, rfl, _, rfl, _, rfl, a, TT, w, i, ok.toOk, rfl, hWx, hAx, fun H6 T1 dl pp as' ps d U Pl hT0 hdl0 s6 hT1 hpp hdl has hps el eU eP hdu => ?_⟩
        have hd : DealL w d := deal_of ok.toOk (Dual.deal (I := insW w i ok.toOk) hdu) el
        refine ⟨T1, _, 0, _, rfl, rfl, SqT.of hT1, rfl, a, dl, w, d, rfl, hWx.mono s6, ok, hdl, by omega, fun t ht => hd.co t (hd.tlt ok.toOk ht), fun p5 H7 hp5 s7 hP5 => ?_⟩
        refine ⟨_, rfl, _, rfl, b, p5, sgl w, sglD w.c d, rfl, hJx.mono (s6.trans s7), okJ, hP5, sglD_deal ok hd, fun H8 s8 => ⟨rfl, _, rfl, ifF rfl ⟨_, _, _, _, _, rfl, smx.trans (s6.trans (s7.trans s8))⟩⟩⟩
    · rintro σ H8 ⟨v4, v5, v6, v7, v8, rfl, s8⟩
      exact q H8
end
end Wd
namespace Wd
open PySem PySem.Spec PyProof.Rows L2
/-! ### all together -/
section
variable {P : Program} {w : World} {K : PySem.W.Frag} {mg : Str → Option Value} {h base : Heap}
theorem txt_ok (X : K.In h) (G : h.Ns mainGlobals mg) (c : He.SaysD fa fn K) : Txt K mg := ⟨He.free_ok X G (c.fact 52 (f := .free "all") rfl),
  He.free_ok X G (c.fact 53 (f := .free "bool") rfl),
  He.free_ok X G (c.fact 54 (f := .free "enumerate") rfl),
  He.free_ok X G (c.fact 55 (f := .free "int") rfl),
  He.free_ok X G (c.fact 56 (f := .free "isinstance") rfl),
  He.free_ok X G (c.fact 57 (f := .free "len") rfl),
  He.free_ok X G (c.fact 58 (f := .free "list") rfl),
  He.free_ok X G (c.fact 59 (f := .free "max") rfl),
  He.free_ok X G (c.fact 60 (f := .free "min") rfl),
  He.free_ok X G (c.fact 61 (f := .free "range") rfl),
  He.free_ok X G (c.fact 62 (f := .free "set") rfl),
  He.free_ok X G (c.fact 63 (f := .free "sorted") rfl),
  He.free_ok X G (c.fact 64 (f := .free "str") rfl),
  He.free_ok X G (c.fact 65 (f := .free "sum") rfl),
  He.free_ok X G (c.fact 66 (f := .free "tuple") rfl),
  He.int_ok X G (c.fact 67 (f := .int "MOST_THINGS_wishes" 6) rfl),
  He.int_ok X G (c.fact 68 (f := .int "MOST_COPIES" 7) rfl),
  He.int_ok X G (c.fact 69 (f := .int "MOST_ASKERS" 7) rfl),
  He.int_ok X G (c.fact 70 (f := .int "MOST_RANKS" 5) rfl),
  He.int_ok X G (c.fact 71 (f := .int "MOST_THINGS_singles" 6) rfl),
  He.cls_ok (c.fact 72 (f := .cls "Scale") rfl),
  He.glo_ok X G (c.fact 49 (f := .glo "Scale") rfl),
  He.mkr_ok (c.fact 73 (f := .mkr "Scale") rfl),
  He.noat_ok (c.fact 74 (f := .noat "Scale" "order") rfl),
  He.noat_ok (c.fact 75 (f := .noat "Scale" "old") rfl),
  He.noat_ok (c.fact 76 (f := .noat "Scale" "turns") rfl),
  He.noat_ok (c.fact 77 (f := .noat "Scale" "base") rfl),
  He.noat_ok (c.fact 78 (f := .noat "Scale" "ranks") rfl),
  He.noat_ok (c.fact 79 (f := .noat "Scale" "steps") rfl),
  He.noat_ok (c.fact 80 (f := .noat "Scale" "picks") rfl),
  He.meth_ok (c.fact 81 (f := .meth "Scale" "by_order") rfl),
  He.meth_ok (c.fact 82 (f := .meth "Scale" "pick_of") rfl),
  He.meth_ok (c.fact 83 (f := .meth "Scale" "of") rfl),
  He.cls_ok (c.fact 84 (f := .cls "Reach") rfl),
  He.glo_ok X G (c.fact 50 (f := .glo "Reach") rfl),
  He.mkr_ok (c.fact 85 (f := .mkr "Reach") rfl),
  He.noat_ok (c.fact 86 (f := .noat "Reach" "rows") rfl),
  He.noat_ok (c.fact 87 (f := .noat "Reach" "dealt") rfl),
  He.noat_ok (c.fact 88 (f := .noat "Reach" "start") rfl),
  He.noat_ok (c.fact 89 (f := .noat "Reach" "freed") rfl),
  He.noat_ok (c.fact 90 (f := .noat "Reach" "taken") rfl),
  He.noat_ok (c.fact 91 (f := .noat "Reach" "takers") rfl),
  He.meth_ok (c.fact 92 (f := .meth "Reach" "to_things") rfl),
  He.meth_ok (c.fact 93 (f := .meth "Reach" "to_askers") rfl),
  He.meth_ok (c.fact 94 (f := .meth "Reach" "go_on") rfl),
  He.meth_ok (c.fact 95 (f := .meth "Reach" "end_by") rfl),
  He.meth_ok (c.fact 96 (f := .meth "Reach" "way_to") rfl),
  He.cls_ok (c.fact 97 (f := .cls "Prices") rfl),
  He.glo_ok X G (c.fact 51 (f := .glo "Prices") rfl),
  He.mkr_ok (c.fact 98 (f := .mkr "Prices") rfl),
  He.noat_ok (c.fact 99 (f := .noat "Prices" "rows") rfl),
  He.noat_ok (c.fact 100 (f := .noat "Prices" "dealt") rfl),
  He.noat_ok (c.fact 101 (f := .noat "Prices" "left") rfl),
  He.noat_ok (c.fact 102 (f := .noat "Prices" "prices") rfl),
  He.noat_ok (c.fact 103 (f := .noat "Prices" "raisers") rfl),
  He.meth_ok (c.fact 104 (f := .meth "Prices" "rest") rfl),
  He.meth_ok (c.fact 105 (f := .meth "Prices" "chain") rfl),
  He.meth_ok (c.fact 106 (f := .meth "Prices" "way_by") rfl),
  He.meth_ok (c.fact 107 (f := .meth "Prices" "raised_by") rfl),
  He.meth_ok (c.fact 108 (f := .meth "Prices" "settle") rfl),
  He.meth_ok (c.fact 109 (f := .meth "Prices" "told") rfl)⟩
theorem fn_is_whole (c : He.SaysD fa fn K) : ∃ fd, FnP K "is_whole" "is_whole" s_is_whole (He.ga K "is_whole") fd := c.def_ 0 (d := d_is_whole) rfl
theorem bn_is_whole {f : Addr} {fd : FuncData} (F : FnP K "is_whole" "is_whole" s_is_whole f fd) : Binds K fd ["thing"] [] := F.bindsN fun _ _ _ _ _ _ us hl => match us, hl with | [_], _ => rfl
theorem fn_need_row (c : He.SaysD fa fn K) : ∃ fd, FnP K "need_row" "need_row" s_need_row (He.ga K "need_row") fd := c.def_ 1 (d := d_need_row) rfl
theorem bn_need_row {f : Addr} {fd : FuncData} (F : FnP K "need_row" "need_row" s_need_row f fd) : Binds K fd ["part", "thing", "most"] [] := F.bindsN fun _ _ _ _ _ _ us hl => match us, hl with | [_, _, _], _ => rfl
theorem fn_is_many (c : He.SaysD fa fn K) : ∃ fd, FnP K "is_many" "is_many" s_is_many (He.ga K "is_many") fd := c.def_ 2 (d := d_is_many) rfl
theorem bn_is_many {f : Addr} {fd : FuncData} (F : FnP K "is_many" "is_many" s_is_many f fd) : Binds K fd ["thing"] [] := F.bindsN fun _ _ _ _ _ _ us hl => match us, hl with | [_], _ => rfl
theorem fn_is_thing (c : He.SaysD fa fn K) : ∃ fd, FnP K "is_thing" "is_thing" s_is_thing (He.ga K "is_thing") fd := c.def_ 3 (d := d_is_thing) rfl
theorem bn_is_thing {f : Addr} {fd : FuncData} (F : FnP K "is_thing" "is_thing" s_is_thing f fd) : Binds K fd ["thing", "many"] [] := F.bindsN fun _ _ _ _ _ _ us hl => match us, hl with | [_, _], _ => rfl
theorem fn_are_ranks (c : He.SaysD fa fn K) : ∃ fd, FnP K "are_ranks" "are_ranks" s_are_ranks (He.ga K "are_ranks") fd := c.def_ 4 (d := d_are_ranks) rfl
theorem bn_are_ranks {f : Addr} {fd : FuncData} (F : FnP K "are_ranks" "are_ranks" s_are_ranks f fd) : Binds K fd ["thing", "many"] [] := F.bindsN fun _ _ _ _ _ _ us hl => match us, hl with | [_, _], _ => rfl
theorem fn_look_at_wishes (c : He.SaysD fa fn K) : ∃ fd, FnP K "look_at_wishes" "look_at_wishes" s_look_at_wishes (He.ga K "look_at_wishes") fd := c.def_ 5 (d := d_look_at_wishes) rfl
theorem bn_look_at_wishes {f : Addr} {fd : FuncData} (F : FnP K "look_at_wishes" "look_at_wishes" s_look_at_wishes f fd) : Binds K fd ["thing"] [] := F.bindsN fun _ _ _ _ _ _ us hl => match us, hl with | [_], _ => rfl
theorem fn_longest (c : He.SaysD fa fn K) : ∃ fd, FnP K "longest" "longest" s_longest (He.ga K "longest") fd := c.def_ 6 (d := d_longest) rfl
theorem bn_longest {f : Addr} {fd : FuncData} (F : FnP K "longest" "longest" s_longest f fd) : Binds K fd ["wishes"] [] := F.bindsN fun _ _ _ _ _ _ us hl => match us, hl with | [_], _ => rfl
theorem fn_look_at_singles (c : He.SaysD fa fn K) : ∃ fd, FnP K "look_at_singles" "look_at_singles" s_look_at_singles (He.ga K "look_at_singles") fd := c.def_ 7 (d := d_look_at_singles) rfl
theorem bn_look_at_singles {f : Addr} {fd : FuncData} (F : FnP K "look_at_singles" "look_at_singles" s_look_at_singles f fd) : Binds K fd ["wishes"] [] := F.bindsN fun _ _ _ _ _ _ us hl => match us, hl with | [_], _ => rfl
theorem fn_numbers_of (c : He.SaysD fa fn K) : ∃ fd, FnP K "numbers_of" "numbers_of" s_numbers_of (He.ga K "numbers_of") fd := c.def_ 8 (d := d_numbers_of) rfl
theorem bn_numbers_of {f : Addr} {fd : FuncData} (F : FnP K "numbers_of" "numbers_of" s_numbers_of f fd) : Binds K fd ["copies"] [] := F.bindsN fun _ _ _ _ _ _ us hl => match us, hl with | [_], _ => rfl
theorem fn_singled (c : He.SaysD fa fn K) : ∃ fd, FnP K "singled" "singled" s_singled (He.ga K "singled") fd := c.def_ 9 (d := d_singled) rfl
theorem bn_singled {f : Addr} {fd : FuncData} (F : FnP K "singled" "singled" s_singled f fd) : Binds K fd ["wishes"] [] := F.bindsN fun _ _ _ _ _ _ us hl => match us, hl with | [_], _ => rfl
theorem fn_singled_dealing (c : He.SaysD fa fn K) : ∃ fd, FnP K "singled_dealing" "singled_dealing" s_singled_dealing (He.ga K "singled_dealing") fd := c.def_ 10 (d := d_singled_dealing) rfl
theorem bn_singled_dealing {f : Addr} {fd : FuncData} (F : FnP K "singled_dealing" "singled_dealing" s_singled_dealing f fd) : Binds K fd ["wishes", "dealing"] [] := F.bindsN fun _ _ _ _ _ _ us hl => match us, hl with | [_, _], _ => rfl
theorem fn_whole_dealing (c : He.SaysD fa fn K) : ∃ fd, FnP K "whole_dealing" "whole_dealing" s_whole_dealing (He.ga K "whole_dealing") fd := c.def_ 11 (d := d_whole_dealing) rfl
theorem bn_whole_dealing {f : Addr} {fd : FuncData} (F : FnP K "whole_dealing" "whole_dealing" s_whole_dealing f fd) : Binds K fd ["wishes", "dealing"] [] := F.bindsN fun _ _ _ _ _ _ us hl => match us, hl with | [_, _], _ => rfl
theorem fn_is_row_of (c : He.SaysD fa fn K) : ∃ fd, FnP K "is_row_of" "is_row_of" s_is_row_of (He.ga K "is_row_of") fd := c.def_ 12 (d := d_is_row_of) rfl
theorem bn_is_row_of {f : Addr} {fd : FuncData} (F : FnP K "is_row_of" "is_row_of" s_is_row_of f fd) : Binds K fd ["thing", "many"] [] := F.bindsN fun _ _ _ _ _ _ us hl => match us, hl with | [_, _], _ => rfl
theorem fn_rank_among (c : He.SaysD fa fn K) : ∃ fd, FnP K "rank_among" "rank_among" s_rank_among (He.ga K "rank_among") fd := c.def_ 13 (d := d_rank_among) rfl
theorem bn_rank_among {f : Addr} {fd : FuncData} (F : FnP K "rank_among" "rank_among" s_rank_among f fd) : Binds K fd ["ranks", "thing"] [] := F.bindsN fun _ _ _ _ _ _ us hl => match us, hl with | [_, _], _ => rfl
theorem fn_what_is_wrong (c : He.SaysD fa fn K) : ∃ fd, FnP K "what_is_wrong" "what_is_wrong" s_what_is_wrong (He.ga K "what_is_wrong") fd := c.def_ 14 (d := d_what_is_wrong) rfl
theorem bn_what_is_wrong {f : Addr} {fd : FuncData} (F : FnP K "what_is_wrong" "what_is_wrong" s_what_is_wrong f fd) : Binds K fd ["wishes", "thing"] [] := F.bindsN fun _ _ _ _ _ _ us hl => match us, hl with | [_, _], _ => rfl
theorem fn_counts_of (c : He.SaysD fa fn K) : ∃ fd, FnP K "counts_of" "counts_of" s_counts_of (He.ga K "counts_of") fd := c.def_ 15 (d := d_counts_of) rfl
theorem bn_counts_of {f : Addr} {fd : FuncData} (F : FnP K "counts_of" "counts_of" s_counts_of f fd) : Binds K fd ["wishes", "dealing"] [] := F.bindsN fun _ _ _ _ _ _ us hl => match us, hl with | [_, _], _ => rfl
theorem fn_copies_left (c : He.SaysD fa fn K) : ∃ fd, FnP K "copies_left" "copies_left" s_copies_left (He.ga K "copies_left") fd := c.def_ 16 (d := d_copies_left) rfl
theorem bn_copies_left {f : Addr} {fd : FuncData} (F : FnP K "copies_left" "copies_left" s_copies_left f fd) : Binds K fd ["wishes", "dealing"] [] := F.bindsN fun _ _ _ _ _ _ us hl => match us, hl with | [_, _], _ => rfl
theorem fn_is_order (c : He.SaysD fa fn K) : ∃ fd, FnP K "is_order" "is_order" s_is_order (He.ga K "is_order") fd := c.def_ 17 (d := d_is_order) rfl
theorem bn_is_order {f : Addr} {fd : FuncData} (F : FnP K "is_order" "is_order" s_is_order f fd) : Binds K fd ["thing"] [] := F.bindsN fun _ _ _ _ _ _ us hl => match us, hl with | [_], _ => rfl
theorem fn_is_old (c : He.SaysD fa fn K) : ∃ fd, FnP K "is_old" "is_old" s_is_old (He.ga K "is_old") fd := c.def_ 18 (d := d_is_old) rfl
theorem bn_is_old {f : Addr} {fd : FuncData} (F : FnP K "is_old" "is_old" s_is_old f fd) : Binds K fd ["wishes", "thing"] [] := F.bindsN fun _ _ _ _ _ _ us hl => match us, hl with | [_, _], _ => rfl
theorem fn_are_turns (c : He.SaysD fa fn K) : ∃ fd, FnP K "are_turns" "are_turns" s_are_turns (He.ga K "are_turns") fd := c.def_ 19 (d := d_are_turns) rfl
theorem bn_are_turns {f : Addr} {fd : FuncData} (F : FnP K "are_turns" "are_turns" s_are_turns f fd) : Binds K fd ["wishes", "thing"] [] := F.bindsN fun _ _ _ _ _ _ us hl => match us, hl with | [_, _], _ => rfl
theorem fn_fault_of (c : He.SaysD fa fn K) : ∃ fd, FnP K "fault_of" "fault_of" s_fault_of (He.ga K "fault_of") fd := c.def_ 20 (d := d_fault_of) rfl
theorem bn_fault_of {f : Addr} {fd : FuncData} (F : FnP K "fault_of" "fault_of" s_fault_of f fd) : Binds K fd ["wishes", "thing"] [] := F.bindsN fun _ _ _ _ _ _ us hl => match us, hl with | [_, _], _ => rfl
theorem fn_look_at_aim (c : He.SaysD fa fn K) : ∃ fd, FnP K "look_at_aim" "look_at_aim" s_look_at_aim (He.ga K "look_at_aim") fd := c.def_ 21 (d := d_look_at_aim) rfl
theorem bn_look_at_aim {f : Addr} {fd : FuncData} (F : FnP K "look_at_aim" "look_at_aim" s_look_at_aim f fd) : Binds K fd ["wishes", "thing"] [] := F.bindsN fun _ _ _ _ _ _ us hl => match us, hl with | [_, _], _ => rfl
theorem fn_powers_of (c : He.SaysD fa fn K) : ∃ fd, FnP K "powers_of" "powers_of" s_powers_of (He.ga K "powers_of") fd := c.def_ 22 (d := d_powers_of) rfl
theorem bn_powers_of {f : Addr} {fd : FuncData} (F : FnP K "powers_of" "powers_of" s_powers_of f fd) : Binds K fd ["base", "most"] [] := F.bindsN fun _ _ _ _ _ _ us hl => match us, hl with | [_, _], _ => rfl
theorem fn_Scale_init (c : He.SaysD fa fn K) : ∃ fd, FnP K "__init__" "Scale.__init__" s_Scale_init (He.ma K (He.ga K "Scale") "__init__") fd := c.def_ 23 (d := d_Scale_init) rfl
theorem bn_Scale_init {f : Addr} {fd : FuncData} (F : FnP K "__init__" "Scale.__init__" s_Scale_init f fd) : Binds K fd ["self", "wishes", "aim"] [] := F.bindsN fun _ _ _ _ _ _ us hl => match us, hl with | [_, _, _], _ => rfl
theorem fn_Scale_by_order (c : He.SaysD fa fn K) : ∃ fd, FnP K "by_order" "Scale.by_order" s_Scale_by_order (He.ma K (He.ga K "Scale") "by_order") fd := c.def_ 24 (d := d_Scale_by_order) rfl
theorem bn_Scale_by_order {f : Addr} {fd : FuncData} (F : FnP K "by_order" "Scale.by_order" s_Scale_by_order f fd) : Binds K fd ["self", "rank"] [] := F.bindsN fun _ _ _ _ _ _ us hl => match us, hl with | [_, _], _ => rfl
theorem fn_Scale_pick_of (c : He.SaysD fa fn K) : ∃ fd, FnP K "pick_of" "Scale.pick_of" s_Scale_pick_of (He.ma K (He.ga K "Scale") "pick_of") fd := c.def_ 25 (d := d_Scale_pick_of) rfl
theorem bn_Scale_pick_of {f : Addr} {fd : FuncData} (F : FnP K "pick_of" "Scale.pick_of" s_Scale_pick_of f fd) : Binds K fd ["self", "asker", "rank"] [] := F.bindsN fun _ _ _ _ _ _ us hl => match us, hl with | [_, _, _], _ => rfl
theorem fn_Scale_of (c : He.SaysD fa fn K) : ∃ fd, FnP K "of" "Scale.of" s_Scale_of (He.ma K (He.ga K "Scale") "of") fd := c.def_ 26 (d := d_Scale_of) rfl
theorem bn_Scale_of {f : Addr} {fd : FuncData} (F : FnP K "of" "Scale.of" s_Scale_of f fd) : Binds K fd ["self", "asker", "thing", "rank"] [] := F.bindsN fun _ _ _ _ _ _ us hl => match us, hl with | [_, _, _, _], _ => rfl
theorem fn_worths_of (c : He.SaysD fa fn K) : ∃ fd, FnP K "worths_of" "worths_of" s_worths_of (He.ga K "worths_of") fd := c.def_ 27 (d := d_worths_of) rfl
theorem bn_worths_of {f : Addr} {fd : FuncData} (F : FnP K "worths_of" "worths_of" s_worths_of f fd) : Binds K fd ["scale", "asker", "ranks"] [] := F.bindsN fun _ _ _ _ _ _ us hl => match us, hl with | [_, _, _], _ => rfl
theorem fn_all_worths (c : He.SaysD fa fn K) : ∃ fd, FnP K "all_worths" "all_worths" s_all_worths (He.ga K "all_worths") fd := c.def_ 28 (d := d_all_worths) rfl
theorem bn_all_worths {f : Addr} {fd : FuncData} (F : FnP K "all_worths" "all_worths" s_all_worths f fd) : Binds K fd ["wishes", "aim"] [] := F.bindsN fun _ _ _ _ _ _ us hl => match us, hl with | [_, _], _ => rfl
theorem fn_worth_of (c : He.SaysD fa fn K) : ∃ fd, FnP K "worth_of" "worth_of" s_worth_of (He.ga K "worth_of") fd := c.def_ 29 (d := d_worth_of) rfl
theorem bn_worth_of {f : Addr} {fd : FuncData} (F : FnP K "worth_of" "worth_of" s_worth_of f fd) : Binds K fd ["wishes", "aim", "dealing"] [] := F.bindsN fun _ _ _ _ _ _ us hl => match us, hl with | [_, _, _], _ => rfl
theorem fn_rows_by (c : He.SaysD fa fn K) : ∃ fd, FnP K "rows_by" "rows_by" s_rows_by (He.ga K "rows_by") fd := c.def_ 30 (d := d_rows_by) rfl
theorem bn_rows_by {f : Addr} {fd : FuncData} (F : FnP K "rows_by" "rows_by" s_rows_by f fd) : Binds K fd ["wishes", "aim"] [] := F.bindsN fun _ _ _ _ _ _ us hl => match us, hl with | [_, _], _ => rfl
theorem fn_left_by (c : He.SaysD fa fn K) : ∃ fd, FnP K "left_by" "left_by" s_left_by (He.ga K "left_by") fd := c.def_ 31 (d := d_left_by) rfl
theorem bn_left_by {f : Addr} {fd : FuncData} (F : FnP K "left_by" "left_by" s_left_by f fd) : Binds K fd ["copies", "dealt"] [] := F.bindsN fun _ _ _ _ _ _ us hl => match us, hl with | [_, _], _ => rfl
theorem fn_Reach_init (c : He.SaysD fa fn K) : ∃ fd, FnP K "__init__" "Reach.__init__" s_Reach_init (He.ma K (He.ga K "Reach") "__init__") fd := c.def_ 32 (d := d_Reach_init) rfl
theorem bn_Reach_init {f : Addr} {fd : FuncData} (F : FnP K "__init__" "Reach.__init__" s_Reach_init f fd) : Binds K fd ["self", "rows", "dealt", "start"] [] := F.bindsN fun _ _ _ _ _ _ us hl => match us, hl with | [_, _, _, _], _ => rfl
theorem fn_Reach_to_things (c : He.SaysD fa fn K) : ∃ fd, FnP K "to_things" "Reach.to_things" s_Reach_to_things (He.ma K (He.ga K "Reach") "to_things") fd := c.def_ 33 (d := d_Reach_to_things) rfl
theorem bn_Reach_to_things {f : Addr} {fd : FuncData} (F : FnP K "to_things" "Reach.to_things" s_Reach_to_things f fd) : Binds K fd ["self"] [] := F.bindsN fun _ _ _ _ _ _ us hl => match us, hl with | [_], _ => rfl
theorem fn_Reach_to_askers (c : He.SaysD fa fn K) : ∃ fd, FnP K "to_askers" "Reach.to_askers" s_Reach_to_askers (He.ma K (He.ga K "Reach") "to_askers") fd := c.def_ 34 (d := d_Reach_to_askers) rfl
theorem bn_Reach_to_askers {f : Addr} {fd : FuncData} (F : FnP K "to_askers" "Reach.to_askers" s_Reach_to_askers f fd) : Binds K fd ["self"] [] := F.bindsN fun _ _ _ _ _ _ us hl => match us, hl with | [_], _ => rfl
theorem fn_Reach_go_on (c : He.SaysD fa fn K) : ∃ fd, FnP K "go_on" "Reach.go_on" s_Reach_go_on (He.ma K (He.ga K "Reach") "go_on") fd := c.def_ 35 (d := d_Reach_go_on) rfl
theorem bn_Reach_go_on {f : Addr} {fd : FuncData} (F : FnP K "go_on" "Reach.go_on" s_Reach_go_on f fd) : Binds K fd ["self"] [] := F.bindsN fun _ _ _ _ _ _ us hl => match us, hl with | [_], _ => rfl
theorem fn_Reach_end_by (c : He.SaysD fa fn K) : ∃ fd, FnP K "end_by" "Reach.end_by" s_Reach_end_by (He.ma K (He.ga K "Reach") "end_by") fd := c.def_ 36 (d := d_Reach_end_by) rfl
theorem bn_Reach_end_by {f : Addr} {fd : FuncData} (F : FnP K "end_by" "Reach.end_by" s_Reach_end_by f fd) : Binds K fd ["self", "left"] [] := F.bindsN fun _ _ _ _ _ _ us hl => match us, hl with | [_, _], _ => rfl
theorem fn_Reach_way_to (c : He.SaysD fa fn K) : ∃ fd, FnP K "way_to" "Reach.way_to" s_Reach_way_to (He.ma K (He.ga K "Reach") "way_to") fd := c.def_ 37 (d := d_Reach_way_to) rfl
theorem bn_Reach_way_to {f : Addr} {fd : FuncData} (F : FnP K "way_to" "Reach.way_to" s_Reach_way_to f fd) : Binds K fd ["self", "end"] [] := F.bindsN fun _ _ _ _ _ _ us hl => match us, hl with | [_, _], _ => rfl
theorem fn_best_way (c : He.SaysD fa fn K) : ∃ fd, FnP K "best_way" "best_way" s_best_way (He.ga K "best_way") fd := c.def_ 38 (d := d_best_way) rfl
theorem bn_best_way {f : Addr} {fd : FuncData} (F : FnP K "best_way" "best_way" s_best_way f fd) : Binds K fd ["rows", "copies", "dealt", "start"] [] := F.bindsN fun _ _ _ _ _ _ us hl => match us, hl with | [_, _, _, _], _ => rfl
theorem fn_dealt_best (c : He.SaysD fa fn K) : ∃ fd, FnP K "dealt_best" "dealt_best" s_dealt_best (He.ga K "dealt_best") fd := c.def_ 39 (d := d_dealt_best) rfl
theorem bn_dealt_best {f : Addr} {fd : FuncData} (F : FnP K "dealt_best" "dealt_best" s_dealt_best f fd) : Binds K fd ["wishes", "aim"] [] := F.bindsN fun _ _ _ _ _ _ us hl => match us, hl with | [_, _], _ => rfl
theorem fn_Prices_init (c : He.SaysD fa fn K) : ∃ fd, FnP K "__init__" "Prices.__init__" s_Prices_init (He.ma K (He.ga K "Prices") "__init__") fd := c.def_ 40 (d := d_Prices_init) rfl
theorem bn_Prices_init {f : Addr} {fd : FuncData} (F : FnP K "__init__" "Prices.__init__" s_Prices_init f fd) : Binds K fd ["self", "rows", "copies", "dealt"] [] := F.bindsN fun _ _ _ _ _ _ us hl => match us, hl with | [_, _, _, _], _ => rfl
theorem fn_Prices_rest (c : He.SaysD fa fn K) : ∃ fd, FnP K "rest" "Prices.rest" s_Prices_rest (He.ma K (He.ga K "Prices") "rest") fd := c.def_ 41 (d := d_Prices_rest) rfl
theorem bn_Prices_rest {f : Addr} {fd : FuncData} (F : FnP K "rest" "Prices.rest" s_Prices_rest f fd) : Binds K fd ["self", "asker"] [] := F.bindsN fun _ _ _ _ _ _ us hl => match us, hl with | [_, _], _ => rfl
theorem fn_Prices_chain (c : He.SaysD fa fn K) : ∃ fd, FnP K "chain" "Prices.chain" s_Prices_chain (He.ma K (He.ga K "Prices") "chain") fd := c.def_ 42 (d := d_Prices_chain) rfl
theorem bn_Prices_chain {f : Addr} {fd : FuncData} (F : FnP K "chain" "Prices.chain" s_Prices_chain f fd) : Binds K fd ["self", "thing"] [] := F.bindsN fun _ _ _ _ _ _ us hl => match us, hl with | [_, _], _ => rfl
theorem fn_Prices_way_by (c : He.SaysD fa fn K) : ∃ fd, FnP K "way_by" "Prices.way_by" s_Prices_way_by (He.ma K (He.ga K "Prices") "way_by") fd := c.def_ 43 (d := d_Prices_way_by) rfl
theorem bn_Prices_way_by {f : Addr} {fd : FuncData} (F : FnP K "way_by" "Prices.way_by" s_Prices_way_by f fd) : Binds K fd ["self", "thing"] [] := F.bindsN fun _ _ _ _ _ _ us hl => match us, hl with | [_, _], _ => rfl
theorem fn_Prices_raised_by (c : He.SaysD fa fn K) : ∃ fd, FnP K "raised_by" "Prices.raised_by" s_Prices_raised_by (He.ma K (He.ga K "Prices") "raised_by") fd := c.def_ 44 (d := d_Prices_raised_by) rfl
theorem bn_Prices_raised_by {f : Addr} {fd : FuncData} (F : FnP K "raised_by" "Prices.raised_by" s_Prices_raised_by f fd) : Binds K fd ["self", "asker"] [] := F.bindsN fun _ _ _ _ _ _ us hl => match us, hl with | [_, _], _ => rfl
theorem fn_Prices_settle (c : He.SaysD fa fn K) : ∃ fd, FnP K "settle" "Prices.settle" s_Prices_settle (He.ma K (He.ga K "Prices") "settle") fd := c.def_ 45 (d := d_Prices_settle) rfl
theorem bn_Prices_settle {f : Addr} {fd : FuncData} (F : FnP K "settle" "Prices.settle" s_Prices_settle f fd) : Binds K fd ["self"] [] := F.bindsN fun _ _ _ _ _ _ us hl => match us, hl with | [_], _ => rfl
theorem fn_Prices_told (c : He.SaysD fa fn K) : ∃ fd, FnP K "told" "Prices.told" s_Prices_told (He.ma K (He.ga K "Prices") "told") fd := c.def_ 46 (d := d_Prices_told) rfl
theorem bn_Prices_told {f : Addr} {fd : FuncData} (F : FnP K "told" "Prices.told" s_Prices_told f fd) : Binds K fd ["self"] [] := F.bindsN fun _ _ _ _ _ _ us hl => match us, hl with | [_], _ => rfl
theorem fn_best_dealing (c : He.SaysD fa fn K) : ∃ fd, FnP K "best_dealing" "best_dealing" s_best_dealing (He.ga K "best_dealing") fd := c.def_ 47 (d := d_best_dealing) rfl
theorem bn_best_dealing {f : Addr} {fd : FuncData} (F : FnP K "best_dealing" "best_dealing" s_best_dealing f fd) : Binds K fd ["wishes", "aim"] [] := F.bindsN fun _ _ _ _ _ _ us hl => match us, hl with | [_, _], _ => rfl
theorem fn_met_arcs (c : He.SaysD fa fn K) : ∃ fd, FnP K "met_arcs" "met_arcs" s_met_arcs (He.ga K "met_arcs") fd := c.def_ 48 (d := d_met_arcs) rfl
theorem bn_met_arcs {f : Addr} {fd : FuncData} (F : FnP K "met_arcs" "met_arcs" s_met_arcs f fd) : Binds K fd ["wishes", "aim", "dealing", "paper"] [] := F.bindsN fun _ _ _ _ _ _ us hl => match us, hl with | [_, _, _, _], _ => rfl
theorem fn_led_to (c : He.SaysD fa fn K) : ∃ fd, FnP K "led_to" "led_to" s_led_to (He.ga K "led_to") fd := c.def_ 49 (d := d_led_to) rfl
theorem bn_led_to {f : Addr} {fd : FuncData} (F : FnP K "led_to" "led_to" s_led_to f fd) : Binds K fd ["arcs", "node"] [] := F.bindsN fun _ _ _ _ _ _ us hl => match us, hl with | [_, _], _ => rfl
theorem fn_places_of (c : He.SaysD fa fn K) : ∃ fd, FnP K "places_of" "places_of" s_places_of (He.ga K "places_of") fd := c.def_ 50 (d := d_places_of) rfl
theorem bn_places_of {f : Addr} {fd : FuncData} (F : FnP K "places_of" "places_of" s_places_of f fd) : Binds K fd ["arcs"] [] := F.bindsN fun _ _ _ _ _ _ us hl => match us, hl with | [_], _ => rfl
theorem fn_strict_paper (c : He.SaysD fa fn K) : ∃ fd, FnP K "strict_paper" "strict_paper" s_strict_paper (He.ga K "strict_paper") fd := c.def_ 51 (d := d_strict_paper) rfl
theorem bn_strict_paper {f : Addr} {fd : FuncData} (F : FnP K "strict_paper" "strict_paper" s_strict_paper f fd) : Binds K fd ["paper", "arcs"] [] := F.bindsN fun _ _ _ _ _ _ us hl => match us, hl with | [_, _], _ => rfl
theorem fn_moved_round (c : He.SaysD fa fn K) : ∃ fd, FnP K "moved_round" "moved_round" s_moved_round (He.ga K "moved_round") fd := c.def_ 52 (d := d_moved_round) rfl
theorem bn_moved_round {f : Addr} {fd : FuncData} (F : FnP K "moved_round" "moved_round" s_moved_round f fd) : Binds K fd ["dealing", "arcs", "one", "other"] [] := F.bindsN fun _ _ _ _ _ _ us hl => match us, hl with | [_, _, _, _], _ => rfl
theorem fn_tight_wishes (c : He.SaysD fa fn K) : ∃ fd, FnP K "tight_wishes" "tight_wishes" s_tight_wishes (He.ga K "tight_wishes") fd := c.def_ 53 (d := d_tight_wishes) rfl
theorem bn_tight_wishes {f : Addr} {fd : FuncData} (F : FnP K "tight_wishes" "tight_wishes" s_tight_wishes f fd) : Binds K fd ["wishes", "aim", "paper"] [] := F.bindsN fun _ _ _ _ _ _ us hl => match us, hl with | [_, _, _], _ => rfl
theorem fn_has_dealt (c : He.SaysD fa fn K) : ∃ fd, FnP K "has_dealt" "has_dealt" s_has_dealt (He.ga K "has_dealt") fd := c.def_ 54 (d := d_has_dealt) rfl
theorem bn_has_dealt {f : Addr} {fd : FuncData} (F : FnP K "has_dealt" "has_dealt" s_has_dealt f fd) : Binds K fd ["dealings", "asker", "thing"] [] := F.bindsN fun _ _ _ _ _ _ us hl => match us, hl with | [_, _, _], _ => rfl
theorem fn_has_left (c : He.SaysD fa fn K) : ∃ fd, FnP K "has_left" "has_left" s_has_left (He.ga K "has_left") fd := c.def_ 55 (d := d_has_left) rfl
theorem bn_has_left {f : Addr} {fd : FuncData} (F : FnP K "has_left" "has_left" s_has_left f fd) : Binds K fd ["wishes", "dealings", "thing"] [] := F.bindsN fun _ _ _ _ _ _ us hl => match us, hl with | [_, _, _], _ => rfl
theorem fn_web_of (c : He.SaysD fa fn K) : ∃ fd, FnP K "web_of" "web_of" s_web_of (He.ga K "web_of") fd := c.def_ 56 (d := d_web_of) rfl
theorem bn_web_of {f : Addr} {fd : FuncData} (F : FnP K "web_of" "web_of" s_web_of f fd) : Binds K fd ["wishes", "aim"] [] := F.bindsN fun _ _ _ _ _ _ us hl => match us, hl with | [_, _], _ => rfl
theorem fn_possible (c : He.SaysD fa fn K) : ∃ fd, FnP K "possible" "possible" s_possible (He.ga K "possible") fd := c.def_ 57 (d := d_possible) rfl
theorem bn_possible {f : Addr} {fd : FuncData} (F : FnP K "possible" "possible" s_possible f fd) : Binds K fd ["wishes", "aim", "web"] [] := F.bindsN fun _ _ _ _ _ _ us hl => match us, hl with | [_, _, _], _ => rfl
theorem fn_may_get (c : He.SaysD fa fn K) : ∃ fd, FnP K "may_get" "may_get" s_may_get (He.ga K "may_get") fd := c.def_ 58 (d := d_may_get) rfl
theorem bn_may_get {f : Addr} {fd : FuncData} (F : FnP K "may_get" "may_get" s_may_get f fd) : Binds K fd ["wishes", "aim", "web", "asker"] [] := F.bindsN fun _ _ _ _ _ _ us hl => match us, hl with | [_, _, _, _], _ => rfl
theorem fn_law_cell_at (c : He.SaysD fa fn K) : ∃ fd, FnP K "_law_cell_at" "_law_cell_at" s_law_cell_at (He.ga K "_law_cell_at") fd := c.def_ 59 (d := d_law_cell_at) rfl
theorem bn_law_cell_at {f : Addr} {fd : FuncData} (F : FnP K "_law_cell_at" "_law_cell_at" s_law_cell_at f fd) : Binds K fd ["_law_script", "_law_k"] [] := F.bindsN fun _ _ _ _ _ _ us hl => match us, hl with | [_, _], _ => rfl
theorem fn_law_numbers (c : He.SaysD fa fn K) : ∃ fd, FnP K "_law_numbers" "_law_numbers" s_law_numbers (He.ga K "_law_numbers") fd := c.def_ 60 (d := d_law_numbers) rfl
theorem bn_law_numbers {f : Addr} {fd : FuncData} (F : FnP K "_law_numbers" "_law_numbers" s_law_numbers f fd) : Binds K fd ["_law_cell", "_law_salt", "_law_sizes"] [] := F.bindsN fun _ _ _ _ _ _ us hl => match us, hl with | [_, _, _], _ => rfl
theorem fn_law_wishes (c : He.SaysD fa fn K) : ∃ fd, FnP K "_law_wishes" "_law_wishes" s_law_wishes (He.ga K "_law_wishes") fd := c.def_ 61 (d := d_law_wishes) rfl
theorem bn_law_wishes {f : Addr} {fd : FuncData} (F : FnP K "_law_wishes" "_law_wishes" s_law_wishes f fd) : Binds K fd ["_law_script", "_law_at", "_law_most_things", "_law_most_askers", "_law_most_ranks"] [] := F.bindsN fun _ _ _ _ _ _ us hl => match us, hl with | [_, _, _, _, _], _ => rfl
theorem fn_law_cut (c : He.SaysD fa fn K) : ∃ fd, FnP K "_law_cut" "_law_cut" s_law_cut (He.ga K "_law_cut") fd := c.def_ 62 (d := d_law_cut) rfl
theorem bn_law_cut {f : Addr} {fd : FuncData} (F : FnP K "_law_cut" "_law_cut" s_law_cut f fd) : Binds K fd ["_law_wishes_here"] [] := F.bindsN fun _ _ _ _ _ _ us hl => match us, hl with | [_], _ => rfl
theorem fn_law_alike (c : He.SaysD fa fn K) : ∃ fd, FnP K "_law_alike" "_law_alike" s_law_alike (He.ga K "_law_alike") fd := c.def_ 63 (d := d_law_alike) rfl
theorem bn_law_alike {f : Addr} {fd : FuncData} (F : FnP K "_law_alike" "_law_alike" s_law_alike f fd) : Binds K fd ["_law_wishes_here", "_law_single", "_law_aim"] [] := F.bindsN fun _ _ _ _ _ _ us hl => match us, hl with | [_, _, _], _ => rfl
theorem fn_law_may (c : He.SaysD fa fn K) : ∃ fd, FnP K "_law_may" "_law_may" s_law_may (He.ga K "_law_may") fd := c.def_ 64 (d := d_law_may) rfl
theorem bn_law_may {f : Addr} {fd : FuncData} (F : FnP K "_law_may" "_law_may" s_law_may f fd) : Binds K fd ["_law_wishes_here", "_law_single", "_law_aim"] [] := F.bindsN fun _ _ _ _ _ _ us hl => match us, hl with | [_, _, _], _ => rfl
theorem fn_law (c : He.SaysD fa fn K) : ∃ fd, FnP K "law" "law" s_law (He.ga K "law") fd := c.def_ 65 (d := d_law) rfl
theorem bn_law {f : Addr} {fd : FuncData} (F : FnP K "law" "law" s_law f fd) : Binds K fd ["_law_script"] [] := F.bindsN fun _ _ _ _ _ _ us hl => match us, hl with | [_], _ => rfl
theorem facts {f : Addr} (X : K.In h) (G : h.Ns mainGlobals mg) (hfa : mg ("law" : Str) = some (.ref f)) (c : He.SaysD fa fn K) :
    ∃ fd : FuncData, (∀ (s : Shared) (v : Value), BindsTo s fd ⟨[v], []⟩ [("_law_script", v)]) ∧ ∀ base : Heap, K.In base → base.Ns mainGlobals mg → FnOk P w K mg base CX0 14 f fd ["_law_script"] (spLaw K) := by
  have T := txt_ok X G c
  obtain ⟨fd_left_by, F_left_by⟩ := fn_left_by c
  obtain ⟨fd_Prices_init, F_Prices_init⟩ := fn_Prices_init c
  obtain ⟨fd_Prices_rest, F_Prices_rest⟩ := fn_Prices_rest c
  obtain ⟨fd_Prices_chain, F_Prices_chain⟩ := fn_Prices_chain c
  obtain ⟨fd_Prices_way_by, F_Prices_way_by⟩ := fn_Prices_way_by c
  obtain ⟨fd_Prices_raised_by, F_Prices_raised_by⟩ := fn_Prices_raised_by c
  obtain ⟨fd_Prices_settle, F_Prices_settle⟩ := fn_Prices_settle c
  obtain ⟨fd_Prices_told, F_Prices_told⟩ := fn_Prices_told c
  obtain ⟨fd_Reach_init, F_Reach_init⟩ := fn_Reach_init c
  obtain ⟨fd_Reach_end_by, F_Reach_end_by⟩ := fn_Reach_end_by c
  obtain ⟨fd_Reach_to_askers, F_Reach_to_askers⟩ := fn_Reach_to_askers c
  obtain ⟨fd_Reach_to_things, F_Reach_to_things⟩ := fn_Reach_to_things c
  obtain ⟨fd_Reach_go_on, F_Reach_go_on⟩ := fn_Reach_go_on c
  obtain ⟨fd_Reach_way_to, F_Reach_way_to⟩ := fn_Reach_way_to c
  obtain ⟨fd_best_way, F_best_way⟩ := fn_best_way c
  obtain ⟨fd_is_whole, F_is_whole⟩ := fn_is_whole c
  obtain ⟨fd_is_thing, F_is_thing⟩ := fn_is_thing c
  obtain ⟨fd_are_ranks, F_are_ranks⟩ := fn_are_ranks c
  obtain ⟨fd_is_many, F_is_many⟩ := fn_is_many c
  obtain ⟨fd_need_row, F_need_row⟩ := fn_need_row c
  obtain ⟨fd_look_at_wishes, F_look_at_wishes⟩ := fn_look_at_wishes c
  obtain ⟨fd_longest, F_longest⟩ := fn_longest c
  obtain ⟨fd_powers_of, F_powers_of⟩ := fn_powers_of c
  obtain ⟨fd_Scale_init, F_Scale_init⟩ := fn_Scale_init c
  obtain ⟨fd_are_turns, F_are_turns⟩ := fn_are_turns c
  obtain ⟨fd_is_old, F_is_old⟩ := fn_is_old c
  obtain ⟨fd_is_order, F_is_order⟩ := fn_is_order c
  obtain ⟨fd_fault_of, F_fault_of⟩ := fn_fault_of c
  obtain ⟨fd_look_at_aim, F_look_at_aim⟩ := fn_look_at_aim c
  obtain ⟨fd_Scale_by_order, F_Scale_by_order⟩ := fn_Scale_by_order c
  obtain ⟨fd_Scale_pick_of, F_Scale_pick_of⟩ := fn_Scale_pick_of c
  obtain ⟨fd_Scale_of, F_Scale_of⟩ := fn_Scale_of c
  obtain ⟨fd_worths_of, F_worths_of⟩ := fn_worths_of c
  obtain ⟨fd_all_worths, F_all_worths⟩ := fn_all_worths c
  obtain ⟨fd_rows_by, F_rows_by⟩ := fn_rows_by c
  obtain ⟨fd_dealt_best, F_dealt_best⟩ := fn_dealt_best c
  obtain ⟨fd_best_dealing, F_best_dealing⟩ := fn_best_dealing c
  obtain ⟨fd_rank_among, F_rank_among⟩ := fn_rank_among c
  obtain ⟨fd_counts_of, F_counts_of⟩ := fn_counts_of c
  obtain ⟨fd_look_at_singles, F_look_at_singles⟩ := fn_look_at_singles c
  obtain ⟨fd_numbers_of, F_numbers_of⟩ := fn_numbers_of c
  obtain ⟨fd_singled_dealing, F_singled_dealing⟩ := fn_singled_dealing c
  obtain ⟨fd_is_row_of, F_is_row_of⟩ := fn_is_row_of c
  obtain ⟨fd_what_is_wrong, F_what_is_wrong⟩ := fn_what_is_wrong c
  obtain ⟨fd_whole_dealing, F_whole_dealing⟩ := fn_whole_dealing c
  obtain ⟨fd_worth_of, F_worth_of⟩ := fn_worth_of c
  obtain ⟨fd_law_alike, F_law_alike⟩ := fn_law_alike c
  obtain ⟨fd_law_cut, F_law_cut⟩ := fn_law_cut c
  obtain ⟨fd_tight_wishes, F_tight_wishes⟩ := fn_tight_wishes c
  obtain ⟨fd_possible, F_possible⟩ := fn_possible c
  obtain ⟨fd_may_get, F_may_get⟩ := fn_may_get c
  obtain ⟨fd_has_dealt, F_has_dealt⟩ := fn_has_dealt c
  obtain ⟨fd_copies_left, F_copies_left⟩ := fn_copies_left c
  obtain ⟨fd_has_left, F_has_left⟩ := fn_has_left c
  obtain ⟨fd_met_arcs, F_met_arcs⟩ := fn_met_arcs c
  obtain ⟨fd_led_to, F_led_to⟩ := fn_led_to c
  obtain ⟨fd_moved_round, F_moved_round⟩ := fn_moved_round c
  obtain ⟨fd_places_of, F_places_of⟩ := fn_places_of c
  obtain ⟨fd_strict_paper, F_strict_paper⟩ := fn_strict_paper c
  obtain ⟨fd_web_of, F_web_of⟩ := fn_web_of c
  obtain ⟨fd_law_may, F_law_may⟩ := fn_law_may c
  obtain ⟨fd_law_cell_at, F_law_cell_at⟩ := fn_law_cell_at c
  obtain ⟨fd_law_numbers, F_law_numbers⟩ := fn_law_numbers c
  obtain ⟨fd_law_wishes, F_law_wishes⟩ := fn_law_wishes c
  obtain ⟨fd_singled, F_singled⟩ := fn_singled c
  obtain ⟨fd_law, F_law⟩ := fn_law c
  have e := hfa.symm.trans (He.glo_ok X G (c.fact 48 (f := .glo "law") rfl))
  cases e
  have b := FunD.bindsA (ps := ["_law_script"]) F_law fun _ _ _ _ _ _ us hl => match us, hl with | [_], _ => rfl
  refine ⟨fd_law, fun s v => b s [v] rfl, fun base _ _ => ?_⟩
  have c_left_by : Cal P w K mg base "left_by" 1 ["copies", "dealt"] (spLeftBy) := ⟨_, fd_left_by, (ok_left_by F_left_by T), He.glo_ok X G (c.fact 27 (f := .glo "left_by") rfl), F_left_by.kp, bn_left_by F_left_by⟩
  have c_Prices_init : CalN P w K mg base "Prices" (He.ga K "Prices") 2 ["self", "rows", "copies", "dealt"] (spPI K) := ⟨_, fd_Prices_init, (ok_Prices_init F_Prices_init T c_left_by), T.mk_Prices, T.mg_Prices, bn_Prices_init F_Prices_init⟩
  have c_Prices_rest : CalM P w K mg base (He.ga K "Prices") "rest" 1 ["self", "asker"] (spRest K) := ⟨_, fd_Prices_rest, (ok_Prices_rest F_Prices_rest T), T.m_Prices_rest, bn_Prices_rest F_Prices_rest⟩
  have c_Prices_chain : CalM P w K mg base (He.ga K "Prices") "chain" 1 ["self", "thing"] (spChain K) := ⟨_, fd_Prices_chain, (ok_Prices_chain F_Prices_chain T), T.m_Prices_chain, bn_Prices_chain F_Prices_chain⟩
  have c_Prices_way_by : CalM P w K mg base (He.ga K "Prices") "way_by" 2 ["self", "thing"] (spWB K) := ⟨_, fd_Prices_way_by, (ok_Prices_way_by F_Prices_way_by T c_Prices_chain c_Prices_rest), T.m_Prices_way_by, bn_Prices_way_by F_Prices_way_by⟩
  have c_Prices_raised_by : CalM P w K mg base (He.ga K "Prices") "raised_by" 3 ["self", "asker"] (spRB K) := ⟨_, fd_Prices_raised_by, (ok_Prices_raised_by F_Prices_raised_by T c_Prices_rest c_Prices_way_by), T.m_Prices_raised_by, bn_Prices_raised_by F_Prices_raised_by⟩
  have c_Prices_settle : CalM P w K mg base (He.ga K "Prices") "settle" 4 ["self"] (spSet K) := ⟨_, fd_Prices_settle, (ok_Prices_settle F_Prices_settle T c_Prices_raised_by), T.m_Prices_settle, bn_Prices_settle F_Prices_settle⟩
  have c_Prices_told : CalM P w K mg base (He.ga K "Prices") "told" 2 ["self"] (spTold K) := ⟨_, fd_Prices_told, (ok_Prices_told F_Prices_told T c_Prices_rest), T.m_Prices_told, bn_Prices_told F_Prices_told⟩
  have c_Reach_init : CalN P w K mg base "Reach" (He.ga K "Reach") 1 ["self", "rows", "dealt", "start"] (spRI K) := ⟨_, fd_Reach_init, (ok_Reach_init F_Reach_init T), T.mk_Reach, T.mg_Reach, bn_Reach_init F_Reach_init⟩
  have c_Reach_end_by : CalM P w K mg base (He.ga K "Reach") "end_by" 1 ["self", "left"] (spEnd K) := ⟨_, fd_Reach_end_by, (ok_Reach_end_by F_Reach_end_by T), T.m_Reach_end_by, bn_Reach_end_by F_Reach_end_by⟩
  have c_Reach_to_askers : CalM P w K mg base (He.ga K "Reach") "to_askers" 1 ["self"] (spToA K) := ⟨_, fd_Reach_to_askers, (ok_Reach_to_askers F_Reach_to_askers T), T.m_Reach_to_askers, bn_Reach_to_askers F_Reach_to_askers⟩
  have c_Reach_to_things : CalM P w K mg base (He.ga K "Reach") "to_things" 1 ["self"] (spToT K) := ⟨_, fd_Reach_to_things, (ok_Reach_to_things F_Reach_to_things T), T.m_Reach_to_things, bn_Reach_to_things F_Reach_to_things⟩
  have c_Reach_go_on : CalM P w K mg base (He.ga K "Reach") "go_on" 2 ["self"] (spGo K) := ⟨_, fd_Reach_go_on, (ok_Reach_go_on F_Reach_go_on T c_Reach_to_askers c_Reach_to_things), T.m_Reach_go_on, bn_Reach_go_on F_Reach_go_on⟩
  have c_Reach_way_to : CalM P w K mg base (He.ga K "Reach") "way_to" 1 ["self", "end"] (spWayTo K) := ⟨_, fd_Reach_way_to, (ok_Reach_way_to F_Reach_way_to T), T.m_Reach_way_to, bn_Reach_way_to F_Reach_way_to⟩
  have c_best_way : Cal P w K mg base "best_way" 3 ["rows", "copies", "dealt", "start"] (spBW) := ⟨_, fd_best_way, (ok_best_way F_best_way T c_Reach_init c_Reach_end_by c_Reach_go_on c_Reach_way_to c_left_by), He.glo_ok X G (c.fact 28 (f := .glo "best_way") rfl), F_best_way.kp, bn_best_way F_best_way⟩
  have c_is_whole : Cal P w K mg base "is_whole" 1 ["thing"] (spWhole) := ⟨_, fd_is_whole, (ok_is_whole F_is_whole T), He.glo_ok X G (c.fact 0 (f := .glo "is_whole") rfl), F_is_whole.kp, bn_is_whole F_is_whole⟩
  have c_is_thing : Cal P w K mg base "is_thing" 2 ["thing", "many"] (spThing) := ⟨_, fd_is_thing, (ok_is_thing F_is_thing T c_is_whole), He.glo_ok X G (c.fact 3 (f := .glo "is_thing") rfl), F_is_thing.kp, bn_is_thing F_is_thing⟩
  have c_are_ranks : Cal P w K mg base "are_ranks" 3 ["thing", "many"] (spRanks) := ⟨_, fd_are_ranks, (ok_are_ranks F_are_ranks T c_is_thing), He.glo_ok X G (c.fact 4 (f := .glo "are_ranks") rfl), F_are_ranks.kp, bn_are_ranks F_are_ranks⟩
  have c_is_many : Cal P w K mg base "is_many" 2 ["thing"] (spMany) := ⟨_, fd_is_many, (ok_is_many F_is_many T c_is_whole), He.glo_ok X G (c.fact 2 (f := .glo "is_many") rfl), F_is_many.kp, bn_is_many F_is_many⟩
  have c_need_row : Cal P w K mg base "need_row" 1 ["part", "thing", "most"] (spNeedRow) := ⟨_, fd_need_row, (ok_need_row F_need_row T), He.glo_ok X G (c.fact 1 (f := .glo "need_row") rfl), F_need_row.kp, bn_need_row F_need_row⟩
  have c_look_at_wishes : Cal P w K mg base "look_at_wishes" 4 ["thing"] (spLook) := ⟨_, fd_look_at_wishes, (ok_look_at_wishes F_look_at_wishes T c_are_ranks c_is_many c_need_row), He.glo_ok X G (c.fact 5 (f := .glo "look_at_wishes") rfl), F_look_at_wishes.kp, bn_look_at_wishes F_look_at_wishes⟩
  have c_longest : Cal P w K mg base "longest" 5 ["wishes"] (spLong) := ⟨_, fd_longest, (ok_longest F_longest T c_look_at_wishes), He.glo_ok X G (c.fact 6 (f := .glo "longest") rfl), F_longest.kp, bn_longest F_longest⟩
  have c_powers_of : Cal P w K mg base "powers_of" 1 ["base", "most"] (spPow) := ⟨_, fd_powers_of, (ok_powers_of F_powers_of T), He.glo_ok X G (c.fact 22 (f := .glo "powers_of") rfl), F_powers_of.kp, bn_powers_of F_powers_of⟩
  have c_Scale_init : CalN P w K mg base "Scale" (He.ga K "Scale") 6 ["self", "wishes", "aim"] (spScI K) := ⟨_, fd_Scale_init, (ok_Scale_init F_Scale_init T c_longest c_powers_of), T.mk_Scale, T.mg_Scale, bn_Scale_init F_Scale_init⟩
  have c_are_turns : Cal P w K mg base "are_turns" 1 ["wishes", "thing"] (spTurns) := ⟨_, fd_are_turns, (ok_are_turns F_are_turns T), He.glo_ok X G (c.fact 19 (f := .glo "are_turns") rfl), F_are_turns.kp, bn_are_turns F_are_turns⟩
  have c_is_old : Cal P w K mg base "is_old" 1 ["wishes", "thing"] (spOld) := ⟨_, fd_is_old, (ok_is_old F_is_old T), He.glo_ok X G (c.fact 18 (f := .glo "is_old") rfl), F_is_old.kp, bn_is_old F_is_old⟩
  have c_is_order : Cal P w K mg base "is_order" 1 ["thing"] (spOrder) := ⟨_, fd_is_order, (ok_is_order F_is_order T), He.glo_ok X G (c.fact 17 (f := .glo "is_order") rfl), F_is_order.kp, bn_is_order F_is_order⟩
  have c_fault_of : Cal P w K mg base "fault_of" 2 ["wishes", "thing"] (spFault) := ⟨_, fd_fault_of, (ok_fault_of F_fault_of T c_are_turns c_is_old c_is_order), He.glo_ok X G (c.fact 20 (f := .glo "fault_of") rfl), F_fault_of.kp, bn_fault_of F_fault_of⟩
  have c_look_at_aim : Cal P w K mg base "look_at_aim" 5 ["wishes", "thing"] (spLookA) := ⟨_, fd_look_at_aim, (ok_look_at_aim F_look_at_aim T c_fault_of c_look_at_wishes), He.glo_ok X G (c.fact 21 (f := .glo "look_at_aim") rfl), F_look_at_aim.kp, bn_look_at_aim F_look_at_aim⟩
  have c_Scale_by_order : CalM P w K mg base (He.ga K "Scale") "by_order" 1 ["self", "rank"] (spByO K) := ⟨_, fd_Scale_by_order, (ok_Scale_by_order F_Scale_by_order T), T.m_Scale_by_order, bn_Scale_by_order F_Scale_by_order⟩
  have c_Scale_pick_of : CalM P w K mg base (He.ga K "Scale") "pick_of" 1 ["self", "asker", "rank"] (spPick K) := ⟨_, fd_Scale_pick_of, (ok_Scale_pick_of F_Scale_pick_of T), T.m_Scale_pick_of, bn_Scale_pick_of F_Scale_pick_of⟩
  have c_Scale_of : CalM P w K mg base (He.ga K "Scale") "of" 2 ["self", "asker", "thing", "rank"] (spOf K) := ⟨_, fd_Scale_of, (ok_Scale_of F_Scale_of T c_Scale_by_order c_Scale_pick_of), T.m_Scale_of, bn_Scale_of F_Scale_of⟩
  have c_worths_of : Cal P w K mg base "worths_of" 3 ["scale", "asker", "ranks"] (spWo K) := ⟨_, fd_worths_of, (ok_worths_of F_worths_of T c_Scale_of), He.glo_ok X G (c.fact 23 (f := .glo "worths_of") rfl), F_worths_of.kp, bn_worths_of F_worths_of⟩
  have c_all_worths : Cal P w K mg base "all_worths" 8 ["wishes", "aim"] (spAW) := ⟨_, fd_all_worths, (ok_all_worths F_all_worths T c_Scale_init c_look_at_aim c_worths_of), He.glo_ok X G (c.fact 24 (f := .glo "all_worths") rfl), F_all_worths.kp, bn_all_worths F_all_worths⟩
  have c_rows_by : Cal P w K mg base "rows_by" 9 ["wishes", "aim"] (spRows) := ⟨_, fd_rows_by, (ok_rows_by F_rows_by T c_all_worths), He.glo_ok X G (c.fact 26 (f := .glo "rows_by") rfl), F_rows_by.kp, bn_rows_by F_rows_by⟩
  have c_dealt_best : Cal P w K mg base "dealt_best" 10 ["wishes", "aim"] (spDB) := ⟨_, fd_dealt_best, (ok_dealt_best F_dealt_best T c_best_way c_rows_by), He.glo_ok X G (c.fact 29 (f := .glo "dealt_best") rfl), F_dealt_best.kp, bn_dealt_best F_dealt_best⟩
  have c_best_dealing : Cal P w K mg base "best_dealing" 11 ["wishes", "aim"] (spBD) := ⟨_, fd_best_dealing, (ok_best_dealing F_best_dealing T c_Prices_init c_Prices_settle c_Prices_told c_dealt_best c_rows_by), He.glo_ok X G (c.fact 30 (f := .glo "best_dealing") rfl), F_best_dealing.kp, bn_best_dealing F_best_dealing⟩
  have c_rank_among : Cal P w K mg base "rank_among" 1 ["ranks", "thing"] (spRank) := ⟨_, fd_rank_among, (ok_rank_among F_rank_among T), He.glo_ok X G (c.fact 13 (f := .glo "rank_among") rfl), F_rank_among.kp, bn_rank_among F_rank_among⟩
  have c_counts_of : Cal P w K mg base "counts_of" 6 ["wishes", "dealing"] (spCounts) := ⟨_, fd_counts_of, (ok_counts_of F_counts_of T c_longest c_rank_among), He.glo_ok X G (c.fact 15 (f := .glo "counts_of") rfl), F_counts_of.kp, bn_counts_of F_counts_of⟩
  have c_look_at_singles : Cal P w K mg base "look_at_singles" 5 ["wishes"] (spLookS) := ⟨_, fd_look_at_singles, (ok_look_at_singles F_look_at_singles T c_look_at_wishes), He.glo_ok X G (c.fact 7 (f := .glo "look_at_singles") rfl), F_look_at_singles.kp, bn_look_at_singles F_look_at_singles⟩
  have c_numbers_of : Cal P w K mg base "numbers_of" 1 ["copies"] (spNums) := ⟨_, fd_numbers_of, (ok_numbers_of F_numbers_of T), He.glo_ok X G (c.fact 8 (f := .glo "numbers_of") rfl), F_numbers_of.kp, bn_numbers_of F_numbers_of⟩
  have c_singled_dealing : Cal P w K mg base "singled_dealing" 6 ["wishes", "dealing"] (spSD) := ⟨_, fd_singled_dealing, (ok_singled_dealing F_singled_dealing T c_look_at_singles c_numbers_of), He.glo_ok X G (c.fact 10 (f := .glo "singled_dealing") rfl), F_singled_dealing.kp, bn_singled_dealing F_singled_dealing⟩
  have c_is_row_of : Cal P w K mg base "is_row_of" 2 ["thing", "many"] (spRow) := ⟨_, fd_is_row_of, (ok_is_row_of F_is_row_of T c_is_whole), He.glo_ok X G (c.fact 12 (f := .glo "is_row_of") rfl), F_is_row_of.kp, bn_is_row_of F_is_row_of⟩
  have c_what_is_wrong : Cal P w K mg base "what_is_wrong" 5 ["wishes", "thing"] (spWrong) := ⟨_, fd_what_is_wrong, (ok_what_is_wrong F_what_is_wrong T c_is_row_of c_look_at_wishes c_rank_among), He.glo_ok X G (c.fact 14 (f := .glo "what_is_wrong") rfl), F_what_is_wrong.kp, bn_what_is_wrong F_what_is_wrong⟩
  have c_whole_dealing : Cal P w K mg base "whole_dealing" 6 ["wishes", "dealing"] (spWD) := ⟨_, fd_whole_dealing, (ok_whole_dealing F_whole_dealing T c_look_at_singles), He.glo_ok X G (c.fact 11 (f := .glo "whole_dealing") rfl), F_whole_dealing.kp, bn_whole_dealing F_whole_dealing⟩
  have c_worth_of : Cal P w K mg base "worth_of" 8 ["wishes", "aim", "dealing"] (spWorth) := ⟨_, fd_worth_of, (ok_worth_of F_worth_of T c_Scale_init c_look_at_aim c_worths_of), He.glo_ok X G (c.fact 25 (f := .glo "worth_of") rfl), F_worth_of.kp, bn_worth_of F_worth_of⟩
  have c_law_alike : Cal P w K mg base "_law_alike" 12 ["_law_wishes_here", "_law_single", "_law_aim"] (spAlike) := ⟨_, fd_law_alike, (ok_law_alike F_law_alike T c_best_dealing c_counts_of c_singled_dealing c_what_is_wrong c_whole_dealing c_worth_of), He.glo_ok X G (c.fact 46 (f := .glo "_law_alike") rfl), F_law_alike.kp, bn_law_alike F_law_alike⟩
  have c_law_cut : Cal P w K mg base "_law_cut" 1 ["_law_wishes_here"] (spCut) := ⟨_, fd_law_cut, (ok_law_cut F_law_cut T), He.glo_ok X G (c.fact 45 (f := .glo "_law_cut") rfl), F_law_cut.kp, bn_law_cut F_law_cut⟩
  have c_tight_wishes : Cal P w K mg base "tight_wishes" 9 ["wishes", "aim", "paper"] (spTight) := ⟨_, fd_tight_wishes, (ok_tight_wishes F_tight_wishes T c_all_worths), He.glo_ok X G (c.fact 36 (f := .glo "tight_wishes") rfl), F_tight_wishes.kp, bn_tight_wishes F_tight_wishes⟩
  have c_possible : Cal P w K mg base "possible" 10 ["wishes", "aim", "web"] (spPos) := ⟨_, fd_possible, (ok_possible F_possible T c_look_at_aim c_look_at_wishes c_tight_wishes), He.glo_ok X G (c.fact 40 (f := .glo "possible") rfl), F_possible.kp, bn_possible F_possible⟩
  have c_may_get : Cal P w K mg base "may_get" 11 ["wishes", "aim", "web", "asker"] (spMay) := ⟨_, fd_may_get, (ok_may_get F_may_get T c_possible), He.glo_ok X G (c.fact 41 (f := .glo "may_get") rfl), F_may_get.kp, bn_may_get F_may_get⟩
  have c_has_dealt : Cal P w K mg base "has_dealt" 1 ["dealings", "asker", "thing"] (spHasD) := ⟨_, fd_has_dealt, (ok_has_dealt F_has_dealt T), He.glo_ok X G (c.fact 37 (f := .glo "has_dealt") rfl), F_has_dealt.kp, bn_has_dealt F_has_dealt⟩
  have c_copies_left : Cal P w K mg base "copies_left" 5 ["wishes", "dealing"] (spLeft) := ⟨_, fd_copies_left, (ok_copies_left F_copies_left T c_look_at_wishes), He.glo_ok X G (c.fact 16 (f := .glo "copies_left") rfl), F_copies_left.kp, bn_copies_left F_copies_left⟩
  have c_has_left : Cal P w K mg base "has_left" 6 ["wishes", "dealings", "thing"] (spHasL) := ⟨_, fd_has_left, (ok_has_left F_has_left T c_copies_left), He.glo_ok X G (c.fact 38 (f := .glo "has_left") rfl), F_has_left.kp, bn_has_left F_has_left⟩
  have c_met_arcs : Cal P w K mg base "met_arcs" 9 ["wishes", "aim", "dealing", "paper"] (spArcs) := ⟨_, fd_met_arcs, (ok_met_arcs F_met_arcs T c_all_worths c_copies_left), He.glo_ok X G (c.fact 31 (f := .glo "met_arcs") rfl), F_met_arcs.kp, bn_met_arcs F_met_arcs⟩
  have c_led_to : Cal P w K mg base "led_to" 1 ["arcs", "node"] (spLed) := ⟨_, fd_led_to, (ok_led_to F_led_to T), He.glo_ok X G (c.fact 32 (f := .glo "led_to") rfl), F_led_to.kp, bn_led_to F_led_to⟩
  have c_moved_round : Cal P w K mg base "moved_round" 2 ["dealing", "arcs", "one", "other"] (spMov) := ⟨_, fd_moved_round, (ok_moved_round F_moved_round T c_led_to), He.glo_ok X G (c.fact 35 (f := .glo "moved_round") rfl), F_moved_round.kp, bn_moved_round F_moved_round⟩
  have c_places_of : Cal P w K mg base "places_of" 2 ["arcs"] (spPla) := ⟨_, fd_places_of, (ok_places_of F_places_of T c_led_to), He.glo_ok X G (c.fact 33 (f := .glo "places_of") rfl), F_places_of.kp, bn_places_of F_places_of⟩
  have c_strict_paper : Cal P w K mg base "strict_paper" 3 ["paper", "arcs"] (spStr) := ⟨_, fd_strict_paper, (ok_strict_paper F_strict_paper T c_places_of), He.glo_ok X G (c.fact 34 (f := .glo "strict_paper") rfl), F_strict_paper.kp, bn_strict_paper F_strict_paper⟩
  have c_web_of : Cal P w K mg base "web_of" 12 ["wishes", "aim"] (spWebOf) := ⟨_, fd_web_of, (ok_web_of F_web_of T c_best_dealing c_has_dealt c_has_left c_met_arcs c_moved_round c_strict_paper c_tight_wishes), He.glo_ok X G (c.fact 39 (f := .glo "web_of") rfl), F_web_of.kp, bn_web_of F_web_of⟩
  have c_law_may : Cal P w K mg base "_law_may" 13 ["_law_wishes_here", "_law_single", "_law_aim"] (spMayL) := ⟨_, fd_law_may, (ok_law_may F_law_may T c_may_get c_web_of), He.glo_ok X G (c.fact 47 (f := .glo "_law_may") rfl), F_law_may.kp, bn_law_may F_law_may⟩
  have c_law_cell_at : Cal P w K mg base "_law_cell_at" 1 ["_law_script", "_law_k"] (spCell K) := ⟨_, fd_law_cell_at, (ok_law_cell_at F_law_cell_at T), He.glo_ok X G (c.fact 42 (f := .glo "_law_cell_at") rfl), F_law_cell_at.kp, bn_law_cell_at F_law_cell_at⟩
  have c_law_numbers : Cal P w K mg base "_law_numbers" 1 ["_law_cell", "_law_salt", "_law_sizes"] (spNum) := ⟨_, fd_law_numbers, (ok_law_numbers F_law_numbers T), He.glo_ok X G (c.fact 43 (f := .glo "_law_numbers") rfl), F_law_numbers.kp, bn_law_numbers F_law_numbers⟩
  have c_law_wishes : Cal P w K mg base "_law_wishes" 2 ["_law_script", "_law_at", "_law_most_things", "_law_most_askers", "_law_most_ranks"] (spLW K) := ⟨_, fd_law_wishes, (ok_law_wishes F_law_wishes T c_law_cell_at c_law_numbers), He.glo_ok X G (c.fact 44 (f := .glo "_law_wishes") rfl), F_law_wishes.kp, bn_law_wishes F_law_wishes⟩
  have c_singled : Cal P w K mg base "singled" 6 ["wishes"] (spSgl) := ⟨_, fd_singled, (ok_singled F_singled T c_look_at_singles c_numbers_of), He.glo_ok X G (c.fact 9 (f := .glo "singled") rfl), F_singled.kp, bn_singled F_singled⟩
  exact ok_law F_law T c_law_alike c_law_cut c_law_may c_law_wishes c_best_dealing c_singled c_singled_dealing c_what_is_wrong
end
abbrev R : PySem.W.OpenRow := PySem.W.OpenLaw.row PySem.Challenge.rw_wishdeal_k83_whole_single_copies_are_dea
abbrev hk : PySem.W.Hook := He.hookD 5 fa fn
def ob (s : PySem.W.SharedT) : He.AlD := He.obsDG 5 fa fn (HandSHeadRun.getT s)
theorem ob_eq (s : PySem.W.SharedT) : ob s = hk.obs s.abs := He.obsDG_eq (HandSHeadRun.getT_eq s)
theorem run (w : World) : HandSHeadRun.RunEq R (PySem.W.view R.prog [73]) hk ob 4000 names w := by
  intro os
  kernel_rfl
end Wd
open PySem PySem.W PySem.Calls PyProof.Rows
theorem PySem.Challenge.cw_wishdeal_k83_whole_single_copies_are_dea_holds : PySem.Challenge.rw_wishdeal_k83_whole_single_copies_are_dea.Holds := by
  w_on; o_law
  refine HandSHeadRun.head_any (r := OpenLaw.row PySem.Challenge.rw_wishdeal_k83_whole_single_copies_are_dea) (q := view (OpenLaw.row PySem.Challenge.rw_wishdeal_k83_whole_single_copies_are_dea).prog [73]) (H := Wd.hk) (ob := Wd.ob) (M := 4000) (loose := Wd.names) (d := HandSHeadRun.topDef (OpenLaw.row PySem.Challenge.rw_wishdeal_k83_whole_single_copies_are_dea).prog 73) (kwd := []) Wd.ob_eq
    (by kernel_rfl) (fun s => by kernel_rfl) Wd.run (by kernel_rfl) (by kernel_rfl) (by kernel_rfl) (by rfl) (by first | assumption | decide +kernel) (by decide +kernel) ⟨rfl, rfl, rfl, rfl, rfl, by decide +kernel⟩ ?hw ?hc
  case hw => w_witness2
  case hc =>
    refine L2.walk_ofE (l := PySem.Challenge.rw_wishdeal_k83_whole_single_copies_are_dea) (n := 63) (k := 14) (x := "_law_script") (CX := L2.CX0) rfl (by decide) (by kernel_rfl) ⟨rfl, by decide, by decide⟩ ?F (fun _ _ _ _ z => z)
    intro w mg fa h Y G hmg0
    obtain ⟨K, KX, c⟩ := Y
    have hmg : mg ("law" : PySem.Str) = some (.ref fa) := by
      have e : (HandSHeadRun.topDef (OpenLaw.row PySem.Challenge.rw_wishdeal_k83_whole_single_copies_are_dea).prog 73).name = ("law" : PySem.Str) := by kernel_rfl
      rw [← e]
      exact hmg0
    obtain ⟨fd, hb, hF⟩ := Wd.facts (P := (PySem.Challenge.rw_wishdeal_k83_whole_single_copies_are_dea).prog) (w := w) KX G hmg c
    exact ⟨K, fd, Wd.spLaw K, KX, hb, fun H a ns hl _ hS => ⟨a, ns, rfl, hS, fun _ => rfl⟩, hF⟩
