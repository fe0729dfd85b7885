/- Plain mathematics of braking: how far a train comes while it brakes, its growth with the speed, and the greatest speed that is good; conditions: a braking step of at least 1. -/
import Derived.KernelRfl
namespace Go.Proofs.Ytcfhjidddpoijaa.Dm

/-- how far it comes from speed v, braking by k, in n ticks -/
def brk : Nat → Int → Int → Int
  | 0, _, _ => 0
  | n + 1, v, k => if 0 < v then max 0 (v - k) + brk n (max 0 (v - k)) k else 0

def brake (v k : Int) : Int := brk v.toNat v k

theorem brk_enough (k : Int) (hk : 1 ≤ k) : ∀ (m n : Nat) (v : Int), v.toNat ≤ m → m ≤ n → brk n v k = brk m v k := by
  intro m
  induction m with
  | zero =>
    intro n v h _
    cases n with
    | zero => rfl
    | succ n => simp only [brk]; rw [if_neg (by omega)]
  | succ m ih =>
    intro n v h hn
    obtain ⟨n, rfl⟩ : ∃ q, n = q + 1 := ⟨n - 1, by omega⟩
    simp only [brk]
    by_cases hv : 0 < v
    · rw [if_pos hv, if_pos hv, ih n (max 0 (v - k)) (by omega) (by omega)]
    · rw [if_neg hv, if_neg hv]

theorem brake_stop (v k : Int) (h : v ≤ 0) : brake v k = 0 := by
  unfold brake
  rw [show v.toNat = 0 by omega]
  rfl

theorem brake_step (v k : Int) (hk : 1 ≤ k) (h : 0 < v) : brake v k = max 0 (v - k) + brake (max 0 (v - k)) k := by
  unfold brake
  obtain ⟨n, hn⟩ : ∃ q, v.toNat = q + 1 := ⟨v.toNat - 1, by omega⟩
  rw [hn]
  simp only [brk]
  rw [if_pos h, brk_enough k hk (max 0 (v - k)).toNat n (max 0 (v - k)) (by omega) (by omega)]

theorem brake_nonneg (k : Int) (hk : 1 ≤ k) : ∀ (m : Nat) (v : Int), v.toNat ≤ m → 0 ≤ brake v k := by
  intro m
  induction m with
  | zero => intro v h; rw [brake_stop v k (by omega)]; omega
  | succ m ih =>
    intro v h
    by_cases hv : 0 < v
    · rw [brake_step v k hk hv]
      have := ih (max 0 (v - k)) (by omega)
      omega
    · rw [brake_stop v k (by omega)]; omega

theorem brake_ge (v k : Int) (hk : 1 ≤ k) : 0 ≤ brake v k := brake_nonneg k hk v.toNat v (by omega)

theorem brake_le_aux (k : Int) (hk : 1 ≤ k) : ∀ (m : Nat) (v : Int), v.toNat ≤ m → v ≤ 20000 → brake v k ≤ 20000 * m := by
  intro m
  induction m with
  | zero => intro v h _; rw [brake_stop v k (by omega)]; omega
  | succ m ih =>
    intro v h hb
    by_cases hv : 0 < v
    · rw [brake_step v k hk hv]
      have := ih (max 0 (v - k)) (by omega) (by omega)
      omega
    · rw [brake_stop v k (by omega)]; omega

theorem brake_le (v k : Int) (hk : 1 ≤ k) (h0 : 0 ≤ v) (h : v ≤ 20000) : brake v k ≤ 20000 * v := by
  have := brake_le_aux k hk v.toNat v (by omega) h
  omega

theorem brake_mono_aux (k : Int) (hk : 1 ≤ k) : ∀ (m : Nat) (v u : Int), u.toNat ≤ m → v ≤ u → brake v k ≤ brake u k := by
  intro m
  induction m with
  | zero =>
    intro v u h hv
    rw [brake_stop v k (by omega), brake_stop u k (by omega)]
    omega
  | succ m ih =>
    intro v u h hv
    by_cases h1 : 0 < v
    · rw [brake_step v k hk h1, brake_step u k hk (by omega)]
      have := ih (max 0 (v - k)) (max 0 (u - k)) (by omega) (by omega)
      omega
    · rw [brake_stop v k (by omega)]
      exact brake_ge u k hk

theorem brake_mono (v u k : Int) (hk : 1 ≤ k) (h : v ≤ u) : brake v k ≤ brake u k := brake_mono_aux k hk u.toNat v u (by omega) h

/-- d ticks of becoming faster by a, then braking by h -/
def worstN : Nat → Int → Int → Int → Int
  | 0, v, _, h => brake v h
  | d + 1, v, a, h => (v + a) + worstN d (v + a) a h

theorem worstN_mono (a h : Int) (hh : 1 ≤ h) : ∀ (d : Nat) (v u : Int), v ≤ u → worstN d v a h ≤ worstN d u a h := by
  intro d
  induction d with
  | zero => intro v u hv; exact brake_mono v u h hh hv
  | succ d ih => intro v u hv; have := ih (v + a) (u + a) (by omega); simp only [worstN]; omega

/-- Worst, where the brakes are right -/
def worstM (h d a v : Int) : Int := worstN (d + 1).toNat v a h
/-- Gentle, where the brakes are right -/
def gentleM (s d w v : Int) : Int := (d + w + 1) * v + brake v s

theorem worstM_mono (h d a v u : Int) (hh : 1 ≤ h) (hv : v ≤ u) : worstM h d a v ≤ worstM h d a u := worstN_mono a h hh _ v u hv
theorem mul_mono (x v u : Int) (hx : 0 ≤ x) (h : v ≤ u) : x * v ≤ x * u := Int.mul_le_mul_of_nonneg_left h hx
theorem mul_bd (x v : Int) (hx : 0 ≤ x) (hx2 : x ≤ 81) (hv : 0 ≤ v) (hv2 : v ≤ 10000) : 0 ≤ x * v ∧ x * v ≤ 810000 := by
  refine ⟨Int.mul_nonneg hx hv, ?_⟩
  have h1 : x * v ≤ x * 10000 := mul_mono x v 10000 hx hv2
  omega
theorem gentleM_mono (s d w v u : Int) (hs : 1 ≤ s) (hd : 0 ≤ d) (hw : 0 ≤ w) (hv : v ≤ u) : gentleM s d w v ≤ gentleM s d w u := by
  unfold gentleM
  have h1 := mul_mono (d + w + 1) v u (by omega) hv
  have h2 := brake_mono v u s hs hv
  omega
/-- the greatest of 0 .. n - 1 that is good; -1 where none is -/
def top (good : Int → Bool) : Nat → Int
  | 0 => -1
  | n + 1 => if good n then n else top good n

theorem top_lt (good : Int → Bool) : ∀ n : Nat, -1 ≤ top good n ∧ top good n < n
  | 0 => by simp [top]
  | n + 1 => by
    have := top_lt good n
    simp only [top]
    split <;> omega

theorem top_good (good : Int → Bool) : ∀ n : Nat, 0 ≤ top good n → good (top good n) = true
  | 0 => by simp [top]
  | n + 1 => by
    have := top_good good n
    simp only [top]
    split
    · intro _; assumption
    · exact this

theorem top_above (good : Int → Bool) : ∀ (n : Nat) (v : Int), top good n < v → v < n → good v = false
  | 0 => by intro v h1 h2; simp [top] at h1 h2; omega
  | n + 1 => by
    intro v h1 h2
    have ih := top_above good n v
    simp only [top] at h1
    by_cases hg : good n = true
    · rw [if_pos hg] at h1; omega
    · rw [if_neg hg] at h1
      by_cases hv : v = n
      · subst hv; simpa using hg
      · exact ih h1 (by omega)

theorem top_is (good : Int → Bool) (n : Nat) (r : Int) (h0 : -1 ≤ r) (h1 : r < n) (hg : 0 ≤ r → good r = true) (ha : ∀ v, r < v → v < n → good v = false) : top good n = r := by
  have t0 := top_lt good n
  have tg := top_good good n
  have ta := top_above good n
  by_cases c : top good n < r
  · have := ta r c (by omega)
    rw [hg (by omega)] at this
    exact absurd this (by decide)
  · by_cases c2 : r < top good n
    · have := ha (top good n) c2 (by omega)
      rw [tg (by omega)] at this
      exact absurd this (by decide)
    · omega

/-- good below implies: what is good stays good where the speed is lower -/
def Falls (good : Int → Bool) : Prop := ∀ v u : Int, v ≤ u → good u = true → good v = true

theorem both_falls (s h d a w room : Int) (hs : 1 ≤ s) (hh : 1 ≤ h) (hd : 0 ≤ d) (hw : 0 ≤ w) : Falls (fun v => decide (worstM h d a v ≤ room) && decide (gentleM s d w v ≤ room)) := by
  intro v u hv hu
  have h1 := worstM_mono h d a v u hh hv
  have h2 := gentleM_mono s d w v u hs hd hw hv
  simp only [Bool.and_eq_true, decide_eq_true_eq] at hu ⊢
  omega

/-- are the brakes right -/
def okB (s h d a w : Int) : Prop := (10 ≤ s ∧ s ≤ 1000) ∧ (s ≤ h ∧ h ≤ 1000) ∧ (0 ≤ d ∧ d ≤ 20) ∧ (0 ≤ a ∧ a ≤ 100) ∧ (0 ≤ w ∧ w ≤ 60)
instance (s h d a w : Int) : Decidable (okB s h d a w) := by unfold okB; exact inferInstance

def permittedM (s h d a w room limit : Int) : Int :=
  if okB s h d a w ∧ (0 ≤ room ∧ room ≤ 100000000) ∧ (0 ≤ limit ∧ limit ≤ 10000) then max 0 (top (fun v => decide (worstM h d a v ≤ room) && decide (gentleM s d w v ≤ room)) (limit + 1).toNat) else -1

end Go.Proofs.Ytcfhjidddpoijaa.Dm
