/- The law FnFaster on numbers and lists: a train becomes no faster than it can, a hard brake begins after its delay and brakes by Hard at least; no condition. -/
import Derived.Test.YtcfhjidddpoijaaQ10
import Derived.Test.YtcfhjidddpoijaaDmW
namespace Go.Proofs.Ytcfhjidddpoijaa.Pure
open Go.RowKit Go.Proofs.Ytcfhjidddpoijaa.Q Go.Proofs.YtcfhjidddpoijaaW.PrintWords Go.Proofs.YtcfhjidddpoijaaW.PrintLast Go.Proofs.YtcfhjidddpoijaaW.PrintMore
set_option linter.unusedSimpArgs false

theorem rd_outs (s h d a wn x0 v0 : Int) (l : List S39) (n i : Nat) (hi : i < n) : rd_T35 (outsN s h d a wn x0 v0 l n) (i : Int) = outD s h d a wn (stN s h d a wn x0 v0 l i) (rd_T39 l i) := by
  unfold rd_T35 outsN
  rw [Int.toNat_natCast, List.getD_eq_getElem?_getD, List.getElem?_map, List.getElem?_range hi]
  rfl

/-- what the law's count of the hard brake's ticks has to do with the program's -/
def invF (d : Int) (i : Nat) (p : DmS) (hard : Int) : Prop := (p.gs = 3 → d ≤ p.hard ∨ hard = p.hard) ∧ (p.gs ≠ 3 → p.hard = 0) ∧ (0 ≤ hard ∧ hard ≤ d + 1 + i)

theorem speed_le {s h d a wn : Int} {p : DmS} {e : S39} (hs : 0 ≤ s) (hh : 0 ≤ h) (ha : 0 ≤ a) (hv : 0 ≤ p.v) (he : goodAct a e) : speedD s h d a wn p e ≤ p.v + a := by
  obtain ⟨⟨w0, w1⟩, _, _, ⟨m0, m1⟩, _, _⟩ := he
  have hc : changeD s h d (saidD s h d a wn p e).2.1 p.hard e ≤ a := by
    unfold changeD
    split
    · split <;> omega
    · split <;> omega
  unfold speedD
  omega

theorem hard_brakes {s h d a wn : Int} {p : DmS} {e : S39} (he : goodAct a e) (h3 : (saidD s h d a wn p e).2.1 = 3) (hb : d ≤ p.hard) (hpos : speedD s h d a wn p e > 0) : speedD s h d a wn p e ≤ p.v - h := by
  obtain ⟨_, _, _, ⟨m0, m1⟩, _, _⟩ := he
  have hc : changeD s h d (saidD s h d a wn p e).2.1 p.hard e = -h - e.f3 := by unfold changeD; rw [if_pos h3, if_pos hb]
  unfold speedD at hpos ⊢
  rw [hc] at hpos ⊢
  omega

theorem c_succ {c d : Int} {i : Nat} (h0 : 0 ≤ c) (h1 : c ≤ d + 1 + i) : 0 ≤ c + 1 ∧ c + 1 ≤ d + 1 + ((i + 1 : Nat) : Int) := by omega
theorem c_keep {c d : Int} {i : Nat} (h0 : 0 ≤ c) (h1 : c ≤ d + 1 + i) : 0 ≤ c ∧ c ≤ d + 1 + ((i + 1 : Nat) : Int) := by omega
theorem c_w {c d : Int} {i : Nat} (h0 : 0 ≤ c) (h1 : c ≤ d + 1 + i) (hd : d ≤ 4) (hi : i ≤ 1000) : wrap64 (c + 1) = c + 1 := w_small (by omega) (by omega)
theorem c_or {c d k : Int} (hc : d ≤ k ∨ c = k) : d ≤ k + 1 ∨ c + 1 = k + 1 := by omega
theorem c_late {c d k : Int} (hc : d ≤ k ∨ c = k) (h : c + 1 > d) : d ≤ k := by omega
theorem c_zero {d : Int} {i : Nat} (hd : 0 ≤ d) : (0 : Int) ≤ d + 1 + i := by omega
theorem w_h {v h : Int} (h0 : 0 ≤ v) (h1 : v ≤ 9900) (h2 : 10 ≤ h) (h3 : h ≤ 58) : wrap64 (v - h) = v - h := w_small (by omega) (by omega)
theorem w_a {v h : Int} (h0 : 0 ≤ v) (h1 : v ≤ 9900) (h2 : 0 ≤ h) (h3 : h ≤ 11) : wrap64 (v + h) = v + h := w_small (by omega) (by omega)

theorem faster_l (s h d a wn : Int) (b : (10 ≤ s ∧ s ≤ 29) ∧ (s ≤ h ∧ h ≤ s + 29) ∧ (0 ≤ d ∧ d ≤ 4) ∧ (0 ≤ a ∧ a ≤ 11) ∧ (0 ≤ wn ∧ wn ≤ 5)) (l : List S39) (n : Nat) (hn : n ≤ 100)
    (hl : ∀ j : Nat, j < n → goodAct a (rd_T39 l j)) : ∀ (D i q : Nat) (hard : Int), i + D = n → 4 * D < q → invF d i (stN s h d a wn 5 0 l i) hard →
    laws_FnFaster.l0 q (outsN s h d a wn 5 0 l n) (stN s h d a wn 5 0 l i).v hard (outsN s h d a wn 5 0 l n) (n : Int) (i : Int) s h d a wn = some true := by
  have hh : 10 ≤ h ∧ h ≤ 58 ∧ 0 ≤ s ∧ 0 ≤ h := by omega
  obtain ⟨_, _, ⟨b5, b6⟩, ⟨b7, b8⟩, _⟩ := b
  intro D
  induction D with
  | zero =>
    intro i q hard hi hq hI
    obtain ⟨q, rfl⟩ : ∃ z, q = z + 1 := ⟨q - 1, by omega⟩
    rw [laws_FnFaster.l0, if_neg (by omega)]
  | succ D ih =>
    intro i q hard hi hq hI
    obtain ⟨q, rfl⟩ : ∃ z, q = z + 4 := ⟨q - 4, by omega⟩
    have hin : i < n := by omega
    have hi1 : i ≤ 1000 := by omega
    have hDq : 4 * D < q := by omega
    have ih' := fun (q' : Nat) (hard : Int) (hq' : 4 * D < q') => ih (i + 1) q' hard (by omega) hq'
    clear ih hq hi
    obtain ⟨⟨v0, v1⟩, _, ⟨p0, p1⟩, _, _⟩ := stN_inv (a := a) (s := s) (h := h) (wn := wn) (x0 := 5) (v0 := 0) (l := l) b5 ⟨Int.le_refl _, by decide⟩ n hl i (Nat.le_of_lt hin)
    have hge := hl i hin
    have hsl := speed_le (s := s) (h := h) (d := d) (wn := wn) (p := stN s h d a wn 5 0 l i) hh.2.2.1 hh.2.2.2 b7 v0 hge
    have hhb := hard_brakes (s := s) (h := h) (d := d) (wn := wn) (p := stN s h d a wn 5 0 l i) hge
    have hro := rd_outs s h d a wn 5 0 l n i hin
    unfold outD at hro
    have hnext : stN s h d a wn 5 0 l (i + 1) = stepD s h d a wn (stN s h d a wn 5 0 l i) (rd_T39 l i) := rfl
    have hzero : i = 0 → (stN s h d a wn 5 0 l i).gs = 3 := by intro z; rw [z]; rfl
    have hlast : ∀ j : Nat, i = j + 1 → (outD s h d a wn (stN s h d a wn 5 0 l j) (rd_T39 l j)).f2.f1.f0 = (stN s h d a wn 5 0 l i).gs := by intro j z; rw [z]; rfl
    rw [hnext] at ih'
    rw [laws_FnFaster.l0, if_pos (natI_lt hin), if_pos (Int.natCast_nonneg i), if_pos (by rw [outsN_length]; exact natI_lt hin), hro]
    dsimp only
    have w3 := w_idx hi1
    generalize stN s h d a wn 5 0 l i = P at *
    generalize rd_T39 l (i : Int) = E at *
    have w1 : wrap64 (P.v + a) = P.v + a := w_a v0 v1 b7 b8
    have w2 : wrap64 (P.v - h) = P.v - h := w_h v0 v1 hh.1 hh.2.1
    obtain ⟨i1, i2, i3, i4⟩ := hI
    rw [w1, w3, if_neg (Int.not_lt.mpr hsl)]
    -- one tick of the hard brake, the count behind the reset being c
    have tick : ∀ c : Int, (saidD s h d a wn P E).2.1 = 3 → (d ≤ P.hard ∨ c = P.hard) → 0 ≤ c → c ≤ d + 1 + i →
        laws_FnFaster.j2 (q + 2) (outsN s h d a wn 5 0 l n) P.v c (outsN s h d a wn 5 0 l n) (n : Int) (i : Int) s h d a wn (P.x + speedD s h d a wn P E) (speedD s h d a wn P E) (saidD s h d a wn P E).1 (saidD s h d a wn P E).2.1 (saidD s h d a wn P E).2.2.1 (saidD s h d a wn P E).2.2.2.1 (saidD s h d a wn P E).2.2.2.2.1 (saidD s h d a wn P E).2.2.2.2.2 = some true := by
      intro c h3 hc c0 c1
      have w6 : wrap64 (c + 1) = c + 1 := c_w c0 c1 b6 hi1
      have hI' : invF d (i + 1) (stepD s h d a wn P E) (c + 1) := by
        refine ⟨fun _ => ?_, fun hne => absurd h3 hne, c_succ c0 c1⟩
        show d ≤ (if (saidD s h d a wn P E).2.1 = 3 then P.hard + 1 else 0) ∨ c + 1 = (if (saidD s h d a wn P E).2.1 = 3 then P.hard + 1 else 0)
        rw [if_pos h3]
        exact c_or hc
      have fin := ih' q (c + 1) hDq hI'
      rw [laws_FnFaster.j2, w6, w2]
      by_cases c2 : c + 1 > d
      · rw [if_pos c2]
        by_cases c3 : speedD s h d a wn P E > 0
        · rw [if_pos c3, decide_eq_false (Int.not_lt.mpr (hhb h3 (c_late hc c2) c3)), laws_FnFaster.j3, if_neg (by decide), w3]
          exact fin
        · rw [if_neg c3, laws_FnFaster.j3, if_neg (by decide), w3]
          exact fin
      · rw [if_neg c2, laws_FnFaster.j3, if_neg (by decide), w3]
        exact fin
    by_cases h3 : (saidD s h d a wn P E).2.1 = 3
    · rw [if_pos h3]
      by_cases hi0 : (i : Int) > 0
      · rw [if_pos hi0]
        obtain ⟨j, hj⟩ : ∃ j, i = j + 1 := ⟨i - 1, by clear hhb hsl i1 i2 i3 i4 p0 p1 v0 v1 w1 w2 w3 hro hge; omega⟩
        have hgs := hlast j hj
        subst hj
        have hrj := rd_outs s h d a wn 5 0 l n j (Nat.lt_of_succ_lt hin)
        rw [w_pre (Nat.le_of_succ_le hi1), if_pos (Int.natCast_nonneg j), if_pos (by rw [outsN_length]; exact natI_lt (Nat.lt_of_succ_lt hin)), hrj, hgs, laws_FnFaster.j1]
        by_cases hg : P.gs = 3
        · rw [if_neg (by rw [hg]; decide)]
          exact tick hard h3 (i1 hg) i3 i4
        · rw [if_pos (bne_iff_ne.mpr hg)]
          exact tick 0 h3 (.inr (i2 hg).symm) (Int.le_refl _) (c_zero b5)
      · rw [if_neg hi0, laws_FnFaster.j1, if_neg (by decide)]
        exact tick hard h3 (i1 (hzero (by clear hhb hsl i1 i2 i3 i4 p0 p1 v0 v1 w1 w2 w3 hro hge; omega))) i3 i4
    · rw [if_neg h3]
      refine ih' (q + 3) hard (Nat.lt_of_lt_of_le hDq (Nat.le_add_right _ _)) ⟨fun hg => absurd hg h3, fun _ => ?_, c_keep i3 i4⟩
      show (if (saidD s h d a wn P E).2.1 = 3 then P.hard + 1 else 0) = 0
      rw [if_neg h3]

theorem FnFaster : laws_FnFaster.Pure := by
  intro l0 _ _ hb
  refine ⟨30000, ?_⟩
  unfold laws_FnFaster.f
  by_cases c : (l0.length : Int) > 1048576
  · rw [if_pos c]
  · rw [if_neg c]
    obtain ⟨s, h, d, a, wn, o, e1, b, ho, hg⟩ := drives_ok (bytes_of hb) 30000 (by decide)
    rw [e1]
    simp only [Option.bind_some]
    rw [impl_Drive.is s h d a wn 5 0 (okB_of b) (by omega) (by omega) (by omega) o (by omega) hg 30000 (by decide)]
    simp only [Option.bind_some, outsN_length]
    rw [if_pos trivial]
    have w : wrap64 (d + 1) = d + 1 := w_small (by omega) (by omega)
    rw [w]
    exact faster_l s h d a wn b o o.length ho hg o.length 0 30000 (d + 1) (by omega) (by omega) ⟨fun _ => .inl (Int.le_refl d), fun hne => absurd rfl hne, by omega, by omega⟩

end Go.Proofs.Ytcfhjidddpoijaa.Pure
