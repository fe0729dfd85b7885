/- The law FnCurves on numbers and lists: MostHard and Permitted are the greatest speeds that can be kept, and the reference answers alike; no condition. -/
import Derived.Test.YtcfhjidddpoijaaXCQ14
import Derived.Test.YtcfhjidddpoijaaXCDmB
import Derived.Test.YtcfhjidddpoijaaXCDmW
namespace Go.Proofs.Ytcfhjidddpoijaa.Pure
open Go.RowKit Go.Proofs.Ytcfhjidddpoijaa.Q Go.Proofs.YtcfhjidddpoijaaW.PrintWords Go.Proofs.YtcfhjidddpoijaaW.PrintLast Go.Proofs.YtcfhjidddpoijaaW.PrintMore
set_option linter.unusedSimpArgs false

theorem wByte_ok {l : List Int} (hb : Bytes l) (i : Int) (h0 : 0 ≤ i) : ∃ r, laws_wByte.f l i = some r ∧ 0 ≤ r ∧ r ≤ 255 := by
  unfold laws_wByte.f
  by_cases c : (l.length : Int) = 0
  · rw [if_pos c]; exact ⟨_, rfl, by omega, by omega⟩
  · rw [if_neg c]
    obtain ⟨t0, t1⟩ := tmod_in i l.length h0 (by omega)
    rw [if_pos t0, if_pos t1]
    obtain ⟨r0, r1⟩ := rd_byte hb _ t0 t1
    rw [w_small (by omega) (by omega)]
    exact ⟨_, rfl, r0, r1⟩

theorem lowq (q : Nat) (hq : 60000 < q) : 20100 < q := by omega
theorem Wo {s h d a wn : Int} (ok : Dm.okB s h d a wn) (q : Nat) (hq : 60000 < q) (v : Int) (h0 : 0 ≤ v) (h1 : v ≤ 10000) : impl_Worst.f q s h d a wn v = some (Dm.worstM h d a v) := by
  rw [impl_Worst.is s h d a wn v q (lowq q hq), if_pos ⟨ok, h0, h1⟩]
theorem Ge {s h d a wn : Int} (ok : Dm.okB s h d a wn) (q : Nat) (hq : 60000 < q) (v : Int) (h0 : 0 ≤ v) (h1 : v ≤ 10000) : impl_Gentle.f q s h d a wn v = some (Dm.gentleM s d wn v) := by
  rw [impl_Gentle.all s h d a wn v q (lowq q hq), if_pos ⟨ok, h0, h1⟩]
theorem SWo {s h d a wn : Int} (ok : Dm.okB s h d a wn) (q : Nat) (hq : 60000 < q) (v : Int) (h0 : 0 ≤ v) (h1 : v ≤ 10000) : spec_Worst.f q s h d a wn v = some (Dm.worstM h d a v) := by
  rw [spec_Worst.is s h d a wn v q (lowq q hq), if_pos ⟨ok, h0, h1⟩]
theorem SGe {s h d a wn : Int} (ok : Dm.okB s h d a wn) (q : Nat) (hq : 60000 < q) (v : Int) (h0 : 0 ≤ v) (h1 : v ≤ 10000) : spec_Gentle.f q s h d a wn v = some (Dm.gentleM s d wn v) := by
  rw [spec_Gentle.is s h d a wn v q (lowq q hq), if_pos ⟨ok, h0, h1⟩]

theorem okP {s h d a wn : Int} (ok : Dm.okB s h d a wn) : 1 ≤ s ∧ 1 ≤ h ∧ 0 ≤ d ∧ 0 ≤ a ∧ 0 ≤ wn := by unfold Dm.okB at ok; omega

theorem curves4 {s h d a wn : Int} (ok : Dm.okB s h d a wn) {l1 : List Int} (hb : Bytes l1) (q : Nat) (hq : 60000 < q) : laws_FnCurves.j4 (q + 1) l1 false s h d a wn = some true := by
  obtain ⟨b, e, b0, b1⟩ := wByte_ok hb 4 (by decide)
  obtain ⟨o1, o2, o3, o4, o5⟩ := okP ok
  rw [laws_FnCurves.j4, if_neg (by decide), e]
  simp only [Option.bind_some]
  have w1 : wrap64 (b * 9) = b * 9 := w_small (by clear hq; omega) (by clear hq; omega)
  have w2 : wrap64 (b * 9 + 1) = b * 9 + 1 := w_small (by clear hq; omega) (by clear hq; omega)
  have h0 : 0 ≤ b * 9 := by clear hq; omega
  have h1 : b * 9 ≤ 10000 := by clear hq; omega
  have h2 : 0 ≤ b * 9 + 1 := by clear hq; omega
  have h3 : b * 9 + 1 ≤ 10000 := by clear hq; omega
  rw [w1, w2, Wo ok q hq _ h0 h1, Wo ok q hq _ h2 h3, Ge ok q hq _ h0 h1, Ge ok q hq _ h2 h3, SWo ok q hq _ h0 h1, SGe ok q hq _ h0 h1]
  simp only [Option.bind_some]
  rw [if_pos (Dm.worstM_mono h d a _ _ o2 (by clear hq; omega)), if_pos (Dm.gentleM_mono s d wn _ _ o1 o3 o5 (by clear hq; omega)), if_pos trivial]
  simp

theorem curves3 {s h d a wn : Int} (ok : Dm.okB s h d a wn) {l1 : List Int} (hb : Bytes l1) (q : Nat) (hq : 60000 < q) (R L P : Int) (hP0 : 0 ≤ P) (hL : L ≤ 1000) (h3 : P < L → Dm.worstM h d a (P + 1) ≤ R → ¬ Dm.gentleM s d wn (P + 1) ≤ R) : laws_FnCurves.j3 (q + 2) l1 R L P false s h d a wn = some true := by
  have hq1 : 60000 < q + 1 := Nat.lt_succ_of_lt hq
  have e4 := curves4 ok hb q hq
  rw [laws_FnCurves.j3, if_neg (by decide)]
  by_cases c : P < L
  · have w1 : wrap64 (P + 1) = P + 1 := w_small (by clear hq hq1; omega) (by clear hq hq1; omega)
    have p1 : P ≤ 10000 := by clear hq hq1; omega
    have p2 : 0 ≤ P + 1 := by clear hq hq1; omega
    have p3 : P + 1 ≤ 10000 := by clear hq hq1; omega
    rw [if_pos c, w1, Wo ok (q + 1) hq1 _ hP0 p1, Wo ok (q + 1) hq1 _ p2 p3, Ge ok (q + 1) hq1 _ p2 p3]
    simp only [Option.bind_some]
    by_cases c2 : Dm.worstM h d a P ≤ R
    · rw [if_pos c2]
      by_cases c3 : Dm.worstM h d a (P + 1) ≤ R
      · rw [if_pos c3, decide_eq_false (h3 c c3)]; exact e4
      · rw [if_neg c3]; exact e4
    · rw [if_neg c2]; exact e4
  · rw [if_neg c]; exact e4

theorem curves2 {s h d a wn : Int} (ok : Dm.okB s h d a wn) {l1 : List Int} (hb : Bytes l1) (q : Nat) (hq : 60000 < q) (R L P : Int) (hP0 : 0 ≤ P) (hPL : P ≤ L) (hL : L ≤ 1000) (h2 : P > 0 → Dm.worstM h d a P ≤ R ∧ Dm.gentleM s d wn P ≤ R)
    (h3 : P < L → Dm.worstM h d a (P + 1) ≤ R → ¬ Dm.gentleM s d wn (P + 1) ≤ R) : laws_FnCurves.j2 (q + 3) l1 R L P false s h d a wn = some true := by
  have hq1 : 60000 < q + 2 := Nat.lt_succ_of_lt (Nat.lt_succ_of_lt hq)
  have e3 := curves3 ok hb q hq R L P hP0 hL h3
  rw [laws_FnCurves.j2, if_neg (by decide)]
  by_cases c : P > 0
  · obtain ⟨g1, g2⟩ := h2 c
    have p1 : P ≤ 10000 := Int.le_trans hPL (Int.le_trans hL (by decide))
    rw [if_pos c, Wo ok (q + 2) hq1 _ hP0 p1, Ge ok (q + 2) hq1 _ hP0 p1]
    simp only [Option.bind_some]
    rw [if_neg (Int.not_lt.mpr g1), decide_eq_false (Int.not_lt.mpr g2)]
    exact e3
  · rw [if_neg c]; exact e3

theorem curves1 {s h d a wn : Int} (ok : Dm.okB s h d a wn) {l1 : List Int} (hb : Bytes l1) (q : Nat) (hq : 60000 < q) (R L M P : Int) (hM0 : -1 ≤ M) (hM1 : M ≤ 10000) (hM2 : 0 ≤ M → Dm.worstM h d a M ≤ R) (hM3 : M < 10000 → ¬ Dm.worstM h d a (M + 1) ≤ R)
    (hP0 : 0 ≤ P) (hPL : P ≤ L) (hL : L ≤ 1000) (h2 : P > 0 → Dm.worstM h d a P ≤ R ∧ Dm.gentleM s d wn P ≤ R)
    (h3 : P < L → Dm.worstM h d a (P + 1) ≤ R → ¬ Dm.gentleM s d wn (P + 1) ≤ R) : laws_FnCurves.j1 (q + 4) l1 R L M P false s h d a wn = some true := by
  have hq1 : 60000 < q + 3 := Nat.lt_succ_of_lt (Nat.lt_succ_of_lt (Nat.lt_succ_of_lt hq))
  have e2 := curves2 ok hb q hq R L P hP0 hPL hL h2 h3
  rw [laws_FnCurves.j1, if_neg (by decide)]
  have w1 : wrap64 (M + 1) = M + 1 := w_small (by clear hq hq1; omega) (by clear hq hq1; omega)
  have p2 : 0 ≤ M + 1 := by clear hq hq1; omega
  by_cases c : M ≥ 0
  · rw [if_pos c, Wo ok (q + 3) hq1 _ c hM1]
    simp only [Option.bind_some]
    rw [if_neg (Int.not_lt.mpr (hM2 c))]
    by_cases c2 : M < 10000
    · rw [if_pos c2, w1, Wo ok (q + 3) hq1 _ p2 c2]
      simp only [Option.bind_some]
      rw [decide_eq_false (hM3 c2)]
      exact e2
    · rw [if_neg c2]; exact e2
  · have c2 : M < 10000 := by clear hq hq1; omega
    rw [if_neg c, if_pos c2, w1, Wo ok (q + 3) hq1 _ p2 c2]
    simp only [Option.bind_some]
    rw [decide_eq_false (hM3 c2)]
    exact e2

theorem room_in {x y z : Int} (x0 : 0 ≤ x) (x1 : x ≤ 255) (y0 : 0 ≤ y) (y1 : y ≤ 255) (z0 : 0 ≤ z) (_ : z ≤ 255) :
    ∃ R : Int, wrap64 (wrap64 (x + wrap64 (256 * y)) * wrap64 (1 + Int.tmod z 9)) = R ∧ 0 ≤ R ∧ R ≤ 100000000 := by
  obtain ⟨m0, m1⟩ := tmod_in z 9 z0 (by decide)
  generalize Int.tmod z 9 = m at *
  rw [w_small (e := 256 * y) (by omega) (by omega), w_small (e := x + 256 * y) (by omega) (by omega), w_small (e := 1 + m) (by omega) (by omega)]
  have h1 : 0 ≤ (x + 256 * y) * (1 + m) := Int.mul_nonneg (by omega) (by omega)
  have h2 : (x + 256 * y) * (1 + m) ≤ (x + 256 * y) * 10 := Int.mul_le_mul_of_nonneg_left (by omega) (by omega)
  have h3 : (x + 256 * y) * 10 ≤ 700000 := by omega
  generalize (x + 256 * y) * (1 + m) = r at *
  exact ⟨r, w_small (by omega) (by omega), h1, by omega⟩

theorem limit_in {z : Int} (z0 : 0 ≤ z) (z1 : z ≤ 255) : ∃ L : Int, wrap64 (z * 3) = L ∧ 0 ≤ L ∧ L ≤ 1000 := ⟨z * 3, w_small (by omega) (by omega), by omega, by omega⟩

theorem most_facts {s h d a wn R : Int} (ok : Dm.okB s h d a wn) (R0 : 0 ≤ R) (R1 : R ≤ 100000000) : ∃ M, Dm.mostHardM s h d a wn R = M ∧ -1 ≤ M ∧ M ≤ 10000 ∧ (0 ≤ M → Dm.worstM h d a M ≤ R) ∧ (M < 10000 → ¬ Dm.worstM h d a (M + 1) ≤ R) := by
  refine ⟨_, rfl, ?_⟩
  unfold Dm.mostHardM
  rw [if_pos ⟨ok, R0, R1⟩]
  have t1 := Dm.top_lt (fun v => decide (Dm.worstM h d a v ≤ R)) 10001
  have t2 := Dm.top_good (fun v => decide (Dm.worstM h d a v ≤ R)) 10001
  have t3 := Dm.top_above (fun v => decide (Dm.worstM h d a v ≤ R)) 10001
  generalize Dm.top (fun v => decide (Dm.worstM h d a v ≤ R)) 10001 = M at *
  refine ⟨t1.1, by omega, fun z => of_decide_eq_true (t2 z), fun z => of_decide_eq_false (t3 (M + 1) (by omega) (by omega))⟩

theorem perm_facts {s h d a wn R L : Int} (ok : Dm.okB s h d a wn) (R0 : 0 ≤ R) (R1 : R ≤ 100000000) (L0 : 0 ≤ L) (L1 : L ≤ 1000) : ∃ P, Dm.permittedM s h d a wn R L = P ∧ 0 ≤ P ∧ P ≤ L ∧ (P > 0 → Dm.worstM h d a P ≤ R ∧ Dm.gentleM s d wn P ≤ R) ∧
    (P < L → Dm.worstM h d a (P + 1) ≤ R → ¬ Dm.gentleM s d wn (P + 1) ≤ R) := by
  refine ⟨_, rfl, ?_⟩
  unfold Dm.permittedM
  rw [if_pos ⟨ok, ⟨R0, R1⟩, L0, Int.le_trans L1 (by decide)⟩]
  have t1 := Dm.top_lt (fun v => decide (Dm.worstM h d a v ≤ R) && decide (Dm.gentleM s d wn v ≤ R)) (L + 1).toNat
  have t2 := Dm.top_good (fun v => decide (Dm.worstM h d a v ≤ R) && decide (Dm.gentleM s d wn v ≤ R)) (L + 1).toNat
  have t3 := Dm.top_above (fun v => decide (Dm.worstM h d a v ≤ R) && decide (Dm.gentleM s d wn v ≤ R)) (L + 1).toNat
  generalize Dm.top (fun v => decide (Dm.worstM h d a v ≤ R) && decide (Dm.gentleM s d wn v ≤ R)) (L + 1).toNat = T at *
  have hT : T ≤ L := by omega
  refine ⟨by omega, by omega, fun z => ?_, fun z z1 z2 => ?_⟩
  · have e : max 0 T = T := by omega
    rw [e] at z ⊢
    have := t2 (by omega)
    simp only [Bool.and_eq_true, decide_eq_true_eq] at this
    exact this
  · have := t3 (max 0 T + 1) (by omega) (by omega)
    simp only [Bool.and_eq_false_iff, decide_eq_false_iff_not] at this
    rcases this with h1 | h1
    · exact h1 z1
    · exact h1 z2

theorem curves_all {l0 l1 : List Int} (hb : ∀ x ∈ l0, (Lit.int .u8 x).wf = true) (hb1 : ∀ x ∈ l1, (Lit.int .u8 x).wf = true) (q : Nat) (hq0 : 60000 < q) : laws_FnCurves.f (q + 5) l0 l1 = some true := by
  unfold laws_FnCurves.f
  have hj : ∀ c : Bool, laws_FnCurves.j0 (q + 5) l0 l1 c = some true := by
    intro c
    cases c with
    | true => rw [laws_FnCurves.j0, if_pos rfl]
    | false =>
      rw [laws_FnCurves.j0, if_neg (by decide)]
      have hq1 : 60000 < q + 4 := Nat.lt_of_lt_of_le hq0 (Nat.le_add_right _ _)
      obtain ⟨s, h, d, a, wn, o, e1, b, _, _⟩ := drives_ok (bytes_of hb) (q + 4) (Nat.lt_trans (by decide) hq1)
      obtain ⟨x, e2, x0, x1⟩ := wByte_ok (bytes_of hb1) 0 (by decide)
      obtain ⟨y, e3, y0, y1⟩ := wByte_ok (bytes_of hb1) 1 (by decide)
      obtain ⟨z, e4, z0, z1⟩ := wByte_ok (bytes_of hb1) 2 (by decide)
      obtain ⟨u, e5, u0, u1⟩ := wByte_ok (bytes_of hb1) 3 (by decide)
      have ok := okB_of b
      clear b
      rw [e1, Option.bind_some, e2, Option.bind_some, e3, Option.bind_some, e4, Option.bind_some, e5, Option.bind_some]
      obtain ⟨R, r1, R0, R1⟩ := room_in x0 x1 y0 y1 z0 z1
      obtain ⟨L, l1', L0, L1⟩ := limit_in u0 u1
      rw [r1, l1']
      obtain ⟨M, m1, M0, M1, M2, M3⟩ := most_facts ok R0 R1
      obtain ⟨P, p1, P0, P1, P2, P3⟩ := perm_facts ok R0 R1 L0 L1
      rw [show impl_MostHard.f s h d a wn R = some M from congrArg some m1, show impl_Permitted.f s h d a wn R L = some P from congrArg some p1, spec_MostHard.is s h d a wn R (q + 4) (Nat.lt_trans (by decide) hq1), spec_Permitted.is s h d a wn R L (q + 4) hq1, m1, p1]
      rw [Option.bind_some, Option.bind_some, Option.bind_some, if_pos rfl, Option.bind_some, if_pos rfl, if_neg (Int.not_lt.mpr P1), decide_eq_false (Int.not_lt.mpr P0)]
      exact curves1 ok (bytes_of hb1) q hq0 R L M P M0 M1 M2 M3 P0 P1 L1 P2 P3
  split
  · exact hj _
  · exact hj _

theorem FnCurves : laws_FnCurves.Pure := by
  intro l0 l1 _ _ hb _ _ hb1
  obtain ⟨q, hq⟩ : ∃ q : Nat, q = 70005 := ⟨_, rfl⟩
  exact ⟨q + 5, curves_all hb hb1 q (by rw [hq]; decide)⟩

end Go.Proofs.Ytcfhjidddpoijaa.Pure
