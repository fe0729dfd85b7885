/- What the draws of a tick and of a run tell, on numbers and lists: they tell something; conditions: the choices are bytes, rounds enough. -/
import Derived.Test.YtcfhjidddpoijaaXLQ20
import Derived.Test.YtcfhjidddpoijaaXLDmW
import Derived.Test.YtcfhjidddpoijaaXLDmS
namespace Go.Proofs.Ytcfhjidddpoijaa.Q
open Go.RowKit Go.Proofs.YtcfhjidddpoijaaW.PrintWords Go.Proofs.YtcfhjidddpoijaaW.PrintLast Go.Proofs.YtcfhjidddpoijaaW.PrintMore
set_option linter.unusedSimpArgs false

theorem lt_4 {r x y z w : Int} (h : r < 4) : r < (([x, y, z, w] : List Int).length : Int) := by simpa using h
theorem lt_3 {r x y z : Int} (h : r < 3) : r < (([x, y, z] : List Int).length : Int) := by simpa using h
theorem lt_2 {r x y : Int} (h : r < 2) : r < (([x, y] : List Int).length : Int) := by simpa using h

theorem oddbrakes_ok {l : List Int} (hb : Bytes l) (at' seed s h d a wn : Int) (h0 : 0 ≤ at') (h1 : at' ≤ 800000) : ∃ s2 h2 d2 a2 wn2 at2 seed2, spec_l4Cur_oddbrakes.f l at' seed s h d a wn = some (s2, h2, d2, a2, wn2, at2, seed2) ∧ (0 ≤ at2 ∧ at2 ≤ at' + 4) := by
  unfold spec_l4Cur_oddbrakes.f
  obtain ⟨r1, a1, s1, e1, b1, c1⟩ := pick_ok hb at' seed 5 h0 (by omega) (by omega) (by omega)
  obtain ⟨r4, a4, s4, e4, b4, c4⟩ := pick_ok hb a1 s1 4 (by omega) (by omega) (by omega) (by omega)
  obtain ⟨r3, a3, s3, e3, b3, c3⟩ := pick_ok hb a1 s1 3 (by omega) (by omega) (by omega) (by omega)
  rw [e1]
  simp only [Option.bind_some]
  by_cases z0 : r1 = 0
  · rw [if_pos z0, e4]
    simp only [Option.bind_some]
    rw [if_pos b4.1, if_pos (lt_4 b4.2)]
    exact ⟨_, _, _, _, _, _, _, rfl, by omega, by omega⟩
  · rw [if_neg z0]
    by_cases z1 : r1 = 1
    · rw [if_pos z1, e3]
      simp only [Option.bind_some]
      rw [if_pos b3.1, if_pos (lt_3 b3.2)]
      exact ⟨_, _, _, _, _, _, _, rfl, by omega, by omega⟩
    · rw [if_neg z1]
      by_cases z2 : r1 = 2
      · rw [if_pos z2, e3]
        simp only [Option.bind_some]
        rw [if_pos b3.1, if_pos (lt_3 b3.2)]
        exact ⟨_, _, _, _, _, _, _, rfl, by omega, by omega⟩
      · rw [if_neg z2]
        by_cases z3 : r1 = 3
        · rw [if_pos z3, e3]
          simp only [Option.bind_some]
          rw [if_pos b3.1, if_pos (lt_3 b3.2)]
          exact ⟨_, _, _, _, _, _, _, rfl, by omega, by omega⟩
        · rw [if_neg z3, e3]
          simp only [Option.bind_some]
          rw [if_pos b3.1, if_pos (lt_3 b3.2)]
          exact ⟨_, _, _, _, _, _, _, rfl, by omega, by omega⟩

theorem l4brakes_ok {l : List Int} (hb : Bytes l) (at' seed : Int) (h0 : 0 ≤ at') (h1 : at' ≤ 700000) : ∃ s h d a wn at2 seed2, spec_l4brakes.f l at' seed = some (s, h, d, a, wn, at2, seed2) ∧ (0 ≤ at2 ∧ at2 ≤ at' + 16) := by
  unfold spec_l4brakes.f
  obtain ⟨s, h, d, a, wn, a1, s1, e1, b1, c1⟩ := brakes_ok hb at' seed h0 (by omega)
  obtain ⟨r2, a2, s2, e2, b2, c2⟩ := pick_ok hb a1 s1 16 (by omega) (by omega) (by omega) (by omega)
  obtain ⟨s3, h3, d3, t3, wn3, a3, u3, e3, c3⟩ := oddbrakes_ok hb a2 s2 s h d a wn (by omega) (by omega)
  rw [e1]
  simp only [Option.bind_some]
  rw [e2]
  simp only [Option.bind_some]
  by_cases z : r2 = 0
  · rw [if_pos z, e3]
    simp only [Option.bind_some]
    exact ⟨_, _, _, _, _, _, _, rfl, by omega, by omega⟩
  · rw [if_neg z]
    exact ⟨_, _, _, _, _, _, _, rfl, by omega, by omega⟩

theorem speed_ok {l : List Int} (hb : Bytes l) (at' seed : Int) (h0 : 0 ≤ at') (h1 : at' ≤ 800000) : ∃ v at2 seed2, spec_l4Cur_speed.f l at' seed = some (v, at2, seed2) ∧ (0 ≤ at2 ∧ at2 ≤ at' + 4) := by
  unfold spec_l4Cur_speed.f
  obtain ⟨r1, a1, s1, e1, b1, c1⟩ := pick_ok hb at' seed 14 h0 (by omega) (by omega) (by omega)
  obtain ⟨r4, a4, s4, e4, b4, c4⟩ := pick_ok hb a1 s1 4 (by omega) (by omega) (by omega) (by omega)
  obtain ⟨r5, a5, s5, e5, b5, c5⟩ := wide_ok hb a1 s1 10000 (by omega) (by omega) (by omega)
  obtain ⟨r6, a6, s6, e6, b6, c6⟩ := wide_ok hb a1 s1 400 (by omega) (by omega) (by omega)
  rw [e1]
  simp only [Option.bind_some]
  by_cases z0 : r1 = 0
  · rw [if_pos z0, e4]
    simp only [Option.bind_some]
    rw [if_pos b4.1, if_pos (lt_4 b4.2)]
    exact ⟨_, _, _, rfl, by omega, by omega⟩
  · rw [if_neg z0]
    by_cases z1 : r1 = 1
    · rw [if_pos z1, e5]
      simp only [Option.bind_some]
      exact ⟨_, _, _, rfl, by omega, by omega⟩
    · rw [if_neg z1, e6]
      simp only [Option.bind_some]
      exact ⟨_, _, _, rfl, by omega, by omega⟩

theorem felt_ok {l : List Int} (hb : Bytes l) (at' seed : Int) (h0 : 0 ≤ at') (h1 : at' ≤ 700000) : ∃ hi sp en li ack at2 seed2, spec_l4Cur_felt.f l at' seed = some (hi, sp, en, li, ack, at2, seed2) ∧ (0 ≤ at2 ∧ at2 ≤ at' + 18) := by
  unfold spec_l4Cur_felt.f
  obtain ⟨r1, a1, s1, e1, b1, c1⟩ := wide_ok hb at' seed 3000 h0 (by omega) (by omega)
  obtain ⟨r2, a2, s2, e2, b2, c2⟩ := wide_ok hb a1 s1 200 (by omega) (by omega) (by omega)
  obtain ⟨r3, a3, s3, e3, b3, c3⟩ := pick_ok hb a2 s2 3 (by omega) (by omega) (by omega) (by omega)
  obtain ⟨r4, a4, s4, e4, b4, c4⟩ := wide_ok hb a3 s3 300 (by omega) (by omega) (by omega)
  obtain ⟨r5, a5, s5, e5, b5, c5⟩ := pick_ok hb a4 s4 3 (by omega) (by omega) (by omega) (by omega)
  obtain ⟨r6, a6, s6, e6, b6, c6⟩ := wide_ok hb a5 s5 4000 (by omega) (by omega) (by omega)
  obtain ⟨r7, a7, s7, e7, b7, c7⟩ := pick_ok hb a6 s6 20 (by omega) (by omega) (by omega) (by omega)
  obtain ⟨r8, a8, s8, e8, b8, c8⟩ := pick_ok hb a7 s7 4 (by omega) (by omega) (by omega) (by omega)
  obtain ⟨r9, a9, s9, e9, b9, c9⟩ := pick_ok hb a7 s7 2 (by omega) (by omega) (by omega) (by omega)
  obtain ⟨v10, a10, s10, e10, c10⟩ := speed_ok hb a7 s7 (by omega) (by omega)
  obtain ⟨r11, a11, s11, e11, b11, c11⟩ := wide_ok hb a7 s7 3000 (by omega) (by omega) (by omega)
  have c7' : 0 ≤ a7 ∧ a7 ≤ at' + 14 := by omega
  clear c1 c2 c3 c4 c5 c6 c7
  rw [e1]
  simp only [Option.bind_some]
  rw [e2]
  simp only [Option.bind_some]
  rw [e3]
  simp only [Option.bind_some]
  rw [e4]
  simp only [Option.bind_some]
  rw [e5]
  simp only [Option.bind_some]
  rw [e6]
  simp only [Option.bind_some]
  rw [e7]
  simp only [Option.bind_some]
  clear e1 e2 e3 e4 e5 e6 e7
  by_cases z0 : r7 = 0
  · rw [if_pos z0, e8]
    simp only [Option.bind_some]
    rw [if_pos b8.1, if_pos (lt_4 b8.2)]
    exact ⟨_, _, _, _, _, _, _, rfl, by omega, by omega⟩
  · rw [if_neg z0]
    by_cases z1 : r7 = 1
    · rw [if_pos z1, e9]
      simp only [Option.bind_some]
      rw [if_pos b9.1, if_pos (lt_2 b9.2)]
      exact ⟨_, _, _, _, _, _, _, rfl, by omega, by omega⟩
    · rw [if_neg z1]
      by_cases z2 : r7 = 2
      · rw [if_pos z2, e10]
        simp only [Option.bind_some]
        exact ⟨_, _, _, _, _, _, _, rfl, by omega, by omega⟩
      · rw [if_neg z2]
        by_cases z3 : r7 = 3
        · rw [if_pos z3, e10]
          simp only [Option.bind_some]
          exact ⟨_, _, _, _, _, _, _, rfl, by omega, by omega⟩
        · rw [if_neg z3]
          by_cases z4 : r7 = 4
          · rw [if_pos z4, e11]
            simp only [Option.bind_some]
            exact ⟨_, _, _, _, _, _, _, rfl, by omega, by omega⟩
          · rw [if_neg z4]
            exact ⟨_, _, _, _, _, _, _, rfl, by omega, by omega⟩

theorem guard_ok {l : List Int} (hb : Bytes l) (at' seed hi sp en li : Int) (ack : Bool) (h0 : 0 ≤ at') (h1 : at' ≤ 800000) : ∃ gs ge at2 seed2, spec_l4Cur_guard.f l at' seed hi sp en li ack = some (gs, ge, at2, seed2) := by
  unfold spec_l4Cur_guard.f
  obtain ⟨r1, a1, s1, e1, b1, c1⟩ := pick_ok hb at' seed 4 h0 (by omega) (by omega) (by omega)
  obtain ⟨r2, a2, s2, e2, b2, c2⟩ := pick_ok hb a1 s1 8 (by omega) (by omega) (by omega) (by omega)
  obtain ⟨r3, a3, s3, e3, b3, c3⟩ := wide_ok hb a2 s2 4000 (by omega) (by omega) (by omega)
  obtain ⟨r4, a4, s4, e4, b4, c4⟩ := pick_ok hb a2 s2 4 (by omega) (by omega) (by omega) (by omega)
  obtain ⟨r5, a5, s5, e5, b5, c5⟩ := pick_ok hb a4 s4 2 (by omega) (by omega) (by omega) (by omega)
  rw [e1]
  simp only [Option.bind_some]
  rw [e2]
  simp only [Option.bind_some]
  by_cases z0 : r2 = 0
  · rw [if_pos z0, e3]
    exact ⟨_, _, _, _, rfl⟩
  · rw [if_neg z0]
    by_cases z1 : r2 = 1
    · rw [if_pos z1]
      exact ⟨_, _, _, _, rfl⟩
    · rw [if_neg z1]
      by_cases z2 : r2 = 2
      · rw [if_pos z2, e4]
        simp only [Option.bind_some]
        by_cases z3 : r4 = 0
        · rw [if_pos z3, e5]
          simp only [Option.bind_some]
          rw [if_pos b5.1, if_pos (lt_2 b5.2)]
          exact ⟨_, _, _, _, rfl⟩
        · rw [if_neg z3]
          exact ⟨_, _, _, _, rfl⟩
      · rw [if_neg z2]
        exact ⟨_, _, _, _, rfl⟩

theorem edge_ok {l : List Int} (hb : Bytes l) (at' seed s h d a wn hi sp en li : Int) (ack : Bool) (h0 : 0 ≤ at') (h1 : at' ≤ 800000) (q : Nat) (hq : 20110 < q) : ∃ hi2 sp2 en2 li2 ack2 at2 seed2, spec_l4Cur_edge.f q l at' seed s h d a wn hi sp en li ack = some (hi2, sp2, en2, li2, ack2, at2, seed2) ∧ (0 ≤ at2 ∧ at2 ≤ at' + 4) := by
  obtain ⟨q, rfl⟩ : ∃ z, q = z + 1 := ⟨q - 1, by omega⟩
  have hq2 : 20100 < q := by omega
  clear hq
  unfold spec_l4Cur_edge.f
  rw [spec_BrakesOk.is]
  simp only [Option.bind_some]
  have bad : ∃ hi2 sp2 en2 li2 ack2 at2 seed2, spec_l4Cur_edge.j0 (q + 1) true l at' seed s h d a wn hi sp en li ack = some (hi2, sp2, en2, li2, ack2, at2, seed2) ∧ (0 ≤ at2 ∧ at2 ≤ at' + 4) := by
    rw [spec_l4Cur_edge.j0, if_pos rfl]
    exact ⟨_, _, _, _, _, _, _, rfl, h0, Int.le_add_of_nonneg_right (by decide)⟩
  by_cases ok : Dm.okB s h d a wn
  · rw [decide_eq_true ok, if_pos rfl, spec_FeltOk.is]
    simp only [Option.bind_some]
    by_cases fk : feltB hi sp en li
    · have w1 := spec_l1worst.is s h d a wn sp ok fk.2.1.1 fk.2.1.2 q hq2
      have w2 := spec_l1gentle.is s h d a wn sp ok fk.2.1.1 fk.2.1.2 q hq2
      clear hq2 bad
      obtain ⟨r1, a1, s1, e1, b1, c1⟩ := pick_ok hb at' seed 2 h0 (by omega) (by omega) (by omega)
      obtain ⟨r2, a2, s2, e2, b2, c2⟩ := pick_ok hb a1 s1 3 (by omega) (by omega) (by omega) (by omega)
      rw [decide_eq_true fk, Bool.not_true, spec_l4Cur_edge.j0, if_neg (by decide), e1]
      simp only [Option.bind_some]
      by_cases z : r1 = 0
      · rw [if_pos z, w1]
        simp only [Option.bind_some]
        rw [e2]
        simp only [Option.bind_some]
        exact ⟨_, _, _, _, _, _, _, rfl, by omega, by omega⟩
      · rw [if_neg z, w2]
        simp only [Option.bind_some]
        rw [e2]
        simp only [Option.bind_some]
        exact ⟨_, _, _, _, _, _, _, rfl, by omega, by omega⟩
    · rw [decide_eq_false fk]
      exact bad
  · rw [decide_eq_false ok, if_neg (by decide)]
    exact bad

theorem DrawTick_ok {l : List Int} (hb : Bytes l) (q : Nat) (hq : 20110 < q) : ∃ s h d a wn gs ge hi sp en li ack, spec_DrawTick.f q l = some (s, h, d, a, wn, gs, ge, hi, sp, en, li, ack) := by
  unfold spec_DrawTick.f
  obtain ⟨s, h, d, a, wn, a1, s1, e1, c1⟩ := l4brakes_ok hb 0 0 (by omega) (by omega)
  obtain ⟨hi, sp, en, li, ack, a2, s2, e2, c2⟩ := felt_ok hb a1 s1 c1.1 (by clear hq; omega)
  obtain ⟨r3, a3, s3, e3, b3, c3⟩ := pick_ok hb a2 s2 3 c2.1 (by clear hq; omega) (by decide) (by decide)
  obtain ⟨hi4, sp4, en4, li4, ack4, a4, s4, e4, c4⟩ := edge_ok hb a3 s3 s h d a wn hi sp en li ack c3.1 (by clear hq; omega) q hq
  obtain ⟨gs5, ge5, a5, s5, e5⟩ := guard_ok hb a4 s4 hi4 sp4 en4 li4 ack4 c4.1 (by clear hq; omega)
  obtain ⟨gs6, ge6, a6, s6, e6⟩ := guard_ok hb a3 s3 hi sp en li ack c3.1 (by clear hq; omega)
  rw [e1]
  simp only [Option.bind_some]
  rw [e2]
  simp only [Option.bind_some]
  rw [e3]
  simp only [Option.bind_some]
  by_cases z : r3 = 0
  · rw [if_pos z, e4]
    simp only [Option.bind_some]
    rw [e5]
    exact ⟨_, _, _, _, _, _, _, _, _, _, _, _, rfl⟩
  · rw [if_neg z, e6]
    exact ⟨_, _, _, _, _, _, _, _, _, _, _, _, rfl⟩

/-! ### what a tick tells -/
theorem tickM_ok (s h d a wn gs ge hi sp en li : Int) (ack : Bool) : (tickM s h d a wn gs ge hi sp en li ack).1 = true := by
  unfold tickM
  split
  · rfl
  · split <;> rfl
theorem tickM_hard {s h d a wn gs ge hi sp en li : Int} {ack : Bool} (c : (gs = 3 ∧ ¬ (sp = 0 ∧ ack = true ∧ keptM h d a hi sp en = true)) ∨ keptM h d a hi sp en = false) : (tickM s h d a wn gs ge hi sp en li ack).2.1 = 3 := by
  unfold tickM
  rw [if_pos c]
theorem tickM_soft {s h d a wn gs ge hi sp en li : Int} {ack : Bool} (c : ¬ ((gs = 3 ∧ ¬ (sp = 0 ∧ ack = true ∧ keptM h d a hi sp en = true)) ∨ keptM h d a hi sp en = false)) : (tickM s h d a wn gs ge hi sp en li ack).2.1 ≠ 3 := by
  unfold tickM
  rw [if_neg c]
  split
  · dsimp only
    split <;> decide
  · dsimp only
    decide
end Go.Proofs.Ytcfhjidddpoijaa.Q
