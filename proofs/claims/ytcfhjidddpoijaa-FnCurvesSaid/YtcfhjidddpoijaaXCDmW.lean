/- What the draws tell, on numbers and lists: brakes that are right, acts that are right; conditions: the choices are bytes, few of them have been read. -/
import Derived.Test.YtcfhjidddpoijaaXCQ4
import Derived.Test.YtcfhjidddpoijaaXCDmD
import Derived.Laws.BitsLemmas
namespace Go.Proofs.Ytcfhjidddpoijaa.Q
open Go.RowKit Go.Proofs.YtcfhjidddpoijaaW.PrintWords Go.Proofs.YtcfhjidddpoijaaW.PrintLast Go.Proofs.YtcfhjidddpoijaaW.PrintMore
set_option linter.unusedSimpArgs false

def Bytes (l : List Int) : Prop := ∀ x ∈ l, 0 ≤ x ∧ x ≤ 255

theorem u64w (n : Int) : IntKind.u64.wrap n = n % 18446744073709551616 := by simp [IntKind.wrap, IntKind.bits, IntKind.signed]
theorem rd_byte {l : List Int} (hb : Bytes l) (i : Int) (h0 : 0 ≤ i) (h1 : i < l.length) : 0 ≤ rd l i ∧ rd l i ≤ 255 := by
  unfold rd
  have hl : i.toNat < l.length := by omega
  rw [List.getD_eq_getElem?_getD, List.getElem?_eq_getElem hl]
  exact hb _ (List.getElem_mem hl)
theorem and255 (y : Int) : 0 ≤ Go.bits .and .u64 (y % 18446744073709551616 / 1099511627776) 255 ∧ Go.bits .and .u64 (y % 18446744073709551616 / 1099511627776) 255 ≤ 255 := by
  have h := bits_mask .u64 24 (by decide) (fun n h0 h1 => by rw [u64w]; omega) 8 (by decide) (y % 18446744073709551616 / 1099511627776) (by omega) (by omega)
  have e : ((2 : Int) ^ 8 - 1) = 255 := by decide
  rw [e] at h
  rw [h]
  omega
theorem w_small {e : Int} (h0 : -1000000000000 ≤ e) (h1 : e ≤ 1000000000000) : wrap64 e = e := by unfold wrap64; omega

theorem next_ok {l : List Int} (hb : Bytes l) (at' seed : Int) (h0 : 0 ≤ at') (h1 : at' ≤ 1000000) : ∃ r s', spec_l4Cur_next.f l at' seed = some (r, at' + 1, s') ∧ 0 ≤ r ∧ r ≤ 255 := by
  unfold spec_l4Cur_next.f
  have e1 : wrap64 (at' + 1) = at' + 1 := w_small (by omega) (by omega)
  by_cases c : at' < l.length
  · rw [if_pos c, if_pos h0, e1]
    obtain ⟨b0, b1⟩ := rd_byte hb at' h0 c
    rw [w_small (e := rd l at') (by omega) (by omega)]
    exact ⟨_, _, rfl, b0, b1⟩
  · rw [if_neg c, e1]
    refine ⟨_, _, rfl, ?_⟩
    rw [u64w (_ + _)]
    have h := and255 (IntKind.u64.wrap (seed * 6364136223846793005) + 1442695040888963407)
    rw [w_small (by omega) (by omega)]
    exact h

theorem tmod_in (x n : Int) (hx : 0 ≤ x) (hn : 1 ≤ n) : 0 ≤ Int.tmod x n ∧ Int.tmod x n < n := by
  rw [Int.tmod_eq_emod_of_nonneg hx]
  exact ⟨Int.emod_nonneg _ (by omega), Int.emod_lt_of_pos _ (by omega)⟩

theorem pick_ok {l : List Int} (hb : Bytes l) (at' seed n : Int) (h0 : 0 ≤ at') (h1 : at' ≤ 900000) (hn : 2 ≤ n) (hn2 : n ≤ 200) : ∃ r a2 s', spec_l4Cur_pick.f l at' seed n = some (r, a2, s') ∧ (0 ≤ r ∧ r < n) ∧ (0 ≤ a2 ∧ a2 ≤ at' + 2) := by
  unfold spec_l4Cur_pick.f
  rw [if_neg (by omega)]
  obtain ⟨r, s', hr, r0, r1⟩ := next_ok hb at' seed h0 (by omega)
  rw [hr]
  simp only [Option.bind_some]
  rw [if_neg (by omega), if_neg (by omega)]
  exact ⟨_, _, _, rfl, tmod_in r n r0 (by omega), by omega, by omega⟩

theorem wide_ok {l : List Int} (hb : Bytes l) (at' seed n : Int) (h0 : 0 ≤ at') (h1 : at' ≤ 900000) (hn : 1 ≤ n) : ∃ r a2 s', spec_l4Cur_wide.f l at' seed n = some (r, a2, s') ∧ (0 ≤ r ∧ r < n) ∧ (0 ≤ a2 ∧ a2 ≤ at' + 2) := by
  unfold spec_l4Cur_wide.f
  obtain ⟨r, s', hr, r0, r1⟩ := next_ok hb at' seed h0 (by omega)
  rw [hr]
  simp only [Option.bind_some]
  obtain ⟨r2, s2, hr2, r20, r21⟩ := next_ok hb (at' + 1) s' (by omega) (by omega)
  rw [hr2]
  simp only [Option.bind_some]
  rw [if_neg (by omega), w_small (e := r * 256) (by omega) (by omega), w_small (e := r * 256 + r2) (by omega) (by omega)]
  exact ⟨_, _, _, rfl, tmod_in _ n (by omega) hn, by omega, by omega⟩

theorem brakes_ok {l : List Int} (hb : Bytes l) (at' seed : Int) (h0 : 0 ≤ at') (h1 : at' ≤ 800000) : ∃ s h d a wn a2 s', spec_l4Cur_brakes.f l at' seed = some (s, h, d, a, wn, a2, s') ∧
    ((10 ≤ s ∧ s ≤ 29) ∧ (s ≤ h ∧ h ≤ s + 29) ∧ (0 ≤ d ∧ d ≤ 4) ∧ (0 ≤ a ∧ a ≤ 11) ∧ (0 ≤ wn ∧ wn ≤ 5)) ∧ (0 ≤ a2 ∧ a2 ≤ at' + 10) := by
  unfold spec_l4Cur_brakes.f
  obtain ⟨r1, a1, s1, e1, b1, c1⟩ := pick_ok hb at' seed 20 h0 (by omega) (by omega) (by omega)
  obtain ⟨r2, a2, s2, e2, b2, c2⟩ := pick_ok hb a1 s1 30 (by omega) (by omega) (by omega) (by omega)
  obtain ⟨r3, a3, s3, e3, b3, c3⟩ := pick_ok hb a2 s2 5 (by omega) (by omega) (by omega) (by omega)
  obtain ⟨r4, a4, s4, e4, b4, c4⟩ := pick_ok hb a3 s3 12 (by omega) (by omega) (by omega) (by omega)
  obtain ⟨r5, a5, s5, e5, b5, c5⟩ := pick_ok hb a4 s4 6 (by omega) (by omega) (by omega) (by omega)
  simp only [e1, e2, e3, e4, e5, Option.bind_some]
  rw [w_small (e := 10 + r1) (by omega) (by omega), w_small (e := 10 + r1 + r2) (by omega) (by omega)]
  exact ⟨_, _, _, _, _, _, _, rfl, by omega, by omega⟩

theorem mul_small (x y : Int) (hx : 0 ≤ x) (hy : 0 ≤ y) (hy2 : y ≤ 10) : 0 ≤ x * y ∧ x * y ≤ 10 * x := by
  refine ⟨Int.mul_nonneg hx hy, ?_⟩
  have := Int.mul_le_mul_of_nonneg_left (c := x) hy2 hx
  omega

theorem act_ok {l : List Int} (hb : Bytes l) (at' seed s h d a wn en : Int) (h0 : 0 ≤ at') (h1 : at' ≤ 800000) (ha : 0 ≤ a) (ha2 : a ≤ 11) (he : -1 ≤ en) (he2 : en ≤ 100000000) :
    ∃ (e : S39) (a2 s' : Int), spec_l4Cur_act.f l at' seed s h d a wn en = some (e.f0, e.f1, e.f2, e.f3, e.f4, e.f5, e.f6, a2, s') ∧ goodAct a e ∧ (0 ≤ a2 ∧ a2 ≤ at' + 16) := by
  unfold spec_l4Cur_act.f
  obtain ⟨r1, a1, s1, e1, b1, c1⟩ := pick_ok hb at' seed 30 h0 (by omega) (by omega) (by omega)
  obtain ⟨r2, a2, s2, e2, b2, c2⟩ := pick_ok hb a1 s1 2 (by omega) (by omega) (by omega) (by omega)
  obtain ⟨r3, a3, s3, e3, b3, c3⟩ := pick_ok hb a2 s2 20 (by omega) (by omega) (by omega) (by omega)
  obtain ⟨r4, a4, s4, e4, b4, c4⟩ := pick_ok hb a3 s3 4 (by omega) (by omega) (by omega) (by omega)
  obtain ⟨r5, a5, s5, e5, b5, c5⟩ := pick_ok hb a4 s4 3 (by omega) (by omega) (by omega) (by omega)
  obtain ⟨r6, a6, s6, e6, b6, c6⟩ := pick_ok hb a5 s5 9 (by omega) (by omega) (by omega) (by omega)
  obtain ⟨r7, a7, s7, e7, b7, c7⟩ := wide_ok hb a6 s6 400 (by omega) (by omega) (by omega)
  obtain ⟨r8, a8, s8, e8, b8, c8⟩ := pick_ok hb a7 s7 3 (by omega) (by omega) (by omega) (by omega)
  have m1 := mul_small r1 r2 (by omega) (by omega) (by omega)
  have m2 := mul_small r5 r6 (by omega) (by omega) (by omega)
  have m3 := mul_small r6 r5 (by omega) (by omega) (by omega)
  have w1 : wrap64 (r1 * r2) = r1 * r2 := w_small (by omega) (by omega)
  have w2 : wrap64 (a - r1 * r2) = a - r1 * r2 := w_small (by omega) (by omega)
  have w3 : wrap64 (r5 * r6) = r5 * r6 := w_small (by omega) (by omega)
  have w4 : wrap64 (20 + r7) = 20 + r7 := w_small (by omega) (by omega)
  simp only [e1, e2, e3, e4, e5, e6, e7, e8, Option.bind_some, w1, w2, w3, w4]
  rw [if_neg (by omega)]
  refine ⟨⟨a - r1 * r2, r3, r4, r5 * r6, en, 20 + r7, decide (r8 > 0)⟩, a8, s8, rfl, ?_, by omega⟩
  unfold goodAct
  refine ⟨⟨?_, ?_⟩, ⟨?_, ?_⟩, ⟨?_, ?_⟩, ⟨?_, ?_⟩, ⟨?_, ?_⟩, ⟨?_, ?_⟩⟩ <;> dsimp only <;> omega

def allGood (a : Int) (o : List S39) : Prop := ∀ e ∈ o, goodAct a e
theorem allGood_snoc {a : Int} {o : List S39} {e : S39} (h : allGood a o) (he : goodAct a e) : allGood a (o ++ [e]) := by
  intro x hx
  rcases List.mem_append.1 hx with h1 | h1
  · exact h x h1
  · rw [List.mem_singleton.1 h1]; exact he
theorem len_snoc {α : Type} (o : List α) (e : α) : (o ++ [e]).length = o.length + 1 := by simp

theorem acts_l {l : List Int} (hb : Bytes l) (s h d a wn : Int) (ha : 0 ≤ a) (ha2 : a ≤ 11) : ∀ (D q : Nat) (o : List S39) (en at' seed : Int), 0 ≤ en → en ≤ 3000 + 2000 * o.length → 0 ≤ at' → at' ≤ 100 + 22 * o.length → allGood a o → o.length + D ≤ 100 → 2 * D < q →
    ∃ o2 a2 s', spec_l4Cur_acts.l0 q o en (D : Int) l at' seed s h d a wn = some (o2, a2, s') ∧ allGood a o2 ∧ o2.length = o.length + D := by
  intro D
  induction D with
  | zero =>
    intro q o en at' seed h1 h2 h3 h4 hg ho hq
    obtain ⟨q, rfl⟩ : ∃ z, q = z + 1 := ⟨q - 1, by omega⟩
    simp only [spec_l4Cur_acts.l0]
    rw [if_neg (by omega)]
    exact ⟨_, _, _, rfl, hg, rfl⟩
  | succ D ih =>
    intro q o en at' seed h1 h2 h3 h4 hg ho hq
    obtain ⟨q, rfl⟩ : ∃ z, q = z + 2 := ⟨q - 2, by omega⟩
    have hD : wrap64 (((D + 1 : Nat) : Int) - 1) = (D : Int) := by rw [w_small (by omega) (by omega)]; omega
    have hlim : o.length < 2513169434916 := lim_ok (i := o.length) (n := 1000) rfl (by omega) (by omega)
    have fin : ∀ (q' : Nat) (en' at2 seed2 : Int) (z : Option (List S39 × Int × Int)), 2 * D < q' → 0 ≤ en' → en' ≤ 3000 + 2000 * (o.length + 1 : Nat) → 0 ≤ at2 → at2 ≤ 106 + 22 * o.length →
        (∀ e : S39, ∀ a3 s3 : Int, spec_l4Cur_act.f l at2 seed2 s h d a wn en' = some (e.f0, e.f1, e.f2, e.f3, e.f4, e.f5, e.f6, a3, s3) → z = spec_l4Cur_acts.l0 q' (o ++ [e]) en' (D : Int) l a3 s3 s h d a wn) →
        ∃ o2 a2 s', z = some (o2, a2, s') ∧ allGood a o2 ∧ o2.length = o.length + (D + 1) := by
      intro q' en' at2 seed2 z hq' p1 p2 p3 p4 hz
      obtain ⟨e, a3, s3, ee, ge, ae⟩ := act_ok hb at2 seed2 s h d a wn en' p3 (by omega) ha ha2 (by omega) (by omega)
      obtain ⟨o2, a2, s', hr, hr2, hr3⟩ := ih q' (o ++ [e]) en' a3 s3 p1 (by rw [len_snoc]; exact p2) (by omega) (by rw [len_snoc]; omega) (allGood_snoc hg ge) (by rw [len_snoc]; omega) hq'
      exact ⟨o2, a2, s', (hz e a3 s3 ee).trans hr, hr2, by rw [hr3, len_snoc]; omega⟩
    rw [spec_l4Cur_acts.l0]
    simp only [spec_l4Cur_acts.j1]
    rw [if_pos (by omega)]
    obtain ⟨r1, a1, s1, e1, b1, c1⟩ := pick_ok hb at' seed 12 h3 (by omega) (by omega) (by omega)
    simp only [e1, Option.bind_some]
    by_cases z0 : r1 = 0
    · rw [if_pos z0]
      obtain ⟨r2, a2, s2, e2, b2, c2⟩ := wide_ok hb a1 s1 2000 (by omega) (by omega) (by omega)
      have w1 : wrap64 (en + r2) = en + r2 := w_small (by omega) (by omega)
      simp only [e2, Option.bind_some, w1]
      refine fin (q + 1) (en + r2) a2 s2 _ (by omega) (by omega) (by omega) (by omega) (by omega) (fun e a3 s3 ee => ?_)
      simp only [ee, Option.bind_some, if_pos hlim, hD]
    · rw [if_neg z0]
      by_cases z1 : r1 = 1
      · rw [if_pos z1]
        obtain ⟨r2, a2, s2, e2, b2, c2⟩ := pick_ok hb a1 s1 3 (by omega) (by omega) (by omega) (by omega)
        simp only [e2, Option.bind_some]
        by_cases z2 : r2 = 0
        · rw [if_pos z2]
          obtain ⟨r3, a3, s3, e3, b3, c3⟩ := wide_ok hb a2 s2 600 (by omega) (by omega) (by omega)
          have w1 : wrap64 (en - r3) = en - r3 := w_small (by omega) (by omega)
          simp only [e3, Option.bind_some, w1]
          by_cases z3 : en - r3 < 0
          · rw [if_pos z3]
            refine fin q 0 a3 s3 _ (by omega) (by omega) (by omega) (by omega) (by omega) (fun e a3 s3 ee => ?_)
            simp only [ee, Option.bind_some, if_pos hlim, hD]
          · rw [if_neg z3]
            refine fin q (en - r3) a3 s3 _ (by omega) (by omega) (by omega) (by omega) (by omega) (fun e a3 s3 ee => ?_)
            simp only [ee, Option.bind_some, if_pos hlim, hD]
        · rw [if_neg z2, if_neg (by omega)]
          refine fin q en a2 s2 _ (by omega) (by omega) (by omega) (by omega) (by omega) (fun e a3 s3 ee => ?_)
          simp only [ee, Option.bind_some, if_pos hlim, hD]
      · rw [if_neg z1]
        refine fin (q + 1) en a1 s1 _ (by omega) (by omega) (by omega) (by omega) (by omega) (fun e a3 s3 ee => ?_)
        simp only [ee, Option.bind_some, if_pos hlim, hD]

theorem rd_good {a : Int} {o : List S39} (h : allGood a o) (j : Nat) (hj : j < o.length) : goodAct a (rd_T39 o j) := by
  unfold rd_T39
  rw [Int.toNat_natCast, List.getD_eq_getElem?_getD, List.getElem?_eq_getElem hj]
  exact h _ (List.getElem_mem hj)

theorem drives_ok {l : List Int} (hb : Bytes l) (q : Nat) (hq : 300 < q) : ∃ s h d a wn o, spec_Drives.f q l = some (s, h, d, a, wn, o) ∧
    ((10 ≤ s ∧ s ≤ 29) ∧ (s ≤ h ∧ h ≤ s + 29) ∧ (0 ≤ d ∧ d ≤ 4) ∧ (0 ≤ a ∧ a ≤ 11) ∧ (0 ≤ wn ∧ wn ≤ 5)) ∧ o.length ≤ 100 ∧ ∀ j : Nat, j < o.length → goodAct a (rd_T39 o j) := by
  unfold spec_Drives.f spec_l4Cur_acts.f
  obtain ⟨s, h, d, a, wn, a1, s1, e1, b1, c1⟩ := brakes_ok hb 0 0 (by omega) (by omega)
  obtain ⟨r2, a2, s2, e2, b2, c2⟩ := wide_ok hb a1 s1 3000 (by omega) (by omega) (by omega)
  obtain ⟨r3, a3, s3, e3, b3, c3⟩ := pick_ok hb a2 s2 60 (by omega) (by omega) (by omega) (by omega)
  have w1 : wrap64 (10 + r3) = ((10 + r3).toNat : Int) := by rw [w_small (by omega) (by omega)]; omega
  obtain ⟨o2, a4, s4, e4, g4, l4⟩ := acts_l hb s h d a wn b1.2.2.2.1.1 b1.2.2.2.1.2 (10 + r3).toNat q [] r2 a3 s3 (by omega) (by simp; omega) (by omega) (by simp; omega) (fun e he => by cases he) (by simp; omega) (by omega)
  simp only [e1, e2, e3, Option.bind_some, w1, e4]
  refine ⟨s, h, d, a, wn, o2, rfl, b1, ?_, fun j hj => rd_good g4 j hj⟩
  rw [l4, List.length_nil]
  omega

theorem okB_of {s h d a wn : Int} (b : (10 ≤ s ∧ s ≤ 29) ∧ (s ≤ h ∧ h ≤ s + 29) ∧ (0 ≤ d ∧ d ≤ 4) ∧ (0 ≤ a ∧ a ≤ 11) ∧ (0 ≤ wn ∧ wn ≤ 5)) : Dm.okB s h d a wn := by unfold Dm.okB; omega
theorem bytes_of {l : List Int} (h : ∀ x ∈ l, (Lit.int .u8 x).wf = true) : Bytes l := by
  intro x hx
  have := h x hx
  simp [Lit.wf, IntKind.min, IntKind.max, IntKind.bits, IntKind.signed] at this
  omega

end Go.Proofs.Ytcfhjidddpoijaa.Q
