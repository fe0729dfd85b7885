/- The law FnLonger on numbers and lists: with a longer leash, a lower speed or a place less far nothing is braked hard that was not; no condition. -/
import Derived.Test.YtcfhjidddpoijaaXLQ24
import Derived.Test.YtcfhjidddpoijaaXLDmR
namespace Go.Proofs.Ytcfhjidddpoijaa.Pure
open Go.RowKit Go.Proofs.Ytcfhjidddpoijaa.Q Go.Proofs.YtcfhjidddpoijaaW.PrintWords Go.Proofs.YtcfhjidddpoijaaW.PrintLast Go.Proofs.YtcfhjidddpoijaaW.PrintMore
set_option linter.unusedSimpArgs false

theorem wByte_ok {l : List Int} (hb : Bytes l) (i : Int) (h0 : 0 ≤ i) : ∃ r, laws_wByte.f l i = some r ∧ 0 ≤ r ∧ r ≤ 255 := by
  unfold laws_wByte.f
  by_cases c : (l.length : Int) = 0
  · rw [if_pos c]; exact ⟨_, rfl, by omega, by omega⟩
  · rw [if_neg c]
    obtain ⟨t0, t1⟩ := tmod_in i l.length h0 (by omega)
    rw [if_pos t0, if_pos t1]
    obtain ⟨r0, r1⟩ := rd_byte hb _ t0 t1
    rw [w_small (by omega) (by omega)]
    exact ⟨_, rfl, r0, r1⟩

theorem soft_of {s h d a wn gs ge hi sp en li : Int} {ack : Bool} (c3 : gs ≠ 3) (hk : Dm.worstM h d a sp ≤ en - hi) : (tickM s h d a wn gs ge hi sp en li ack).2.1 ≠ 3 := by
  have hk2 : keptM h d a hi sp en = true := decide_eq_true hk
  exact tickM_soft (fun z => z.elim (fun z => c3 z.1) (fun z => by rw [hk2] at z; cases z))
theorem kept_of {s h d a wn gs ge hi sp en li : Int} {ack : Bool} (c : (tickM s h d a wn gs ge hi sp en li ack).2.1 ≠ 3) : Dm.worstM h d a sp ≤ en - hi := by
  refine Classical.byContradiction (fun z => c (tickM_hard (.inr ?_)))
  exact decide_eq_false z

theorem tick_soft {s h d a wn gs ge hi sp en li : Int} {ack : Bool} (ok : Dm.okB s h d a wn) (gk : guardB gs ge) (c3 : gs ≠ 3) (f0 : 0 ≤ hi ∧ hi ≤ 100000000) (f1 : 0 ≤ sp ∧ sp ≤ 10000) (n0 : -1 ≤ en) (f3 : 0 ≤ li ∧ li ≤ 10000) (hk : Dm.worstM h d a sp ≤ en - hi) :
    (if (tickAll s h d a wn gs ge hi sp en li ack).1 = true then some ((tickAll s h d a wn gs ge hi sp en li ack).2.1 != 3) else if en > 100000000 then some true else some false) = some true := by
  by_cases c : en ≤ 100000000
  · have ht : tickAll s h d a wn gs ge hi sp en li ack = tickM s h d a wn gs ge hi sp en li ack := if_pos ⟨ok, gk, f0, f1, ⟨n0, c⟩, f3⟩
    rw [ht, if_pos (tickM_ok s h d a wn gs ge hi sp en li ack), bne_iff_ne.mpr (soft_of c3 hk)]
  · have ht : tickAll s h d a wn gs ge hi sp en li ack = (false, 0, 0, 0, false, false) := if_neg (fun z => c z.2.2.2.2.1.2)
    rw [ht, if_neg (by decide), if_pos (Int.not_le.mp c)]

theorem longer_end (s h d a wn gs ge hi sp en li : Int) (ack : Bool) (q : Nat) (hq : 60020 < q) (l1 : List Int) (hb : Bytes l1) (x : Bool) (t : Bool × Int × Int × Int × Bool × Bool) (ht : t = tickAll s h d a wn gs ge hi sp en li ack)
    (hx : x = false → t.1 = true ∧ gs ≠ 3 ∧ t.2.1 ≠ 3) : laws_FnLonger.j1 (q + 1) l1 x s h d a wn gs ge hi sp en li ack t.1 t.2.1 t.2.2.1 t.2.2.2.1 t.2.2.2.2.1 t.2.2.2.2.2 = some true := by
  have hq1 : 20112 < q := by omega
  have hq2 : 60010 < q := by omega
  clear hq
  rw [laws_FnLonger.j1]
  cases x with
  | true =>
    rw [if_pos rfl, spec_Tick.is s h d a wn gs ge hi sp en li ack q hq2, ht]
    simp only [Option.bind_some, beq_self_eq_true, Bool.and_true]
  | false =>
    obtain ⟨x1, x2, x3⟩ := hx rfl
    rw [ht] at x1 x3
    clear ht hx
    by_cases g : Dm.okB s h d a wn ∧ guardB gs ge ∧ feltB hi sp en li
    · have hT : tickAll s h d a wn gs ge hi sp en li ack = tickM s h d a wn gs ge hi sp en li ack := if_pos g
      rw [hT] at x3
      have hk := kept_of x3
      clear hT x1 x3
      obtain ⟨ok, gk, f0, f1, ⟨n0, n1⟩, f3⟩ := g
      obtain ⟨b0, e0, p0, p1⟩ := wByte_ok hb 0 (by decide)
      obtain ⟨b1, e1, p2, p3⟩ := wByte_ok hb 1 (by decide)
      have T := fun hi2 sp2 en2 => impl_Tick.is s h d a wn gs ge hi2 sp2 en2 li ack q hq1
      clear hq1 hq2
      rw [if_neg (by decide), e0]
      simp only [Option.bind_some]
      by_cases z0 : Int.tmod b0 3 = 0
      · have w1 : wrap64 (en + b1) = en + b1 := w_small (by omega) (by omega)
        rw [if_pos z0, e1]
        simp only [Option.bind_some]
        rw [w1, T]
        simp only [Option.bind_some]
        exact tick_soft ok gk x2 f0 f1 (by omega) f3 (by omega)
      · rw [if_neg z0]
        by_cases z1 : Int.tmod b0 3 = 1
        · have w1 : wrap64 (sp + 1) = sp + 1 := w_small (by omega) (by omega)
          obtain ⟨m0, m1⟩ := tmod_in b1 (sp + 1) p2 (by omega)
          rw [if_pos z1, e1]
          simp only [Option.bind_some]
          rw [w1, if_neg (by omega)]
          generalize Int.tmod b1 (sp + 1) = m at *
          have w2 : wrap64 (sp - m) = sp - m := w_small (by omega) (by omega)
          have mono := Dm.worstM_mono h d a (sp - m) sp (h_pos ok) (by omega)
          rw [w2, T]
          simp only [Option.bind_some]
          exact tick_soft ok gk x2 f0 (by omega) n0 f3 (by omega)
        · have w1 : wrap64 (hi + 1) = hi + 1 := w_small (by omega) (by omega)
          obtain ⟨m0, m1⟩ := tmod_in b1 (hi + 1) p2 (by omega)
          rw [if_neg z1, e1]
          simp only [Option.bind_some]
          rw [w1, if_neg (by omega)]
          generalize Int.tmod b1 (hi + 1) = m at *
          have w2 : wrap64 (hi - m) = hi - m := w_small (by omega) (by omega)
          rw [w2, T]
          simp only [Option.bind_some]
          exact tick_soft ok gk x2 (by omega) f1 n0 f3 (by omega)
    · have hT : tickAll s h d a wn gs ge hi sp en li ack = (false, 0, 0, 0, false, false) := if_neg g
      rw [hT] at x1
      cases x1

theorem FnLonger : laws_FnLonger.Pure := by
  intro l0 l1 _ _ hb _ _ hb1
  refine ⟨60022 + 2, ?_⟩
  have hq1 : 20110 < 60022 + 1 := by decide
  have hq2 : 60020 < 60022 := by decide
  have hq3 : 20112 < 60022 + 1 := by decide
  generalize 60022 = q at *
  have key : ∀ c : Bool, laws_FnLonger.j0 (q + 2) l0 l1 c = some true := by
    intro c
    rw [show q + 2 = (q + 1) + 1 from rfl, laws_FnLonger.j0]
    cases c with
    | true => rfl
    | false =>
      obtain ⟨s, h, d, a, wn, gs, ge, hi, sp, en, li, ack, he⟩ := DrawTick_ok (bytes_of hb) (q + 1) hq1
      rw [if_neg (by decide), he]
      simp only [Option.bind_some]
      rw [impl_Tick.is s h d a wn gs ge hi sp en li ack (q + 1) hq3]
      simp only [Option.bind_some]
      have fin := longer_end s h d a wn gs ge hi sp en li ack q hq2 l1 (bytes_of hb1)
      by_cases c1 : (tickAll s h d a wn gs ge hi sp en li ack).1 = true
      · rw [if_pos c1]
        by_cases c2 : gs = 3
        · rw [if_pos c2]
          exact fin true _ rfl (fun z => by cases z)
        · rw [if_neg c2]
          exact fin _ _ rfl (fun z => ⟨c1, c2, beq_eq_false_iff_ne.mp z⟩)
      · rw [if_neg c1]
        exact fin true _ rfl (fun z => by cases z)
  unfold laws_FnLonger.f
  split
  · exact key _
  · exact key _

end Go.Proofs.Ytcfhjidddpoijaa.Pure
