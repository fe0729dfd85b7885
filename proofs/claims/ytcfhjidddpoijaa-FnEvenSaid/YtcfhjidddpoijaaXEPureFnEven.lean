/- The law FnEven on numbers and lists: who keeps to what is said is free, hard stays hard, the reference answers alike; no condition. -/
import Derived.Test.YtcfhjidddpoijaaXEQ23
import Derived.Test.YtcfhjidddpoijaaXEDmR
namespace Go.Proofs.Ytcfhjidddpoijaa.Pure
open Go.RowKit Go.Proofs.Ytcfhjidddpoijaa.Q Go.Proofs.YtcfhjidddpoijaaW.PrintWords Go.Proofs.YtcfhjidddpoijaaW.PrintLast Go.Proofs.YtcfhjidddpoijaaW.PrintMore
set_option linter.unusedSimpArgs false

theorem even_end {s h d a wn hi sp en li R : Int} {ack : Bool} {t : Bool × Int × Int × Int × Bool × Bool} (ok : Dm.okB s h d a wn) (s0 : 0 ≤ sp) (s1 : sp ≤ 10000) (q : Nat) (hq : 20100 < q) (x : Bool)
    (h1 : x = true → t.2.1 = 0 ∧ t.2.2.2.1 = Dm.permittedM s h d a wn R li) (h2 : x = false → t.2.1 ≠ 0 ∧ (t.2.1 == 3) = decide (Dm.worstM h d a sp > R)) :
    laws_FnEven.j0 (q + 1) R x s h d a wn hi sp en li ack t.1 t.2.1 t.2.2.1 t.2.2.2.1 t.2.2.2.2.1 t.2.2.2.2.2 = some true := by
  rw [laws_FnEven.j0]
  cases x with
  | true =>
    obtain ⟨e1, e2⟩ := h1 rfl
    rw [if_pos rfl, if_pos e1, e2]
    simp only [impl_Permitted.f, Option.bind_some, beq_self_eq_true]
  | false =>
    obtain ⟨e1, e2⟩ := h2 rfl
    rw [if_neg (by decide), if_neg e1, impl_Worst.is s h d a wn sp q hq, if_pos ⟨ok, s0, s1⟩, e2]
    simp only [Option.bind_some, beq_self_eq_true]

theorem even_all (s h d a wn gs ge hi sp en li : Int) (ack : Bool) (q : Nat) (hq : 60020 < q) (l : List Int) (hl : ¬ (l.length : Int) > 1048576) (he : spec_DrawTick.f (q + 1) l = some (s, h, d, a, wn, gs, ge, hi, sp, en, li, ack)) : laws_FnEven.f (q + 1) l = some true := by
  have hq1 : 20112 < q + 1 := by omega
  have hq2 : 60010 < q + 1 := by omega
  have hq3 : 20100 < q + 1 := by omega
  have hq4 : 20100 < q := by omega
  clear hq
  unfold laws_FnEven.f
  rw [if_neg hl, he]
  simp only [Option.bind_some]
  rw [impl_Tick.is s h d a wn gs ge hi sp en li ack (q + 1) hq1, spec_Tick.is s h d a wn gs ge hi sp en li ack (q + 1) hq2]
  simp only [Option.bind_some, beq_self_eq_true, Bool.not_true, Bool.or_false, Bool.false_eq_true, if_false]
  by_cases g : Dm.okB s h d a wn ∧ guardB gs ge ∧ feltB hi sp en li
  · have ht : tickAll s h d a wn gs ge hi sp en li ack = tickM s h d a wn gs ge hi sp en li ack := if_pos g
    rw [ht]
    have t0 := tickM_ok s h d a wn gs ge hi sp en li ack
    have th := @tickM_hard s h d a wn gs ge hi sp en li ack
    have ts := @tickM_soft s h d a wn gs ge hi sp en li ack
    have tp := @tickM_speed s h d a wn gs ge hi sp en li ack
    have tf := @tickM_free s h d a wn gs ge hi sp en li ack
    have tt := @tickM_told s h d a wn gs ge hi sp en li ack
    obtain ⟨ok, ⟨⟨g0, g1⟩, g2, g3⟩, ⟨f0, f1⟩, ⟨s0, s1⟩, ⟨n0, n1⟩, l0, l1⟩ := g
    have ww : wrap64 (en - hi) = en - hi := w_small (by omega) (by omega)
    have hw := impl_Worst.is s h d a wn sp (q + 1) hq3
    rw [if_pos ⟨ok, s0, s1⟩] at hw
    have hk : keptM h d a hi sp en = decide (Dm.worstM h d a sp ≤ en - hi) := rfl
    have h0 := Dm.worstM_ge h d a sp (h_pos ok) (a_nn ok) s0
    rw [if_pos t0, ww, hw]
    simp only [Option.bind_some, impl_Permitted.f]
    clear he ht hq1 hq2 hq3
    by_cases c3 : gs = 3
    · rw [if_pos c3]
      by_cases c4 : sp = 0
      · rw [if_pos c4]
        by_cases c5 : ack = true
        · rw [if_pos c5]
          by_cases c6 : Dm.worstM h d a sp ≤ en - hi
          · have hk2 : keptM h d a hi sp en = true := decide_eq_true c6
            have e := ts (fun z => z.elim (fun z => z.2 ⟨c4, c5, hk2⟩) (fun z => by rw [hk2] at z; cases z))
            rw [decide_eq_true c6, bne_iff_ne.mpr e]
            rfl
          · have hk2 : keptM h d a hi sp en = false := decide_eq_false c6
            have e := th (.inr hk2)
            rw [decide_eq_false c6, e]
            rfl
        · rw [if_neg c5, th (.inl ⟨c3, fun z => c5 z.2.1⟩)]
          rfl
      · rw [if_neg c4, th (.inl ⟨c3, fun z => c4 z.1⟩)]
        rfl
    · rw [if_neg c3]
      by_cases c4 : en - hi < 0
      · have hk2 : keptM h d a hi sp en = false := decide_eq_false (by omega)
        rw [if_pos c4, th (.inr hk2)]
        rfl
      · have hm : max 0 (en - hi) = en - hi := by omega
        rw [hm] at tp tf tt
        rw [if_neg c4]
        by_cases c6 : Dm.worstM h d a sp ≤ en - hi
        · have hk2 : keptM h d a hi sp en = true := decide_eq_true c6
          have soft : ¬ ((gs = 3 ∧ ¬ (sp = 0 ∧ ack = true ∧ keptM h d a hi sp en = true)) ∨ keptM h d a hi sp en = false) := fun z => z.elim (fun z => c3 z.1) (fun z => by rw [hk2] at z; cases z)
          by_cases c7 : sp ≤ Dm.permittedM s h d a wn (en - hi) li
          · rw [if_pos c7, decide_eq_true c6]
            exact even_end ok s0 s1 q hq4 true (fun _ => ⟨tf soft (Int.not_lt.mpr c7), tp soft⟩) (fun z => by cases z)
          · rw [if_neg c7]
            refine even_end ok s0 s1 q hq4 false (fun z => by cases z) (fun _ => ⟨tt soft (Int.not_le.mp c7), ?_⟩)
            rw [decide_eq_false (Int.not_lt.mpr c6), beq_eq_false_iff_ne.mpr (ts soft)]
        · have hk2 : keptM h d a hi sp en = false := decide_eq_false c6
          have e := th (.inr hk2)
          have last : (tickM s h d a wn gs ge hi sp en li ack).2.1 ≠ 0 ∧ ((tickM s h d a wn gs ge hi sp en li ack).2.1 == 3) = decide (Dm.worstM h d a sp > en - hi) := by
            rw [e, decide_eq_true (Int.not_le.mp c6)]
            decide
          by_cases c7 : sp ≤ Dm.permittedM s h d a wn (en - hi) li
          · rw [if_pos c7, decide_eq_false c6]
            exact even_end ok s0 s1 q hq4 false (fun z => by cases z) (fun _ => last)
          · rw [if_neg c7]
            exact even_end ok s0 s1 q hq4 false (fun z => by cases z) (fun _ => last)
  · have ht : tickAll s h d a wn gs ge hi sp en li ack = (false, 0, 0, 0, false, false) := if_neg g
    rw [ht]
    rfl

theorem FnEven : laws_FnEven.Pure := by
  intro l0 _ _ hb
  refine ⟨60021 + 1, ?_⟩
  by_cases hl : (l0.length : Int) > 1048576
  · unfold laws_FnEven.f
    rw [if_pos hl]
  · obtain ⟨s, h, d, a, wn, gs, ge, hi, sp, en, li, ack, he⟩ := DrawTick_ok (bytes_of hb) (60021 + 1) (by decide)
    exact even_all s h d a wn gs ge hi sp en li ack 60021 (by decide) l0 hl he

end Go.Proofs.Ytcfhjidddpoijaa.Pure
