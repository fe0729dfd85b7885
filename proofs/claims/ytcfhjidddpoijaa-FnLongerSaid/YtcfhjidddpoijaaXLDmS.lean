/- What Tick tells, on numbers: the program's and the reference's; conditions: rounds enough. -/
import Derived.Test.YtcfhjidddpoijaaXLQ22
import Derived.Test.YtcfhjidddpoijaaXLQ21
import Derived.Test.YtcfhjidddpoijaaXLDmT
import Derived.Test.YtcfhjidddpoijaaXLDmB
namespace Go.Proofs.Ytcfhjidddpoijaa.Q
open Go.RowKit Go.Proofs.YtcfhjidddpoijaaW.PrintWords Go.Proofs.YtcfhjidddpoijaaW.PrintLast Go.Proofs.YtcfhjidddpoijaaW.PrintMore
set_option linter.unusedSimpArgs false

/-- is a guard right, is what is felt right -/
def guardB (gs ge : Int) : Prop := (0 ≤ gs ∧ gs ≤ 3) ∧ (-1 ≤ ge ∧ ge ≤ 100000000)
instance (gs ge : Int) : Decidable (guardB gs ge) := by unfold guardB; exact inferInstance
def feltB (hi sp en li : Int) : Prop := (0 ≤ hi ∧ hi ≤ 100000000) ∧ (0 ≤ sp ∧ sp ≤ 10000) ∧ (-1 ≤ en ∧ en ≤ 100000000) ∧ (0 ≤ li ∧ li ≤ 10000)
instance (hi sp en li : Int) : Decidable (feltB hi sp en li) := by unfold feltB; exact inferInstance

theorem spec_GuardOk.is (gs ge : Int) : spec_GuardOk.f gs ge = some (decide (guardB gs ge)) := by
  unfold spec_GuardOk.f guardB
  simp only [spec_l1in.is, Option.bind_some]
  by_cases c : 0 ≤ gs ∧ gs ≤ 3 <;> simp [c]
theorem impl_GuardOk.is (gs ge : Int) : impl_GuardOk.f gs ge = some (decide (guardB gs ge)) := by
  unfold impl_GuardOk.f guardB impl_end.f
  simp only [impl_in.is, Option.bind_some]
  by_cases c : 0 ≤ gs ∧ gs ≤ 3 <;> simp [c]
theorem spec_FeltOk.is (hi sp en li : Int) (ack : Bool) : spec_FeltOk.f hi sp en li ack = some (decide (feltB hi sp en li)) := by
  unfold spec_FeltOk.f feltB
  simp only [spec_l1in.is, spec_l1speed.is, Option.bind_some]
  by_cases c1 : 0 ≤ hi ∧ hi ≤ 100000000 <;> by_cases c2 : 0 ≤ sp ∧ sp ≤ 10000 <;> by_cases c3 : -1 ≤ en ∧ en ≤ 100000000 <;> simp [c1, c2, c3]
theorem impl_FeltOk.is (hi sp en li : Int) (ack : Bool) : impl_FeltOk.f hi sp en li ack = some (decide (feltB hi sp en li)) := by
  unfold impl_FeltOk.f feltB impl_end.f
  simp only [impl_in.is, Option.bind_some]
  by_cases c1 : 0 ≤ hi ∧ hi ≤ 100000000 <;> by_cases c2 : 0 ≤ sp ∧ sp ≤ 10000 <;> by_cases c3 : -1 ≤ en ∧ en ≤ 100000000 <;> simp [c1, c2, c3]

theorem spec_l2keeps.is (s h d a wn hi sp en li : Int) (ack : Bool) (ok : Dm.okB s h d a wn) (fk : feltB hi sp en li) (q : Nat) (hq : 20100 < q) : spec_l2keeps.f q s h d a wn hi sp en li ack en = some (keptM h d a hi sp en) := by
  obtain ⟨⟨f1, f2⟩, ⟨f3, f4⟩, ⟨f5, f6⟩, _⟩ := fk
  unfold spec_l2keeps.f
  rw [spec_l1worst.is s h d a wn sp ok f3 f4 q hq]
  have e : wrap64 (en - hi) = en - hi := by unfold wrap64; omega
  simp only [Option.bind_some, e]
  rfl

/-- Tick, wherever -/
def tickAll (s h d a wn gs ge hi sp en li : Int) (ack : Bool) : Bool × Int × Int × Int × Bool × Bool :=
  if Dm.okB s h d a wn ∧ guardB gs ge ∧ feltB hi sp en li then tickM s h d a wn gs ge hi sp en li ack else (false, 0, 0, 0, false, false)

theorem spec_Tick.right (s h d a wn gs ge hi sp en li : Int) (ack : Bool) (ok : Dm.okB s h d a wn) (gk : guardB gs ge) (fk : feltB hi sp en li) (q : Nat) (hq : 60010 < q) :
    spec_Tick.j0 q false s h d a wn gs ge hi sp en li ack = some (tickM s h d a wn gs ge hi sp en li ack) := by
  obtain ⟨q, rfl⟩ : ∃ z, q = z + 5 := ⟨q - 5, by omega⟩
  have k1 := spec_l2keeps.is s h d a wn hi sp en li ack ok fk (q + 4) (by omega)
  have k2 := spec_l2keeps.is s h d a wn hi sp en li ack ok fk (q + 2) (by omega)
  have p1 := fun room => spec_Permitted.is s h d a wn room li (q + 2) (by omega)
  obtain ⟨⟨g1, g2⟩, _⟩ := gk
  obtain ⟨⟨f1, f2⟩, ⟨f3, f4⟩, ⟨f5, f6⟩, _⟩ := fk
  have e1 : wrap64 (en - hi) = en - hi := by unfold wrap64; omega
  -- the end, whether it is another one or not
  have core : ∀ (k2' ch : Bool), spec_Tick.j1 (q + 4) s h d a wn gs ge hi sp en li ack true gs en 0 k2' ch =
      some (if (gs = 3 ∧ ¬ (sp = 0 ∧ ack = true ∧ keptM h d a hi sp en = true)) ∨ keptM h d a hi sp en = false then (true, 3, en, 0, k2', ch)
        else if Dm.permittedM s h d a wn (max 0 (en - hi)) li < sp then (true, (if gs = 0 then 1 else 2), en, Dm.permittedM s h d a wn (max 0 (en - hi)) li, k2', ch)
        else (true, 0, en, Dm.permittedM s h d a wn (max 0 (en - hi)) li, k2', ch)) := by
    intro k2' ch
    simp only [spec_Tick.j1, e1]
    have hj : ∀ room : Int, room = max 0 (en - hi) → spec_Tick.j2 (q + 3) room s h d a wn gs ge hi sp en li ack true gs en 0 k2' ch =
      some (if (gs = 3 ∧ ¬ (sp = 0 ∧ ack = true ∧ keptM h d a hi sp en = true)) ∨ keptM h d a hi sp en = false then (true, 3, en, 0, k2', ch)
        else if Dm.permittedM s h d a wn (max 0 (en - hi)) li < sp then (true, (if gs = 0 then 1 else 2), en, Dm.permittedM s h d a wn (max 0 (en - hi)) li, k2', ch)
        else (true, 0, en, Dm.permittedM s h d a wn (max 0 (en - hi)) li, k2', ch)) := by
      intro room hr
      simp only [spec_Tick.j2, p1, k2, Option.bind_some, spec_Tick.j3, spec_Tick.j4]
      rw [← hr]
      generalize Dm.permittedM s h d a wn room li = p
      generalize keptM h d a hi sp en = kp
      clear k1 k2 p1
      by_cases c4 : sp = 0
      · subst c4
        cases kp <;> by_cases c3 : gs = 3 <;> cases ack <;> by_cases c5 : p < 0 <;> by_cases c6 : gs = 0 <;> simp [c3, c5, c6] <;> omega
      · cases kp <;> by_cases c3 : gs = 3 <;> cases ack <;> by_cases c5 : p < sp <;> by_cases c6 : gs = 0 <;> simp [c3, c4, c5, c6] <;> omega
    by_cases c : en - hi < 0
    · rw [if_pos c]; exact hj 0 (by omega)
    · rw [if_neg c]; exact hj _ (by omega)
  simp only [spec_Tick.j0]
  rw [if_neg (by decide)]
  unfold tickM
  by_cases c1 : en = ge
  · rw [if_pos c1]
    subst c1
    rw [core false false]
    simp
  · rw [if_neg c1]
    by_cases c2 : en > ge
    · rw [if_pos c2, core true true]
      simp [c1, c2]
    · rw [if_neg c2, k1]
      simp only [Option.bind_some]
      rw [core]
      simp [c1, c2]

theorem spec_Tick.is (s h d a wn gs ge hi sp en li : Int) (ack : Bool) (q : Nat) (hq : 60010 < q) : spec_Tick.f q s h d a wn gs ge hi sp en li ack = some (tickAll s h d a wn gs ge hi sp en li ack) := by
  unfold spec_Tick.f tickAll
  rw [spec_BrakesOk.is, spec_GuardOk.is, spec_FeltOk.is]
  simp only [Option.bind_some]
  have bad : spec_Tick.j0 q true s h d a wn gs ge hi sp en li ack = some (false, 0, 0, 0, false, false) := by
    obtain ⟨q, rfl⟩ : ∃ z, q = z + 1 := ⟨q - 1, by omega⟩
    simp only [spec_Tick.j0, if_true]
  by_cases ok : Dm.okB s h d a wn
  · rw [decide_eq_true ok, if_pos rfl]
    by_cases gk : guardB gs ge
    · rw [decide_eq_true gk, if_pos rfl]
      by_cases fk : feltB hi sp en li
      · rw [decide_eq_true fk, if_pos ⟨ok, gk, fk⟩]
        exact spec_Tick.right s h d a wn gs ge hi sp en li ack ok gk fk q hq
      · rw [decide_eq_false fk, if_neg (fun z => fk z.2.2)]
        exact bad
    · rw [decide_eq_false gk, if_neg (by decide), if_neg (fun z => gk z.2.1)]
      exact bad
  · rw [decide_eq_false ok, if_neg (by decide), if_neg (fun z => ok z.1)]
    exact bad

theorem impl_Tick.is (s h d a wn gs ge hi sp en li : Int) (ack : Bool) (q : Nat) (hq : 20112 < q) : impl_Tick.f q s h d a wn gs ge hi sp en li ack = some (tickAll s h d a wn gs ge hi sp en li ack) := by
  unfold impl_Tick.f tickAll
  rw [impl_BrakesOk.is, impl_GuardOk.is, impl_FeltOk.is]
  simp only [Option.bind_some]
  obtain ⟨q, rfl⟩ : ∃ z, q = z + 1 := ⟨q - 1, by omega⟩
  have bad : impl_Tick.j0 (q + 1) true s h d a wn gs ge hi sp en li ack = some (false, 0, 0, 0, false, false) := by
    simp only [impl_Tick.j0, if_true]
  by_cases ok : Dm.okB s h d a wn
  · rw [decide_eq_true ok, if_pos rfl]
    by_cases gk : guardB gs ge
    · rw [decide_eq_true gk, if_pos rfl]
      by_cases fk : feltB hi sp en li
      · rw [decide_eq_true fk, if_pos ⟨ok, gk, fk⟩]
        obtain ⟨⟨f1, f2⟩, ⟨f3, f4⟩, ⟨f5, f6⟩, _⟩ := fk
        have := impl_tick.is s h d a wn gs ge hi sp en li ack ok f3 f4 f1 (by omega) f5 (by omega) q (by omega)
        simp only [impl_Tick.j0]
        rw [if_neg (by decide), this]
        rfl
      · rw [decide_eq_false fk, if_neg (fun z => fk z.2.2)]
        exact bad
    · rw [decide_eq_false gk, if_neg (by decide), if_neg (fun z => gk z.2.1)]
      exact bad
  · rw [decide_eq_false ok, if_neg (by decide), if_neg (fun z => ok z.1)]
    exact bad

end Go.Proofs.Ytcfhjidddpoijaa.Q
