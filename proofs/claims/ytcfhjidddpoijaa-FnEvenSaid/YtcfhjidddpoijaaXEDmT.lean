/- What the program's tick tells, on numbers; conditions: right brakes, a speed, an end and a place in range, rounds enough. -/
import Derived.Test.YtcfhjidddpoijaaXEQ7
import Derived.Test.YtcfhjidddpoijaaXEQ6
namespace Go.Proofs.Ytcfhjidddpoijaa.Q
open Go.RowKit Go.Proofs.YtcfhjidddpoijaaW.PrintWords Go.Proofs.YtcfhjidddpoijaaW.PrintLast Go.Proofs.YtcfhjidddpoijaaW.PrintMore
set_option linter.unusedSimpArgs false

/-- can the train be kept -/
def keptM (h d a hi sp en : Int) : Bool := decide (Dm.worstM h d a sp ≤ en - hi)
/-- what the guard says in a tick -/
def tickM (s h d a wn gs ge hi sp en li : Int) (ack : Bool) : Bool × Int × Int × Int × Bool × Bool :=
  if (gs = 3 ∧ ¬ (sp = 0 ∧ ack = true ∧ keptM h d a hi sp en = true)) ∨ keptM h d a hi sp en = false then
    (true, 3, en, 0, (if en = ge then false else if ge < en then true else keptM h d a hi sp en), !decide (en = ge))
  else if Dm.permittedM s h d a wn (max 0 (en - hi)) li < sp then
    (true, (if gs = 0 then 1 else 2), en, Dm.permittedM s h d a wn (max 0 (en - hi)) li, (if en = ge then false else if ge < en then true else keptM h d a hi sp en), !decide (en = ge))
  else (true, 0, en, Dm.permittedM s h d a wn (max 0 (en - hi)) li, (if en = ge then false else if ge < en then true else keptM h d a hi sp en), !decide (en = ge))

theorem impl_tick.is (s h d a wn gs ge hi sp en li : Int) (ack : Bool) (ok : Dm.okB s h d a wn) (hs : 0 ≤ sp) (hs2 : sp ≤ 10000) (hh : 0 ≤ hi) (hh2 : hi ≤ 1000000000) (he : -1 ≤ en) (he2 : en ≤ 1000000000) (q : Nat) (hq : 20110 < q) :
    impl_tick.f q s h d a wn gs ge hi sp en li ack = some (tickM s h d a wn gs ge hi sp en li ack) := by
  obtain ⟨q, rfl⟩ : ∃ z, q = z + 4 := ⟨q - 4, by omega⟩
  unfold impl_tick.f
  rw [impl_worst.is s h d a wn sp ok hs hs2 _ (by omega)]
  have e1 : wrap64 (en - hi) = en - hi := by unfold wrap64; omega
  have e2 : mx 0 (en - hi) = max 0 (en - hi) := by unfold mx; omega
  simp only [Option.bind_some, e1, impl_tick.j0, impl_tick.j1, impl_tick.j2, impl_tick.j3, impl_Permitted.f, e2]
  have hk : decide (Dm.worstM h d a sp ≤ en - hi) = keptM h d a hi sp en := rfl
  rw [hk]
  unfold tickM
  generalize Dm.permittedM s h d a wn (max 0 (en - hi)) li = p
  generalize keptM h d a hi sp en = kp
  by_cases c4 : sp = 0
  · subst c4
    cases kp <;> by_cases c1 : en = ge <;> by_cases c2 : ge < en <;> by_cases c3 : gs = 3 <;> cases ack <;> by_cases c5 : p < 0 <;> by_cases c6 : gs = 0 <;> simp [c1, c2, c3, c5, c6] <;> omega
  · cases kp <;> by_cases c1 : en = ge <;> by_cases c2 : ge < en <;> by_cases c3 : gs = 3 <;> cases ack <;> by_cases c5 : p < sp <;> by_cases c6 : gs = 0 <;> simp [c1, c2, c3, c4, c5, c6] <;> omega

end Go.Proofs.Ytcfhjidddpoijaa.Q
