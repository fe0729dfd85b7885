/- What Permitted and Gentle tell, on numbers: the program's and the reference's; conditions: rounds enough. -/
import Derived.Test.YtcfhjidddpoijaaXEQ13
import Derived.Test.YtcfhjidddpoijaaXEQ6
import Derived.Test.YtcfhjidddpoijaaXEDmA
namespace Go.Proofs.Ytcfhjidddpoijaa.Q
open Go.RowKit Go.Proofs.YtcfhjidddpoijaaW.PrintWords Go.Proofs.YtcfhjidddpoijaaW.PrintLast Go.Proofs.YtcfhjidddpoijaaW.PrintMore

def goodP (s h d a wn room : Int) : Int → Bool := fun v => decide (Dm.worstM h d a v ≤ room) && decide (Dm.gentleM s d wn v ≤ room)

/-- the reference's search for Permitted: from v on, all below being good -/
theorem spec_Permitted.is_l (s h d a wn room limit : Int) (ok : Dm.okB s h d a wn) (hl0 : 0 ≤ limit) (hl : limit ≤ 10000) : ∀ (D q : Nat) (v : Int), limit + 1 - v = D → 0 ≤ v → 2 * D + 20110 < q → (0 ≤ v - 1 → goodP s h d a wn room (v - 1) = true) →
    spec_Permitted.l0 q room limit (max 0 (v - 1)) v s h d a wn = some (max 0 (Dm.top (goodP s h d a wn room) (limit + 1).toNat)) := by
  have hf : Dm.Falls (goodP s h d a wn room) := Dm.both_falls s h d a wn room (by have := ok.1; omega) (by have := ok.1; have := ok.2.1; omega) ok.2.2.1.1 ok.2.2.2.2.1
  intro D
  induction D with
  | zero =>
    intro q v hD hv hq hg
    obtain ⟨q, rfl⟩ : ∃ z, q = z + 2 := ⟨q - 2, by omega⟩
    simp only [spec_Permitted.l0, spec_Permitted.j2]
    rw [if_neg (by omega), if_neg (by decide), Dm.top_is _ (limit + 1).toNat (v - 1) (by omega) (by omega) hg (fun u h1 h2 => by omega)]
  | succ D ih =>
    intro q v hD hv hq hg
    obtain ⟨q, rfl⟩ : ∃ z, q = z + 2 := ⟨q - 2, by omega⟩
    simp only [spec_Permitted.l0, spec_Permitted.j2]
    rw [if_pos (by omega), spec_l1worst.is s h d a wn v ok hv (by omega) (q + 1) (by omega)]
    simp only [Option.bind_some]
    rw [spec_l1gentle.is s h d a wn v ok hv (by omega) (q + 1) (by omega)]
    simp only [Option.bind_some]
    have hbad : goodP s h d a wn room v = false → some (max 0 (v - 1)) = some (max 0 (Dm.top (goodP s h d a wn room) (limit + 1).toNat)) := fun hb => by
      rw [Dm.top_is _ (limit + 1).toNat (v - 1) (by omega) (by omega) hg (fun u h1 h2 => by
        cases hgu : goodP s h d a wn room u with
        | false => rfl
        | true => rw [hf v u (by omega) hgu] at hb; exact absurd hb (by decide))]
    by_cases c : Dm.worstM h d a v ≤ room
    · rw [if_pos c]
      by_cases c2 : Dm.gentleM s d wn v ≤ room
      · rw [decide_eq_true c2, if_pos rfl]
        have e : wrap64 (v + 1) = v + 1 := by unfold wrap64; omega
        have hgv : goodP s h d a wn room v = true := by unfold goodP; rw [decide_eq_true c, decide_eq_true c2]; rfl
        have ih' := ih q (v + 1) (by omega) (by omega) (by omega) (fun _ => by rw [Int.add_sub_cancel]; exact hgv)
        rw [Int.add_sub_cancel, show max 0 v = v by omega] at ih'
        rw [e, ih']
      · rw [decide_eq_false c2, if_neg (by decide)]
        exact hbad (by unfold goodP; rw [decide_eq_false c2, Bool.and_false])
    · rw [if_neg c, if_neg (by decide)]
      exact hbad (by unfold goodP; rw [decide_eq_false c, Bool.false_and])

theorem spec_Permitted.is (s h d a wn room limit : Int) (q : Nat) (hq : 60000 < q) : spec_Permitted.f q s h d a wn room limit = some (Dm.permittedM s h d a wn room limit) := by
  unfold spec_Permitted.f Dm.permittedM
  rw [spec_BrakesOk.is, spec_l1in.is, spec_l1speed.is]
  simp only [Option.bind_some]
  obtain ⟨q, rfl⟩ : ∃ z, q = z + 1 := ⟨q - 1, by omega⟩
  by_cases ok : Dm.okB s h d a wn
  · rw [decide_eq_true ok, if_pos rfl]
    by_cases hr : 0 ≤ room ∧ room ≤ 100000000
    · rw [decide_eq_true hr, if_pos rfl]
      by_cases hl : 0 ≤ limit ∧ limit ≤ 10000
      · rw [if_pos ⟨ok, hr, hl⟩, decide_eq_true hl]
        simp only [spec_Permitted.j0]
        have := spec_Permitted.is_l s h d a wn room limit ok hl.1 hl.2 (limit + 1).toNat q 0 (by omega) (by omega) (by omega) (fun h => by omega)
        rw [show max 0 ((0 : Int) - 1) = 0 by omega] at this
        rw [if_neg (by decide), this]
        rfl
      · rw [if_neg (fun z => hl z.2.2), decide_eq_false hl]
        simp only [spec_Permitted.j0]
        rfl
    · rw [decide_eq_false hr, if_neg (by decide), if_neg (fun z => hr z.2.1)]
      simp only [spec_Permitted.j0]
      rfl
  · rw [decide_eq_false ok, if_neg (by decide), if_neg (fun z => ok z.1)]
    simp only [spec_Permitted.j0]
    rfl

end Go.Proofs.Ytcfhjidddpoijaa.Q
