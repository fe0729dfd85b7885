/- The law FnExactRun on numbers and lists: the program's Run and the reference's answer alike, and neither holds on to what it was given or gave; no condition. -/
import Derived.Test.YtnikfadkmhcalaaXRDmL
namespace Go.Proofs.Ytnikfadkmhcalaa.Pure
open Go.RowKit

theorem fuelA {n B : Nat} (h : B = n + 70000) : 60020 < B ∧ n < B + 3000 ∧ n < B + 2999 ∧ ∀ m : Nat, m ≤ 1000 → m < B + 3000 ∧ m < B + 2999 := ⟨by omega, by omega, by omega, fun m hm => ⟨by omega, by omega⟩⟩
theorem FnExactRun (a0_0 : Int) (a0_1 : Int) (a0_2 : Int) (a0_3 : Int) (a0_4 : Int) (l1 : List Q.S36) : l1.length ≤ 9223372036854775807 → ∃ k, Q.laws_FnExactRun.f k a0_0 a0_1 a0_2 a0_3 a0_4 l1 = some true := by
  intro hl0
  obtain ⟨B, hB⟩ : ∃ B, B = l1.length + 70000 := ⟨_, rfl⟩
  obtain ⟨f1, f2, f3, f4⟩ := fuelA hB
  clear hB
  refine ⟨B + 3000, ?_⟩
  unfold Q.laws_FnExactRun.f Q.laws_szFeltS.f
  by_cases c : wrap64 (1048576 - (l1.length : Int)) < 0
  · rw [if_pos c]
    simp only [Option.bind_some]
    rw [if_pos (by decide)]
  · rw [if_neg c]
    have hl : l1.length ≤ 2000000 := by clear f1 f2 f3 f4; unfold wrap64 at c; omega
    simp only [Option.bind_some]
    rw [if_neg c]
    simp only [Q.laws_toBrakes.f, Option.bind_some]
    have t1 := Q.laws_toFeltS.is l1 hl (B + 3000) f2
    have t2 := Q.laws_toFeltS.is l1 hl (B + 2999) f3
    obtain ⟨r, hr, hrun⟩ := Q.runs a0_0 a0_1 a0_2 a0_3 a0_4 (Q.feltL l1)
    obtain ⟨r1, r2⟩ := hrun 3000 B (by decide) f1
    obtain ⟨_, r3⟩ := hrun 2999 B (by decide) f1
    have hr2 : r.length ≤ 2000000 := Nat.le_trans hr (by decide)
    have e1 := Q.laws_eqSaidS.is r hr2 (B + 3000) (f4 _ hr).1
    have e2 := Q.laws_eqSaidS.is r hr2 (B + 2999) (f4 _ hr).2
    have hL := Q.feltL_len l1
    have e3 := Q.laws_eqFeltS.is (Q.feltL l1) (by rw [hL]; exact hl) (B + 3000) (by rw [hL]; exact f2)
    obtain ⟨y, n, m1, m2⟩ := Q.laws_markFeltS.is (Q.feltL l1) (by rw [hL]; exact hl) (B + 3000) (by rw [hL]; exact f2)
    obtain ⟨y2, n2, m3, m4, m5⟩ := Q.laws_marksSaid r hr2 (B + 2999) (f4 _ hr).2
    have hj : Q.laws_FnExactRun.j0 (B + 3000) l1 r r false a0_0 a0_1 a0_2 a0_3 a0_4 = some true := by
      rw [show B + 3000 = (B + 2999) + 1 from rfl, Q.laws_FnExactRun.j0, if_neg (by decide), m3]
      simp only [Option.bind_some]
      rw [m5]
      simp only [Option.bind_some]
      rw [if_neg (Int.not_lt.mpr m4), if_pos trivial]
      simp only [Q.laws_toBrakes.f, Option.bind_some]
      rw [t2]
      simp only [Option.bind_some]
      rw [r3]
      simp only [Option.bind_some]
      rw [e2]
      simp only [Option.bind_some, if_true]
      rw [if_neg (Int.not_lt.mpr m4)]
    rw [t1]
    simp only [Option.bind_some]
    rw [r1, r2]
    simp only [Option.bind_some]
    rw [e1]
    simp only [Option.bind_some, if_true]
    rw [e3]
    simp only [Option.bind_some, if_true]
    rw [m1]
    simp only [Option.bind_some]
    rw [if_neg (Int.not_lt.mpr m2)]
    exact hj

end Go.Proofs.Ytnikfadkmhcalaa.Pure
