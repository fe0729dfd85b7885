/- The law FnExactDrive on numbers and lists: the program's Drive and the reference's answer alike, and neither holds on to what it was given or gave; no condition. -/
import Derived.Test.YtnikfadkmhcalaaXDDmE
namespace Go.Proofs.Ytnikfadkmhcalaa.Pure
open Go.RowKit

theorem fuelA {n B : Nat} (h : B = n + 70000) : 60020 < B ∧ n < B + 5000 ∧ n < B + 4999 ∧ ∀ m : Nat, m ≤ 1000 → m < B + 5000 ∧ m < B + 4999 := ⟨by omega, by omega, by omega, fun m hm => ⟨by omega, by omega⟩⟩
theorem FnExactDrive (a0_0 : Int) (a0_1 : Int) (a0_2 : Int) (a0_3 : Int) (a0_4 : Int) (a1 : Int) (a2 : Int) (l3 : List Q.S42) : l3.length ≤ 9223372036854775807 → ∃ k, Q.laws_FnExactDrive.f k a0_0 a0_1 a0_2 a0_3 a0_4 a1 a2 l3 = some true := by
  intro hl0
  obtain ⟨B, hB⟩ : ∃ B, B = l3.length + 70000 := ⟨_, rfl⟩
  obtain ⟨f1, f2, f3, f4⟩ := fuelA hB
  clear hB
  refine ⟨B + 5000, ?_⟩
  unfold Q.laws_FnExactDrive.f Q.laws_szActS.f
  by_cases c : wrap64 (1048576 - (l3.length : Int)) < 0
  · rw [if_pos c]
    simp only [Option.bind_some]
    rw [if_pos (by decide)]
  · rw [if_neg c]
    have hl : l3.length ≤ 2000000 := by clear f1 f2 f3 f4; unfold wrap64 at c; omega
    simp only [Option.bind_some]
    rw [if_neg c]
    simp only [Q.laws_toBrakes.f, Option.bind_some]
    have t1 := Q.laws_toActS.is l3 hl (B + 5000) f2
    have t2 := Q.laws_toActS.is l3 hl (B + 4999) f3
    obtain ⟨r, hr, hrun⟩ := Q.drives a0_0 a0_1 a0_2 a0_3 a0_4 a1 a2 (Q.actL l3)
    obtain ⟨r1, r2⟩ := hrun 5000 B (by decide) f1
    obtain ⟨_, r3⟩ := hrun 4999 B (by decide) f1
    have hr2 : r.length ≤ 2000000 := Nat.le_trans hr (by decide)
    have e1 := Q.laws_eqTrueS.is r hr2 (B + 5000) (f4 _ hr).1
    have e2 := Q.laws_eqTrueS.is r hr2 (B + 4999) (f4 _ hr).2
    have hL := Q.actL_len l3
    have e3 := Q.laws_eqActS.is (Q.actL l3) (by rw [hL]; exact hl) (B + 5000) (by rw [hL]; exact f2)
    obtain ⟨y, n, m1, m2⟩ := Q.laws_markActS.is (Q.actL l3) (by rw [hL]; exact hl) (B + 5000) (by rw [hL]; exact f2)
    obtain ⟨y2, n2, m3, m4, m5⟩ := Q.laws_marksTrue r hr2 (B + 4999) (f4 _ hr).2
    have hj : Q.laws_FnExactDrive.j0 (B + 5000) a1 a2 l3 r r false a0_0 a0_1 a0_2 a0_3 a0_4 = some true := by
      rw [show B + 5000 = (B + 4999) + 1 from rfl, Q.laws_FnExactDrive.j0, if_neg (by decide), m3]
      simp only [Option.bind_some]
      rw [m5]
      simp only [Option.bind_some]
      rw [if_neg (Int.not_lt.mpr m4), if_pos trivial]
      simp only [Q.laws_toBrakes.f, Option.bind_some]
      rw [t2]
      simp only [Option.bind_some]
      rw [r3]
      simp only [Option.bind_some]
      rw [e2]
      simp only [Option.bind_some, if_true]
      rw [if_neg (Int.not_lt.mpr m4)]
    rw [t1]
    simp only [Option.bind_some]
    rw [r1, r2]
    simp only [Option.bind_some]
    rw [e1]
    simp only [Option.bind_some, if_true]
    rw [e3]
    simp only [Option.bind_some, if_true]
    rw [m1]
    simp only [Option.bind_some]
    rw [if_neg (Int.not_lt.mpr m2)]
    exact hj

end Go.Proofs.Ytnikfadkmhcalaa.Pure
