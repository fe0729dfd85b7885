/- What the reference's curves tell, on numbers: Worst and Gentle by the sums of DmMath; conditions: right brakes, a speed, rounds enough. -/
import Derived.Test.YtcfhjidddpoijaaXEQ13
import Derived.Test.YtcfhjidddpoijaaXEQ10
import Derived.Test.YtcfhjidddpoijaaXEQ12
namespace Go.Proofs.Ytcfhjidddpoijaa.Q
open Go.RowKit Go.Proofs.YtcfhjidddpoijaaW.PrintWords Go.Proofs.YtcfhjidddpoijaaW.PrintLast Go.Proofs.YtcfhjidddpoijaaW.PrintMore

theorem spec_l1in.is (x lo hi : Int) : spec_l1in.f x lo hi = some (decide (lo ≤ x ∧ x ≤ hi)) := impl_in.is x lo hi
theorem spec_BrakesOk.is (s h d a wn : Int) : spec_BrakesOk.f s h d a wn = some (decide (Dm.okB s h d a wn)) := impl_BrakesOk.is s h d a wn
theorem spec_l1speed.is (x : Int) : spec_l1speed.f x = some (decide (0 ≤ x ∧ x ≤ 10000)) := by
  unfold spec_l1speed.f
  rw [spec_l1in.is]
  rfl

theorem spec_l1slow.is (k : Int) (hk : 1 ≤ k) (hk2 : k ≤ 1000) : ∀ (q : Nat) (v n : Int), v.toNat < q → -1000 ≤ v → v ≤ 20000 → 0 ≤ n → n + 20000 * max 0 v ≤ 1000000000000 → spec_l1slow.l0 q v k n = some (n + Dm.brake v k) := by
  intro q
  induction q with
  | zero => intro v n h; omega
  | succ q ih =>
    intro v n hq hv0 hv hn hb
    simp only [spec_l1slow.l0]
    by_cases c : v > 0
    · rw [if_pos c]
      have e1 : wrap64 (v - k) = v - k := by unfold wrap64; omega
      rw [e1]
      by_cases c2 : v - k > 0
      · rw [if_pos c2]
        have e3 : wrap64 (n + (v - k)) = n + (v - k) := by unfold wrap64; omega
        rw [e3, ih (v - k) (n + (v - k)) (by omega) (by omega) (by omega) (by omega) (by omega), Dm.brake_step v k hk c, Int.add_assoc]
        have e4 : max 0 (v - k) = v - k := by omega
        rw [e4]
      · rw [if_neg c2, ih (v - k) n (by omega) (by omega) (by omega) (by omega) (by omega), Dm.brake_stop (v - k) k (by omega), Dm.brake_step v k hk c]
        have e4 : max 0 (v - k) = 0 := by omega
        rw [e4, Dm.brake_stop 0 k (by omega)]
        rfl
    · rw [if_neg c, Dm.brake_stop v k (by omega), Int.add_zero]

theorem spec_l1worst.is_l (s h d a wn : Int) (hh : 1 ≤ h) (hh2 : h ≤ 1000) (ha : 0 ≤ a) (ha2 : a ≤ 100) (hl : d ≤ 1000) : ∀ (D q : Nat) (v n i : Int), d + 1 - i = D → 0 ≤ i → D + 20001 < q → 0 ≤ v → v + 100 * D ≤ 20000 → 0 ≤ n → n + 20000 * D + 400000000 ≤ 1000000000 →
    spec_l1worst.l0 q v n i s h d a wn = some (n + Dm.worstN D v a h) := by
  intro D
  induction D with
  | zero =>
    intro q v n i hD hi hq hv hv2 hn hb
    obtain ⟨q, rfl⟩ : ∃ z, q = z + 1 := ⟨q - 1, by omega⟩
    simp only [spec_l1worst.l0]
    have hbr := spec_l1slow.is h hh hh2 q v 0 (by omega) (by omega) (by omega) (by omega) (by omega)
    have hb1 := Dm.brake_ge v h hh
    have hb2 := Dm.brake_le v h hh hv (by omega)
    rw [if_neg (by omega)]
    unfold spec_l1slow.f
    rw [hbr]
    simp only [Option.bind_some, Dm.worstN, Int.zero_add]
    have e : wrap64 (n + Dm.brake v h) = n + Dm.brake v h := by unfold wrap64; omega
    rw [e]
  | succ D ih =>
    intro q v n i hD hi hq hv hv2 hn hb
    obtain ⟨q, rfl⟩ : ∃ z, q = z + 1 := ⟨q - 1, by omega⟩
    simp only [spec_l1worst.l0]
    rw [if_pos (by omega)]
    have e1 : wrap64 (v + a) = v + a := by unfold wrap64; omega
    rw [e1]
    have e2 : wrap64 (n + (v + a)) = n + (v + a) := by unfold wrap64; omega
    have e3 : wrap64 (i + 1) = i + 1 := by unfold wrap64; omega
    rw [e2, e3, ih q (v + a) (n + (v + a)) (i + 1) (by omega) (by omega) (by omega) (by omega) (by omega) (by omega) (by omega)]
    simp only [Dm.worstN, Int.add_assoc]

theorem spec_l1worst.is (s h d a wn v : Int) (ok : Dm.okB s h d a wn) (hv : 0 ≤ v) (hv2 : v ≤ 10000) (q : Nat) (hq : 20100 < q) : spec_l1worst.f q s h d a wn v = some (Dm.worstM h d a v) := by
  obtain ⟨⟨s1, s2⟩, ⟨h1, h2⟩, ⟨d1, d2⟩, ⟨a1, a2⟩, ⟨w1, w2⟩⟩ := ok
  unfold spec_l1worst.f Dm.worstM
  rw [spec_l1worst.is_l s h d a wn (by omega) h2 a1 a2 (by omega) (d + 1).toNat q v 0 0 (by omega) (by omega) (by omega) hv (by omega) (by omega) (by omega), Int.zero_add]

theorem spec_l1gentle.is (s h d a wn v : Int) (ok : Dm.okB s h d a wn) (hv : 0 ≤ v) (hv2 : v ≤ 10000) (q : Nat) (hq : 20100 < q) : spec_l1gentle.f q s h d a wn v = some (Dm.gentleM s d wn v) := by
  obtain ⟨⟨s1, s2⟩, ⟨h1, h2⟩, ⟨d1, d2⟩, ⟨a1, a2⟩, ⟨w1, w2⟩⟩ := ok
  unfold spec_l1gentle.f spec_l1slow.f
  rw [spec_l1slow.is s (by omega) s2 q v 0 (by omega) (by omega) (by omega) (by omega) (by omega)]
  have e1 : wrap64 (d + wn) = d + wn := by unfold wrap64; omega
  have e2 : wrap64 (d + wn + 1) = d + wn + 1 := by unfold wrap64; omega
  have hb := Dm.mul_bd (d + wn + 1) v (by omega) (by omega) hv hv2
  have b1 := Dm.brake_ge v s (by omega)
  have b2 := Dm.brake_le v s (by omega) hv (by omega)
  have e3 : wrap64 (v * (d + wn + 1)) = (d + wn + 1) * v := by rw [Int.mul_comm]; unfold wrap64; omega
  simp only [Option.bind_some, Int.zero_add]
  rw [e1, e2, e3]
  have e4 : wrap64 ((d + wn + 1) * v + Dm.brake v s) = (d + wn + 1) * v + Dm.brake v s := by unfold wrap64; omega
  rw [e4]
  rfl

theorem impl_Worst.is (s h d a wn v : Int) (q : Nat) (hq : 20100 < q) : impl_Worst.f q s h d a wn v = some (if Dm.okB s h d a wn ∧ 0 ≤ v ∧ v ≤ 10000 then Dm.worstM h d a v else -1) := by
  unfold impl_Worst.f
  rw [impl_BrakesOk.is, impl_in.is]
  by_cases ok : Dm.okB s h d a wn
  · by_cases hv : 0 ≤ v ∧ v ≤ 10000
    · rw [if_pos ⟨ok, hv⟩, decide_eq_true ok, decide_eq_true hv, impl_worst.is s h d a wn v ok hv.1 hv.2 q hq]
      rfl
    · rw [if_neg (fun z => hv z.2), decide_eq_true ok, decide_eq_false hv]
      rfl
  · rw [if_neg (fun z => ok z.1), decide_eq_false ok]
    rfl

end Go.Proofs.Ytcfhjidddpoijaa.Q
