/- What the draws tell, on numbers and lists: brakes that are right, acts that are right; conditions: the choices are bytes, few of them have been read. -/
import Derived.Test.YtcfhjidddpoijaaXNQ4
import Derived.Test.YtcfhjidddpoijaaXNDmD
import Derived.Laws.BitsLemmas
namespace Go.Proofs.Ytcfhjidddpoijaa.Q
open Go.RowKit Go.Proofs.YtcfhjidddpoijaaW.PrintWords Go.Proofs.YtcfhjidddpoijaaW.PrintLast Go.Proofs.YtcfhjidddpoijaaW.PrintMore
set_option linter.unusedSimpArgs false

def Bytes (l : List Int) : Prop := ∀ x ∈ l, 0 ≤ x ∧ x ≤ 255

theorem u64w (n : Int) : IntKind.u64.wrap n = n % 18446744073709551616 := by simp [IntKind.wrap, IntKind.bits, IntKind.signed]
theorem rd_byte {l : List Int} (hb : Bytes l) (i : Int) (h0 : 0 ≤ i) (h1 : i < l.length) : 0 ≤ rd l i ∧ rd l i ≤ 255 := by
  unfold rd
  have hl : i.toNat < l.length := by omega
  rw [List.getD_eq_getElem?_getD, List.getElem?_eq_getElem hl]
  exact hb _ (List.getElem_mem hl)
theorem and255 (y : Int) : 0 ≤ Go.bits .and .u64 (y % 18446744073709551616 / 1099511627776) 255 ∧ Go.bits .and .u64 (y % 18446744073709551616 / 1099511627776) 255 ≤ 255 := by
  have h := bits_mask .u64 24 (by decide) (fun n h0 h1 => by rw [u64w]; omega) 8 (by decide) (y % 18446744073709551616 / 1099511627776) (by omega) (by omega)
  have e : ((2 : Int) ^ 8 - 1) = 255 := by decide
  rw [e] at h
  rw [h]
  omega
theorem w_small {e : Int} (h0 : -1000000000000 ≤ e) (h1 : e ≤ 1000000000000) : wrap64 e = e := by unfold wrap64; omega

theorem next_ok {l : List Int} (hb : Bytes l) (at' seed : Int) (h0 : 0 ≤ at') (h1 : at' ≤ 1000000) : ∃ r s', spec_l4Cur_next.f l at' seed = some (r, at' + 1, s') ∧ 0 ≤ r ∧ r ≤ 255 := by
  unfold spec_l4Cur_next.f
  have e1 : wrap64 (at' + 1) = at' + 1 := w_small (by omega) (by omega)
  by_cases c : at' < l.length
  · rw [if_pos c, if_pos h0, e1]
    obtain ⟨b0, b1⟩ := rd_byte hb at' h0 c
    rw [w_small (e := rd l at') (by omega) (by omega)]
    exact ⟨_, _, rfl, b0, b1⟩
  · rw [if_neg c, e1]
    refine ⟨_, _, rfl, ?_⟩
    rw [u64w (_ + _)]
    have h := and255 (IntKind.u64.wrap (seed * 6364136223846793005) + 1442695040888963407)
    rw [w_small (by omega) (by omega)]
    exact h

theorem tmod_in (x n : Int) (hx : 0 ≤ x) (hn : 1 ≤ n) : 0 ≤ Int.tmod x n ∧ Int.tmod x n < n := by
  rw [Int.tmod_eq_emod_of_nonneg hx]
  exact ⟨Int.emod_nonneg _ (by omega), Int.emod_lt_of_pos _ (by omega)⟩

theorem pick_ok {l : List Int} (hb : Bytes l) (at' seed n : Int) (h0 : 0 ≤ at') (h1 : at' ≤ 900000) (hn : 2 ≤ n) (hn2 : n ≤ 200) : ∃ r a2 s', spec_l4Cur_pick.f l at' seed n = some (r, a2, s') ∧ (0 ≤ r ∧ r < n) ∧ (0 ≤ a2 ∧ a2 ≤ at' + 2) := by
  unfold spec_l4Cur_pick.f
  rw [if_neg (by omega)]
  obtain ⟨r, s', hr, r0, r1⟩ := next_ok hb at' seed h0 (by omega)
  rw [hr]
  simp only [Option.bind_some]
  rw [if_neg (by omega), if_neg (by omega)]
  exact ⟨_, _, _, rfl, tmod_in r n r0 (by omega), by omega, by omega⟩

theorem wide_ok {l : List Int} (hb : Bytes l) (at' seed n : Int) (h0 : 0 ≤ at') (h1 : at' ≤ 900000) (hn : 1 ≤ n) : ∃ r a2 s', spec_l4Cur_wide.f l at' seed n = some (r, a2, s') ∧ (0 ≤ r ∧ r < n) ∧ (0 ≤ a2 ∧ a2 ≤ at' + 2) := by
  unfold spec_l4Cur_wide.f
  obtain ⟨r, s', hr, r0, r1⟩ := next_ok hb at' seed h0 (by omega)
  rw [hr]
  simp only [Option.bind_some]
  obtain ⟨r2, s2, hr2, r20, r21⟩ := next_ok hb (at' + 1) s' (by omega) (by omega)
  rw [hr2]
  simp only [Option.bind_some]
  rw [if_neg (by omega), w_small (e := r * 256) (by omega) (by omega), w_small (e := r * 256 + r2) (by omega) (by omega)]
  exact ⟨_, _, _, rfl, tmod_in _ n (by omega) hn, by omega, by omega⟩

theorem brakes_ok {l : List Int} (hb : Bytes l) (at' seed : Int) (h0 : 0 ≤ at') (h1 : at' ≤ 800000) : ∃ s h d a wn a2 s', spec_l4Cur_brakes.f l at' seed = some (s, h, d, a, wn, a2, s') ∧
    ((10 ≤ s ∧ s ≤ 29) ∧ (s ≤ h ∧ h ≤ s + 29) ∧ (0 ≤ d ∧ d ≤ 4) ∧ (0 ≤ a ∧ a ≤ 11) ∧ (0 ≤ wn ∧ wn ≤ 5)) ∧ (0 ≤ a2 ∧ a2 ≤ at' + 10) := by
  unfold spec_l4Cur_brakes.f
  obtain ⟨r1, a1, s1, e1, b1, c1⟩ := pick_ok hb at' seed 20 h0 (by omega) (by omega) (by omega)
  obtain ⟨r2, a2, s2, e2, b2, c2⟩ := pick_ok hb a1 s1 30 (by omega) (by omega) (by omega) (by omega)
  obtain ⟨r3, a3, s3, e3, b3, c3⟩ := pick_ok hb a2 s2 5 (by omega) (by omega) (by omega) (by omega)
  obtain ⟨r4, a4, s4, e4, b4, c4⟩ := pick_ok hb a3 s3 12 (by omega) (by omega) (by omega) (by omega)
  obtain ⟨r5, a5, s5, e5, b5, c5⟩ := pick_ok hb a4 s4 6 (by omega) (by omega) (by omega) (by omega)
  simp only [e1, e2, e3, e4, e5, Option.bind_some]
  rw [w_small (e := 10 + r1) (by omega) (by omega), w_small (e := 10 + r1 + r2) (by omega) (by omega)]
  exact ⟨_, _, _, _, _, _, _, rfl, by omega, by omega⟩

theorem len_snoc {α : Type} (o : List α) (e : α) : (o ++ [e]).length = o.length + 1 := by simp

theorem bytes_of {l : List Int} (h : ∀ x ∈ l, (Lit.int .u8 x).wf = true) : Bytes l := by
  intro x hx
  have := h x hx
  simp [Lit.wf, IntKind.min, IntKind.max, IntKind.bits, IntKind.signed] at this
  omega

end Go.Proofs.Ytcfhjidddpoijaa.Q
