/- The law FnRun on numbers and lists: the guard's ticks one after the other are Run's, the reference's Run answers alike; no condition. -/
import Derived.Test.YtcfhjidddpoijaaXNQ27
import Derived.Test.YtcfhjidddpoijaaXNDmU
namespace Go.Proofs.Ytcfhjidddpoijaa.Pure
open Go.RowKit Go.Proofs.Ytcfhjidddpoijaa.Q Go.Proofs.YtcfhjidddpoijaaW.PrintWords Go.Proofs.YtcfhjidddpoijaaW.PrintLast Go.Proofs.YtcfhjidddpoijaaW.PrintMore
set_option linter.unusedSimpArgs false

theorem run_l (s h d a wn : Int) (ok : Dm.okB s h d a wn) (l : List S44) (n : Nat) (hn : n ≤ 1000) (hln : l.length = n) (hl : allF l n) : ∀ (D i q B : Nat), i + D = n → 2 * D < q → 60020 < B →
    laws_FnRun.l0 (B + q) l (runL s h d a wn l n) (runL s h d a wn l n) (n : Int) (i : Int) s h d a wn (gN s h d a wn l i).1 (gN s h d a wn l i).2 = some true := by
  intro D
  induction D with
  | zero =>
    intro i q B hi hq hB
    obtain ⟨q, rfl⟩ : ∃ z, q = z + 1 := ⟨q - 1, by clear hB; omega⟩
    clear hB
    rw [show B + (q + 1) = (B + q) + 1 from rfl, laws_FnRun.l0, if_neg (by omega)]
  | succ D ih =>
    intro i q B hi hq hB
    obtain ⟨q, rfl⟩ : ∃ z, q = z + 2 := ⟨q - 2, by clear hB; omega⟩
    have ih' := ih (i + 1) q B (by clear hB; omega) (by clear hB; omega) hB
    have hin : i < n := by clear hB; omega
    have hq2 : 20112 < B + q + 1 := by clear hi hq; omega
    clear ih hi hq hB
    have he := hl i hin
    have hg := gN_guard (s := s) (h := h) (d := d) (a := a) (wn := wn) hl i (Nat.le_of_lt hin)
    have hg2 := tickE_guard (s := s) (h := h) (d := d) (a := a) (wn := wn) (g := gN s h d a wn l i) he
    have hT := impl_Tick.is s h d a wn (gN s h d a wn l i).1 (gN s h d a wn l i).2 (rd_T44 l (i : Int)).f0 (rd_T44 l (i : Int)).f1 (rd_T44 l (i : Int)).f2 (rd_T44 l (i : Int)).f3 (rd_T44 l (i : Int)).f4 (B + q + 1) hq2
    unfold tickAll at hT
    rw [if_pos ⟨ok, hg, he⟩, show tickM s h d a wn (gN s h d a wn l i).1 (gN s h d a wn l i).2 (rd_T44 l (i : Int)).f0 (rd_T44 l (i : Int)).f1 (rd_T44 l (i : Int)).f2 (rd_T44 l (i : Int)).f3 (rd_T44 l (i : Int)).f4 = tickE s h d a wn (gN s h d a wn l i) (rd_T44 l (i : Int)) from rfl] at hT
    have hr := rd_runL s h d a wn l n i hin
    have hnext : gN s h d a wn l (i + 1) = ((tickE s h d a wn (gN s h d a wn l i) (rd_T44 l (i : Int))).2.1, (tickE s h d a wn (gN s h d a wn l i) (rd_T44 l (i : Int))).2.2.1) := rfl
    have hlen : (i : Int) < ((runL s h d a wn l n).length : Int) := by rw [runL_len]; exact n_lt hin
    rw [hnext] at ih'
    rw [show B + (q + 2) = (B + q + 1) + 1 from rfl, laws_FnRun.l0, if_pos (n_lt hin), if_pos (Int.natCast_nonneg i), if_pos (show (i : Int) < (l.length : Int) by rw [hln]; exact n_lt hin), hT]
    simp only [Option.bind_some]
    rw [if_pos hlen, if_pos hlen, hr]
    clear hT hr hnext hg hq2
    generalize tickE s h d a wn (gN s h d a wn l i) (rd_T44 l (i : Int)) = t at *
    simp only [saidOf, beq_self_eq_true, Bool.not_true, Bool.or_false, Bool.false_eq_true, if_false]
    rw [impl_GuardOk.is, decide_eq_true hg2]
    simp only [Option.bind_some, Bool.not_true]
    rw [laws_FnRun.j1, if_neg (by decide), w_nx hin (Nat.le_trans hn (by decide))]
    exact ih'

theorem run_all {l0 : List Int} (hb : Bytes l0) (k B : Nat) (hk : k = B + 3000) (hB : 60020 < B) (hl : ¬ (l0.length : Int) > 1048576) : laws_FnRun.f k l0 = some true := by
  obtain ⟨s, h, d, a, wn, o, he⟩ := DrawRun_ok hb (B + 2970) k (by rw [hk]) (Nat.lt_of_lt_of_le (Nat.lt_trans (by decide) hB) (Nat.le_add_right _ _))
  obtain ⟨r, hr, hrun⟩ := runs s h d a wn o
  obtain ⟨r1, r2⟩ := hrun 3000 B (by decide) hB
  rw [← hk] at r1 r2
  unfold laws_FnRun.f
  rw [if_neg hl, he]
  simp only [Option.bind_some]
  rw [r2, r1]
  simp only [Option.bind_some, if_true]
  rcases hr with rfl | ⟨ok, hn, hF, rfl⟩
  · obtain ⟨q, rfl⟩ : ∃ q, k = q + 1 := ⟨B + 2999, hk⟩
    rw [laws_FnRun.l0, if_neg (by decide)]
  · have fin := run_l s h d a wn ok o o.length hn rfl hF o.length 0 3000 B (Nat.zero_add _) (by clear hk hB; omega) hB
    rw [← hk] at fin
    rw [runL_len]
    exact fin

theorem FnRun : laws_FnRun.Pure := by
  intro l0 _ _ hb
  by_cases hl : (l0.length : Int) > 1048576
  · refine ⟨0, ?_⟩
    unfold laws_FnRun.f
    rw [if_pos hl]
  · obtain ⟨B, hB⟩ : ∃ B : Nat, B = 60021 := ⟨_, rfl⟩
    exact ⟨B + 3000, run_all (bytes_of hb) _ B rfl (by rw [hB]; decide) hl⟩

end Go.Proofs.Ytcfhjidddpoijaa.Pure
