/- What Run tells, on numbers and lists: the program's and the reference's, and the draw of a run; conditions: the choices are bytes, rounds enough. -/
import Derived.Test.YtcfhjidddpoijaaXNQ26
import Derived.Test.YtcfhjidddpoijaaXNQ25
import Derived.Test.YtcfhjidddpoijaaXNDmR
namespace Go.Proofs.Ytcfhjidddpoijaa.Q
open Go.RowKit Go.Proofs.YtcfhjidddpoijaaW.PrintWords Go.Proofs.YtcfhjidddpoijaaW.PrintLast Go.Proofs.YtcfhjidddpoijaaW.PrintMore
set_option linter.unusedSimpArgs false

theorem w_nx {i n : Nat} (hi : i < n) (hn : n ≤ 2000000) : wrap64 ((i : Int) + 1) = ((i + 1 : Nat) : Int) := by rw [w_small (by omega) (by omega)]; omega
theorem n_lt {i n : Nat} (h : i < n) : (i : Int) < (n : Int) := by omega

/-! ### Run -/
def saidOf (t : Bool × Int × Int × Int × Bool × Bool) : S33 := ⟨t.1, ⟨t.2.1, t.2.2.1⟩, t.2.2.2.1, t.2.2.2.2.1, t.2.2.2.2.2⟩
def tickE (s h d a wn : Int) (g : Int × Int) (e : S44) : Bool × Int × Int × Int × Bool × Bool := tickM s h d a wn g.1 g.2 e.f0 e.f1 e.f2 e.f3 e.f4
def gN (s h d a wn : Int) (l : List S44) : Nat → Int × Int
  | 0 => (3, -1)
  | j + 1 => ((tickE s h d a wn (gN s h d a wn l j) (rd_T44 l j)).2.1, (tickE s h d a wn (gN s h d a wn l j) (rd_T44 l j)).2.2.1)
def runL (s h d a wn : Int) (l : List S44) : Nat → List S33
  | 0 => []
  | j + 1 => runL s h d a wn l j ++ [saidOf (tickE s h d a wn (gN s h d a wn l j) (rd_T44 l j))]
theorem runL_len (s h d a wn : Int) (l : List S44) : ∀ n, (runL s h d a wn l n).length = n
  | 0 => rfl
  | n + 1 => by rw [runL, List.length_append, runL_len s h d a wn l n]; rfl
theorem tickM_end' (s h d a wn gs ge hi sp en li : Int) (ack : Bool) : (tickM s h d a wn gs ge hi sp en li ack).2.2.1 = en := by
  unfold tickM
  split
  · rfl
  · split <;> rfl
theorem tickM_state' (s h d a wn gs ge hi sp en li : Int) (ack : Bool) : 0 ≤ (tickM s h d a wn gs ge hi sp en li ack).2.1 ∧ (tickM s h d a wn gs ge hi sp en li ack).2.1 ≤ 3 := by
  unfold tickM
  split
  · simp
  · split
    · split <;> simp
    · simp
def feltE (e : S44) : Prop := feltB e.f0 e.f1 e.f2 e.f3
instance (e : S44) : Decidable (feltE e) := by unfold feltE; exact inferInstance
def allF (l : List S44) (n : Nat) : Prop := ∀ j : Nat, j < n → feltE (rd_T44 l (j : Int))
theorem tickE_guard {s h d a wn : Int} {g : Int × Int} {e : S44} (he : feltE e) : guardB (tickE s h d a wn g e).2.1 (tickE s h d a wn g e).2.2.1 := by
  refine ⟨tickM_state' _ _ _ _ _ _ _ _ _ _ _ _, ?_⟩
  show -1 ≤ (tickM s h d a wn g.1 g.2 e.f0 e.f1 e.f2 e.f3 e.f4).2.2.1 ∧ (tickM s h d a wn g.1 g.2 e.f0 e.f1 e.f2 e.f3 e.f4).2.2.1 ≤ 100000000
  rw [tickM_end']
  exact he.2.2.1
theorem gN_guard {s h d a wn : Int} {l : List S44} {n : Nat} (hl : allF l n) : ∀ i : Nat, i ≤ n → guardB (gN s h d a wn l i).1 (gN s h d a wn l i).2
  | 0 => fun _ => by simp [gN, guardB]
  | i + 1 => fun hi => tickE_guard (hl i hi)
theorem lim_run {x n : Nat} (h : x = n) (hn : n ≤ 2000) : x < 3518437208883 := Nat.lt_of_lt_of_le (show x < 2001 by omega) (by decide)

theorem impl_Run.good (s h d a wn : Int) (ok : Dm.okB s h d a wn) (l : List S44) (n : Nat) (hn : n ≤ 1000) (hln : l.length = n) (hl : allF l n) : ∀ (D i q B : Nat), i + D = n → D < q → 20120 < B →
    impl_Run.l0 (B + q) (runL s h d a wn l i) l n i s h d a wn (gN s h d a wn l i).1 (gN s h d a wn l i).2 = some (runL s h d a wn l n) := by
  intro D
  induction D with
  | zero =>
    intro i q B hi hq hB
    obtain ⟨q, rfl⟩ : ∃ z, q = z + 1 := ⟨q - 1, by clear hB; omega⟩
    clear hB
    obtain rfl : i = n := by omega
    rw [show B + (q + 1) = (B + q) + 1 from rfl, impl_Run.l0, if_neg (by omega)]
  | succ D ih =>
    intro i q B hi hq hB
    obtain ⟨q, rfl⟩ : ∃ z, q = z + 1 := ⟨q - 1, by clear hB; omega⟩
    have ih' := ih (i + 1) q B (by clear hB; omega) (by clear hB; omega) hB
    have hin : i < n := by clear hB; omega
    have hq2 : 20110 < B + q := by omega
    clear ih hi hq hB
    have he := hl i hin
    have hlen := lim_run (runL_len s h d a wn l i) (by omega)
    rw [show B + (q + 1) = (B + q) + 1 from rfl, impl_Run.l0, if_pos (n_lt hin), if_pos (Int.natCast_nonneg i), if_pos (by rw [hln]; exact n_lt hin), impl_FeltOk.is, decide_eq_true (show feltB _ _ _ _ from he)]
    simp only [Option.bind_some, if_true]
    obtain ⟨⟨c0, c1⟩, ⟨c2, c3⟩, ⟨c4, c5⟩, _⟩ := he
    rw [impl_tick.is s h d a wn _ _ _ _ _ _ _ ok c2 c3 c0 (Int.le_trans c1 (by decide)) c4 (Int.le_trans c5 (by decide)) (B + q) hq2, w_nx hin (Nat.le_trans hn (by decide))]
    simp only [Option.bind_some]
    rw [if_pos hlen]
    exact ih'
theorem impl_Run.bad (s h d a wn : Int) (ok : Dm.okB s h d a wn) (l : List S44) (n : Nat) (hn : n ≤ 1000) (hln : l.length = n) (b : Nat) (hb : b < n) (hl : ¬ feltE (rd_T44 l (b : Int))) : ∀ (D i q B : Nat) (x : List S33) (gs ge : Int), i + D = b → D + 1 < q → 20120 < B → x.length = i →
    impl_Run.l0 (B + q) x l n i s h d a wn gs ge = some [] := by
  intro D
  induction D with
  | zero =>
    intro i q B x gs ge hi hq hB hx
    obtain ⟨q, rfl⟩ : ∃ z, q = z + 1 := ⟨q - 1, by clear hB; omega⟩
    clear hB
    obtain rfl : i = b := by omega
    rw [show B + (q + 1) = (B + q) + 1 from rfl, impl_Run.l0, if_pos (n_lt hb), if_pos (Int.natCast_nonneg i), if_pos (by rw [hln]; exact n_lt hb), impl_FeltOk.is, decide_eq_false (show ¬ feltB _ _ _ _ from hl)]
    rfl
  | succ D ih =>
    intro i q B x gs ge hi hq hB hx
    obtain ⟨q, rfl⟩ : ∃ z, q = z + 1 := ⟨q - 1, by clear hB; omega⟩
    have ih' := fun x gs ge => ih (i + 1) q B x gs ge (by clear hB; omega) (by clear hB; omega) hB
    have hin : i < n := by clear hB; omega
    have hq2 : 20110 < B + q := by omega
    clear ih hi hq hB
    have hlen := lim_run hx (by omega)
    rw [show B + (q + 1) = (B + q) + 1 from rfl, impl_Run.l0, if_pos (n_lt hin), if_pos (Int.natCast_nonneg i), if_pos (by rw [hln]; exact n_lt hin), impl_FeltOk.is]
    by_cases he : feltE (rd_T44 l (i : Int))
    · rw [decide_eq_true (show feltB _ _ _ _ from he)]
      simp only [Option.bind_some, if_true]
      obtain ⟨⟨c0, c1⟩, ⟨c2, c3⟩, ⟨c4, c5⟩, _⟩ := he
      rw [impl_tick.is s h d a wn _ _ _ _ _ _ _ ok c2 c3 c0 (Int.le_trans c1 (by decide)) c4 (Int.le_trans c5 (by decide)) (B + q) hq2, w_nx hin (Nat.le_trans hn (by decide))]
      simp only [Option.bind_some]
      rw [if_pos hlen]
      exact ih' _ _ _ (by rw [List.length_append, hx]; rfl)
    · rw [decide_eq_false (show ¬ feltB _ _ _ _ from he)]
      rfl

theorem spec_Run.good1 (s h d a wn : Int) (ok : Dm.okB s h d a wn) (l : List S44) (n : Nat) (hn : n ≤ 1000) (hln : l.length = n) (hl : allF l n) : ∀ (D i q B : Nat), i + D = n → D < q → 60020 < B →
    spec_Run.l1 (B + q) (runL s h d a wn l i) l n i s h d a wn (gN s h d a wn l i).1 (gN s h d a wn l i).2 = some (runL s h d a wn l n) := by
  intro D
  induction D with
  | zero =>
    intro i q B hi hq hB
    obtain ⟨q, rfl⟩ : ∃ z, q = z + 1 := ⟨q - 1, by clear hB; omega⟩
    clear hB
    obtain rfl : i = n := by omega
    rw [show B + (q + 1) = (B + q) + 1 from rfl, spec_Run.l1, if_neg (by omega)]
  | succ D ih =>
    intro i q B hi hq hB
    obtain ⟨q, rfl⟩ : ∃ z, q = z + 1 := ⟨q - 1, by clear hB; omega⟩
    have ih' := ih (i + 1) q B (by clear hB; omega) (by clear hB; omega) hB
    have hin : i < n := by clear hB; omega
    have hq2 : 60010 < B + q := by omega
    clear ih hi hq hB
    have he := hl i hin
    have hlen := lim_run (runL_len s h d a wn l i) (by omega)
    rw [show B + (q + 1) = (B + q) + 1 from rfl, spec_Run.l1, if_pos (n_lt hin), if_pos (Int.natCast_nonneg i), if_pos (by rw [hln]; exact n_lt hin), spec_Tick.is _ _ _ _ _ _ _ _ _ _ _ _ (B + q) hq2, w_nx hin (Nat.le_trans hn (by decide))]
    unfold tickAll
    rw [if_pos ⟨ok, gN_guard hl i (Nat.le_of_lt hin), he⟩]
    simp only [Option.bind_some]
    rw [if_pos hlen]
    exact ih'
theorem spec_Run.good0 (s h d a wn : Int) (ok : Dm.okB s h d a wn) (l : List S44) (n : Nat) (hn : n ≤ 1000) (hln : l.length = n) (hl : allF l n) : ∀ (D i q B : Nat), i + D = n → D + n + 1 < q → 60020 < B →
    spec_Run.l0 (B + q) l l n i s h d a wn = some (runL s h d a wn l n) := by
  intro D
  induction D with
  | zero =>
    intro i q B hi hq hB
    obtain ⟨q, rfl⟩ : ∃ z, q = z + 1 := ⟨q - 1, by clear hB; omega⟩
    have h1 := spec_Run.good1 s h d a wn ok l n hn hln hl n 0 q B (by clear hB; omega) (by clear hB; omega) hB
    clear hB
    obtain rfl : i = n := by omega
    rw [show B + (q + 1) = (B + q) + 1 from rfl, spec_Run.l0, if_neg (by omega), hln]
    exact h1
  | succ D ih =>
    intro i q B hi hq hB
    obtain ⟨q, rfl⟩ : ∃ z, q = z + 1 := ⟨q - 1, by clear hB; omega⟩
    have ih' := ih (i + 1) q B (by clear hB; omega) (by clear hB; omega) hB
    have hin : i < n := by clear hB; omega
    clear ih hi hq hB
    rw [show B + (q + 1) = (B + q) + 1 from rfl, spec_Run.l0, if_pos (n_lt hin), if_pos (Int.natCast_nonneg i), if_pos (by rw [hln]; exact n_lt hin), spec_FeltOk.is, decide_eq_true (show feltB _ _ _ _ from hl i hin), w_nx hin (Nat.le_trans hn (by decide))]
    simp only [Option.bind_some, if_true]
    exact ih'
theorem spec_Run.bad (s h d a wn : Int) (l : List S44) (n : Nat) (hn : n ≤ 1000) (hln : l.length = n) (b : Nat) (hb : b < n) (hl : ¬ feltE (rd_T44 l (b : Int))) : ∀ (D i q : Nat), i + D = b → D + 1 < q →
    spec_Run.l0 q l l n i s h d a wn = some [] := by
  intro D
  induction D with
  | zero =>
    intro i q hi hq
    obtain ⟨q, rfl⟩ : ∃ z, q = z + 1 := ⟨q - 1, by omega⟩
    obtain rfl : i = b := by omega
    rw [spec_Run.l0, if_pos (n_lt hb), if_pos (Int.natCast_nonneg i), if_pos (by rw [hln]; exact n_lt hb), spec_FeltOk.is, decide_eq_false (show ¬ feltB _ _ _ _ from hl)]
    rfl
  | succ D ih =>
    intro i q hi hq
    obtain ⟨q, rfl⟩ : ∃ z, q = z + 1 := ⟨q - 1, by omega⟩
    have ih' := ih (i + 1) q (by omega) (by omega)
    have hin : i < n := by omega
    rw [spec_Run.l0, if_pos (n_lt hin), if_pos (Int.natCast_nonneg i), if_pos (by rw [hln]; exact n_lt hin), spec_FeltOk.is, w_nx hin (Nat.le_trans hn (by decide))]
    by_cases he : feltE (rd_T44 l (i : Int))
    · rw [decide_eq_true (show feltB _ _ _ _ from he)]
      simp only [Option.bind_some, if_true]
      exact ih'
    · rw [decide_eq_false (show ¬ feltB _ _ _ _ from he)]
      rfl

theorem runs (s h d a wn : Int) (l : List S44) : ∃ r : List S33, (r = [] ∨ Dm.okB s h d a wn ∧ l.length ≤ 1000 ∧ allF l l.length ∧ r = runL s h d a wn l l.length) ∧ ∀ q B : Nat, 2100 < q → 60020 < B → spec_Run.f (B + q) s h d a wn l = some r ∧ impl_Run.f (B + q) s h d a wn l = some r := by
  by_cases ok : Dm.okB s h d a wn
  · by_cases hn : l.length ≤ 1000
    · have hc : ¬ (l.length : Int) > 1000 := by omega
      by_cases hl : allF l l.length
      · refine ⟨runL s h d a wn l l.length, .inr ⟨ok, hn, hl, rfl⟩, fun q B hq hB => ?_⟩
        obtain ⟨q, rfl⟩ : ∃ z, q = z + 1 := ⟨q - 1, by clear hB; omega⟩
        have hq' : 2099 < q := by clear hB; omega
        have h1 := spec_Run.good0 s h d a wn ok l l.length hn rfl hl l.length 0 q B (by clear hB; omega) (by clear hB; omega) hB
        have h2 := impl_Run.good s h d a wn ok l l.length hn rfl hl l.length 0 q B (by clear hB; omega) (by clear hB; omega) (Nat.lt_trans (by decide) hB)
        unfold spec_Run.f impl_Run.f
        rw [spec_BrakesOk.is, impl_BrakesOk.is, decide_eq_true ok]
        simp only [Option.bind_some, if_true]
        rw [show B + (q + 1) = (B + q) + 1 from rfl, spec_Run.j0, impl_Run.j0, decide_eq_false hc, if_neg (by decide), if_neg (by decide)]
        exact ⟨h1, h2⟩
      · obtain ⟨b, hb⟩ := Classical.not_forall.mp hl
        obtain ⟨hb1, hb2⟩ := Classical.not_imp.mp hb
        refine ⟨[], .inl rfl, fun q B hq hB => ?_⟩
        obtain ⟨q, rfl⟩ : ∃ z, q = z + 1 := ⟨q - 1, by clear hB; omega⟩
        have hq' : 2099 < q := by clear hB; omega
        have h1 := spec_Run.bad s h d a wn l l.length hn rfl b hb1 hb2 b 0 (B + q) (by clear hB; omega) (by clear hB; omega)
        have h2 := impl_Run.bad s h d a wn ok l l.length hn rfl b hb1 hb2 b 0 q B [] 3 (-1) (by clear hB; omega) (by clear hB; omega) (Nat.lt_trans (by decide) hB) rfl
        unfold spec_Run.f impl_Run.f
        rw [spec_BrakesOk.is, impl_BrakesOk.is, decide_eq_true ok]
        simp only [Option.bind_some, if_true]
        rw [show B + (q + 1) = (B + q) + 1 from rfl, spec_Run.j0, impl_Run.j0, decide_eq_false hc, if_neg (by decide), if_neg (by decide)]
        exact ⟨h1, h2⟩
    · have hc : (l.length : Int) > 1000 := by omega
      refine ⟨[], .inl rfl, fun q B hq hB => ?_⟩
      obtain ⟨q, rfl⟩ : ∃ z, q = z + 1 := ⟨q - 1, by clear hB; omega⟩
      unfold spec_Run.f impl_Run.f
      rw [spec_BrakesOk.is, impl_BrakesOk.is, decide_eq_true ok]
      simp only [Option.bind_some, if_true]
      rw [show B + (q + 1) = (B + q) + 1 from rfl, spec_Run.j0, impl_Run.j0, decide_eq_true hc, if_pos rfl, if_pos rfl]
      exact ⟨rfl, rfl⟩
  · refine ⟨[], .inl rfl, fun q B hq hB => ?_⟩
    obtain ⟨q, rfl⟩ : ∃ z, q = z + 1 := ⟨q - 1, by clear hB; omega⟩
    unfold spec_Run.f impl_Run.f
    rw [spec_BrakesOk.is, impl_BrakesOk.is, decide_eq_false ok]
    simp only [Option.bind_some, if_false, Bool.false_eq_true]
    rw [show B + (q + 1) = (B + q) + 1 from rfl, spec_Run.j0, impl_Run.j0, if_pos rfl, if_pos rfl]
    exact ⟨rfl, rfl⟩

theorem rd_runL (s h d a wn : Int) (l : List S44) : ∀ (n i : Nat), i < n → rd_T33 (runL s h d a wn l n) (i : Int) = saidOf (tickE s h d a wn (gN s h d a wn l i) (rd_T44 l (i : Int))) := by
  intro n
  induction n with
  | zero => intro i hi; exact absurd hi (Nat.not_lt_zero i)
  | succ n ih =>
    intro i hi
    unfold rd_T33 at ih ⊢
    rw [Int.toNat_natCast, List.getD_eq_getElem?_getD, runL]
    by_cases c : i < n
    · have := ih i c
      rw [Int.toNat_natCast, List.getD_eq_getElem?_getD] at this
      rw [List.getElem?_append_left (by rw [runL_len]; exact c)]
      exact this
    · obtain rfl : i = n := by omega
      rw [List.getElem?_append_right (by rw [runL_len]; exact Nat.le_refl _), runL_len, Nat.sub_self]
      rfl

/-! ### the draw -/
theorem DrawRun_l {l : List Int} (hb : Bytes l) (s h d a wn : Int) : ∀ (D q B : Nat) (o : List S44) (at' seed : Int), 0 ≤ at' → at' ≤ 100 + 30 * o.length → o.length + D ≤ 20 → D < q → 20110 < B →
    ∃ o2, spec_DrawRun.l0 (B + q) o (D : Int) l at' seed s h d a wn = some (s, h, d, a, wn, o2) := by
  intro D
  induction D with
  | zero =>
    intro q B o at' seed h0 h1 hD hq hB
    obtain ⟨q, rfl⟩ : ∃ z, q = z + 1 := ⟨q - 1, by clear hB; omega⟩
    clear hB
    obtain ⟨r1, a1, s1, e1, b1, c1⟩ := pick_ok hb at' seed 60 h0 (by omega) (by decide) (by decide)
    obtain ⟨r2, a2, s2, e2, b2, c2⟩ := pick_ok hb a1 s1 2 c1.1 (by omega) (by decide) (by decide)
    rw [show B + (q + 1) = (B + q) + 1 from rfl, spec_DrawRun.l0, if_neg (by decide), e1]
    simp only [Option.bind_some]
    by_cases z : r1 = 0
    · have w1 : wrap64 (1000 + r2) = 1000 + r2 := w_small (by omega) (by omega)
      have n1 : (1000 + r2).toNat ≤ 7036874417766 := Nat.le_trans (show (1000 + r2).toNat ≤ 1001 by omega) (by decide)
      rw [if_pos z, e2]
      simp only [Option.bind_some]
      rw [w1, if_pos (show 0 ≤ 1000 + r2 by omega), if_pos n1]
      exact ⟨_, rfl⟩
    · rw [if_neg z]
      exact ⟨_, rfl⟩
  | succ D ih =>
    intro q B o at' seed h0 h1 hD hq hB
    obtain ⟨q, rfl⟩ : ∃ z, q = z + 1 := ⟨q - 1, by clear hB; omega⟩
    have hq2 : 20110 < B + q := by omega
    have hq3 : D < q := by clear hB hq2; omega
    have ih' := fun o at' seed h0 h1 hD => ih q B o at' seed h0 h1 hD hq3 hB
    clear hB hq ih hq3
    obtain ⟨hi, sp, en, li, ack, a2, s2, e2, c2⟩ := felt_ok hb at' seed h0 (by clear hq2; omega)
    obtain ⟨r3, a3, s3, e3, b3, c3⟩ := pick_ok hb a2 s2 3 c2.1 (by clear hq2; omega) (by decide) (by decide)
    obtain ⟨hi4, sp4, en4, li4, ack4, a4, s4, e4, c4⟩ := edge_ok hb a3 s3 s h d a wn hi sp en li ack c3.1 (by clear hq2; omega) (B + q) hq2
    have w1 : wrap64 (((D + 1 : Nat) : Int) - 1) = (D : Int) := by rw [w_small (by clear hq2; omega) (by clear hq2; omega)]; clear hq2; omega
    have hlim : o.length < 3518437208883 := lim_run (n := o.length) rfl (by clear hq2; omega)
    rw [show B + (q + 1) = (B + q) + 1 from rfl, spec_DrawRun.l0, if_pos (show ((D + 1 : Nat) : Int) > 0 by clear hq2; omega), e2]
    simp only [Option.bind_some]
    rw [e3]
    simp only [Option.bind_some]
    by_cases z : r3 = 0
    · rw [if_pos z, e4]
      simp only [Option.bind_some]
      rw [if_pos hlim, w1]
      exact ih' _ a4 s4 c4.1 (by rw [len_snoc]; clear hq2; omega) (by rw [len_snoc]; clear hq2; omega)
    · rw [if_neg z, if_pos hlim, w1]
      exact ih' _ a3 s3 c3.1 (by rw [len_snoc]; clear hq2; omega) (by rw [len_snoc]; clear hq2; omega)

theorem DrawRun_any {l : List Int} (hb : Bytes l) (k : Nat) (hk : ∀ (D : Nat) (at' seed s h d a wn : Int), D ≤ 13 → 0 ≤ at' → at' ≤ 100 → ∃ o2, spec_DrawRun.l0 k [] (D : Int) l at' seed s h d a wn = some (s, h, d, a, wn, o2)) :
    ∃ s h d a wn o, spec_DrawRun.f k l = some (s, h, d, a, wn, o) := by
  unfold spec_DrawRun.f
  obtain ⟨s, h, d, a, wn, a1, s1, e1, c1⟩ := l4brakes_ok hb 0 0 (by decide) (by decide)
  obtain ⟨r2, a2, s2, e2, b2, c2⟩ := pick_ok hb a1 s1 14 c1.1 (by omega) (by decide) (by decide)
  have hr : ((r2.toNat : Nat) : Int) = r2 := by omega
  obtain ⟨o, ho⟩ := hk r2.toNat a2 s2 s h d a wn (by omega) c2.1 (by omega)
  rw [hr] at ho
  rw [e1]
  simp only [Option.bind_some]
  rw [e2]
  simp only [Option.bind_some]
  exact ⟨s, h, d, a, wn, o, ho⟩

theorem DrawRun_ok {l : List Int} (hb : Bytes l) (B k : Nat) (hk : k = B + 30) (hB : 20110 < B) : ∃ s h d a wn o, spec_DrawRun.f k l = some (s, h, d, a, wn, o) := by
  refine DrawRun_any hb k (fun D at' seed s h d a wn hD h0 h1 => ?_)
  rw [hk]
  exact DrawRun_l hb s h d a wn D 30 B [] at' seed h0 (by clear hB hk; simp; omega) (by clear hB hk; simp; omega) (by clear hB hk; omega) hB

end Go.Proofs.Ytcfhjidddpoijaa.Q
