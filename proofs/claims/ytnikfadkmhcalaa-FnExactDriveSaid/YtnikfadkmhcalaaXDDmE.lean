/- What the law's loops over lists of acts and what is true tell, and Drive of the reference: lists, marks, all that is said; conditions: rounds enough, lists not too long. -/
import Derived.Test.YtnikfadkmhcalaaXDQ37
import Derived.Test.YtnikfadkmhcalaaXDDmS
import Derived.Test.YtnikfadkmhcalaaXDDmD
namespace Go.Proofs.Ytnikfadkmhcalaa.Q
open Go.RowKit Go.Proofs.YtnikfadkmhcalaaW.PrintWords Go.Proofs.YtnikfadkmhcalaaW.PrintLast Go.Proofs.YtnikfadkmhcalaaW.PrintMore
set_option linter.unusedSimpArgs false

theorem w_nx {i n : Nat} (hi : i < n) (hn : n ≤ 2000000) : wrap64 ((i : Int) + 1) = ((i + 1 : Nat) : Int) := by rw [w_in (by omega) (by omega)]; omega
theorem big_ok {q : Nat} (h : 60020 < q) : 60010 < q + 2 := by omega
theorem n_lt {i n : Nat} (h : i < n) : (i : Int) < (n : Int) := by omega
theorem w_1 {m : Int} (h0 : 0 ≤ m) (h1 : m ≤ 100000000) : wrap64 (m + 1) = m + 1 := w_in (by omega) (by omega)
theorem w_8 {m : Int} (h0 : 0 ≤ m) (h1 : m ≤ 90000000) : wrap64 (m + 1) = m + 1 ∧ wrap64 (m + 1 + 1) = m + 1 + 1 ∧ wrap64 (m + 1 + 1 + 1) = m + 1 + 1 + 1 ∧ wrap64 (m + 1 + 1 + 1 + 1) = m + 1 + 1 + 1 + 1 ∧ wrap64 (m + 1 + 1 + 1 + 1 + 1) = m + 1 + 1 + 1 + 1 + 1 ∧ wrap64 (m + 1 + 1 + 1 + 1 + 1 + 1) = m + 1 + 1 + 1 + 1 + 1 + 1 ∧ wrap64 (m + 1 + 1 + 1 + 1 + 1 + 1 + 1) = m + 1 + 1 + 1 + 1 + 1 + 1 + 1 ∧ wrap64 (m + 1 + 1 + 1 + 1 + 1 + 1 + 1 + 1) = m + 1 + 1 + 1 + 1 + 1 + 1 + 1 + 1 :=
  ⟨w_1 (by omega) (by omega), w_1 (by omega) (by omega), w_1 (by omega) (by omega), w_1 (by omega) (by omega), w_1 (by omega) (by omega), w_1 (by omega) (by omega), w_1 (by omega) (by omega), w_1 (by omega) (by omega)⟩

/-! ### a list of what is act -/
def actOf (e : S42) : S44 := ⟨e.f0, e.f1, e.f2, e.f3, e.f4, e.f5, e.f6⟩
def fillA (l : List S42) : Nat → Nat → List S44 → List S44
  | 0, _, x => x
  | D + 1, i, x => fillA l D (i + 1) (x.set i (actOf (rd_T42 l i)))
theorem fillA_len (l : List S42) : ∀ (D i : Nat) (x : List S44), (fillA l D i x).length = x.length
  | 0, _, _ => rfl
  | D + 1, i, x => by rw [fillA, fillA_len l D, List.length_set]
theorem laws_toActS.l0_is (l : List S42) (hl : l.length ≤ 2000000) : ∀ (D i q : Nat) (x : List S44), i + D = l.length → D < q → x.length = l.length → laws_toActS.l0 q l x i = some (fillA l D i x) := by
  intro D
  induction D with
  | zero =>
    intro i q x hi hq hx
    obtain ⟨q, rfl⟩ : ∃ z, q = z + 1 := ⟨q - 1, by omega⟩
    rw [laws_toActS.l0, if_neg (by omega)]
    rfl
  | succ D ih =>
    intro i q x hi hq hx
    obtain ⟨q, rfl⟩ : ∃ z, q = z + 1 := ⟨q - 1, by omega⟩
    have hin : i < l.length := by omega
    have ih' := ih (i + 1) q (x.set i (actOf (rd_T42 l i))) (by omega) (by omega) (by rw [List.length_set]; exact hx)
    rw [laws_toActS.l0, if_pos (n_lt hin), if_pos (Int.natCast_nonneg i)]
    simp only [laws_toAct.f, Option.bind_some]
    rw [if_pos (by rw [hx]; exact n_lt hin), w_nx hin hl, Int.toNat_natCast]
    exact ih'
def actL (l : List S42) : List S44 := fillA l l.length 0 (List.replicate l.length z44)
theorem actL_len (l : List S42) : (actL l).length = l.length := by unfold actL; rw [fillA_len, List.length_replicate]
theorem laws_toActS.is (l : List S42) (hl : l.length ≤ 2000000) (q : Nat) (hq : l.length < q) : laws_toActS.f q l = some (actL l) := by
  unfold laws_toActS.f
  rw [if_pos (Int.natCast_nonneg _), Int.toNat_natCast, if_pos (Nat.le_trans hl (by decide))]
  exact laws_toActS.l0_is l hl l.length 0 q _ (by omega) hq (by simp)

theorem eqAct_same (a b c d e f : Int) (g : Bool) : laws_eqAct.f a b c d e f g a b c d e f g = some true := by simp [laws_eqAct.f]
theorem laws_eqActS.l0_is (l : List S44) (hl : l.length ≤ 2000000) : ∀ (D i q : Nat), i + D = l.length → D < q → laws_eqActS.l0 q l l i = some true := by
  intro D
  induction D with
  | zero =>
    intro i q hi hq
    obtain ⟨q, rfl⟩ : ∃ z, q = z + 1 := ⟨q - 1, by omega⟩
    rw [laws_eqActS.l0, if_neg (by omega)]
  | succ D ih =>
    intro i q hi hq
    obtain ⟨q, rfl⟩ : ∃ z, q = z + 1 := ⟨q - 1, by omega⟩
    have hin : i < l.length := by omega
    have ih' := ih (i + 1) q (by omega) (by omega)
    rw [laws_eqActS.l0, if_pos (n_lt hin), if_pos (Int.natCast_nonneg i), if_pos (n_lt hin), eqAct_same]
    simp only [Option.bind_some, if_true]
    rw [w_nx hin hl]
    exact ih'
theorem laws_eqActS.is (l : List S44) (hl : l.length ≤ 2000000) (q : Nat) (hq : l.length < q) : laws_eqActS.f q l l = some true := by
  unfold laws_eqActS.f
  rw [if_pos rfl]
  exact laws_eqActS.l0_is l hl l.length 0 q (by omega) hq
theorem eqSaid_same' (b : Bool) (st en sp : Int) (k c : Bool) : laws_eqSaid.f b st en sp k c b st en sp k c = some true := by
  simp [laws_eqSaid.f, laws_eqGuard.f]
theorem eqTrue_same (x v : Int) (b : Bool) (st en sp : Int) (k c : Bool) : laws_eqTrue.f x v b st en sp k c x v b st en sp k c = some true := by
  simp [laws_eqTrue.f, eqSaid_same']
theorem laws_eqTrueS.l0_is (l : List S86) (hl : l.length ≤ 2000000) : ∀ (D i q : Nat), i + D = l.length → D < q → laws_eqTrueS.l0 q l l i = some true := by
  intro D
  induction D with
  | zero =>
    intro i q hi hq
    obtain ⟨q, rfl⟩ : ∃ z, q = z + 1 := ⟨q - 1, by omega⟩
    rw [laws_eqTrueS.l0, if_neg (by omega)]
  | succ D ih =>
    intro i q hi hq
    obtain ⟨q, rfl⟩ : ∃ z, q = z + 1 := ⟨q - 1, by omega⟩
    have hin : i < l.length := by omega
    have ih' := ih (i + 1) q (by omega) (by omega)
    rw [laws_eqTrueS.l0, if_pos (n_lt hin), if_pos (Int.natCast_nonneg i), if_pos (n_lt hin), eqTrue_same]
    simp only [Option.bind_some, if_true]
    rw [w_nx hin hl]
    exact ih'
theorem laws_eqTrueS.is (l : List S86) (hl : l.length ≤ 2000000) (q : Nat) (hq : l.length < q) : laws_eqTrueS.f q l l = some true := by
  unfold laws_eqTrueS.f
  rw [if_pos rfl]
  exact laws_eqTrueS.l0_is l hl l.length 0 q (by omega) hq

/-! ### the marks -/
theorem rdA_set (x : List S44) (i : Nat) (hi : i < x.length) (v : S44) : rd_T44 (x.set i v) (i : Int) = v := by
  unfold rd_T44
  rw [Int.toNat_natCast, List.getD_eq_getElem?_getD, List.getElem?_set_self hi]
  rfl
theorem laws_markActS.l0_is : ∀ (D i q : Nat) (x : List S44) (m : Int), i + D = x.length → x.length ≤ 2000000 → D < q → 0 ≤ m → m + 7 * D ≤ 80000000 → ∃ y, laws_markActS.l0 q x m i = some (m + 7 * D, y) := by
  intro D
  induction D with
  | zero =>
    intro i q x m hi hx hq h0 h1
    obtain ⟨q, rfl⟩ : ∃ z, q = z + 1 := ⟨q - 1, by omega⟩
    rw [laws_markActS.l0, if_neg (by omega)]
    exact ⟨x, by simp⟩
  | succ D ih =>
    intro i q x m hi hx hq h0 h1
    obtain ⟨q, rfl⟩ : ∃ z, q = z + 1 := ⟨q - 1, by omega⟩
    have hin : i < x.length := by omega
    obtain ⟨w1, w2, w3, w4, w5, w6, w7, _⟩ := w_8 h0 (by omega)
    have ih' := fun y (hy : y.length = x.length) => ih (i + 1) q y (m + 1 + 1 + 1 + 1 + 1 + 1 + 1) (by omega) (by omega) (by omega) (by omega) (by omega)
    have e5 : m + 1 + 1 + 1 + 1 + 1 + 1 + 1 + 7 * (D : Int) = m + 7 * ((D + 1 : Nat) : Int) := by omega
    rw [e5] at ih'
    rw [laws_markActS.l0, if_pos (n_lt hin), if_pos (Int.natCast_nonneg i)]
    rw [w_nx hin hx, w1, w2, w3, w4, w5, w6, w7]
    simp only [Int.toNat_natCast]
    rw [Option.bind_some]
    rw [rdA_set x i hin, List.set_set]; dsimp only; rw [Option.bind_some]
    rw [rdA_set x i hin, List.set_set]; dsimp only; rw [Option.bind_some]
    rw [rdA_set x i hin, List.set_set]; dsimp only; rw [Option.bind_some]
    rw [rdA_set x i hin, List.set_set]; dsimp only; rw [Option.bind_some]
    rw [rdA_set x i hin, List.set_set]; dsimp only; rw [Option.bind_some]
    rw [rdA_set x i hin, List.set_set]
    exact ih' _ (by rw [List.length_set])
theorem laws_markActS.is (x : List S44) (hx : x.length ≤ 2000000) (q : Nat) (hq : x.length < q) : ∃ y n, laws_markActS.f q x 1 = some (n, y) ∧ 0 ≤ n := by
  obtain ⟨y, hy⟩ := laws_markActS.l0_is x.length 0 q x 1 (by omega) hx hq (by omega) (by omega)
  exact ⟨y, _, hy, by omega⟩

theorem rdT_set (x : List S86) (i : Nat) (hi : i < x.length) (v : S86) : rd_T86 (x.set i v) (i : Int) = v := by
  unfold rd_T86
  rw [Int.toNat_natCast, List.getD_eq_getElem?_getD, List.getElem?_set_self hi]
  rfl
theorem rdT_ne (x : List S86) (i j : Nat) (hij : i ≠ j) (v : S86) : rd_T86 (x.set i v) (j : Int) = rd_T86 x j := by
  unfold rd_T86
  rw [Int.toNat_natCast, List.getD_eq_getElem?_getD, List.getD_eq_getElem?_getD, List.getElem?_set_ne hij]
def mkT (n : Int) : S86 := ⟨n, n + 1, ⟨Int.tmod (n + 1 + 1) 3 == 0, ⟨n + 1 + 1 + 1, n + 1 + 1 + 1 + 1⟩, n + 1 + 1 + 1 + 1 + 1, Int.tmod (n + 1 + 1 + 1 + 1 + 1 + 1) 3 == 0, Int.tmod (n + 1 + 1 + 1 + 1 + 1 + 1 + 1) 3 == 0⟩⟩
theorem laws_markTrueS.l0_is : ∀ (D i q : Nat) (x : List S86) (m : Int), i + D = x.length → x.length ≤ 2000000 → D < q → 0 ≤ m → m + 8 * D ≤ 80000000 →
    ∃ y, laws_markTrueS.l0 q x m i = some (m + 8 * D, y) ∧ y.length = x.length ∧ (∀ j : Nat, j < i → rd_T86 y j = rd_T86 x j) ∧ ∀ z : Nat, z < D → rd_T86 y ((i + z : Nat) : Int) = mkT (m + 8 * z) := by
  intro D
  induction D with
  | zero =>
    intro i q x m hi hx hq h0 h1
    obtain ⟨q, rfl⟩ : ∃ z, q = z + 1 := ⟨q - 1, by omega⟩
    rw [laws_markTrueS.l0, if_neg (by omega)]
    exact ⟨x, by simp, rfl, fun _ _ => rfl, fun z hz => absurd hz (by omega)⟩
  | succ D ih =>
    intro i q x m hi hx hq h0 h1
    obtain ⟨q, rfl⟩ : ∃ z, q = z + 1 := ⟨q - 1, by omega⟩
    have hin : i < x.length := by omega
    obtain ⟨w1, w2, w3, w4, w5, w6, w7, w8⟩ := w_8 h0 (by omega)
    obtain ⟨y, e1, e2, e3, e4⟩ := ih (i + 1) q (x.set i (mkT m)) (m + 1 + 1 + 1 + 1 + 1 + 1 + 1 + 1) (by rw [List.length_set]; omega) (by rw [List.length_set]; omega) (by omega) (by omega) (by omega)
    have e5 : m + 1 + 1 + 1 + 1 + 1 + 1 + 1 + 1 + 8 * (D : Int) = m + 8 * ((D + 1 : Nat) : Int) := by omega
    rw [e5] at e1
    refine ⟨y, ?_, by rw [e2, List.length_set], fun j hj => ?_, fun z hz => ?_⟩
    · rw [laws_markTrueS.l0, if_pos (n_lt hin), if_pos (Int.natCast_nonneg i)]
      rw [w_nx hin hx, w1, w2, w3, w4, w5, w6, w7, w8]
      simp only [Int.toNat_natCast]
      rw [Option.bind_some]
      rw [rdT_set x i hin, List.set_set]; dsimp only; rw [Option.bind_some]
      rw [rdT_set x i hin, List.set_set]; dsimp only; rw [Option.bind_some]
      rw [rdT_set x i hin, List.set_set]; dsimp only; rw [Option.bind_some]
      rw [rdT_set x i hin, List.set_set]; dsimp only; rw [Option.bind_some]
      rw [rdT_set x i hin, List.set_set]; dsimp only; rw [Option.bind_some]
      rw [rdT_set x i hin, List.set_set]; dsimp only; rw [Option.bind_some]
      rw [rdT_set x i hin, List.set_set]
      exact e1
    · rw [e3 j (by omega), rdT_ne x i j (by omega)]
    · cases z with
      | zero =>
        have h := e3 i (by omega)
        rw [rdT_set x i hin] at h
        rw [show ((i + 0 : Nat) : Int) = (i : Int) from rfl, h]
        congr 1
        omega
      | succ z =>
        have h := e4 z (by omega)
        rw [show i + (z + 1) = i + 1 + z by omega, h]
        congr 1
        omega
theorem laws_heldTrueS.l0_is (y : List S86) (hy : y.length ≤ 2000000) (hm : ∀ z : Nat, z < y.length → rd_T86 y (z : Int) = mkT (1 + 8 * z)) : ∀ (D i q : Nat) (m : Int), i + D = y.length → D < q → m = 1 + 8 * i →
    laws_heldTrueS.l0 q y m i = some (1 + 8 * y.length) := by
  intro D
  induction D with
  | zero =>
    intro i q m hi hq hm2
    obtain ⟨q, rfl⟩ : ∃ z, q = z + 1 := ⟨q - 1, by omega⟩
    rw [laws_heldTrueS.l0, if_neg (by omega)]
    congr 1
    omega
  | succ D ih =>
    intro i q m hi hq hm2
    obtain ⟨q, rfl⟩ : ∃ z, q = z + 1 := ⟨q - 1, by omega⟩
    have hin : i < y.length := by omega
    have h0 : 0 ≤ m := by omega
    obtain ⟨w1, w2, w3, w4, w5, w6, w7, w8⟩ := w_8 h0 (by omega)
    have ih' := ih (i + 1) q (m + 1 + 1 + 1 + 1 + 1 + 1 + 1 + 1) (by omega) (by omega) (by omega)
    have hr := hm i hin
    rw [← hm2] at hr
    rw [laws_heldTrueS.l0, if_pos (n_lt hin), if_pos (Int.natCast_nonneg i), hr, w_nx hin hy, w1, w2, w3, w4, w5, w6, w7, w8]
    simp only [mkT, bne_self_eq_false, if_true, if_false, Bool.false_eq_true]
    exact ih'
theorem laws_marksTrue (x : List S86) (hx : x.length ≤ 2000000) (q : Nat) (hq : x.length < q) : ∃ y n, laws_markTrueS.f q x 1 = some (n, y) ∧ 0 ≤ n ∧ laws_heldTrueS.f q y 1 = some n := by
  obtain ⟨y, h1, h2, _, h4⟩ := laws_markTrueS.l0_is x.length 0 q x 1 (by omega) hx hq (by omega) (by omega)
  refine ⟨y, _, h1, by omega, ?_⟩
  rw [← h2]
  exact laws_heldTrueS.l0_is y (by omega) (fun z hz => by have := h4 z (by omega); rwa [Nat.zero_add] at this) y.length 0 q 1 (by omega) (by omega) (by omega)

/-! ### Drive -/
theorem least {P : Nat → Prop} : ∀ n : Nat, ¬ (∀ j : Nat, j < n → P j) → ∃ b, b < n ∧ ¬ P b ∧ ∀ j : Nat, j < b → P j
  | 0 => fun h => absurd (fun j hj => absurd hj (Nat.not_lt_zero j)) h
  | n + 1 => fun h => by
    by_cases c : ∀ j : Nat, j < n → P j
    · refine ⟨n, Nat.lt_succ_self n, fun hp => h (fun j hj => ?_), c⟩
      rcases Nat.lt_or_ge j n with z | z
      · exact c j z
      · obtain rfl : j = n := by omega
        exact hp
    · obtain ⟨b, h1, h2, h3⟩ := least n c
      exact ⟨b, Nat.lt_succ_of_lt h1, h2, h3⟩

theorem impl_Drive.bad (s h d a wn x0 v0 : Int) (ok : Dm.okB s h d a wn) (hx0 : 0 ≤ x0) (hx1 : x0 ≤ 1000000) (hv : 0 ≤ v0 ∧ v0 ≤ 9900) (l : List S44) (n : Nat) (hn : n ≤ 1000) (hln : l.length = n) (b : Nat) (hb : b < n) (hbad : ¬ goodAct a (rd_T44 l (b : Int)))
    (hl : ∀ j : Nat, j < b → goodAct a (rd_T44 l j)) : ∀ (D i q : Nat), i + D = b → 2 * D + 20125 < q →
    impl_Drive.l0 q (stN s h d a wn x0 v0 l i).x (stN s h d a wn x0 v0 l i).v (stN s h d a wn x0 v0 l i).hard (outsN s h d a wn x0 v0 l i) l n i s h d a wn (stN s h d a wn x0 v0 l i).gs (stN s h d a wn x0 v0 l i).ge = some [] := by
  intro D
  induction D with
  | zero =>
    intro i q hi hq
    obtain ⟨q, rfl⟩ : ∃ z, q = z + 1 := ⟨q - 1, by omega⟩
    obtain rfl : i = b := by omega
    clear hi hq
    rw [impl_Drive.l0, if_pos (n_lt hb), if_pos (Int.natCast_nonneg i), if_pos (by rw [hln]; exact n_lt hb), impl_ActOk.is, decide_eq_false (fun z => hbad z.2)]
    rfl
  | succ D ih =>
    intro i q hi hq
    obtain ⟨q, rfl⟩ : ∃ z, q = z + 2 := ⟨q - 2, by omega⟩
    have hd := ok.2.2.1.1
    have hib : i < b := by omega
    have ih' := ih (i + 1) q (by omega) (by omega)
    have hq2 : 20120 < q := by omega
    clear hq hi ih
    rw [impl_Drive.step s h d a wn x0 ok hx0 hx1 l n i hn hln (Nat.lt_trans hib hb) _ (stN_inv hd hv b hl i (Nat.le_of_lt hib)) (hl i hib) _ (outsN_length ..) q hq2, ← outsN_succ]
    exact ih'

theorem spec_ActOk.is (s h d a wn : Int) (e : S44) : spec_ActOk.f s h d a wn e.f0 e.f1 e.f2 e.f3 e.f4 e.f5 e.f6 = some (decide (Dm.okB s h d a wn ∧ goodAct a e)) := by
  unfold spec_ActOk.f spec_l1speed.f goodAct
  simp only [spec_BrakesOk.is, spec_l1in.is, Option.bind_some]
  by_cases c0 : Dm.okB s h d a wn <;> by_cases c1 : -1000 ≤ e.f0 ∧ e.f0 ≤ a <;> by_cases c2 : 0 ≤ e.f1 ∧ e.f1 ≤ 1000 <;> by_cases c3 : 0 ≤ e.f2 ∧ e.f2 ≤ 100 <;> by_cases c4 : 0 ≤ e.f3 ∧ e.f3 ≤ 1000 <;> by_cases c5 : -1 ≤ e.f4 ∧ e.f4 ≤ 100000000 <;> simp [c0, c1, c2, c3, c4, c5]
theorem spec_l3change.is (v c : Int) (h0 : -1000000 ≤ v + c) (h1 : v + c ≤ 1000000) : spec_l3change.f v c = some (max 0 (min (v + c) 9900)) := by
  unfold spec_l3change.f
  rw [w_in (by omega) (by omega)]
  by_cases c1 : v + c < 0
  · rw [if_pos c1]; congr 1; omega
  · rw [if_neg c1]
    by_cases c2 : v + c > 9900
    · rw [if_pos c2]; congr 1; omega
    · rw [if_neg c2]; congr 1; omega

/-- one tick of the reference's loop; c: its count of the hard brake's ticks -/
theorem spec_Drive.step (s h d a wn x0 : Int) (ok : Dm.okB s h d a wn) (hx0 : 0 ≤ x0) (hx1 : x0 ≤ 1000000) (l : List S44) (n i : Nat) (hn : n ≤ 1000) (hln : l.length = n) (hi : i < n) (p : DmS) (hp : invD d x0 i p) (c : Int) (hc : p.gs = 3 → c = p.hard) (hc2 : p.gs ≠ 3 → p.hard = 0)
    (he : goodAct a (rd_T44 l i)) (out : List S86) (hout : out.length = i) (q : Nat) (hq' : 60020 < q) :
    ∃ c' : Int, ((stepD s h d a wn p (rd_T44 l i)).gs = 3 → c' = (stepD s h d a wn p (rd_T44 l i)).hard) ∧ ((stepD s h d a wn p (rd_T44 l i)).gs ≠ 3 → (stepD s h d a wn p (rd_T44 l i)).hard = 0) ∧
    spec_Drive.l1 (q + 3) p.x p.v c out l n i s h d a wn p.gs p.ge =
      spec_Drive.l1 q (stepD s h d a wn p (rd_T44 l i)).x (stepD s h d a wn p (rd_T44 l i)).v c' (out ++ [outD s h d a wn p (rd_T44 l i)]) l n ((i + 1 : Nat) : Int) s h d a wn (stepD s h d a wn p (rd_T44 l i)).gs (stepD s h d a wn p (rd_T44 l i)).ge := by
  obtain ⟨⟨v0, v1⟩, ⟨x1, x2⟩, ⟨h0, h1⟩, ⟨g0, g1⟩, ⟨gs0, gs1⟩⟩ := hp
  have px0 : 0 ≤ p.x := by omega
  have px1 : p.x ≤ 90000000 := by omega
  have hact : feltB (p.x + (rd_T44 l i).f1) (p.v + (rd_T44 l i).f2) (rd_T44 l i).f4 (rd_T44 l i).f5 := by
    obtain ⟨_, ⟨o0, o1⟩, ⟨f0, f1⟩, _, ⟨e0, e1⟩, ⟨l0, l1⟩⟩ := he
    refine ⟨⟨by omega, by omega⟩, ⟨by omega, by omega⟩, ⟨e0, e1⟩, ⟨l0, l1⟩⟩
  obtain ⟨⟨w0, w1⟩, ⟨o0, o1⟩, ⟨f0, f1⟩, ⟨m0, m1⟩, ⟨e0, e1⟩, ⟨l0, l1⟩⟩ := he
  obtain ⟨⟨s1, s2⟩, ⟨hh1, hh2⟩, ⟨d1, d2⟩, ⟨a1, a2⟩, ⟨wn1, wn2⟩⟩ := id ok
  have a1' : wrap64 (p.x + (rd_T44 l i).f1) = p.x + (rd_T44 l i).f1 := w_in (by omega) (by omega)
  have a2' : wrap64 (p.v + (rd_T44 l i).f2) = p.v + (rd_T44 l i).f2 := w_in (by omega) (by omega)
  have hd1 : p.hard ≤ 1100 := by omega
  have b5 : wrap64 ((i : Int) + 1) = ((i + 1 : Nat) : Int) := w_nx hi (by omega)
  have b6 : out.length < 2513169434916 := lim_ok hout hi hn
  have b2 : wrap64 (-h) = -h := w_in (by omega) (by omega)
  have b3 : wrap64 (-h - (rd_T44 l i).f3) = -h - (rd_T44 l i).f3 := w_in (by omega) (by omega)
  have b4 : wrap64 (-s) = -s := w_in (by omega) (by omega)
  have b1 : wrap64 (p.hard + 1) = p.hard + 1 := w_in (by omega) (by omega)
  have gk : guardB p.gs p.ge := ⟨⟨gs0, gs1⟩, ⟨g0, g1⟩⟩
  have hin := n_lt hi
  have hil : (i : Int) < (l.length : Int) := by rw [hln]; exact hin
  have ht : tickM s h d a wn p.gs p.ge (p.x + (rd_T44 l i).f1) (p.v + (rd_T44 l i).f2) (rd_T44 l i).f4 (rd_T44 l i).f5 (rd_T44 l i).f6 = saidD s h d a wn p (rd_T44 l i) := rfl
  have key : ∀ c : Int, c = changeD s h d (saidD s h d a wn p (rd_T44 l i)).2.1 p.hard (rd_T44 l i) → -2000 ≤ c → c ≤ 1000 →
      spec_l3change.f p.v c = some (speedD s h d a wn p (rd_T44 l i)) ∧ wrap64 (p.x + speedD s h d a wn p (rd_T44 l i)) = p.x + speedD s h d a wn p (rd_T44 l i) := by
    intro c hc c0 c1
    have hs : 0 ≤ speedD s h d a wn p (rd_T44 l i) ∧ speedD s h d a wn p (rd_T44 l i) ≤ 9900 := speed_in _
    refine ⟨?_, w_add px0 (Int.le_trans px1 (by decide)) hs.1 hs.2⟩
    rw [spec_l3change.is p.v c (by omega) (by omega), hc]
    rfl
  have k0 : ¬ ((saidD s h d a wn p (rd_T44 l i)).2.1 = 3) → ¬ ((saidD s h d a wn p (rd_T44 l i)).2.1 = 2) → _ := fun z1 z2 => key (rd_T44 l i).f0 (by unfold changeD; rw [if_neg z1, if_neg z2]) (by omega) (by omega)
  have k2 : ¬ ((saidD s h d a wn p (rd_T44 l i)).2.1 = 3) → (saidD s h d a wn p (rd_T44 l i)).2.1 = 2 → _ := fun z1 z2 => key (-s) (by unfold changeD; rw [if_neg z1, if_pos z2]) (by omega) (by omega)
  have k3 : (saidD s h d a wn p (rd_T44 l i)).2.1 = 3 → d ≤ p.hard → _ := fun z1 z2 => key (-h - (rd_T44 l i).f3) (by unfold changeD; rw [if_pos z1, if_pos z2]) (by omega) (by omega)
  have k4 : (saidD s h d a wn p (rd_T44 l i)).2.1 = 3 → ¬ d ≤ p.hard → _ := fun z1 z2 => key (rd_T44 l i).f0 (by unfold changeD; rw [if_pos z1, if_neg z2]) (by omega) (by omega)
  have hcnt : (if p.gs = 3 then wrap64 (c + 1) else 0 + 1) = p.hard + 1 := by
    by_cases z : p.gs = 3
    · rw [if_pos z, hc z, b1]
    · rw [if_neg z, hc2 z]
  have hgt : p.hard + 1 > d ↔ d ≤ p.hard := by omega
  clear v0 v1 x1 x2 h0 h1 g0 g1 gs0 gs1 px0 px1 w0 w1 o0 o1 f0 f1 m0 m1 e0 e1 l0 l1 s1 s2 hh1 hh2 d1 d2 a1 a2 wn1 wn2 hd1 key
  have fin3 : ∀ c2 : Int, c2 = p.hard + 1 → (saidD s h d a wn p (rd_T44 l i)).2.1 = 3 → spec_Drive.j3 (q + 2) p.x p.v c2 out l n i s h d a wn (rd_T44 l i).f0 (rd_T44 l i).f1 (rd_T44 l i).f2 (rd_T44 l i).f3 (rd_T44 l i).f4 (rd_T44 l i).f5 (rd_T44 l i).f6 (saidD s h d a wn p (rd_T44 l i)).1 (saidD s h d a wn p (rd_T44 l i)).2.1 (saidD s h d a wn p (rd_T44 l i)).2.2.1 (saidD s h d a wn p (rd_T44 l i)).2.2.2.1 (saidD s h d a wn p (rd_T44 l i)).2.2.2.2.1 (saidD s h d a wn p (rd_T44 l i)).2.2.2.2.2 =
      spec_Drive.l1 q (stepD s h d a wn p (rd_T44 l i)).x (stepD s h d a wn p (rd_T44 l i)).v (p.hard + 1) (out ++ [outD s h d a wn p (rd_T44 l i)]) l n ((i + 1 : Nat) : Int) s h d a wn (stepD s h d a wn p (rd_T44 l i)).gs (stepD s h d a wn p (rd_T44 l i)).ge := by
    intro c2 hc2 z3
    rw [hc2, spec_Drive.j3, if_pos z3]
    by_cases z4 : d ≤ p.hard
    · obtain ⟨k5, k6⟩ := k3 z3 z4
      rw [decide_eq_true (hgt.mpr z4), spec_Drive.j4, if_pos rfl, b2, b3, k5]
      simp only [Option.bind_some]
      rw [if_pos b6, k6, b5]
      rfl
    · obtain ⟨k5, k6⟩ := k4 z3 z4
      rw [decide_eq_false (fun z => z4 (hgt.mp z)), spec_Drive.j4, if_neg (by decide), if_neg (by rw [z3]; decide), k5]
      simp only [Option.bind_some]
      rw [if_pos b6, k6, b5]
      rfl
  have hl1 : spec_Drive.l1 (q + 3) p.x p.v c out l n i s h d a wn p.gs p.ge = (if (saidD s h d a wn p (rd_T44 l i)).2.1 = 3 then spec_Drive.j3 (q + 2) p.x p.v (p.hard + 1) out l n i s h d a wn (rd_T44 l i).f0 (rd_T44 l i).f1 (rd_T44 l i).f2 (rd_T44 l i).f3 (rd_T44 l i).f4 (rd_T44 l i).f5 (rd_T44 l i).f6 (saidD s h d a wn p (rd_T44 l i)).1 (saidD s h d a wn p (rd_T44 l i)).2.1 (saidD s h d a wn p (rd_T44 l i)).2.2.1 (saidD s h d a wn p (rd_T44 l i)).2.2.2.1 (saidD s h d a wn p (rd_T44 l i)).2.2.2.2.1 (saidD s h d a wn p (rd_T44 l i)).2.2.2.2.2
      else spec_Drive.j3 (q + 2) p.x p.v c out l n i s h d a wn (rd_T44 l i).f0 (rd_T44 l i).f1 (rd_T44 l i).f2 (rd_T44 l i).f3 (rd_T44 l i).f4 (rd_T44 l i).f5 (rd_T44 l i).f6 (saidD s h d a wn p (rd_T44 l i)).1 (saidD s h d a wn p (rd_T44 l i)).2.1 (saidD s h d a wn p (rd_T44 l i)).2.2.1 (saidD s h d a wn p (rd_T44 l i)).2.2.2.1 (saidD s h d a wn p (rd_T44 l i)).2.2.2.2.1 (saidD s h d a wn p (rd_T44 l i)).2.2.2.2.2) := by
    rw [spec_Drive.l1, if_pos hin, if_pos (Int.natCast_nonneg i), if_pos hil, a1', a2', spec_Tick.is _ _ _ _ _ _ _ _ _ _ _ _ (q + 2) (big_ok hq')]
    unfold tickAll
    rw [if_pos ⟨ok, gk, hact⟩, ht]
    simp only [Option.bind_some]
    by_cases z3 : (saidD s h d a wn p (rd_T44 l i)).2.1 = 3
    · rw [if_pos z3, if_pos z3]
      by_cases z : p.gs = 3
      · rw [if_pos z] at hcnt
        rw [if_pos z, hcnt]
      · rw [if_neg z] at hcnt
        rw [if_neg z, hcnt]
    · rw [if_neg z3, if_neg z3]
  rw [hl1]
  by_cases z3 : (saidD s h d a wn p (rd_T44 l i)).2.1 = 3
  · refine ⟨p.hard + 1, fun _ => ?_, fun z => absurd z3 z, ?_⟩
    · show p.hard + 1 = (if (saidD s h d a wn p (rd_T44 l i)).2.1 = 3 then p.hard + 1 else 0)
      rw [if_pos z3]
    · rw [if_pos z3]
      exact fin3 _ rfl z3
  · refine ⟨c, fun z => absurd z z3, fun _ => ?_, ?_⟩
    · show (if (saidD s h d a wn p (rd_T44 l i)).2.1 = 3 then p.hard + 1 else 0) = 0
      rw [if_neg z3]
    · rw [if_neg z3, spec_Drive.j3, if_neg z3, spec_Drive.j4, if_neg (by decide)]
      by_cases z4 : (saidD s h d a wn p (rd_T44 l i)).2.1 = 2
      · obtain ⟨k5, k6⟩ := k2 z3 z4
        rw [if_pos z4, b4, k5]
        simp only [Option.bind_some]
        rw [if_pos b6, k6, b5]
        rfl
      · obtain ⟨k5, k6⟩ := k0 z3 z4
        rw [if_neg z4, k5]
        simp only [Option.bind_some]
        rw [if_pos b6, k6, b5]
        rfl

theorem spec_Drive.good1 (s h d a wn x0 v0 : Int) (ok : Dm.okB s h d a wn) (hx0 : 0 ≤ x0) (hx1 : x0 ≤ 1000000) (hv : 0 ≤ v0 ∧ v0 ≤ 9900) (l : List S44) (n : Nat) (hn : n ≤ 1000) (hln : l.length = n)
    (hl : ∀ j : Nat, j < n → goodAct a (rd_T44 l j)) : ∀ (D i q B : Nat) (c : Int), i + D = n → 3 * D < q → 60020 < B → ((stN s h d a wn x0 v0 l i).gs = 3 → c = (stN s h d a wn x0 v0 l i).hard) → ((stN s h d a wn x0 v0 l i).gs ≠ 3 → (stN s h d a wn x0 v0 l i).hard = 0) →
    spec_Drive.l1 (B + q) (stN s h d a wn x0 v0 l i).x (stN s h d a wn x0 v0 l i).v c (outsN s h d a wn x0 v0 l i) l n i s h d a wn (stN s h d a wn x0 v0 l i).gs (stN s h d a wn x0 v0 l i).ge = some (outsN s h d a wn x0 v0 l n) := by
  intro D
  induction D with
  | zero =>
    intro i q B c hi hq hB hc hc2
    obtain ⟨q, rfl⟩ : ∃ z, q = z + 1 := ⟨q - 1, by clear hB hc hc2; omega⟩
    obtain rfl : i = n := by clear hB hc hc2; omega
    rw [show B + (q + 1) = (B + q) + 1 from rfl, spec_Drive.l1, if_neg (Int.lt_irrefl _)]
  | succ D ih =>
    intro i q B c hi hq hB hc hc2
    obtain ⟨q, rfl⟩ : ∃ z, q = z + 3 := ⟨q - 3, by clear hB hc hc2; omega⟩
    have hin : i < n := by clear hB hc hc2; omega
    have ih' := fun c => ih (i + 1) q B c (by clear hB hc hc2; omega) (by clear hB hc hc2; omega) hB
    have hq2 : 60020 < B + q := Nat.lt_of_lt_of_le hB (Nat.le_add_right _ _)
    clear ih hi hq hB
    obtain ⟨c', e1, e2, e3⟩ := spec_Drive.step s h d a wn x0 ok hx0 hx1 l n i hn hln hin _ (stN_inv ok.2.2.1.1 hv n hl i (Nat.le_of_lt hin)) c hc hc2 (hl i hin) _ (outsN_length s h d a wn x0 v0 l i) (B + q) hq2
    rw [show B + (q + 3) = (B + q) + 3 from rfl, e3, ← outsN_succ]
    exact ih' c' e1 e2
theorem spec_Drive.good0 (s h d a wn x0 v0 : Int) (ok : Dm.okB s h d a wn) (hx0 : 0 ≤ x0) (hx1 : x0 ≤ 1000000) (hv : 0 ≤ v0 ∧ v0 ≤ 9900) (l : List S44) (n : Nat) (hn : n ≤ 1000) (hln : l.length = n)
    (hl : ∀ j : Nat, j < n → goodAct a (rd_T44 l j)) : ∀ (D i q B : Nat), i + D = n → D + 3 * n + 1 < q → 60020 < B → spec_Drive.l0 (B + q) x0 v0 l l n i s h d a wn = some (outsN s h d a wn x0 v0 l n) := by
  intro D
  induction D with
  | zero =>
    intro i q B hi hq hB
    obtain ⟨q, rfl⟩ : ∃ z, q = z + 1 := ⟨q - 1, by clear hB; omega⟩
    have h1 := spec_Drive.good1 s h d a wn x0 v0 ok hx0 hx1 hv l n hn hln hl n 0 q B d (by clear hB; omega) (by clear hB; omega) hB (fun _ => rfl) (fun z => absurd rfl z)
    clear hB
    obtain rfl : i = n := by omega
    rw [show B + (q + 1) = (B + q) + 1 from rfl, spec_Drive.l0, if_neg (Int.lt_irrefl _), hln]
    exact h1
  | succ D ih =>
    intro i q B hi hq hB
    obtain ⟨q, rfl⟩ : ∃ z, q = z + 1 := ⟨q - 1, by clear hB; omega⟩
    have ih' := ih (i + 1) q B (by clear hB; omega) (by clear hB; omega) hB
    have hin : i < n := by clear hB; omega
    clear ih hi hq hB
    rw [show B + (q + 1) = (B + q) + 1 from rfl, spec_Drive.l0, if_pos (n_lt hin), if_pos (Int.natCast_nonneg i), if_pos (by rw [hln]; exact n_lt hin), spec_ActOk.is, decide_eq_true (show Dm.okB s h d a wn ∧ goodAct a _ from ⟨ok, hl i hin⟩), w_nx hin (Nat.le_trans hn (by decide))]
    simp only [Option.bind_some, if_true]
    exact ih'
theorem spec_Drive.bad (s h d a wn x0 v0 : Int) (ok : Dm.okB s h d a wn) (l : List S44) (n : Nat) (hn : n ≤ 1000) (hln : l.length = n) (b : Nat) (hb : b < n) (hbad : ¬ goodAct a (rd_T44 l (b : Int))) (hl : ∀ j : Nat, j < b → goodAct a (rd_T44 l j)) :
    ∀ (D i q : Nat), i + D = b → D + 1 < q → spec_Drive.l0 q x0 v0 l l n i s h d a wn = some [] := by
  intro D
  induction D with
  | zero =>
    intro i q hi hq
    obtain ⟨q, rfl⟩ : ∃ z, q = z + 1 := ⟨q - 1, by omega⟩
    obtain rfl : i = b := by omega
    rw [spec_Drive.l0, if_pos (n_lt hb), if_pos (Int.natCast_nonneg i), if_pos (by rw [hln]; exact n_lt hb), spec_ActOk.is, decide_eq_false (fun z => hbad z.2)]
    rfl
  | succ D ih =>
    intro i q hi hq
    obtain ⟨q, rfl⟩ : ∃ z, q = z + 1 := ⟨q - 1, by omega⟩
    have hib : i < b := by omega
    have ih' := ih (i + 1) q (by omega) (by omega)
    have hin := Nat.lt_trans hib hb
    rw [spec_Drive.l0, if_pos (n_lt hin), if_pos (Int.natCast_nonneg i), if_pos (by rw [hln]; exact n_lt hin), spec_ActOk.is, decide_eq_true (show Dm.okB s h d a wn ∧ goodAct a _ from ⟨ok, hl i hib⟩), w_nx hin (Nat.le_trans hn (by decide))]
    simp only [Option.bind_some, if_true]
    exact ih'

theorem drives (s h d a wn x0 v0 : Int) (l : List S44) : ∃ r : List S86, r.length ≤ 1000 ∧ ∀ q B : Nat, 4100 < q → 60020 < B → spec_Drive.f (B + q) s h d a wn x0 v0 l = some r ∧ impl_Drive.f (B + q) s h d a wn x0 v0 l = some r := by
  have nil_ : ∀ q B : Nat, 4100 < q → spec_Drive.j0 (B + q) x0 v0 l true s h d a wn = some [] ∧ impl_Drive.j0 (B + q) x0 v0 l true s h d a wn = some [] := by
    intro q B hq
    obtain ⟨q, rfl⟩ : ∃ z, q = z + 1 := ⟨q - 1, by omega⟩
    rw [show B + (q + 1) = (B + q) + 1 from rfl, spec_Drive.j0, impl_Drive.j0, if_pos rfl, if_pos rfl]
    exact ⟨rfl, rfl⟩
  unfold spec_Drive.f impl_Drive.f
  simp only [spec_BrakesOk.is, impl_BrakesOk.is, spec_l1in.is, impl_in.is, Option.bind_some]
  by_cases ok : Dm.okB s h d a wn
  rotate_left
  · rw [decide_eq_false ok]
    exact ⟨[], by simp, fun q B hq _ => by simpa using nil_ q B hq⟩
  rw [decide_eq_true ok]
  by_cases hx : 0 ≤ x0 ∧ x0 ≤ 1000000
  rotate_left
  · rw [decide_eq_false hx]
    exact ⟨[], by simp, fun q B hq _ => by simpa using nil_ q B hq⟩
  rw [decide_eq_true hx]
  by_cases hv : 0 ≤ v0 ∧ v0 ≤ 9900
  rotate_left
  · rw [decide_eq_false hv]
    exact ⟨[], by simp, fun q B hq _ => by simpa using nil_ q B hq⟩
  rw [decide_eq_true hv]
  simp only [if_true]
  by_cases hn : l.length ≤ 1000
  rotate_left
  · rw [decide_eq_true (show (l.length : Int) > 1000 by omega)]
    exact ⟨[], by simp, fun q B hq _ => nil_ q B hq⟩
  rw [decide_eq_false (show ¬ (l.length : Int) > 1000 by omega)]
  by_cases hl : ∀ j : Nat, j < l.length → goodAct a (rd_T44 l j)
  · refine ⟨outsN s h d a wn x0 v0 l l.length, by rw [outsN_length]; exact hn, fun q B hq hB => ?_⟩
    obtain ⟨q, rfl⟩ : ∃ z, q = z + 1 := ⟨q - 1, by clear hB; omega⟩
    have h1 := spec_Drive.good0 s h d a wn x0 v0 ok hx.1 hx.2 hv l l.length hn rfl hl l.length 0 q B (by clear hB; omega) (by clear hB; omega) hB
    have h2 := impl_Drive.all s h d a wn x0 v0 ok hx.1 hx.2 hv l l.length hn rfl hl l.length 0 (B + q) (by clear hB; omega) (by omega)
    rw [show B + (q + 1) = (B + q) + 1 from rfl, spec_Drive.j0, impl_Drive.j0, if_neg (by decide), if_neg (by decide)]
    exact ⟨h1, h2⟩
  · obtain ⟨b, hb, hbad, hl2⟩ := least l.length hl
    refine ⟨[], by simp, fun q B hq hB => ?_⟩
    obtain ⟨q, rfl⟩ : ∃ z, q = z + 1 := ⟨q - 1, by clear hB; omega⟩
    have h1 := spec_Drive.bad s h d a wn x0 v0 ok l l.length hn rfl b hb hbad hl2 b 0 (B + q) (by clear hB; omega) (by clear hB; omega)
    have h2 := impl_Drive.bad s h d a wn x0 v0 ok hx.1 hx.2 hv l l.length hn rfl b hb hbad hl2 b 0 (B + q) (by clear hB; omega) (by omega)
    rw [show B + (q + 1) = (B + q) + 1 from rfl, spec_Drive.j0, impl_Drive.j0, if_neg (by decide), if_neg (by decide)]
    exact ⟨h1, h2⟩

end Go.Proofs.Ytnikfadkmhcalaa.Q
