/- What the law's loops over lists of what is felt and said tell: what they make, compare and mark; conditions: rounds enough, lists not too long. -/
import Derived.Test.YtnikfadkmhcalaaXRQ28
import Derived.Test.YtnikfadkmhcalaaXRDmS
namespace Go.Proofs.Ytnikfadkmhcalaa.Q
open Go.RowKit Go.Proofs.YtnikfadkmhcalaaW.PrintWords Go.Proofs.YtnikfadkmhcalaaW.PrintLast Go.Proofs.YtnikfadkmhcalaaW.PrintMore
set_option linter.unusedSimpArgs false

theorem w_sm {e : Int} (h0 : -1000000000000 ≤ e) (h1 : e ≤ 1000000000000) : wrap64 e = e := by unfold wrap64; omega
theorem w_nx {i n : Nat} (hi : i < n) (hn : n ≤ 2000000) : wrap64 ((i : Int) + 1) = ((i + 1 : Nat) : Int) := by rw [w_sm (by omega) (by omega)]; omega
theorem n_lt {i n : Nat} (h : i < n) : (i : Int) < (n : Int) := by omega
theorem w_1 {m : Int} (h0 : 0 ≤ m) (h1 : m ≤ 100000000) : wrap64 (m + 1) = m + 1 := w_sm (by omega) (by omega)
theorem w_5 {m : Int} (h0 : 0 ≤ m) (h1 : m ≤ 90000000) : wrap64 (m + 1) = m + 1 ∧ wrap64 (m + 1 + 1) = m + 1 + 1 ∧ wrap64 (m + 1 + 1 + 1) = m + 1 + 1 + 1 ∧ wrap64 (m + 1 + 1 + 1 + 1) = m + 1 + 1 + 1 + 1 ∧ wrap64 (m + 1 + 1 + 1 + 1 + 1) = m + 1 + 1 + 1 + 1 + 1 ∧ wrap64 (m + 1 + 1 + 1 + 1 + 1 + 1) = m + 1 + 1 + 1 + 1 + 1 + 1 :=
  ⟨w_1 (by omega) (by omega), w_1 (by omega) (by omega), w_1 (by omega) (by omega), w_1 (by omega) (by omega), w_1 (by omega) (by omega), w_1 (by omega) (by omega)⟩

/-! ### a list of what is felt -/
def feltOf (e : S36) : S38 := ⟨e.f0, e.f1, e.f2, e.f3, e.f4⟩
def fillF (l : List S36) : Nat → Nat → List S38 → List S38
  | 0, _, x => x
  | D + 1, i, x => fillF l D (i + 1) (x.set i (feltOf (rd_T36 l i)))
theorem fillF_len (l : List S36) : ∀ (D i : Nat) (x : List S38), (fillF l D i x).length = x.length
  | 0, _, _ => rfl
  | D + 1, i, x => by rw [fillF, fillF_len l D, List.length_set]
theorem laws_toFeltS.l0_is (l : List S36) (hl : l.length ≤ 2000000) : ∀ (D i q : Nat) (x : List S38), i + D = l.length → D < q → x.length = l.length → laws_toFeltS.l0 q l x i = some (fillF l D i x) := by
  intro D
  induction D with
  | zero =>
    intro i q x hi hq hx
    obtain ⟨q, rfl⟩ : ∃ z, q = z + 1 := ⟨q - 1, by omega⟩
    rw [laws_toFeltS.l0, if_neg (by omega)]
    rfl
  | succ D ih =>
    intro i q x hi hq hx
    obtain ⟨q, rfl⟩ : ∃ z, q = z + 1 := ⟨q - 1, by omega⟩
    have hin : i < l.length := by omega
    have ih' := ih (i + 1) q (x.set i (feltOf (rd_T36 l i))) (by omega) (by omega) (by rw [List.length_set]; exact hx)
    rw [laws_toFeltS.l0, if_pos (n_lt hin), if_pos (Int.natCast_nonneg i)]
    simp only [laws_toFelt.f, Option.bind_some]
    rw [if_pos (by rw [hx]; exact n_lt hin), w_nx hin hl, Int.toNat_natCast]
    exact ih'
def feltL (l : List S36) : List S38 := fillF l l.length 0 (List.replicate l.length z38)
theorem feltL_len (l : List S36) : (feltL l).length = l.length := by unfold feltL; rw [fillF_len, List.length_replicate]
theorem laws_toFeltS.is (l : List S36) (hl : l.length ≤ 2000000) (q : Nat) (hq : l.length < q) : laws_toFeltS.f q l = some (feltL l) := by
  unfold laws_toFeltS.f
  rw [if_pos (Int.natCast_nonneg _), Int.toNat_natCast, if_pos (Nat.le_trans hl (by decide))]
  exact laws_toFeltS.l0_is l hl l.length 0 q _ (by omega) hq (by simp)

theorem eqFelt_same (a b c d : Int) (e : Bool) : laws_eqFelt.f a b c d e a b c d e = some true := by simp [laws_eqFelt.f]
theorem laws_eqFeltS.l0_is (l : List S38) (hl : l.length ≤ 2000000) : ∀ (D i q : Nat), i + D = l.length → D < q → laws_eqFeltS.l0 q l l i = some true := by
  intro D
  induction D with
  | zero =>
    intro i q hi hq
    obtain ⟨q, rfl⟩ : ∃ z, q = z + 1 := ⟨q - 1, by omega⟩
    rw [laws_eqFeltS.l0, if_neg (by omega)]
  | succ D ih =>
    intro i q hi hq
    obtain ⟨q, rfl⟩ : ∃ z, q = z + 1 := ⟨q - 1, by omega⟩
    have hin : i < l.length := by omega
    have ih' := ih (i + 1) q (by omega) (by omega)
    rw [laws_eqFeltS.l0, if_pos (n_lt hin), if_pos (Int.natCast_nonneg i), if_pos (n_lt hin), eqFelt_same]
    simp only [Option.bind_some, if_true]
    rw [w_nx hin hl]
    exact ih'
theorem laws_eqFeltS.is (l : List S38) (hl : l.length ≤ 2000000) (q : Nat) (hq : l.length < q) : laws_eqFeltS.f q l l = some true := by
  unfold laws_eqFeltS.f
  rw [if_pos rfl]
  exact laws_eqFeltS.l0_is l hl l.length 0 q (by omega) hq
theorem eqSaid_same (b : Bool) (st en sp : Int) (k c : Bool) : laws_eqSaid.f b st en sp k c b st en sp k c = some true := by
  simp [laws_eqSaid.f, laws_eqGuard.f]
theorem laws_eqSaidS.l0_is (l : List S52) (hl : l.length ≤ 2000000) : ∀ (D i q : Nat), i + D = l.length → D < q → laws_eqSaidS.l0 q l l i = some true := by
  intro D
  induction D with
  | zero =>
    intro i q hi hq
    obtain ⟨q, rfl⟩ : ∃ z, q = z + 1 := ⟨q - 1, by omega⟩
    rw [laws_eqSaidS.l0, if_neg (by omega)]
  | succ D ih =>
    intro i q hi hq
    obtain ⟨q, rfl⟩ : ∃ z, q = z + 1 := ⟨q - 1, by omega⟩
    have hin : i < l.length := by omega
    have ih' := ih (i + 1) q (by omega) (by omega)
    rw [laws_eqSaidS.l0, if_pos (n_lt hin), if_pos (Int.natCast_nonneg i), if_pos (n_lt hin), eqSaid_same]
    simp only [Option.bind_some, if_true]
    rw [w_nx hin hl]
    exact ih'
theorem laws_eqSaidS.is (l : List S52) (hl : l.length ≤ 2000000) (q : Nat) (hq : l.length < q) : laws_eqSaidS.f q l l = some true := by
  unfold laws_eqSaidS.f
  rw [if_pos rfl]
  exact laws_eqSaidS.l0_is l hl l.length 0 q (by omega) hq

/-! ### the marks -/
theorem laws_markFeltS.l0_is : ∀ (D i q : Nat) (x : List S38) (m : Int), i + D = x.length → x.length ≤ 2000000 → D < q → 0 ≤ m → m + 5 * D ≤ 80000000 → ∃ y, laws_markFeltS.l0 q x m i = some (m + 5 * D, y) := by
  intro D
  induction D with
  | zero =>
    intro i q x m hi hx hq h0 h1
    obtain ⟨q, rfl⟩ : ∃ z, q = z + 1 := ⟨q - 1, by omega⟩
    rw [laws_markFeltS.l0, if_neg (by omega)]
    exact ⟨x, by simp⟩
  | succ D ih =>
    intro i q x m hi hx hq h0 h1
    obtain ⟨q, rfl⟩ : ∃ z, q = z + 1 := ⟨q - 1, by omega⟩
    have hin : i < x.length := by omega
    obtain ⟨w1, w2, w3, w4, w5, _⟩ := w_5 h0 (by omega)
    have ih' := fun y (hy : y.length = x.length) => ih (i + 1) q y (m + 1 + 1 + 1 + 1 + 1) (by omega) (by omega) (by omega) (by omega) (by omega)
    have e5 : m + 1 + 1 + 1 + 1 + 1 + 5 * (D : Int) = m + 5 * ((D + 1 : Nat) : Int) := by omega
    rw [e5] at ih'
    rw [laws_markFeltS.l0, if_pos (n_lt hin), if_pos (Int.natCast_nonneg i)]
    simp only [Option.bind_some]
    rw [w_nx hin hx, w1, w2, w3, w4, w5]
    exact ih' _ (by simp only [List.length_set])
theorem laws_markFeltS.is (x : List S38) (hx : x.length ≤ 2000000) (q : Nat) (hq : x.length < q) : ∃ y n, laws_markFeltS.f q x 1 = some (n, y) ∧ 0 ≤ n := by
  obtain ⟨y, hy⟩ := laws_markFeltS.l0_is x.length 0 q x 1 (by omega) hx hq (by omega) (by omega)
  exact ⟨y, _, hy, by omega⟩

theorem rdS_set (x : List S52) (i : Nat) (hi : i < x.length) (v : S52) : rd_T52 (x.set i v) (i : Int) = v := by
  unfold rd_T52
  rw [Int.toNat_natCast, List.getD_eq_getElem?_getD, List.getElem?_set_self hi]
  rfl
theorem rdS_ne (x : List S52) (i j : Nat) (hij : i ≠ j) (v : S52) : rd_T52 (x.set i v) (j : Int) = rd_T52 x j := by
  unfold rd_T52
  rw [Int.toNat_natCast, List.getD_eq_getElem?_getD, List.getD_eq_getElem?_getD, List.getElem?_set_ne hij]
def mkS (n : Int) : S52 := ⟨Int.tmod n 3 == 0, ⟨n + 1, n + 1 + 1⟩, n + 1 + 1 + 1, Int.tmod (n + 1 + 1 + 1 + 1) 3 == 0, Int.tmod (n + 1 + 1 + 1 + 1 + 1) 3 == 0⟩
theorem laws_markSaidS.l0_is : ∀ (D i q : Nat) (x : List S52) (m : Int), i + D = x.length → x.length ≤ 2000000 → D < q → 0 ≤ m → m + 6 * D ≤ 80000000 →
    ∃ y, laws_markSaidS.l0 q x m i = some (m + 6 * D, y) ∧ y.length = x.length ∧ (∀ j : Nat, j < i → rd_T52 y j = rd_T52 x j) ∧ ∀ z : Nat, z < D → rd_T52 y ((i + z : Nat) : Int) = mkS (m + 6 * z) := by
  intro D
  induction D with
  | zero =>
    intro i q x m hi hx hq h0 h1
    obtain ⟨q, rfl⟩ : ∃ z, q = z + 1 := ⟨q - 1, by omega⟩
    rw [laws_markSaidS.l0, if_neg (by omega)]
    exact ⟨x, by simp, rfl, fun _ _ => rfl, fun z hz => absurd hz (by omega)⟩
  | succ D ih =>
    intro i q x m hi hx hq h0 h1
    obtain ⟨q, rfl⟩ : ∃ z, q = z + 1 := ⟨q - 1, by omega⟩
    have hin : i < x.length := by omega
    obtain ⟨w1, w2, w3, w4, w5, w6⟩ := w_5 h0 (by omega)
    obtain ⟨y, e1, e2, e3, e4⟩ := ih (i + 1) q (x.set i (mkS m)) (m + 1 + 1 + 1 + 1 + 1 + 1) (by rw [List.length_set]; omega) (by rw [List.length_set]; omega) (by omega) (by omega) (by omega)
    have e5 : m + 1 + 1 + 1 + 1 + 1 + 1 + 6 * (D : Int) = m + 6 * ((D + 1 : Nat) : Int) := by omega
    rw [e5] at e1
    refine ⟨y, ?_, by rw [e2, List.length_set], fun j hj => ?_, fun z hz => ?_⟩
    · rw [laws_markSaidS.l0, if_pos (n_lt hin), if_pos (Int.natCast_nonneg i)]
      simp only [Option.bind_some]
      rw [w_nx hin hx, w1, w2, w3, w4, w5, w6]
      simp only [Int.toNat_natCast, rdS_set, hin, List.length_set, List.set_set]
      exact e1
    · rw [e3 j (by omega), rdS_ne x i j (by omega)]
    · cases z with
      | zero =>
        have h := e3 i (by omega)
        rw [rdS_set x i hin] at h
        rw [show ((i + 0 : Nat) : Int) = (i : Int) from rfl, h]
        congr 1
        omega
      | succ z =>
        have h := e4 z (by omega)
        rw [show i + (z + 1) = i + 1 + z by omega, h]
        congr 1
        omega
theorem laws_heldSaidS.l0_is (y : List S52) (hy : y.length ≤ 2000000) (hm : ∀ z : Nat, z < y.length → rd_T52 y (z : Int) = mkS (1 + 6 * z)) : ∀ (D i q : Nat) (m : Int), i + D = y.length → D < q → m = 1 + 6 * i →
    laws_heldSaidS.l0 q y m i = some (1 + 6 * y.length) := by
  intro D
  induction D with
  | zero =>
    intro i q m hi hq hm2
    obtain ⟨q, rfl⟩ : ∃ z, q = z + 1 := ⟨q - 1, by omega⟩
    rw [laws_heldSaidS.l0, if_neg (by omega)]
    congr 1
    omega
  | succ D ih =>
    intro i q m hi hq hm2
    obtain ⟨q, rfl⟩ : ∃ z, q = z + 1 := ⟨q - 1, by omega⟩
    have hin : i < y.length := by omega
    have h0 : 0 ≤ m := by omega
    obtain ⟨w1, w2, w3, w4, w5, w6⟩ := w_5 h0 (by omega)
    have ih' := ih (i + 1) q (m + 1 + 1 + 1 + 1 + 1 + 1) (by omega) (by omega) (by omega)
    have hr := hm i hin
    rw [← hm2] at hr
    rw [laws_heldSaidS.l0, if_pos (n_lt hin), if_pos (Int.natCast_nonneg i), hr, w_nx hin hy, w1, w2, w3, w4, w5, w6]
    simp only [mkS, bne_self_eq_false, if_true, if_false, Bool.false_eq_true]
    exact ih'
theorem laws_marksSaid (x : List S52) (hx : x.length ≤ 2000000) (q : Nat) (hq : x.length < q) : ∃ y n, laws_markSaidS.f q x 1 = some (n, y) ∧ 0 ≤ n ∧ laws_heldSaidS.f q y 1 = some n := by
  obtain ⟨y, h1, h2, _, h4⟩ := laws_markSaidS.l0_is x.length 0 q x 1 (by omega) hx hq (by omega) (by omega)
  refine ⟨y, _, h1, by omega, ?_⟩
  rw [← h2]
  exact laws_heldSaidS.l0_is y (by omega) (fun z hz => by have := h4 z (by omega); rwa [Nat.zero_add] at this) y.length 0 q 1 (by omega) (by omega) (by omega)

/-! ### Run -/
def saidOf (t : Bool × Int × Int × Int × Bool × Bool) : S52 := ⟨t.1, ⟨t.2.1, t.2.2.1⟩, t.2.2.2.1, t.2.2.2.2.1, t.2.2.2.2.2⟩
def tickE (s h d a wn : Int) (g : Int × Int) (e : S38) : Bool × Int × Int × Int × Bool × Bool := tickM s h d a wn g.1 g.2 e.f0 e.f1 e.f2 e.f3 e.f4
def gN (s h d a wn : Int) (l : List S38) : Nat → Int × Int
  | 0 => (3, -1)
  | j + 1 => ((tickE s h d a wn (gN s h d a wn l j) (rd_T38 l j)).2.1, (tickE s h d a wn (gN s h d a wn l j) (rd_T38 l j)).2.2.1)
def runL (s h d a wn : Int) (l : List S38) : Nat → List S52
  | 0 => []
  | j + 1 => runL s h d a wn l j ++ [saidOf (tickE s h d a wn (gN s h d a wn l j) (rd_T38 l j))]
theorem runL_len (s h d a wn : Int) (l : List S38) : ∀ n, (runL s h d a wn l n).length = n
  | 0 => rfl
  | n + 1 => by rw [runL, List.length_append, runL_len s h d a wn l n]; rfl
theorem tickM_end' (s h d a wn gs ge hi sp en li : Int) (ack : Bool) : (tickM s h d a wn gs ge hi sp en li ack).2.2.1 = en := by
  unfold tickM
  split
  · rfl
  · split <;> rfl
theorem tickM_state' (s h d a wn gs ge hi sp en li : Int) (ack : Bool) : 0 ≤ (tickM s h d a wn gs ge hi sp en li ack).2.1 ∧ (tickM s h d a wn gs ge hi sp en li ack).2.1 ≤ 3 := by
  unfold tickM
  split
  · simp
  · split
    · split <;> simp
    · simp
def feltE (e : S38) : Prop := feltB e.f0 e.f1 e.f2 e.f3
instance (e : S38) : Decidable (feltE e) := by unfold feltE; exact inferInstance
def allF (l : List S38) (n : Nat) : Prop := ∀ j : Nat, j < n → feltE (rd_T38 l (j : Int))
theorem tickE_guard {s h d a wn : Int} {g : Int × Int} {e : S38} (he : feltE e) : guardB (tickE s h d a wn g e).2.1 (tickE s h d a wn g e).2.2.1 := by
  refine ⟨tickM_state' _ _ _ _ _ _ _ _ _ _ _ _, ?_⟩
  show -1 ≤ (tickM s h d a wn g.1 g.2 e.f0 e.f1 e.f2 e.f3 e.f4).2.2.1 ∧ (tickM s h d a wn g.1 g.2 e.f0 e.f1 e.f2 e.f3 e.f4).2.2.1 ≤ 100000000
  rw [tickM_end']
  exact he.2.2.1
theorem gN_guard {s h d a wn : Int} {l : List S38} {n : Nat} (hl : allF l n) : ∀ i : Nat, i ≤ n → guardB (gN s h d a wn l i).1 (gN s h d a wn l i).2
  | 0 => fun _ => by simp [gN, guardB]
  | i + 1 => fun hi => tickE_guard (hl i hi)
theorem lim_run {x n : Nat} (h : x = n) (hn : n ≤ 2000) : x < 3518437208883 := Nat.lt_of_lt_of_le (show x < 2001 by omega) (by decide)

theorem impl_Run.good (s h d a wn : Int) (ok : Dm.okB s h d a wn) (l : List S38) (n : Nat) (hn : n ≤ 1000) (hln : l.length = n) (hl : allF l n) : ∀ (D i q B : Nat), i + D = n → D < q → 20120 < B →
    impl_Run.l0 (B + q) (runL s h d a wn l i) l n i s h d a wn (gN s h d a wn l i).1 (gN s h d a wn l i).2 = some (runL s h d a wn l n) := by
  intro D
  induction D with
  | zero =>
    intro i q B hi hq hB
    obtain ⟨q, rfl⟩ : ∃ z, q = z + 1 := ⟨q - 1, by clear hB; omega⟩
    clear hB
    obtain rfl : i = n := by omega
    rw [show B + (q + 1) = (B + q) + 1 from rfl, impl_Run.l0, if_neg (by omega)]
  | succ D ih =>
    intro i q B hi hq hB
    obtain ⟨q, rfl⟩ : ∃ z, q = z + 1 := ⟨q - 1, by clear hB; omega⟩
    have ih' := ih (i + 1) q B (by clear hB; omega) (by clear hB; omega) hB
    have hin : i < n := by clear hB; omega
    have hq2 : 20110 < B + q := by omega
    clear ih hi hq hB
    have he := hl i hin
    have hlen := lim_run (runL_len s h d a wn l i) (by omega)
    rw [show B + (q + 1) = (B + q) + 1 from rfl, impl_Run.l0, if_pos (n_lt hin), if_pos (Int.natCast_nonneg i), if_pos (by rw [hln]; exact n_lt hin), impl_FeltOk.is, decide_eq_true (show feltB _ _ _ _ from he)]
    simp only [Option.bind_some, if_true]
    obtain ⟨⟨c0, c1⟩, ⟨c2, c3⟩, ⟨c4, c5⟩, _⟩ := he
    rw [impl_tick.is s h d a wn _ _ _ _ _ _ _ ok c2 c3 c0 (Int.le_trans c1 (by decide)) c4 (Int.le_trans c5 (by decide)) (B + q) hq2, w_nx hin (Nat.le_trans hn (by decide))]
    simp only [Option.bind_some]
    rw [if_pos hlen]
    exact ih'
theorem impl_Run.bad (s h d a wn : Int) (ok : Dm.okB s h d a wn) (l : List S38) (n : Nat) (hn : n ≤ 1000) (hln : l.length = n) (b : Nat) (hb : b < n) (hl : ¬ feltE (rd_T38 l (b : Int))) : ∀ (D i q B : Nat) (x : List S52) (gs ge : Int), i + D = b → D + 1 < q → 20120 < B → x.length = i →
    impl_Run.l0 (B + q) x l n i s h d a wn gs ge = some [] := by
  intro D
  induction D with
  | zero =>
    intro i q B x gs ge hi hq hB hx
    obtain ⟨q, rfl⟩ : ∃ z, q = z + 1 := ⟨q - 1, by clear hB; omega⟩
    clear hB
    obtain rfl : i = b := by omega
    rw [show B + (q + 1) = (B + q) + 1 from rfl, impl_Run.l0, if_pos (n_lt hb), if_pos (Int.natCast_nonneg i), if_pos (by rw [hln]; exact n_lt hb), impl_FeltOk.is, decide_eq_false (show ¬ feltB _ _ _ _ from hl)]
    rfl
  | succ D ih =>
    intro i q B x gs ge hi hq hB hx
    obtain ⟨q, rfl⟩ : ∃ z, q = z + 1 := ⟨q - 1, by clear hB; omega⟩
    have ih' := fun x gs ge => ih (i + 1) q B x gs ge (by clear hB; omega) (by clear hB; omega) hB
    have hin : i < n := by clear hB; omega
    have hq2 : 20110 < B + q := by omega
    clear ih hi hq hB
    have hlen := lim_run hx (by omega)
    rw [show B + (q + 1) = (B + q) + 1 from rfl, impl_Run.l0, if_pos (n_lt hin), if_pos (Int.natCast_nonneg i), if_pos (by rw [hln]; exact n_lt hin), impl_FeltOk.is]
    by_cases he : feltE (rd_T38 l (i : Int))
    · rw [decide_eq_true (show feltB _ _ _ _ from he)]
      simp only [Option.bind_some, if_true]
      obtain ⟨⟨c0, c1⟩, ⟨c2, c3⟩, ⟨c4, c5⟩, _⟩ := he
      rw [impl_tick.is s h d a wn _ _ _ _ _ _ _ ok c2 c3 c0 (Int.le_trans c1 (by decide)) c4 (Int.le_trans c5 (by decide)) (B + q) hq2, w_nx hin (Nat.le_trans hn (by decide))]
      simp only [Option.bind_some]
      rw [if_pos hlen]
      exact ih' _ _ _ (by rw [List.length_append, hx]; rfl)
    · rw [decide_eq_false (show ¬ feltB _ _ _ _ from he)]
      rfl

theorem spec_Run.good1 (s h d a wn : Int) (ok : Dm.okB s h d a wn) (l : List S38) (n : Nat) (hn : n ≤ 1000) (hln : l.length = n) (hl : allF l n) : ∀ (D i q B : Nat), i + D = n → D < q → 60020 < B →
    spec_Run.l1 (B + q) (runL s h d a wn l i) l n i s h d a wn (gN s h d a wn l i).1 (gN s h d a wn l i).2 = some (runL s h d a wn l n) := by
  intro D
  induction D with
  | zero =>
    intro i q B hi hq hB
    obtain ⟨q, rfl⟩ : ∃ z, q = z + 1 := ⟨q - 1, by clear hB; omega⟩
    clear hB
    obtain rfl : i = n := by omega
    rw [show B + (q + 1) = (B + q) + 1 from rfl, spec_Run.l1, if_neg (by omega)]
  | succ D ih =>
    intro i q B hi hq hB
    obtain ⟨q, rfl⟩ : ∃ z, q = z + 1 := ⟨q - 1, by clear hB; omega⟩
    have ih' := ih (i + 1) q B (by clear hB; omega) (by clear hB; omega) hB
    have hin : i < n := by clear hB; omega
    have hq2 : 60010 < B + q := by omega
    clear ih hi hq hB
    have he := hl i hin
    have hlen := lim_run (runL_len s h d a wn l i) (by omega)
    rw [show B + (q + 1) = (B + q) + 1 from rfl, spec_Run.l1, if_pos (n_lt hin), if_pos (Int.natCast_nonneg i), if_pos (by rw [hln]; exact n_lt hin), spec_Tick.is _ _ _ _ _ _ _ _ _ _ _ _ (B + q) hq2, w_nx hin (Nat.le_trans hn (by decide))]
    unfold tickAll
    rw [if_pos ⟨ok, gN_guard hl i (Nat.le_of_lt hin), he⟩]
    simp only [Option.bind_some]
    rw [if_pos hlen]
    exact ih'
theorem spec_Run.good0 (s h d a wn : Int) (ok : Dm.okB s h d a wn) (l : List S38) (n : Nat) (hn : n ≤ 1000) (hln : l.length = n) (hl : allF l n) : ∀ (D i q B : Nat), i + D = n → D + n + 1 < q → 60020 < B →
    spec_Run.l0 (B + q) l l n i s h d a wn = some (runL s h d a wn l n) := by
  intro D
  induction D with
  | zero =>
    intro i q B hi hq hB
    obtain ⟨q, rfl⟩ : ∃ z, q = z + 1 := ⟨q - 1, by clear hB; omega⟩
    have h1 := spec_Run.good1 s h d a wn ok l n hn hln hl n 0 q B (by clear hB; omega) (by clear hB; omega) hB
    clear hB
    obtain rfl : i = n := by omega
    rw [show B + (q + 1) = (B + q) + 1 from rfl, spec_Run.l0, if_neg (by omega), hln]
    exact h1
  | succ D ih =>
    intro i q B hi hq hB
    obtain ⟨q, rfl⟩ : ∃ z, q = z + 1 := ⟨q - 1, by clear hB; omega⟩
    have ih' := ih (i + 1) q B (by clear hB; omega) (by clear hB; omega) hB
    have hin : i < n := by clear hB; omega
    clear ih hi hq hB
    rw [show B + (q + 1) = (B + q) + 1 from rfl, spec_Run.l0, if_pos (n_lt hin), if_pos (Int.natCast_nonneg i), if_pos (by rw [hln]; exact n_lt hin), spec_FeltOk.is, decide_eq_true (show feltB _ _ _ _ from hl i hin), w_nx hin (Nat.le_trans hn (by decide))]
    simp only [Option.bind_some, if_true]
    exact ih'
theorem spec_Run.bad (s h d a wn : Int) (l : List S38) (n : Nat) (hn : n ≤ 1000) (hln : l.length = n) (b : Nat) (hb : b < n) (hl : ¬ feltE (rd_T38 l (b : Int))) : ∀ (D i q : Nat), i + D = b → D + 1 < q →
    spec_Run.l0 q l l n i s h d a wn = some [] := by
  intro D
  induction D with
  | zero =>
    intro i q hi hq
    obtain ⟨q, rfl⟩ : ∃ z, q = z + 1 := ⟨q - 1, by omega⟩
    obtain rfl : i = b := by omega
    rw [spec_Run.l0, if_pos (n_lt hb), if_pos (Int.natCast_nonneg i), if_pos (by rw [hln]; exact n_lt hb), spec_FeltOk.is, decide_eq_false (show ¬ feltB _ _ _ _ from hl)]
    rfl
  | succ D ih =>
    intro i q hi hq
    obtain ⟨q, rfl⟩ : ∃ z, q = z + 1 := ⟨q - 1, by omega⟩
    have ih' := ih (i + 1) q (by omega) (by omega)
    have hin : i < n := by omega
    rw [spec_Run.l0, if_pos (n_lt hin), if_pos (Int.natCast_nonneg i), if_pos (by rw [hln]; exact n_lt hin), spec_FeltOk.is, w_nx hin (Nat.le_trans hn (by decide))]
    by_cases he : feltE (rd_T38 l (i : Int))
    · rw [decide_eq_true (show feltB _ _ _ _ from he)]
      simp only [Option.bind_some, if_true]
      exact ih'
    · rw [decide_eq_false (show ¬ feltB _ _ _ _ from he)]
      rfl

theorem runs (s h d a wn : Int) (l : List S38) : ∃ r : List S52, r.length ≤ 1000 ∧ ∀ q B : Nat, 2100 < q → 60020 < B → spec_Run.f (B + q) s h d a wn l = some r ∧ impl_Run.f (B + q) s h d a wn l = some r := by
  by_cases ok : Dm.okB s h d a wn
  · by_cases hn : l.length ≤ 1000
    · have hc : ¬ (l.length : Int) > 1000 := by omega
      by_cases hl : allF l l.length
      · refine ⟨runL s h d a wn l l.length, by rw [runL_len]; exact hn, fun q B hq hB => ?_⟩
        obtain ⟨q, rfl⟩ : ∃ z, q = z + 1 := ⟨q - 1, by clear hB; omega⟩
        have hq' : 2099 < q := by clear hB; omega
        have h1 := spec_Run.good0 s h d a wn ok l l.length hn rfl hl l.length 0 q B (by clear hB; omega) (by clear hB; omega) hB
        have h2 := impl_Run.good s h d a wn ok l l.length hn rfl hl l.length 0 q B (by clear hB; omega) (by clear hB; omega) (Nat.lt_trans (by decide) hB)
        unfold spec_Run.f impl_Run.f
        rw [spec_BrakesOk.is, impl_BrakesOk.is, decide_eq_true ok]
        simp only [Option.bind_some, if_true]
        rw [show B + (q + 1) = (B + q) + 1 from rfl, spec_Run.j0, impl_Run.j0, decide_eq_false hc, if_neg (by decide), if_neg (by decide)]
        exact ⟨h1, h2⟩
      · obtain ⟨b, hb⟩ := Classical.not_forall.mp hl
        obtain ⟨hb1, hb2⟩ := Classical.not_imp.mp hb
        refine ⟨[], by simp, fun q B hq hB => ?_⟩
        obtain ⟨q, rfl⟩ : ∃ z, q = z + 1 := ⟨q - 1, by clear hB; omega⟩
        have hq' : 2099 < q := by clear hB; omega
        have h1 := spec_Run.bad s h d a wn l l.length hn rfl b hb1 hb2 b 0 (B + q) (by clear hB; omega) (by clear hB; omega)
        have h2 := impl_Run.bad s h d a wn ok l l.length hn rfl b hb1 hb2 b 0 q B [] 3 (-1) (by clear hB; omega) (by clear hB; omega) (Nat.lt_trans (by decide) hB) rfl
        unfold spec_Run.f impl_Run.f
        rw [spec_BrakesOk.is, impl_BrakesOk.is, decide_eq_true ok]
        simp only [Option.bind_some, if_true]
        rw [show B + (q + 1) = (B + q) + 1 from rfl, spec_Run.j0, impl_Run.j0, decide_eq_false hc, if_neg (by decide), if_neg (by decide)]
        exact ⟨h1, h2⟩
    · have hc : (l.length : Int) > 1000 := by omega
      refine ⟨[], by simp, fun q B hq hB => ?_⟩
      obtain ⟨q, rfl⟩ : ∃ z, q = z + 1 := ⟨q - 1, by clear hB; omega⟩
      unfold spec_Run.f impl_Run.f
      rw [spec_BrakesOk.is, impl_BrakesOk.is, decide_eq_true ok]
      simp only [Option.bind_some, if_true]
      rw [show B + (q + 1) = (B + q) + 1 from rfl, spec_Run.j0, impl_Run.j0, decide_eq_true hc, if_pos rfl, if_pos rfl]
      exact ⟨rfl, rfl⟩
  · refine ⟨[], by simp, fun q B hq hB => ?_⟩
    obtain ⟨q, rfl⟩ : ∃ z, q = z + 1 := ⟨q - 1, by clear hB; omega⟩
    unfold spec_Run.f impl_Run.f
    rw [spec_BrakesOk.is, impl_BrakesOk.is, decide_eq_false ok]
    simp only [Option.bind_some, if_false, Bool.false_eq_true]
    rw [show B + (q + 1) = (B + q) + 1 from rfl, spec_Run.j0, impl_Run.j0, if_pos rfl, if_pos rfl]
    exact ⟨rfl, rfl⟩

end Go.Proofs.Ytnikfadkmhcalaa.Q
