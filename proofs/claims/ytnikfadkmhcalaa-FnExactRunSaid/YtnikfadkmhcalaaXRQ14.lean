/- Walks: a call of each function answers what its Lean function tells; no condition but that it tells something. -/
import Derived.Test.YtnikfadkmhcalaaXRQ0
import Derived.Test.YtnikfadkmhcalaaXRQ2
import Derived.Test.YtnikfadkmhcalaaXRQ4
import Derived.Test.YtnikfadkmhcalaaXRQ10
import Derived.Test.YtnikfadkmhcalaaXRQ12
namespace Go.Proofs.Ytnikfadkmhcalaa.Q
open Go.RowKit Go.Proofs.YtnikfadkmhcalaaW.PrintWords Go.Proofs.YtnikfadkmhcalaaW.PrintLast Go.Proofs.YtnikfadkmhcalaaW.PrintMore
attribute [local go_sem] max2_int min2_int max_two min_two max_three min_three max_four min_four   -- for this text's walks alone
set_option linter.unusedVariables false
set_option linter.unusedSimpArgs false

/-! ### dm_common: function 0 -/
theorem impl_braked.is (k : Int) (hk : 1 ≤ k) (hk2 : k ≤ 1000) : ∀ (q : Nat) (v n : Int), v.toNat < q → v ≤ 20000 → 0 ≤ n → n + 20000 * max 0 v ≤ 1000000000000 → impl_braked.l0 q v k n = some (n + Dm.brake v k) := by
 intro q
 induction q with
 | zero => intro v n h; omega
 | succ q ih =>
  intro v n hq hv hn hb
  simp only [impl_braked.l0]
  by_cases c : v > 0
  ·rw [if_pos c]
   have e1 : wrap64 (v - k) = v - k := by unfold wrap64; omega
   have e2 : mx 0 (v - k) = max 0 (v - k) := by unfold mx; omega
   rw [e1, e2]
   have e3 : wrap64 (n + max 0 (v - k)) = n + max 0 (v - k) := by unfold wrap64; omega
   rw [e3, ih (max 0 (v - k)) (n + max 0 (v - k)) (by omega) (by omega) (by omega) (by omega), Dm.brake_step v k hk c, Int.add_assoc]
  ·rw [if_neg c, Dm.brake_stop v k (by omega), Int.add_zero]

theorem impl_worst.is_l (s h d a wn lim : Int) (hh : 1 ≤ h) (hh2 : h ≤ 1000) (ha : 0 ≤ a) (ha2 : a ≤ 100) (hl : lim ≤ 1000) : ∀ (D q : Nat) (v n i : Int), lim - i = D → 0 ≤ i → D + 20001 < q → 0 ≤ v → v + 100 * D ≤ 20000 → 0 ≤ n → n + 20000 * D + 400000000 ≤ 1000000000 →
  impl_worst.l0 q v n lim i s h d a wn = some (n + Dm.worstN D v a h) := by
 intro D
 induction D with
 | zero =>
  intro q v n i hD hi hq hv hv2 hn hb
  obtain ⟨q, rfl⟩ : ∃ z, q = z + 1 := ⟨q - 1, by omega⟩
  simp only [impl_worst.l0]
  have hbr := impl_braked.is h hh hh2 q v 0 (by omega) (by omega) (by omega) (by omega)
  have hb1 := Dm.brake_ge v h hh
  have hb2 := Dm.brake_le v h hh hv (by omega)
  rw [if_neg (by omega)]
  unfold impl_braked.f
  rw [hbr]
  simp only [Option.bind_some, Dm.worstN, Int.zero_add]
  have e : wrap64 (n + Dm.brake v h) = n + Dm.brake v h := by unfold wrap64; omega
  rw [e]
 | succ D ih =>
  intro q v n i hD hi hq hv hv2 hn hb
  obtain ⟨q, rfl⟩ : ∃ z, q = z + 1 := ⟨q - 1, by omega⟩
  simp only [impl_worst.l0]
  rw [if_pos (by omega)]
  have e1 : wrap64 (v + a) = v + a := by unfold wrap64; omega
  rw [e1]
  have e2 : wrap64 (n + (v + a)) = n + (v + a) := by unfold wrap64; omega
  have e3 : wrap64 (i + 1) = i + 1 := by unfold wrap64; omega
  rw [e2, e3, ih q (v + a) (n + (v + a)) (i + 1) (by omega) (by omega) (by omega) (by omega) (by omega) (by omega) (by omega)]
  simp only [Dm.worstN, Int.add_assoc]

theorem impl_worst.is (s h d a wn v : Int) (ok : Dm.okB s h d a wn) (hv : 0 ≤ v) (hv2 : v ≤ 10000) (q : Nat) (hq : 20100 < q) : impl_worst.f q s h d a wn v = some (Dm.worstM h d a v) := by
 obtain ⟨⟨s1, s2⟩, ⟨h1, h2⟩, ⟨d1, d2⟩, ⟨a1, a2⟩, ⟨w1, w2⟩⟩ := ok
 unfold impl_worst.f Dm.worstM
 have e : wrap64 (d + 1) = d + 1 := by unfold wrap64; omega
 rw [e, impl_worst.is_l s h d a wn (d + 1) (by omega) h2 a1 a2 (by omega) (d + 1).toNat q v 0 0 (by omega) (by omega) (by omega) hv (by omega) (by omega) (by omega), Int.zero_add]

theorem impl_in.is (x lo hi : Int) : impl_in.f x lo hi = some (decide (lo ≤ x ∧ x ≤ hi)) := by
 unfold impl_in.f
 by_cases c : x ≥ lo
 ·rw [if_pos c]
  by_cases c2 : x ≤ hi
  ·rw [decide_eq_true c2, decide_eq_true ⟨c, c2⟩]
  ·rw [decide_eq_false c2, decide_eq_false (fun z => c2 z.2)]
 ·rw [if_neg c, decide_eq_false (fun z => c z.1)]

theorem impl_BrakesOk.is (s h d a wn : Int) : impl_BrakesOk.f s h d a wn = some (decide (Dm.okB s h d a wn)) := by
 unfold impl_BrakesOk.f Dm.okB
 simp only [impl_in.is, Option.bind_some]
 by_cases c1 : 10 ≤ s ∧ s ≤ 1000 <;> by_cases c2 : s ≤ h ∧ h ≤ 1000 <;> by_cases c3 : 0 ≤ d ∧ d ≤ 20 <;> by_cases c4 : 0 ≤ a ∧ a ≤ 100 <;> simp [c1, c2, c3, c4]

/-- what the closures read: the brakes' five cells, the room's one; both blocks older than the base -/
def DmHolds (B R base : Nat) (s h d a wn room : Int) (w : World) : Prop :=
 (w.cell? ⟨B, 0, none⟩ = some (.int .i64 s) ∧ w.cell? ⟨B, 1, none⟩ = some (.int .i64 h) ∧ w.cell? ⟨B, 2, none⟩ = some (.int .i64 d) ∧ w.cell? ⟨B, 3, none⟩ = some (.int .i64 a) ∧ w.cell? ⟨B, 4, none⟩ = some (.int .i64 wn) ∧ w.cell? ⟨R, 0, none⟩ = some (.int .i64 room)) ∧ B < base ∧ R < base ∧ base ≤ w.heap.size

theorem DmHolds.below {B R base : Nat} {s h d a wn room : Int} {w w' : World} {n : Nat} (H : DmHolds B R base s h d a wn room w) (hb : Below n w w') (hn : base ≤ n) : DmHolds B R base s h d a wn room w' := by
 obtain ⟨⟨c0, c1, c2, c3, c4, c5⟩, hB, hR, hs⟩ := H
 have hB' : B < n := Nat.lt_of_lt_of_le hB hn
 have hR' : R < n := Nat.lt_of_lt_of_le hR hn
 exact ⟨⟨(hb.cell (p := ⟨B, 0, none⟩) hB').trans c0, (hb.cell (p := ⟨B, 1, none⟩) hB').trans c1, (hb.cell (p := ⟨B, 2, none⟩) hB').trans c2, (hb.cell (p := ⟨B, 3, none⟩) hB').trans c3, (hb.cell (p := ⟨B, 4, none⟩) hB').trans c4, (hb.cell (p := ⟨R, 0, none⟩) hR').trans c5⟩, hB, hR, Nat.le_trans hs hb.size⟩

theorem dm_held {B R : Nat} {w0 w1 w' : World} {x0 x1 x2 x3 x4 x5 : Value}
  (H : w1.cell? ⟨B, 0, none⟩ = some x0 ∧ w1.cell? ⟨B, 1, none⟩ = some x1 ∧ w1.cell? ⟨B, 2, none⟩ = some x2 ∧ w1.cell? ⟨B, 3, none⟩ = some x3 ∧ w1.cell? ⟨B, 4, none⟩ = some x4 ∧ w1.cell? ⟨R, 0, none⟩ = some x5 ∧ Below w0.heap.size w0 w1)
  (hb : Below w1.heap.size w1 w') (hB : B < w0.heap.size) (hR : R < w0.heap.size) :
  w'.cell? ⟨B, 0, none⟩ = some x0 ∧ w'.cell? ⟨B, 1, none⟩ = some x1 ∧ w'.cell? ⟨B, 2, none⟩ = some x2 ∧ w'.cell? ⟨B, 3, none⟩ = some x3 ∧ w'.cell? ⟨B, 4, none⟩ = some x4 ∧ w'.cell? ⟨R, 0, none⟩ = some x5 ∧ Below w0.heap.size w0 w' := by
 obtain ⟨c0, c1, c2, c3, c4, c5, hw⟩ := H
 have hB' : B < w1.heap.size := Nat.lt_of_lt_of_le hB hw.size
 have hR' : R < w1.heap.size := Nat.lt_of_lt_of_le hR hw.size
 exact ⟨(hb.cell (p := ⟨B, 0, none⟩) hB').trans c0, (hb.cell (p := ⟨B, 1, none⟩) hB').trans c1, (hb.cell (p := ⟨B, 2, none⟩) hB').trans c2, (hb.cell (p := ⟨B, 3, none⟩) hB').trans c3, (hb.cell (p := ⟨B, 4, none⟩) hB').trans c4, (hb.cell (p := ⟨R, 0, none⟩) hR').trans c5, hw.trans (hb.mono hw.size)⟩

theorem dm_below {B R : Nat} {w0 w1 : World} {x0 x1 x2 x3 x4 x5 : Value}
  (H : w1.cell? ⟨B, 0, none⟩ = some x0 ∧ w1.cell? ⟨B, 1, none⟩ = some x1 ∧ w1.cell? ⟨B, 2, none⟩ = some x2 ∧ w1.cell? ⟨B, 3, none⟩ = some x3 ∧ w1.cell? ⟨B, 4, none⟩ = some x4 ∧ w1.cell? ⟨R, 0, none⟩ = some x5 ∧ Below w0.heap.size w0 w1) : Below w0.heap.size w0 w1 := H.2.2.2.2.2.2

/-- where the search by halves stands -/
def DmInv (good : Int → Bool) (N : Nat) (x y : Int) : Prop := (0 ≤ x → good x = true) ∧ ∀ v, y < v → v < N → good v = false
theorem DmInv.up {good : Int → Bool} {N : Nat} {x y m : Int} (h : DmInv good N x y) (g : good m = true) : DmInv good N m y := ⟨fun _ => g, h.2⟩
theorem DmInv.down {good : Int → Bool} {N : Nat} {x y m : Int} (hf : Dm.Falls good) (h : DmInv good N x y) (g : good m = false) : DmInv good N x (m - 1) :=
 ⟨h.1, fun v hv _ => by
  cases hgv : good v with
  | false => rfl
  | true => rw [hf m v (by omega) hgv] at g; exact absurd g (by decide)⟩
theorem DmInv.done {good : Int → Bool} {N : Nat} {x y : Int} (h : DmInv good N x y) (e : y ≤ x) (h0 : -1 ≤ x) (h1 : x < N) : Dm.top good N = x :=
 Dm.top_is good N x h0 h1 h.1 fun v hv hN => h.2 v (by omega) hN
theorem dm_ret {a b : Int} (h : b = a) : Ending.returned (.int .i64 a) = .returned (.int .i64 b) := by rw [h]

theorem dm_start (w w1 : World) (t1 t2 : TypeId) (s h d a wn room : Int)
  (hb : Below ((w.alloc (.cells #[.int .i64 s, .int .i64 h, .int .i64 d, .int .i64 a, .int .i64 wn] t1)).alloc (.cells #[.int .i64 room] t2)).heap.size ((w.alloc (.cells #[.int .i64 s, .int .i64 h, .int .i64 d, .int .i64 a, .int .i64 wn] t1)).alloc (.cells #[.int .i64 room] t2)) w1) :
  DmHolds w.heap.size (w.heap.size + 1) (w.heap.size + 2) s h d a wn room w1 := by
 have g : ∀ (j : Nat) (u : Value), #[Value.int .i64 s, .int .i64 h, .int .i64 d, .int .i64 a, .int .i64 wn][j]? = some u → ((w.alloc (.cells #[.int .i64 s, .int .i64 h, .int .i64 d, .int .i64 a, .int .i64 wn] t1)).alloc (.cells #[.int .i64 room] t2)).cell? ⟨w.heap.size, j, none⟩ = some u := fun j u hj => by
  rw [World.cell?_alloc_past _ _ _ (by simp), World.cell?_alloc_at _ _ _ _ rfl]; exact hj
 have g2 : ((w.alloc (.cells #[.int .i64 s, .int .i64 h, .int .i64 d, .int .i64 a, .int .i64 wn] t1)).alloc (.cells #[.int .i64 room] t2)).cell? ⟨w.heap.size + 1, 0, none⟩ = some (.int .i64 room) := by
  rw [World.cell?_alloc_at _ _ _ _ (by simp)]; rfl
 have hz : ((w.alloc (.cells #[.int .i64 s, .int .i64 h, .int .i64 d, .int .i64 a, .int .i64 wn] t1)).alloc (.cells #[.int .i64 room] t2)).heap.size = w.heap.size + 2 := by simp
 have l1 : w.heap.size < ((w.alloc (.cells #[.int .i64 s, .int .i64 h, .int .i64 d, .int .i64 a, .int .i64 wn] t1)).alloc (.cells #[.int .i64 room] t2)).heap.size := by omega
 have l2 : w.heap.size + 1 < ((w.alloc (.cells #[.int .i64 s, .int .i64 h, .int .i64 d, .int .i64 a, .int .i64 wn] t1)).alloc (.cells #[.int .i64 room] t2)).heap.size := by omega
 have hs := hb.size
 exact ⟨⟨(hb.cell (p := ⟨w.heap.size, 0, none⟩) l1).trans (g 0 _ rfl), (hb.cell (p := ⟨w.heap.size, 1, none⟩) l1).trans (g 1 _ rfl), (hb.cell (p := ⟨w.heap.size, 2, none⟩) l1).trans (g 2 _ rfl), (hb.cell (p := ⟨w.heap.size, 3, none⟩) l1).trans (g 3 _ rfl), (hb.cell (p := ⟨w.heap.size, 4, none⟩) l1).trans (g 4 _ rfl), (hb.cell (p := ⟨w.heap.size + 1, 0, none⟩) l2).trans g2⟩, by omega, by omega, by omega⟩

theorem dm_two {w w1 : World} {o1 o2 : Obj} (hb : Below ((w.alloc o1).alloc o2).heap.size ((w.alloc o1).alloc o2) w1) : Below w.heap.size w w1 :=
 (((Below.refl _ _).alloc (Nat.le_refl _) o1).alloc (by simp) o2).trans (hb.mono (by simp; omega))
theorem dm_on {B : Nat} {w w1 w2 : World} (h : Below B w w1) (hb : Below w1.heap.size w1 w2) (hB : B ≤ w1.heap.size) : Below B w w2 := h.trans (hb.mono hB)

end Go.Proofs.Ytnikfadkmhcalaa.Q
