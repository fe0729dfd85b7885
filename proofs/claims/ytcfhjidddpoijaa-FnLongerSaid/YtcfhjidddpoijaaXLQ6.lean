/- Walks: a call of each function answers what its Lean function tells; no condition but that it tells something. -/
import Derived.Test.YtcfhjidddpoijaaXLQ0
import Derived.Test.YtcfhjidddpoijaaXLQ4
import Derived.Test.YtcfhjidddpoijaaXLQ5
namespace Go.Proofs.Ytcfhjidddpoijaa.Q
open Go.RowKit Go.Proofs.YtcfhjidddpoijaaW.PrintWords Go.Proofs.YtcfhjidddpoijaaW.PrintLast Go.Proofs.YtcfhjidddpoijaaW.PrintMore
attribute [local go_sem] max2_int min2_int max_two min_two max_three min_three max_four min_four   -- for this text's walks alone
set_option linter.unusedVariables false
set_option linter.unusedSimpArgs false

/-! ### impl_worst: function 33 -/
def impl_worst.l0 : Nat → Int → Int → Int → Int → Int → Int → Int → Int → Int → Option (Int)
 | 0, _, _, _, _, _, _, _, _, _ => none
 | k + 1, x1, x5, x8, x9, x260000, x260001, x260002, x260003, x260004 => if x9 < x8 then (impl_worst.l0 k (wrap64 (x1 + x260003)) (wrap64 (x5 + (wrap64 (x1 + x260003)))) x8 (wrap64 (x9 + 1)) x260000 x260001 x260002 x260003 x260004) else ((impl_braked.f k x1 x260001).bind fun t260 => (some (wrap64 (x5 + t260))))
def impl_worst.f (k : Nat) (a0_0 : Int) (a0_1 : Int) (a0_2 : Int) (a0_3 : Int) (a0_4 : Int) (a1 : Int) : Option (Int) := impl_worst.l0 k a1 0 (wrap64 (a0_2 + 1)) 0 a0_0 a0_1 a0_2 a0_3 a0_4
set_option maxHeartbeats 8000000 in
set_option maxRecDepth 100000 in
theorem impl_worst.calls (k : Nat) (a0_0 : Int) (a0_1 : Int) (a0_2 : Int) (a0_3 : Int) (a0_4 : Int) (a1 : Int) (r : Int) (w : World) (h : impl_worst.f k a0_0 a0_1 a0_2 a0_3 a0_4 a1 = some r) :
  Calls Try.prog 33 #[.agg #[.int .i64 a0_0, .int .i64 a0_1, .int .i64 a0_2, .int .i64 a0_3, .int .i64 a0_4], .int .i64 a1] w fun e w' => e = .returned (.int .i64 r) ∧ Below w.heap.size w w' := by
 have hu24 := Try.underlying24
 have HB := MK (Below.refl w.heap.size w)
 have H : (impl_worst.l0 k a1 0 (wrap64 (a0_2 + 1)) 0 a0_0 a0_1 a0_2 a0_3 a0_4) = some r := h
 clear h
 have H' := MK H
 clear H
 go_enter Try.func33, Try.ntmps33
 go_wp2_with (first | ((with_reducible refine gate_dst (N := 2) rfl ?_); refine box_event ?hg (N := 2) ?hd (cs := #[.int .i64 a0_0, .int .i64 a0_1, .int .i64 a0_2, .int .i64 a0_3, .int .i64 a0_4]) (t := 24) ?hr ?_; (case hd => rfl); (case hg => rfl); (case hr => first | (go_simp; done) | (go_simp; rfl)); intro gb259 hg w3 hbox hb; have n0_ := MK (below_step (by repeat (first | (with_reducible first | exact HB.out | apply lA | apply lN | apply lD) | exact HB.out)) hb); have n1_ := MK (hbox); have n2_ := MK ((by rw [hg]; exact (below_size (by repeat (first | (with_reducible first | exact HB.out | apply lA | apply lN | apply lD) | exact HB.out))) : w.heap.size ≤ gb259)); have n3_ := MK ((by rw [hg]; exact (below_size (by repeat (first | (with_reducible first | exact HB.out | apply lA | apply lN | apply lD) | exact HB.out))) : w.heap.size ≤ gb259)); clear HB; have HB := n0_; have BK259 := n1_; have GW259 := n2_; have GE259 := n3_; clear n0_ n1_ n2_ n3_; clear hb hbox hg; obtain ⟨hcz4_0, hcz4_1, hcz4_2, hcz4_3, hcz4_4⟩ := bc5 BK259.out; obtain ⟨hfz4_0, hfz4_1, hfz4_2, hfz4_3, hfz4_4⟩ := bf5 BK259.out))
 go_loopg [1, 5, 9] k (fun kq v1 v5 v9 w' => ∃ (x1_1 : Int) (x5_1 : Int) (x9_1 : Int), v1 = .int .i64 x1_1 ∧ v5 = .int .i64 x5_1 ∧ v9 = .int .i64 x9_1 ∧ Aside0 (impl_worst.l0 kq x1_1 x5_1 (wrap64 (a0_2 + 1)) x9_1 a0_0 a0_1 a0_2 a0_3 a0_4 = some r) ∧ Aside0 (kq ≤ k) ∧ Aside0 (w'.heap[gb259]? = some (.cells #[.int .i64 a0_0, .int .i64 a0_1, .int .i64 a0_2, .int .i64 a0_3, .int .i64 a0_4] 24 (0, 0))) ∧ Aside0 (Below w.heap.size w w'))
 case atStart => exact ⟨(a1), (0), (0), (by first | rfl | (simp; done) | (simp [*]; done)), (by first | rfl | (simp; done) | (simp [*]; done)), (by first | rfl | (simp; done) | (simp [*]; done)), H', ⟨Nat.le_refl _⟩, ⟨by (with_reducible repeat (first | refine bN ?_ _ | refine bD ?_ | refine bA ?_ _)); exact BK259.out⟩, ⟨by repeat (first | (with_reducible first | exact HB.out | apply lA | apply lN | apply lD | refine lS ?_ GE259.out) | exact HB.out)⟩⟩
 case round =>
  clear H'
  (try clear hcz4_0); (try clear hcz4_1); (try clear hcz4_2); (try clear hcz4_3); (try clear hcz4_4); (try clear hfz4_0); (try clear hfz4_1); (try clear hfz4_2); (try clear hfz4_3); (try clear hfz4_4)
  obtain ⟨x1_1, x5_1, x9_1, rfl, rfl, rfl, HA, HK1, BK259, HB⟩ := hrel
  cases gk with
  | zero => exact absurd HA.out (by simp [impl_worst.l0])
  | succ k1 =>
   have H := HA.out
   clear HA
   simp only [impl_worst.l0] at H
   by_cases c5 : x9_1 < (wrap64 (a0_2 + 1))
   ·rw [if_pos c5] at H
    have c5b0 : decide (x9_1 < (wrap64 (a0_2 + 1))) = true := decide_eq_true c5
    clear c5
    have H' := MK H
    clear H
    obtain ⟨hcz6_0, hcz6_1, hcz6_2, hcz6_3, hcz6_4⟩ := bc5 BK259.out
    obtain ⟨hfz6_0, hfz6_1, hfz6_2, hfz6_3, hfz6_4⟩ := bf5 BK259.out
    go_wp2
    go_roundg k1
    case measure => have := HK1.out; omega
    case rel => exact ⟨(wrap64 (x1_1 + a0_3)), (wrap64 (x5_1 + (wrap64 (x1_1 + a0_3)))), (wrap64 (x9_1 + 1)), (by first | rfl | (simp; done) | (simp [*]; done)), (by first | rfl | (simp; done) | (simp [*]; done)), (by first | rfl | (simp; done) | (simp [*]; done)), H', ⟨by have := HK1.out; omega⟩, ⟨by (with_reducible repeat (first | refine bN ?_ _ | refine bD ?_ | refine bA ?_ _)); exact BK259.out⟩, ⟨by repeat (first | (with_reducible first | exact HB.out | apply lA | apply lN | apply lD | refine lS ?_ GE259.out) | exact HB.out)⟩⟩
   ·rw [if_neg c5] at H
    have c5b0 : decide (x9_1 < (wrap64 (a0_2 + 1))) = false := decide_eq_false c5
    clear c5
    replace H := Option.bind_eq_some_iff.mp H
    obtain ⟨t260, A70, H⟩ := H
    replace H : (some (wrap64 (x5_1 + t260))) = some r := H
    have A7 := MK A70
    clear A70
    obtain rfl := Option.some.inj H
    obtain ⟨hcz8_0, hcz8_1, hcz8_2, hcz8_3, hcz8_4⟩ := bc5 BK259.out
    obtain ⟨hfz8_0, hfz8_1, hfz8_2, hfz8_3, hfz8_4⟩ := bf5 BK259.out
    go_wp2_with (first | ((with_reducible refine gate_callee (f := 42) rfl ?_); refine goesL_ (some 23) rfl rfl Try.func42 (by kernel_rfl) rfl #[.int .i64 x1_1, .int .i64 a0_1] rfl (by (try simp only [List.map_toArray, List.map_cons, List.map_nil]); first | done | rfl | (simp only [List.length_drop, List.length_take]; rfl)) ?_; (with_reducible refine (impl_braked.calls k1 x1_1 a0_1 t260 _ A7.out).mono ?_); rintro e w9 ⟨rfl, hb⟩; refine ⟨_, rfl, ?_⟩; have n0_ := MK (blk_below (by (with_reducible repeat (first | refine bN ?_ _ | refine bD ?_ | refine bA ?_ _)); exact BK259.out) hb); have n1_ := MK (below_step (by repeat (first | (with_reducible first | exact HB.out | apply lA | apply lN | apply lD | refine lS ?_ GE259.out) | exact HB.out)) hb); clear BK259; clear HB; have BK259 := n0_; have HB := n1_; clear n0_ n1_; (try clear hb); (try clear hb2); (try clear hk); (try clear hi)))
    go_ret
    exact ⟨by first | rfl | (simp [errW_none, errW_some] <;> rfl) | (simp [*, errW_none, errW_some] <;> rfl), by repeat (first | (with_reducible first | exact HB.out | apply lA | apply lN | apply lD | refine lS ?_ GE259.out) | exact HB.out)⟩

/-! ### dm_common: function 0 -/
theorem impl_braked.is (k : Int) (hk : 1 ≤ k) (hk2 : k ≤ 1000) : ∀ (q : Nat) (v n : Int), v.toNat < q → v ≤ 20000 → 0 ≤ n → n + 20000 * max 0 v ≤ 1000000000000 → impl_braked.l0 q v k n = some (n + Dm.brake v k) := by
  intro q
  induction q with
  | zero => intro v n h; omega
  | succ q ih =>
    intro v n hq hv hn hb
    simp only [impl_braked.l0]
    by_cases c : v > 0
    · rw [if_pos c]
      have e1 : wrap64 (v - k) = v - k := by unfold wrap64; omega
      have e2 : mx 0 (v - k) = max 0 (v - k) := by unfold mx; omega
      rw [e1, e2]
      have e3 : wrap64 (n + max 0 (v - k)) = n + max 0 (v - k) := by unfold wrap64; omega
      rw [e3, ih (max 0 (v - k)) (n + max 0 (v - k)) (by omega) (by omega) (by omega) (by omega), Dm.brake_step v k hk c, Int.add_assoc]
    · rw [if_neg c, Dm.brake_stop v k (by omega), Int.add_zero]

theorem impl_worst.is_l (s h d a wn lim : Int) (hh : 1 ≤ h) (hh2 : h ≤ 1000) (ha : 0 ≤ a) (ha2 : a ≤ 100) (hl : lim ≤ 1000) : ∀ (D q : Nat) (v n i : Int), lim - i = D → 0 ≤ i → D + 20001 < q → 0 ≤ v → v + 100 * D ≤ 20000 → 0 ≤ n → n + 20000 * D + 400000000 ≤ 1000000000 →
    impl_worst.l0 q v n lim i s h d a wn = some (n + Dm.worstN D v a h) := by
  intro D
  induction D with
  | zero =>
    intro q v n i hD hi hq hv hv2 hn hb
    obtain ⟨q, rfl⟩ : ∃ z, q = z + 1 := ⟨q - 1, by omega⟩
    simp only [impl_worst.l0]
    have hbr := impl_braked.is h hh hh2 q v 0 (by omega) (by omega) (by omega) (by omega)
    have hb1 := Dm.brake_ge v h hh
    have hb2 := Dm.brake_le v h hh hv (by omega)
    rw [if_neg (by omega)]
    unfold impl_braked.f
    rw [hbr]
    simp only [Option.bind_some, Dm.worstN, Int.zero_add]
    have e : wrap64 (n + Dm.brake v h) = n + Dm.brake v h := by unfold wrap64; omega
    rw [e]
  | succ D ih =>
    intro q v n i hD hi hq hv hv2 hn hb
    obtain ⟨q, rfl⟩ : ∃ z, q = z + 1 := ⟨q - 1, by omega⟩
    simp only [impl_worst.l0]
    rw [if_pos (by omega)]
    have e1 : wrap64 (v + a) = v + a := by unfold wrap64; omega
    rw [e1]
    have e2 : wrap64 (n + (v + a)) = n + (v + a) := by unfold wrap64; omega
    have e3 : wrap64 (i + 1) = i + 1 := by unfold wrap64; omega
    rw [e2, e3, ih q (v + a) (n + (v + a)) (i + 1) (by omega) (by omega) (by omega) (by omega) (by omega) (by omega) (by omega)]
    simp only [Dm.worstN, Int.add_assoc]

theorem impl_worst.is (s h d a wn v : Int) (ok : Dm.okB s h d a wn) (hv : 0 ≤ v) (hv2 : v ≤ 10000) (q : Nat) (hq : 20100 < q) : impl_worst.f q s h d a wn v = some (Dm.worstM h d a v) := by
  obtain ⟨⟨s1, s2⟩, ⟨h1, h2⟩, ⟨d1, d2⟩, ⟨a1, a2⟩, ⟨w1, w2⟩⟩ := ok
  unfold impl_worst.f Dm.worstM
  have e : wrap64 (d + 1) = d + 1 := by unfold wrap64; omega
  rw [e, impl_worst.is_l s h d a wn (d + 1) (by omega) h2 a1 a2 (by omega) (d + 1).toNat q v 0 0 (by omega) (by omega) (by omega) hv (by omega) (by omega) (by omega), Int.zero_add]

theorem impl_in.is (x lo hi : Int) : impl_in.f x lo hi = some (decide (lo ≤ x ∧ x ≤ hi)) := by
  unfold impl_in.f
  by_cases c : x ≥ lo
  · rw [if_pos c]
    by_cases c2 : x ≤ hi
    · rw [decide_eq_true c2, decide_eq_true ⟨c, c2⟩]
    · rw [decide_eq_false c2, decide_eq_false (fun z => c2 z.2)]
  · rw [if_neg c, decide_eq_false (fun z => c z.1)]

theorem impl_BrakesOk.is (s h d a wn : Int) : impl_BrakesOk.f s h d a wn = some (decide (Dm.okB s h d a wn)) := by
  unfold impl_BrakesOk.f Dm.okB
  simp only [impl_in.is, Option.bind_some]
  by_cases c1 : 10 ≤ s ∧ s ≤ 1000 <;> by_cases c2 : s ≤ h ∧ h ≤ 1000 <;> by_cases c3 : 0 ≤ d ∧ d ≤ 20 <;> by_cases c4 : 0 ≤ a ∧ a ≤ 100 <;> simp [c1, c2, c3, c4]

/-- what the closures read: the brakes' five cells, the room's one; both blocks older than the base -/
def DmHolds (B R base : Nat) (s h d a wn room : Int) (w : World) : Prop :=
  (w.cell? ⟨B, 0, none⟩ = some (.int .i64 s) ∧ w.cell? ⟨B, 1, none⟩ = some (.int .i64 h) ∧ w.cell? ⟨B, 2, none⟩ = some (.int .i64 d) ∧ w.cell? ⟨B, 3, none⟩ = some (.int .i64 a) ∧ w.cell? ⟨B, 4, none⟩ = some (.int .i64 wn) ∧ w.cell? ⟨R, 0, none⟩ = some (.int .i64 room)) ∧ B < base ∧ R < base ∧ base ≤ w.heap.size

theorem DmHolds.below {B R base : Nat} {s h d a wn room : Int} {w w' : World} {n : Nat} (H : DmHolds B R base s h d a wn room w) (hb : Below n w w') (hn : base ≤ n) : DmHolds B R base s h d a wn room w' := by
  obtain ⟨⟨c0, c1, c2, c3, c4, c5⟩, hB, hR, hs⟩ := H
  have hB' : B < n := Nat.lt_of_lt_of_le hB hn
  have hR' : R < n := Nat.lt_of_lt_of_le hR hn
  exact ⟨⟨(hb.cell (p := ⟨B, 0, none⟩) hB').trans c0, (hb.cell (p := ⟨B, 1, none⟩) hB').trans c1, (hb.cell (p := ⟨B, 2, none⟩) hB').trans c2, (hb.cell (p := ⟨B, 3, none⟩) hB').trans c3, (hb.cell (p := ⟨B, 4, none⟩) hB').trans c4, (hb.cell (p := ⟨R, 0, none⟩) hR').trans c5⟩, hB, hR, Nat.le_trans hs hb.size⟩

theorem dm_held {B R : Nat} {w0 w1 w' : World} {x0 x1 x2 x3 x4 x5 : Value}
    (H : w1.cell? ⟨B, 0, none⟩ = some x0 ∧ w1.cell? ⟨B, 1, none⟩ = some x1 ∧ w1.cell? ⟨B, 2, none⟩ = some x2 ∧ w1.cell? ⟨B, 3, none⟩ = some x3 ∧ w1.cell? ⟨B, 4, none⟩ = some x4 ∧ w1.cell? ⟨R, 0, none⟩ = some x5 ∧ Below w0.heap.size w0 w1)
    (hb : Below w1.heap.size w1 w') (hB : B < w0.heap.size) (hR : R < w0.heap.size) :
    w'.cell? ⟨B, 0, none⟩ = some x0 ∧ w'.cell? ⟨B, 1, none⟩ = some x1 ∧ w'.cell? ⟨B, 2, none⟩ = some x2 ∧ w'.cell? ⟨B, 3, none⟩ = some x3 ∧ w'.cell? ⟨B, 4, none⟩ = some x4 ∧ w'.cell? ⟨R, 0, none⟩ = some x5 ∧ Below w0.heap.size w0 w' := by
  obtain ⟨c0, c1, c2, c3, c4, c5, hw⟩ := H
  have hB' : B < w1.heap.size := Nat.lt_of_lt_of_le hB hw.size
  have hR' : R < w1.heap.size := Nat.lt_of_lt_of_le hR hw.size
  exact ⟨(hb.cell (p := ⟨B, 0, none⟩) hB').trans c0, (hb.cell (p := ⟨B, 1, none⟩) hB').trans c1, (hb.cell (p := ⟨B, 2, none⟩) hB').trans c2, (hb.cell (p := ⟨B, 3, none⟩) hB').trans c3, (hb.cell (p := ⟨B, 4, none⟩) hB').trans c4, (hb.cell (p := ⟨R, 0, none⟩) hR').trans c5, hw.trans (hb.mono hw.size)⟩

theorem dm_below {B R : Nat} {w0 w1 : World} {x0 x1 x2 x3 x4 x5 : Value}
    (H : w1.cell? ⟨B, 0, none⟩ = some x0 ∧ w1.cell? ⟨B, 1, none⟩ = some x1 ∧ w1.cell? ⟨B, 2, none⟩ = some x2 ∧ w1.cell? ⟨B, 3, none⟩ = some x3 ∧ w1.cell? ⟨B, 4, none⟩ = some x4 ∧ w1.cell? ⟨R, 0, none⟩ = some x5 ∧ Below w0.heap.size w0 w1) : Below w0.heap.size w0 w1 := H.2.2.2.2.2.2

/-- where the search by halves stands -/
def DmInv (good : Int → Bool) (N : Nat) (x y : Int) : Prop := (0 ≤ x → good x = true) ∧ ∀ v, y < v → v < N → good v = false
theorem DmInv.up {good : Int → Bool} {N : Nat} {x y m : Int} (h : DmInv good N x y) (g : good m = true) : DmInv good N m y := ⟨fun _ => g, h.2⟩
theorem DmInv.down {good : Int → Bool} {N : Nat} {x y m : Int} (hf : Dm.Falls good) (h : DmInv good N x y) (g : good m = false) : DmInv good N x (m - 1) :=
  ⟨h.1, fun v hv _ => by
    cases hgv : good v with
    | false => rfl
    | true => rw [hf m v (by omega) hgv] at g; exact absurd g (by decide)⟩
theorem DmInv.done {good : Int → Bool} {N : Nat} {x y : Int} (h : DmInv good N x y) (e : y ≤ x) (h0 : -1 ≤ x) (h1 : x < N) : Dm.top good N = x :=
  Dm.top_is good N x h0 h1 h.1 fun v hv hN => h.2 v (by omega) hN
theorem dm_ret {a b : Int} (h : b = a) : Ending.returned (.int .i64 a) = .returned (.int .i64 b) := by rw [h]

theorem dm_start (w w1 : World) (t1 t2 : TypeId) (s h d a wn room : Int)
    (hb : Below ((w.alloc (.cells #[.int .i64 s, .int .i64 h, .int .i64 d, .int .i64 a, .int .i64 wn] t1)).alloc (.cells #[.int .i64 room] t2)).heap.size ((w.alloc (.cells #[.int .i64 s, .int .i64 h, .int .i64 d, .int .i64 a, .int .i64 wn] t1)).alloc (.cells #[.int .i64 room] t2)) w1) :
    DmHolds w.heap.size (w.heap.size + 1) (w.heap.size + 2) s h d a wn room w1 := by
  have g : ∀ (j : Nat) (u : Value), #[Value.int .i64 s, .int .i64 h, .int .i64 d, .int .i64 a, .int .i64 wn][j]? = some u → ((w.alloc (.cells #[.int .i64 s, .int .i64 h, .int .i64 d, .int .i64 a, .int .i64 wn] t1)).alloc (.cells #[.int .i64 room] t2)).cell? ⟨w.heap.size, j, none⟩ = some u := fun j u hj => by
    rw [World.cell?_alloc_past _ _ _ (by simp), World.cell?_alloc_at _ _ _ _ rfl]; exact hj
  have g2 : ((w.alloc (.cells #[.int .i64 s, .int .i64 h, .int .i64 d, .int .i64 a, .int .i64 wn] t1)).alloc (.cells #[.int .i64 room] t2)).cell? ⟨w.heap.size + 1, 0, none⟩ = some (.int .i64 room) := by
    rw [World.cell?_alloc_at _ _ _ _ (by simp)]; rfl
  have hz : ((w.alloc (.cells #[.int .i64 s, .int .i64 h, .int .i64 d, .int .i64 a, .int .i64 wn] t1)).alloc (.cells #[.int .i64 room] t2)).heap.size = w.heap.size + 2 := by simp
  have l1 : w.heap.size < ((w.alloc (.cells #[.int .i64 s, .int .i64 h, .int .i64 d, .int .i64 a, .int .i64 wn] t1)).alloc (.cells #[.int .i64 room] t2)).heap.size := by omega
  have l2 : w.heap.size + 1 < ((w.alloc (.cells #[.int .i64 s, .int .i64 h, .int .i64 d, .int .i64 a, .int .i64 wn] t1)).alloc (.cells #[.int .i64 room] t2)).heap.size := by omega
  have hs := hb.size
  exact ⟨⟨(hb.cell (p := ⟨w.heap.size, 0, none⟩) l1).trans (g 0 _ rfl), (hb.cell (p := ⟨w.heap.size, 1, none⟩) l1).trans (g 1 _ rfl), (hb.cell (p := ⟨w.heap.size, 2, none⟩) l1).trans (g 2 _ rfl), (hb.cell (p := ⟨w.heap.size, 3, none⟩) l1).trans (g 3 _ rfl), (hb.cell (p := ⟨w.heap.size, 4, none⟩) l1).trans (g 4 _ rfl), (hb.cell (p := ⟨w.heap.size + 1, 0, none⟩) l2).trans g2⟩, by omega, by omega, by omega⟩

theorem dm_two {w w1 : World} {o1 o2 : Obj} (hb : Below ((w.alloc o1).alloc o2).heap.size ((w.alloc o1).alloc o2) w1) : Below w.heap.size w w1 :=
  (((Below.refl _ _).alloc (Nat.le_refl _) o1).alloc (by simp) o2).trans (hb.mono (by simp; omega))
theorem dm_on {B : Nat} {w w1 w2 : World} (h : Below B w w1) (hb : Below w1.heap.size w1 w2) (hB : B ≤ w1.heap.size) : Below B w w2 := h.trans (hb.mono hB)

/-! ### impl_Permitted: function 14 -/
theorem impl_Gentle.is (s h d a wn v : Int) (ok : Dm.okB s h d a wn) (hv : 0 ≤ v) (hv2 : v ≤ 10000) (q : Nat) (hq : 20100 < q) : impl_Gentle.f q s h d a wn v = some (Dm.gentleM s d wn v) := by
  unfold impl_Gentle.f
  rw [impl_BrakesOk.is, decide_eq_true ok, impl_in.is, decide_eq_true ⟨hv, hv2⟩]
  obtain ⟨⟨s1, s2⟩, ⟨h1, h2⟩, ⟨d1, d2⟩, ⟨a1, a2⟩, ⟨w1, w2⟩⟩ := ok
  simp only [Option.bind_some, if_true]
  unfold impl_braked.f
  rw [impl_braked.is s (by omega) s2 q v 0 (by omega) (by omega) (by omega) (by omega)]
  have e1 : wrap64 (d + wn) = d + wn := by unfold wrap64; omega
  have e2 : wrap64 (d + wn + 1) = d + wn + 1 := by unfold wrap64; omega
  have hb := Dm.mul_bd (d + wn + 1) v (by omega) (by omega) hv hv2
  have b1 := Dm.brake_ge v s (by omega)
  have b2 := Dm.brake_le v s (by omega) hv (by omega)
  have e3 : wrap64 ((d + wn + 1) * v) = (d + wn + 1) * v := by unfold wrap64; omega
  simp only [Option.bind_some, Int.zero_add]
  rw [e1, e2, e3]
  have e4 : wrap64 ((d + wn + 1) * v + Dm.brake v s) = (d + wn + 1) * v + Dm.brake v s := by unfold wrap64; omega
  rw [e4]
  rfl

set_option maxHeartbeats 1600000 in
set_option maxRecDepth 100000 in
theorem impl_Permitted.lit (B R base : Nat) (s h d a wn room v : Int) (w : World) (ok : Dm.okB s h d a wn) (hv : 0 ≤ v) (hv2 : v ≤ 10000) (H : Aside0 (DmHolds B R base s h d a wn room w)) :
    Calls Try.prog 36 #[.int .i64 v, .pointer (some ⟨B, 0, none⟩), .pointer (some ⟨R, 0, none⟩)] w fun e w' => e = .returned (.bool (decide (Dm.worstM h d a v ≤ room) && decide (Dm.gentleM s d wn v ≤ room))) ∧ Below w.heap.size w w' := by
  have hw := MK (impl_worst.is s h d a wn v ok hv hv2 20101 (by omega))
  have hge := MK (impl_Gentle.is s h d a wn v ok hv hv2 20101 (by omega))
  clear ok
  obtain ⟨⟨c0, c1, c2, c3, c4, c5⟩, hB, hR, hs⟩ := H.out
  have hB' : B < w.heap.size := Nat.lt_of_lt_of_le hB hs
  have hR' : R < w.heap.size := Nat.lt_of_lt_of_le hR hs
  have B0 := Below.refl w.heap.size w
  clear H hs hB hR
  have hu := Try.underlying24
  by_cases hwr : Dm.worstM h d a v ≤ room
  · have hdw : decide (Dm.worstM h d a v ≤ room) = true := decide_eq_true hwr
    clear hwr
    go_enter Try.func36, Try.ntmps36
    go_wp2_with fail
    go_region_held3 (fun w' => w'.cell? ⟨B, 0, none⟩ = some (.int .i64 s) ∧ w'.cell? ⟨B, 1, none⟩ = some (.int .i64 h) ∧ w'.cell? ⟨B, 2, none⟩ = some (.int .i64 d) ∧ w'.cell? ⟨B, 3, none⟩ = some (.int .i64 a) ∧ w'.cell? ⟨B, 4, none⟩ = some (.int .i64 wn) ∧ w'.cell? ⟨R, 0, none⟩ = some (.int .i64 room) ∧ Below w.heap.size w w')
      (first | exact ⟨c0, c1, c2, c3, c4, c5, B0.drew⟩ | exact dm_held ‹_› hb hB' hR')
      (first | (go_at_call 33; refine (impl_worst.calls 20101 s h d a wn v _ _ hw.out).mono ?_; rintro e w' ⟨rfl, hb⟩)
             | (go_at_call 17; refine (impl_Gentle.calls 20101 s h d a wn v _ _ hge.out).mono ?_; rintro e w' ⟨rfl, hb⟩))
    all_goals go_wp2
    all_goals go_ret
    all_goals exact ⟨by rw [hdw, Bool.true_and]; rfl, dm_below ‹_›⟩
  · have hdw : decide (Dm.worstM h d a v ≤ room) = false := decide_eq_false hwr
    clear hwr
    go_enter Try.func36, Try.ntmps36
    go_wp2_with fail
    refine wp_region_held_drew (S := (fun w' => w'.cell? ⟨B, 0, none⟩ = some (.int .i64 s) ∧ w'.cell? ⟨B, 1, none⟩ = some (.int .i64 h) ∧ w'.cell? ⟨B, 2, none⟩ = some (.int .i64 d) ∧ w'.cell? ⟨B, 3, none⟩ = some (.int .i64 a) ∧ w'.cell? ⟨B, 4, none⟩ = some (.int .i64 wn) ∧ w'.cell? ⟨R, 0, none⟩ = some (.int .i64 room) ∧ Below w.heap.size w w')) (by kernel_rfl) ⟨c0, c1, c2, c3, c4, c5, B0.drew⟩ (fun hHeld => ?_)
    refine wpAnyH_take (i := 0) (oi := ⟨some 5, _, _, _, _, _⟩) (v := ?_) rfl (by kernel_rfl) (by kernel_rfl) (by kernel_rfl) (fun _ _ _ h => h) (Or.inl ⟨rfl, ?_⟩) (by assumption) ?_
    rotate_left
    · intro w hSw
      (try dsimp only at hSw)
      go_simp
      (try with_reducible rfl)
    try simp only [Act.put, List.setIfInBounds_toArray, List.set_cons_zero, List.set_cons_succ]
    refine wpAnyH_take (i := 1) (oi := ⟨some 6, _, _, _, _, _⟩) (v := ?_) rfl (by kernel_rfl) (by kernel_rfl) (by kernel_rfl) (fun _ _ _ h => h) (Or.inl ⟨rfl, ?_⟩) (by assumption) ?_
    rotate_left
    · intro w hSw
      (try dsimp only at hSw)
      go_simp
      (try with_reducible rfl)
    try simp only [Act.put, List.setIfInBounds_toArray, List.set_cons_zero, List.set_cons_succ]
    refine wpAnyH_take (i := 3) (oi := ⟨some 8, _, _, _, _, _⟩) (v := ?_) rfl (by kernel_rfl) (by kernel_rfl) (by kernel_rfl) (fun _ _ _ h => h) (Or.inl ⟨rfl, ?_⟩) (by assumption) ?_
    rotate_left
    · intro w hSw
      (try dsimp only at hSw)
      go_simp
      (try with_reducible rfl)
    try simp only [Act.put, List.setIfInBounds_toArray, List.set_cons_zero, List.set_cons_succ]
    refine wpAnyH_ready (rs := [2]) (by kernel_rfl) (by simp) ?_
    refine AllReadyH.cons rfl (fun K hK => ?_) AllReadyH.nil
    go_simp
    (go_at_call 33; refine (impl_worst.calls 20101 s h d a wn v _ _ hw.out).mono ?_; rintro e w' ⟨rfl, hb⟩)
    refine hK.out _ _ (dm_held hHeld hb hB' hR') (fun hHeld2 => ?_)
    clear hK K hHeld
    try simp only [Act.put, List.setIfInBounds_toArray, List.set_cons_zero, List.set_cons_succ]
    refine wpAnyH_take (i := 4) (oi := ⟨some 9, _, _, _, _, _⟩) (v := ?_) rfl (by kernel_rfl) (by kernel_rfl) (by kernel_rfl) (fun _ _ _ h => h) (Or.inl ⟨rfl, ?_⟩) (by assumption) ?_
    rotate_left
    · intro w hSw
      (try dsimp only at hSw)
      go_simp
      (try with_reducible rfl)
    try simp only [Act.put, List.setIfInBounds_toArray, List.set_cons_zero, List.set_cons_succ]
    refine wpAnyH_take (i := 5) (oi := ⟨some 10, _, _, _, _, _⟩) (v := ?_) rfl (by kernel_rfl) (by kernel_rfl) (by kernel_rfl) (fun _ _ _ h => h) (Or.inl ⟨rfl, ?_⟩) (by assumption) ?_
    rotate_left
    · intro w hSw
      (try dsimp only at hSw)
      go_simp
      (try with_reducible rfl)
    try simp only [Act.put, List.setIfInBounds_toArray, List.set_cons_zero, List.set_cons_succ]
    refine wpAnyH_take (i := 6) (oi := ⟨some 11, _, _, _, _, _⟩) (v := undef) rfl (by kernel_rfl) (by kernel_rfl) (by kernel_rfl) (fun _ _ _ h => h) (Or.inr ⟨rfl, rfl⟩) (by assumption) ?_
    try simp only [Act.put, List.setIfInBounds_toArray, List.set_cons_zero, List.set_cons_succ]
    refine wpAnyH_take (i := 7) (oi := ⟨some 12, _, _, _, _, _⟩) (v := undef) rfl (by kernel_rfl) (by kernel_rfl) (by kernel_rfl) (fun _ _ _ h => h) (Or.inr ⟨rfl, rfl⟩) (by assumption) ?_
    try simp only [Act.put, List.setIfInBounds_toArray, List.set_cons_zero, List.set_cons_succ]
    refine wpAnyH_take (i := 8) (oi := ⟨some 13, _, _, _, _, _⟩) (v := undef) rfl (by kernel_rfl) (by kernel_rfl) (by kernel_rfl) (fun _ _ _ h => h) (Or.inr ⟨rfl, rfl⟩) (by assumption) ?_
    try simp only [Act.put, List.setIfInBounds_toArray, List.set_cons_zero, List.set_cons_succ]
    refine wpAnyH_take (i := 9) (oi := ⟨some 14, _, _, _, _, _⟩) (v := undef) rfl (by kernel_rfl) (by kernel_rfl) (by kernel_rfl) (fun _ _ _ h => h) (Or.inr ⟨rfl, rfl⟩) (by assumption) ?_
    try simp only [Act.put, List.setIfInBounds_toArray, List.set_cons_zero, List.set_cons_succ]
    refine wpAnyH_take (i := 10) (oi := ⟨some 15, _, _, _, _, _⟩) (v := undef) rfl (by kernel_rfl) (by kernel_rfl) (by kernel_rfl) (fun _ _ _ h => h) (Or.inr ⟨rfl, rfl⟩) (by assumption) ?_
    try simp only [Act.put, List.setIfInBounds_toArray, List.set_cons_zero, List.set_cons_succ]
    refine wpAnyH_take (i := 11) (oi := ⟨some 16, _, _, _, _, _⟩) (v := ?_) rfl (by kernel_rfl) (by kernel_rfl) (by kernel_rfl) (fun _ _ _ h => h) (Or.inl ⟨rfl, ?_⟩) (by assumption) ?_
    rotate_left
    · intro w hSw
      (try dsimp only at hSw)
      go_simp
      (try with_reducible rfl)
    try simp only [Act.put, List.setIfInBounds_toArray, List.set_cons_zero, List.set_cons_succ]
    refine wpAnyH_take (i := 12) (oi := ⟨some 4, _, _, _, _, _⟩) (v := ?_) rfl (by kernel_rfl) (by kernel_rfl) (by kernel_rfl) (fun _ _ _ h => h) (Or.inl ⟨rfl, ?_⟩) (by assumption) ?_
    rotate_left
    · intro w hSw
      (try dsimp only at hSw)
      go_simp
      (try with_reducible rfl)
    try simp only [Act.put, List.setIfInBounds_toArray, List.set_cons_zero, List.set_cons_succ]
    refine wpAnyH_done (by kernel_rfl) ?_ _
    all_goals go_wp2
    all_goals go_ret
    all_goals exact ⟨by (try rw [hdw, Bool.false_and]); rfl, dm_below ‹_›⟩

set_option maxHeartbeats 1600000 in
set_option maxRecDepth 100000 in
theorem impl_most.at36 (B R base : Nat) (s h d a wn room n : Int) (good : Int → Bool) (w : World) (hn : 0 ≤ n) (hn2 : n ≤ 10000) (hf : Aside0 (Dm.Falls good)) (H : Aside0 (DmHolds B R base s h d a wn room w))
    (hg : Aside0 (∀ (v : Int) (wr : World), 0 ≤ v → v ≤ 10000 → Aside0 (DmHolds B R base s h d a wn room wr) →
      Calls Try.prog 36 #[.int .i64 v, .pointer (some ⟨B, 0, none⟩), .pointer (some ⟨R, 0, none⟩)] wr fun e w' => e = .returned (.bool (good v)) ∧ Below wr.heap.size wr w')) :
    Calls Try.prog 34 #[.int .i64 n, .func (.func 36) #[] #[.pointer (some ⟨B, 0, none⟩), .pointer (some ⟨R, 0, none⟩)]] w fun e w' => e = .returned (.int .i64 (Dm.top good (n + 1).toNat)) ∧ Below w.heap.size w w' := by
  go_enter Try.func34, Try.ntmps34
  go_wp2_with fail
  go_loopw [5, 6] (fun lo hi wr => ∃ x y : Int, lo = .int .i64 x ∧ hi = .int .i64 y ∧ -1 ≤ x ∧ x ≤ y ∧ y ≤ n ∧ Aside0 (DmInv good (n + 1).toNat x y) ∧ Aside0 (DmHolds B R base s h d a wn room wr) ∧ Aside0 (Below w.heap.size w wr)) (fun lo hi _ => (intOf hi - intOf lo).toNat)
  case atStart => exact ⟨-1, n, rfl, rfl, by omega, by omega, by omega, ⟨fun h => by omega, fun v h1 h2 => by omega⟩, H, ⟨Below.refl _ _⟩⟩
  case round =>
    obtain ⟨x, y, rfl, rfl, hx, hxy, hy, IV, HH, HB⟩ := hrel
    by_cases hlt : x < y
    · cases hgm : good ((x + y + 1) / 2) with
      | true =>
        have G := MK hgm
        clear hgm
        go_wp2_with (first | (go_at_call 36; refine ((hg.out ((x + y + 1) / 2) _ (by omega) (by omega) HH).mono ?_); rw [G.out]; rintro e w' ⟨rfl, hb⟩))
        go_roundw
        case rel => exact ⟨(x + y + 1) / 2, y, rfl, rfl, by omega, by omega, by omega, ⟨IV.out.up G.out⟩, ⟨HH.out.below hb HH.out.2.2.2⟩, ⟨HB.out.trans (hb.mono HB.out.size)⟩⟩
        case measure => simp [intOf]; omega
      | false =>
        have G := MK hgm
        clear hgm
        go_wp2_with (first | (go_at_call 36; refine ((hg.out ((x + y + 1) / 2) _ (by omega) (by omega) HH).mono ?_); rw [G.out]; rintro e w' ⟨rfl, hb⟩))
        go_roundw
        case rel => exact ⟨x, (x + y + 1) / 2 - 1, rfl, rfl, by omega, by omega, by omega, ⟨IV.out.down hf.out G.out⟩, ⟨HH.out.below hb HH.out.2.2.2⟩, ⟨HB.out.trans (hb.mono HB.out.size)⟩⟩
        case measure => simp [intOf]; omega
    · have he := IV.out.done (by omega) hx (by omega)
      have HE := MK he
      clear he
      go_wp2_with fail
      go_ret
      exact ⟨dm_ret HE.out, HB.out⟩

def impl_Permitted.f (a0_0 : Int) (a0_1 : Int) (a0_2 : Int) (a0_3 : Int) (a0_4 : Int) (a1 : Int) (a2 : Int) : Option (Int) := some (Dm.permittedM a0_0 a0_1 a0_2 a0_3 a0_4 a1 a2)
set_option maxHeartbeats 1600000 in
set_option maxRecDepth 100000 in
theorem impl_Permitted.calls (a0_0 : Int) (a0_1 : Int) (a0_2 : Int) (a0_3 : Int) (a0_4 : Int) (a1 : Int) (a2 : Int) (r : Int) (w : World) (h : impl_Permitted.f a0_0 a0_1 a0_2 a0_3 a0_4 a1 a2 = some r) :
    Calls Try.prog 14 #[.agg #[.int .i64 a0_0, .int .i64 a0_1, .int .i64 a0_2, .int .i64 a0_3, .int .i64 a0_4], .int .i64 a1, .int .i64 a2] w fun e w' => e = .returned (.int .i64 r) ∧ Below w.heap.size w w' := by
  obtain rfl := Option.some.inj h
  clear h
  have hmf : ∀ (fn : Fn) (first cap : Array Value) (w : World), (Instr.makeFunc fn first cap).run Try.prog w = .ok (.func fn first cap) w := fun _ _ _ _ => rfl
  have hu := Try.underlying24
  by_cases ok : Dm.okB a0_0 a0_1 a0_2 a0_3 a0_4
  · have hF : Aside0 (impl_BrakesOk.f a0_0 a0_1 a0_2 a0_3 a0_4 = some true) := ⟨by rw [impl_BrakesOk.is, decide_eq_true ok]⟩
    by_cases rm : 0 ≤ a1 ∧ a1 ≤ 100000000
    · have hI : Aside0 (impl_in.f a1 0 100000000 = some true) := ⟨by rw [impl_in.is, decide_eq_true rm]⟩
      by_cases lm : 0 ≤ a2 ∧ a2 ≤ 10000
      · have hL : Aside0 (impl_in.f a2 0 10000 = some true) := ⟨by rw [impl_in.is, decide_eq_true lm]⟩
        have hE : Aside0 (Dm.permittedM a0_0 a0_1 a0_2 a0_3 a0_4 a1 a2 = max 0 (Dm.top (fun v => decide (Dm.worstM a0_1 a0_2 a0_3 v ≤ a1) && decide (Dm.gentleM a0_0 a0_2 a0_4 v ≤ a1)) (a2 + 1).toNat)) := ⟨by unfold Dm.permittedM; rw [if_pos ⟨ok, rm, lm⟩]⟩
        have hfl : Aside0 (Dm.Falls (fun v => decide (Dm.worstM a0_1 a0_2 a0_3 v ≤ a1) && decide (Dm.gentleM a0_0 a0_2 a0_4 v ≤ a1))) := ⟨Dm.both_falls _ _ _ _ _ _ (by have := ok.1; omega) (by have := ok.1; have := ok.2.1; omega) ok.2.2.1.1 ok.2.2.2.2.1⟩
        have OK := MK ok
        have hl1 := lm.1
        have hl2 := lm.2
        clear ok rm lm
        go_enter Try.func14, Try.ntmps14
        go_wp2_with (first
          | (go_at_call 29; refine (impl_BrakesOk.calls a0_0 a0_1 a0_2 a0_3 a0_4 true _ hF.out).mono ?_; rintro e w1 ⟨rfl, hb⟩; have HH := MK (dm_start w w1 _ _ _ _ _ _ _ _ hb); have HB := MK (dm_two hb); clear hb; have c5 := HH.out.1.2.2.2.2.2)
          | (go_at_call 30; (with_reducible refine (impl_in.calls a1 0 100000000 true _ hI.out).mono ?_); rintro e w2 ⟨rfl, hd⟩; have HB2 := MK (dm_on HB.out hd.below HB.out.size); have HH2 := MK (HH.out.below hd.below HH.out.2.2.2); clear hd HB HH)
          | (go_at_call 30; (with_reducible refine (impl_in.calls a2 0 10000 true _ hL.out).mono ?_); rintro e w3 ⟨rfl, hd⟩; have HB3 := MK (dm_on HB2.out hd.below HB2.out.size); have HH3 := MK (HH2.out.below hd.below HH2.out.2.2.2); clear hd HB2 HH2)
          | (go_at_call 34; refine (impl_most.at36 w.heap.size (w.heap.size + 1) (w.heap.size + 2) a0_0 a0_1 a0_2 a0_3 a0_4 a1 a2 _ _ hl1 hl2 hfl HH3 ⟨fun v wr h1 h2 h3 => impl_Permitted.lit _ _ _ a0_0 a0_1 a0_2 a0_3 a0_4 a1 v wr OK.out h1 h2 h3⟩).mono ?_; rintro e w4 ⟨rfl, hb⟩; have HB4 := MK (dm_on HB3.out hb HB3.out.size); clear hb))
        all_goals go_ret
        all_goals exact ⟨dm_ret (by rw [hE.out]; omega), HB4.out⟩
      · have hL : Aside0 (impl_in.f a2 0 10000 = some false) := ⟨by rw [impl_in.is, decide_eq_false lm]⟩
        have hE : Aside0 (Dm.permittedM a0_0 a0_1 a0_2 a0_3 a0_4 a1 a2 = -1) := ⟨by unfold Dm.permittedM; rw [if_neg (fun z => lm z.2.2)]⟩
        clear ok rm lm
        go_enter Try.func14, Try.ntmps14
        go_wp2_with (first
          | (go_at_call 29; refine (impl_BrakesOk.calls a0_0 a0_1 a0_2 a0_3 a0_4 true _ hF.out).mono ?_; rintro e w1 ⟨rfl, hb⟩; have HH := MK (dm_start w w1 _ _ _ _ _ _ _ _ hb); have HB := MK (dm_two hb); clear hb; have c5 := HH.out.1.2.2.2.2.2)
          | (go_at_call 30; (with_reducible refine (impl_in.calls a1 0 100000000 true _ hI.out).mono ?_); rintro e w2 ⟨rfl, hd⟩; have HB2 := MK (dm_on HB.out hd.below HB.out.size); have HH2 := MK (HH.out.below hd.below HH.out.2.2.2); clear hd HB HH)
          | (go_at_call 30; (with_reducible refine (impl_in.calls a2 0 10000 false _ hL.out).mono ?_); rintro e w3 ⟨rfl, hd⟩; have HB3 := MK (dm_on HB2.out hd.below HB2.out.size); have HH3 := MK (HH2.out.below hd.below HH2.out.2.2.2); clear hd HB2 HH2))
        go_ret
        exact ⟨dm_ret hE.out, HB3.out⟩
    · have hI : Aside0 (impl_in.f a1 0 100000000 = some false) := ⟨by rw [impl_in.is, decide_eq_false rm]⟩
      have hE : Aside0 (Dm.permittedM a0_0 a0_1 a0_2 a0_3 a0_4 a1 a2 = -1) := ⟨by unfold Dm.permittedM; rw [if_neg (fun z => rm z.2.1)]⟩
      clear ok rm
      go_enter Try.func14, Try.ntmps14
      go_wp2_with (first
        | (go_at_call 29; refine (impl_BrakesOk.calls a0_0 a0_1 a0_2 a0_3 a0_4 true _ hF.out).mono ?_; rintro e w1 ⟨rfl, hb⟩; have HH := MK (dm_start w w1 _ _ _ _ _ _ _ _ hb); have HB := MK (dm_two hb); clear hb; have c5 := HH.out.1.2.2.2.2.2)
        | (go_at_call 30; (with_reducible refine (impl_in.calls a1 0 100000000 false _ hI.out).mono ?_); rintro e w2 ⟨rfl, hd⟩; have HB2 := MK (dm_on HB.out hd.below HB.out.size); have HH2 := MK (HH.out.below hd.below HH.out.2.2.2); clear hd HB HH))
      go_ret
      exact ⟨dm_ret hE.out, HB2.out⟩
  · have hF : Aside0 (impl_BrakesOk.f a0_0 a0_1 a0_2 a0_3 a0_4 = some false) := ⟨by rw [impl_BrakesOk.is, decide_eq_false ok]⟩
    have hE : Aside0 (Dm.permittedM a0_0 a0_1 a0_2 a0_3 a0_4 a1 a2 = -1) := ⟨by unfold Dm.permittedM; rw [if_neg (fun z => ok z.1)]⟩
    clear ok
    go_enter Try.func14, Try.ntmps14
    go_wp2_with (first
      | (go_at_call 29; refine (impl_BrakesOk.calls a0_0 a0_1 a0_2 a0_3 a0_4 false _ hF.out).mono ?_; rintro e w1 ⟨rfl, hb⟩; have HB := MK (dm_two hb); clear hb))
    go_ret
    exact ⟨dm_ret hE.out, HB.out⟩

end Go.Proofs.Ytcfhjidddpoijaa.Q
