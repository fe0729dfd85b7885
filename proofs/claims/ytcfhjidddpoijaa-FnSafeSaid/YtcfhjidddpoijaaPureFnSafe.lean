/- The law FnSafe on numbers and lists: a train that stands at first is never beyond the end at which it could last be kept; no condition. -/
import Derived.Test.YtcfhjidddpoijaaQ12
import Derived.Test.YtcfhjidddpoijaaQ11
import Derived.Test.YtcfhjidddpoijaaDmW
namespace Go.Proofs.Ytcfhjidddpoijaa.Pure
open Go.RowKit Go.Proofs.Ytcfhjidddpoijaa.Q Go.Proofs.YtcfhjidddpoijaaW.PrintWords Go.Proofs.YtcfhjidddpoijaaW.PrintLast Go.Proofs.YtcfhjidddpoijaaW.PrintMore
set_option linter.unusedSimpArgs false

theorem rd_outs (s h d a wn x0 v0 : Int) (l : List S39) (n i : Nat) (hi : i < n) : rd_T35 (outsN s h d a wn x0 v0 l n) (i : Int) = outD s h d a wn (stN s h d a wn x0 v0 l i) (rd_T39 l i) := by
  unfold rd_T35 outsN
  rw [Int.toNat_natCast, List.getD_eq_getElem?_getD, List.getElem?_map, List.getElem?_range hi]
  rfl

theorem wByte_ok {l : List Int} (hb : Bytes l) (i : Int) (h0 : 0 ≤ i) : ∃ r, laws_wByte.f l i = some r ∧ 0 ≤ r ∧ r ≤ 255 := by
  unfold laws_wByte.f
  by_cases c : (l.length : Int) = 0
  · rw [if_pos c]; exact ⟨_, rfl, by omega, by omega⟩
  · rw [if_neg c]
    obtain ⟨t0, t1⟩ := tmod_in i l.length h0 (by omega)
    rw [if_pos t0, if_pos t1]
    obtain ⟨r0, r1⟩ := rd_byte hb _ t0 t1
    rw [w_small (by omega) (by omega)]
    exact ⟨_, rfl, r0, r1⟩

theorem worstN_up (a h : Int) (ha : 0 ≤ a) (hh : 1 ≤ h) (k : Nat) (v : Int) (hv : 0 ≤ v) : Dm.worstN k v a h ≤ Dm.worstN (k + 1) v a h := by
  have h1 := Dm.worstN_mono a h hh k v (v + a) (by omega)
  simp only [Dm.worstN]
  omega
theorem worstN_ups (a h : Int) (ha : 0 ≤ a) (hh : 1 ≤ h) (k : Nat) (v : Int) (hv : 0 ≤ v) : ∀ m : Nat, Dm.worstN k v a h ≤ Dm.worstN (k + m) v a h
  | 0 => Int.le_refl _
  | m + 1 => Int.le_trans (worstN_ups a h ha hh k v hv m) (worstN_up a h ha hh (k + m) v hv)
theorem worstN_both (a h : Int) (ha : 0 ≤ a) (hh : 1 ≤ h) (k m : Nat) (hkm : k ≤ m) (v u : Int) (hv : 0 ≤ v) (hvu : v ≤ u) : Dm.worstN k v a h ≤ Dm.worstN m u a h := by
  obtain ⟨z, rfl⟩ : ∃ z, m = k + z := ⟨m - k, by omega⟩
  exact Int.le_trans (worstN_ups a h ha hh k v hv z) (Dm.worstN_mono a h hh (k + z) v u hvu)
theorem brake_next (h v u : Int) (hh : 1 ≤ h) (hv : 0 ≤ v) (hu0 : 0 ≤ u) (hu : u ≤ max 0 (v - h)) : u + Dm.brake u h ≤ Dm.brake v h := by
  by_cases c : 0 < v
  · rw [Dm.brake_step v h hh c]
    have := Dm.brake_mono u (max 0 (v - h)) h hh hu
    omega
  · obtain rfl : u = 0 := by omega
    rw [Dm.brake_stop 0 h (by omega)]
    have := Dm.brake_ge v h hh
    omega

def invS (h d a : Int) (p : DmS) (E : Int) : Prop := p.x + Dm.worstN (d - p.hard).toNat p.v a h ≤ E ∧ (p.gs ≠ 3 → p.hard = 0)

theorem said_hard {s h d a wn : Int} {p : DmS} {e : S39} (hk : keptM h d a (p.x + e.f1) (p.v + e.f2) e.f4 = false) : (saidD s h d a wn p e).2.1 = 3 := by
  unfold saidD tickM
  rw [if_pos (.inr hk)]

theorem invS_step {s h d a wn : Int} {p : DmS} {e : S39} {E : Int} (ok : Dm.okB s h d a wn) (hv : 0 ≤ p.v) (hv2 : p.v ≤ 9900) (hh : 0 ≤ p.hard) (he : goodAct a e) (hI : invS h d a p E) :
    invS h d a (stepD s h d a wn p e) (if keptM h d a (p.x + e.f1) (p.v + e.f2) e.f4 = true then e.f4 else E) ∧ 0 ≤ speedD s h d a wn p e := by
  obtain ⟨⟨s1, s2⟩, ⟨h1, h2⟩, ⟨d1, d2⟩, ⟨a1, a2⟩, ⟨w1, w2⟩⟩ := ok
  obtain ⟨⟨q0, q1⟩, ⟨q2, q3⟩, ⟨q4, q5⟩, ⟨q6, q7⟩, _, _⟩ := he
  obtain ⟨hI1, hI2⟩ := hI
  have hs0 : 0 ≤ speedD s h d a wn p e := by unfold speedD; omega
  have hch : changeD s h d (saidD s h d a wn p e).2.1 p.hard e ≤ a := by
    unfold changeD
    split
    · split <;> omega
    · split <;> omega
  have hs1 : speedD s h d a wn p e ≤ p.v + a := by unfold speedD; omega
  refine ⟨⟨?_, ?_⟩, hs0⟩
  · show p.x + speedD s h d a wn p e + Dm.worstN (d - (if (saidD s h d a wn p e).2.1 = 3 then p.hard + 1 else 0)).toNat (speedD s h d a wn p e) a h ≤ _
    by_cases hk : keptM h d a (p.x + e.f1) (p.v + e.f2) e.f4 = true
    · rw [if_pos hk]
      have hk1 : Dm.worstM h d a (p.v + e.f2) ≤ e.f4 - (p.x + e.f1) := of_decide_eq_true hk
      have hk2 := Dm.worstM_mono h d a p.v (p.v + e.f2) (by omega) (by omega)
      have hk3 : Dm.worstM h d a p.v = (p.v + a) + Dm.worstN d.toNat (p.v + a) a h := by
        unfold Dm.worstM
        rw [show (d + 1).toNat = d.toNat + 1 by omega]
        rfl
      have hk4 : Dm.worstN (d - (if (saidD s h d a wn p e).2.1 = 3 then p.hard + 1 else 0)).toNat (speedD s h d a wn p e) a h ≤ Dm.worstN d.toNat (p.v + a) a h :=
        worstN_both a h a1 (by omega) _ _ (by split <;> omega) _ _ hs0 hs1
      omega
    · rw [if_neg hk]
      have h3 := said_hard (s := s) (wn := wn) (Bool.eq_false_iff.mpr hk)
      rw [if_pos h3]
      by_cases hb : d ≤ p.hard
      · have hc : changeD s h d (saidD s h d a wn p e).2.1 p.hard e = -h - e.f3 := by unfold changeD; rw [if_pos h3, if_pos hb]
        have hu : speedD s h d a wn p e ≤ max 0 (p.v - h) := by unfold speedD; rw [hc]; omega
        have e0 : (d - p.hard).toNat = 0 := by omega
        have e1 : (d - (p.hard + 1)).toNat = 0 := by omega
        rw [e0] at hI1
        rw [e1]
        have := brake_next h p.v (speedD s h d a wn p e) (by omega) hv hs0 hu
        simp only [Dm.worstN] at hI1 ⊢
        omega
      · have e0 : (d - p.hard).toNat = (d - (p.hard + 1)).toNat + 1 := by omega
        rw [e0] at hI1
        have := Dm.worstN_mono a h (by omega) (d - (p.hard + 1)).toNat (speedD s h d a wn p e) (p.v + a) hs1
        simp only [Dm.worstN] at hI1
        omega
  · show (saidD s h d a wn p e).2.1 ≠ 3 → (if (saidD s h d a wn p e).2.1 = 3 then p.hard + 1 else 0) = 0
    intro hne
    rw [if_neg hne]

theorem nn4 {m g x o : Int} (h : 0 ≤ m) (hk : m ≤ g - (x + o)) (hx : 0 ≤ x) (ho : 0 ≤ o) : g ≥ 0 := by omega
theorem fuel_ok {B q : Nat} (h : 20105 < B) : 20100 < B + q + 3 := by omega
theorem safe_l (s h d a wn x0 : Int) (hx0 : 0 ≤ x0) (hx1 : x0 ≤ 255) (b : (10 ≤ s ∧ s ≤ 29) ∧ (s ≤ h ∧ h ≤ s + 29) ∧ (0 ≤ d ∧ d ≤ 4) ∧ (0 ≤ a ∧ a ≤ 11) ∧ (0 ≤ wn ∧ wn ≤ 5)) (l : List S39) (n : Nat) (hln : l.length = n) (hn : n ≤ 100)
    (hl : ∀ j : Nat, j < n → goodAct a (rd_T39 l j)) : ∀ (D i q B : Nat) (E : Int), i + D = n → 4 * D < q → 20105 < B → invS h d a (stN s h d a wn x0 0 l i) E →
    laws_FnSafe.l0 (B + q) (outsN s h d a wn x0 0 l n) E (stN s h d a wn x0 0 l i).x (stN s h d a wn x0 0 l i).v l (n : Int) (i : Int) s h d a wn = some true := by
  have ok := okB_of b
  have ha := a_nn ok
  have hh := h_pos ok
  have hx2 : x0 ≤ 10000 := Int.le_trans hx1 (by decide)
  intro D
  induction D with
  | zero =>
    intro i q B E hi hq hB hI
    obtain ⟨q, rfl⟩ : ∃ z, q = z + 1 := ⟨q - 1, by clear hB; omega⟩
    rw [show B + (q + 1) = (B + q) + 1 from rfl, laws_FnSafe.l0]
    clear hB
    rw [if_neg (by omega)]
  | succ D ih =>
    intro i q B E hi hq hB hI
    obtain ⟨q, rfl⟩ : ∃ z, q = z + 4 := ⟨q - 4, by clear hB; omega⟩
    have ih' := fun E => ih (i + 1) q B E (by clear hB; omega) (by clear hB; omega) hB
    have hbig := Aside0.mk (fuel_ok (q := q) hB)
    have hin : i < n := by clear hB; omega
    have hi1 : i ≤ 1000 := by clear hB; omega
    rw [show B + (q + 4) = (B + q) + 4 from rfl]
    clear hB ih hq hi
    generalize B + q = q at *
    obtain ⟨⟨v0, v1⟩, ⟨x1, x2⟩, ⟨p0, p1⟩, _, _⟩ := stN_inv (a := a) (s := s) (h := h) (wn := wn) (x0 := x0) (v0 := 0) (l := l) ok.2.2.1.1 ⟨Int.le_refl _, by decide⟩ n hl i (Nat.le_of_lt hin)
    have hge := hl i hin
    have hst := invS_step (wn := wn) ok v0 v1 p0 hge hI
    have hro := rd_outs s h d a wn x0 0 l n i hin
    unfold outD at hro
    have hnext : stN s h d a wn x0 0 l (i + 1) = stepD s h d a wn (stN s h d a wn x0 0 l i) (rd_T39 l i) := rfl
    have w3 := w_idx hi1
    rw [hnext] at ih'
    have hlen : (i : Int) < ((outsN s h d a wn x0 0 l n).length : Int) := by rw [outsN_length]; exact natI_lt hin
    rw [laws_FnSafe.l0, if_pos (natI_lt hin), if_pos (Int.natCast_nonneg i), if_pos (show (i : Int) < (l.length : Int) by rw [hln]; exact natI_lt hin)]
    clear hnext
    have x3 : (stN s h d a wn x0 0 l i).x ≤ 100000000 := x_le x2 hx2 hi1
    have x4 : 0 ≤ (stN s h d a wn x0 0 l i).x := Int.le_trans hx0 x1
    generalize stN s h d a wn x0 0 l i = P at *
    generalize rd_T39 l (i : Int) = e at *
    obtain ⟨⟨q0, q1⟩, ⟨q2, q3⟩, ⟨q4, q5⟩, ⟨q6, q7⟩, ⟨q8, q9⟩, _⟩ := id hge
    have w0' : 0 ≤ P.v + e.f2 := Int.add_nonneg v0 q4
    have w1' : P.v + e.f2 ≤ 10000 := Int.add_le_add v1 q5
    have w4 : wrap64 (P.v + e.f2) = P.v + e.f2 := w_va v0 (Int.le_trans v1 (by decide)) q4 (Int.le_trans q5 (by decide))
    have w5 : wrap64 (e.f4 - P.x) = e.f4 - P.x := w_vs q8 q9 x4 x3
    have w6 : wrap64 (e.f4 - P.x - e.f1) = e.f4 - (P.x + e.f1) := w_room q8 q9 x4 x3 q2 q3
    have hW : impl_Worst.f (q + 3) s h d a wn (P.v + e.f2) = some (Dm.worstM h d a (P.v + e.f2)) := by
      unfold impl_Worst.f
      rw [impl_BrakesOk.is, decide_eq_true ok, impl_in.is, decide_eq_true ⟨w0', w1'⟩]
      simp only [Option.bind_some, if_true]
      rw [impl_worst.is s h d a wn (P.v + e.f2) ok w0' w1' (q + 3) hbig.out]
      rfl
    rw [w4, w5, w6, hW]
    simp only [Option.bind_some]
    have rest : ∀ E2 : Int, invS h d a (stepD s h d a wn P e) E2 → laws_FnSafe.j3 (q + 2) (outsN s h d a wn x0 0 l n) E2 P.x (i : Int) l (n : Int) (i : Int) s h d a wn = some true := by
      intro E2 hI2
      have hsp := hst.2
      have hsp2 := (speedD_in s h d a wn P e).2
      have hrem := Dm.worstN_ge a h ha hh (d - (stepD s h d a wn P e).hard).toNat (stepD s h d a wn P e).v hsp
      have h1 : P.x + speedD s h d a wn P e + Dm.worstN (d - (stepD s h d a wn P e).hard).toNat (stepD s h d a wn P e).v a h ≤ E2 := hI2.1
      have hle : P.x + speedD s h d a wn P e ≤ E2 := Int.le_trans (Int.le_add_of_nonneg_right hrem) h1
      have w7 : wrap64 (P.x + speedD s h d a wn P e) = P.x + speedD s h d a wn P e := w_va x4 x3 hsp (Int.le_trans hsp2 (by decide))
      have go := ih' E2 hI2
      rw [laws_FnSafe.j3, if_pos (Int.natCast_nonneg i), if_pos hlen, hro]
      dsimp only
      rw [if_neg (Int.not_lt.mpr hle), w7, if_pos rfl, laws_FnSafe.j4, decide_eq_false (Int.not_lt.mpr hsp), if_neg (by decide), if_pos (Int.natCast_nonneg i), if_pos hlen, hro, w3]
      exact go
    by_cases hk : Dm.worstM h d a (P.v + e.f2) ≤ e.f4 - (P.x + e.f1)
    · have hk2 : keptM h d a (P.x + e.f1) (P.v + e.f2) e.f4 = true := decide_eq_true hk
      have hge0 := Dm.worstM_ge h d a (P.v + e.f2) hh ha w0'
      rw [if_pos hk, decide_eq_true (nn4 hge0 hk x4 q2), laws_FnSafe.j2, if_pos rfl]
      have h1 := hst.1
      rw [if_pos hk2] at h1
      exact rest e.f4 h1
    · have hk2 : ¬ keptM h d a (P.x + e.f1) (P.v + e.f2) e.f4 = true := fun z => hk (of_decide_eq_true z)
      rw [if_neg hk, laws_FnSafe.j2, if_neg (by decide)]
      have h1 := hst.1
      rw [if_neg hk2] at h1
      exact rest E h1

theorem FnSafe : laws_FnSafe.Pure := by
  intro l0 l1 _ _ hb _ _ hb1
  refine ⟨30000, ?_⟩
  unfold laws_FnSafe.f
  obtain ⟨q, hq⟩ : ∃ q, 30000 = q + 1 := ⟨29999, rfl⟩
  have hj : ∀ c : Bool, laws_FnSafe.j0 30000 l0 l1 c = some true := by
    intro c
    rw [hq]
    simp only [laws_FnSafe.j0]
    cases c with
    | true => rfl
    | false =>
      rw [if_neg (by decide)]
      obtain ⟨s, h, d, a, wn, o, e1, b, ho, hg⟩ := drives_ok (bytes_of hb) q (by omega)
      obtain ⟨x0, e2, x1, x2⟩ := wByte_ok (bytes_of hb1) 0 (by omega)
      rw [e1]
      simp only [Option.bind_some]
      rw [e2]
      simp only [Option.bind_some]
      rw [impl_Drive.is s h d a wn x0 0 (okB_of b) x1 (by omega) (by omega) o (by omega) hg q (by omega)]
      simp only [Option.bind_some, outsN_length]
      rw [if_pos trivial, show q = 29000 + 999 by omega]
      refine safe_l s h d a wn x0 x1 x2 b o o.length rfl ho hg o.length 0 999 29000 x0 (by omega) (by omega) (by omega) ⟨?_, fun hne => absurd rfl hne⟩
      show x0 + Dm.worstN (d - d).toNat 0 a h ≤ x0
      rw [show (d - d).toNat = 0 by omega]
      simp only [Dm.worstN]
      rw [Dm.brake_stop 0 h (by omega)]
      omega
  split
  · exact hj _
  · exact hj _

end Go.Proofs.Ytcfhjidddpoijaa.Pure
