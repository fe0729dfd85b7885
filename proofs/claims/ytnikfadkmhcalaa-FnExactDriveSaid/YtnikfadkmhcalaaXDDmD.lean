/- What the program's Drive tells, on numbers and lists; conditions: rounds enough. -/
import Derived.Test.YtnikfadkmhcalaaXDQ32
import Derived.Test.YtnikfadkmhcalaaXDQ8
import Derived.Test.YtnikfadkmhcalaaXDDmT
namespace Go.Proofs.Ytnikfadkmhcalaa.Q
open Go.RowKit Go.Proofs.YtnikfadkmhcalaaW.PrintWords Go.Proofs.YtnikfadkmhcalaaW.PrintLast Go.Proofs.YtnikfadkmhcalaaW.PrintMore
set_option linter.unusedSimpArgs false

theorem w_in {e : Int} (h0 : -1000000000000 ≤ e) (h1 : e ≤ 1000000000000) : wrap64 e = e := by unfold wrap64; omega
theorem lim_ok {a i n : Nat} (h : a = i) (hi : i < n) (hn : n ≤ 1000) : a < 2513169434916 := Nat.lt_of_lt_of_le (show a < 1001 by omega) (by decide)
theorem w_add {x z : Int} (h0 : 0 ≤ x) (h1 : x ≤ 100000000) (h2 : 0 ≤ z) (h3 : z ≤ 9900) : wrap64 (x + z) = x + z := w_in (by omega) (by omega)
theorem speed_in (x : Int) : 0 ≤ max 0 (min x 9900) ∧ max 0 (min x 9900) ≤ 9900 := by omega
theorem mx_mn (x : Int) : mx 0 (mn x 9900) = max 0 (min x 9900) := by unfold mx mn; omega

/-- is an act right -/
def goodAct (a : Int) (e : S44) : Prop := (-1000 ≤ e.f0 ∧ e.f0 ≤ a) ∧ (0 ≤ e.f1 ∧ e.f1 ≤ 1000) ∧ (0 ≤ e.f2 ∧ e.f2 ≤ 100) ∧ (0 ≤ e.f3 ∧ e.f3 ≤ 1000) ∧ (-1 ≤ e.f4 ∧ e.f4 ≤ 100000000) ∧ (0 ≤ e.f5 ∧ e.f5 ≤ 10000)
instance (a : Int) (e : S44) : Decidable (goodAct a e) := by unfold goodAct; exact inferInstance

theorem impl_end.is (x : Int) : impl_end.f x = some (decide (-1 ≤ x ∧ x ≤ 100000000)) := by
  unfold impl_end.f
  rw [impl_in.is]
  rfl

theorem impl_ActOk.is (s h d a wn : Int) (e : S44) : impl_ActOk.f s h d a wn e.f0 e.f1 e.f2 e.f3 e.f4 e.f5 e.f6 = some (decide (Dm.okB s h d a wn ∧ goodAct a e)) := by
  unfold impl_ActOk.f goodAct
  simp only [impl_BrakesOk.is, impl_in.is, impl_end.is, Option.bind_some]
  by_cases c0 : Dm.okB s h d a wn <;> by_cases c1 : -1000 ≤ e.f0 ∧ e.f0 ≤ a <;> by_cases c2 : 0 ≤ e.f1 ∧ e.f1 ≤ 1000 <;> by_cases c3 : 0 ≤ e.f2 ∧ e.f2 ≤ 100 <;> by_cases c4 : 0 ≤ e.f3 ∧ e.f3 ≤ 1000 <;> by_cases c5 : -1 ≤ e.f4 ∧ e.f4 ≤ 100000000 <;> simp [c0, c1, c2, c3, c4, c5]

/-- where a drive stands: place, speed, ticks of the hard brake, the guard -/
structure DmS where
  x : Int
  v : Int
  hard : Int
  gs : Int
  ge : Int

def saidD (s h d a wn : Int) (p : DmS) (e : S44) : Bool × Int × Int × Int × Bool × Bool := tickM s h d a wn p.gs p.ge (p.x + e.f1) (p.v + e.f2) e.f4 e.f5 e.f6
def changeD (s h d : Int) (st hard : Int) (e : S44) : Int := if st = 3 then (if d ≤ hard then -h - e.f3 else e.f0) else if st = 2 then -s else e.f0
def speedD (s h d a wn : Int) (p : DmS) (e : S44) : Int := max 0 (min (p.v + changeD s h d (saidD s h d a wn p e).2.1 p.hard e) 9900)
def stepD (s h d a wn : Int) (p : DmS) (e : S44) : DmS :=
  ⟨p.x + speedD s h d a wn p e, speedD s h d a wn p e, if (saidD s h d a wn p e).2.1 = 3 then p.hard + 1 else 0, (saidD s h d a wn p e).2.1, (saidD s h d a wn p e).2.2.1⟩
def outD (s h d a wn : Int) (p : DmS) (e : S44) : S86 :=
  ⟨p.x + speedD s h d a wn p e, speedD s h d a wn p e, ⟨(saidD s h d a wn p e).1, ⟨(saidD s h d a wn p e).2.1, (saidD s h d a wn p e).2.2.1⟩, (saidD s h d a wn p e).2.2.2.1, (saidD s h d a wn p e).2.2.2.2.1, (saidD s h d a wn p e).2.2.2.2.2⟩⟩
/-- the state ahead of tick j -/
def stN (s h d a wn x0 v0 : Int) (l : List S44) : Nat → DmS
  | 0 => ⟨x0, v0, d, 3, -1⟩
  | j + 1 => stepD s h d a wn (stN s h d a wn x0 v0 l j) (rd_T44 l j)
def outsN (s h d a wn x0 v0 : Int) (l : List S44) (n : Nat) : List S86 := (List.range n).map fun j => outD s h d a wn (stN s h d a wn x0 v0 l j) (rd_T44 l j)
theorem outsN_succ (s h d a wn x0 v0 : Int) (l : List S44) (n : Nat) : outsN s h d a wn x0 v0 l (n + 1) = outsN s h d a wn x0 v0 l n ++ [outD s h d a wn (stN s h d a wn x0 v0 l n) (rd_T44 l n)] := by
  unfold outsN
  rw [List.range_succ, List.map_append]
  rfl
theorem outsN_length (s h d a wn x0 v0 : Int) (l : List S44) (n : Nat) : (outsN s h d a wn x0 v0 l n).length = n := by unfold outsN; simp

theorem tickM_end (s h d a wn gs ge hi sp en li : Int) (ack : Bool) : (tickM s h d a wn gs ge hi sp en li ack).2.2.1 = en := by
  unfold tickM
  split
  · rfl
  · split <;> rfl
theorem tickM_state (s h d a wn gs ge hi sp en li : Int) (ack : Bool) : 0 ≤ (tickM s h d a wn gs ge hi sp en li ack).2.1 ∧ (tickM s h d a wn gs ge hi sp en li ack).2.1 ≤ 3 := by
  unfold tickM
  split
  · simp
  · split
    · split <;> simp
    · simp

def invD (d x0 : Int) (j : Nat) (p : DmS) : Prop := (0 ≤ p.v ∧ p.v ≤ 9900) ∧ (x0 ≤ p.x ∧ p.x ≤ x0 + 9900 * j) ∧ (0 ≤ p.hard ∧ p.hard ≤ d + j) ∧ (-1 ≤ p.ge ∧ p.ge ≤ 100000000) ∧ (0 ≤ p.gs ∧ p.gs ≤ 3)

theorem invD_step {s h d a wn x0 : Int} {j : Nat} {p : DmS} {e : S44} (hp : invD d x0 j p) (he : goodAct a e) : invD d x0 (j + 1) (stepD s h d a wn p e) := by
  obtain ⟨⟨v0, v1⟩, ⟨x1, x2⟩, ⟨h0, h1⟩, _, _⟩ := hp
  have hs : 0 ≤ speedD s h d a wn p e ∧ speedD s h d a wn p e ≤ 9900 := by unfold speedD; omega
  have hen := tickM_end s h d a wn p.gs p.ge (p.x + e.f1) (p.v + e.f2) e.f4 e.f5 e.f6
  have hst := tickM_state s h d a wn p.gs p.ge (p.x + e.f1) (p.v + e.f2) e.f4 e.f5 e.f6
  have hge : (saidD s h d a wn p e).2.2.1 = e.f4 := hen
  refine ⟨hs, ?_, ?_, ?_, hst⟩
  · show x0 ≤ p.x + speedD s h d a wn p e ∧ p.x + speedD s h d a wn p e ≤ x0 + 9900 * ((j + 1 : Nat) : Int)
    omega
  · show 0 ≤ (if (saidD s h d a wn p e).2.1 = 3 then p.hard + 1 else 0) ∧ (if (saidD s h d a wn p e).2.1 = 3 then p.hard + 1 else 0) ≤ d + ((j + 1 : Nat) : Int)
    split <;> omega
  · show -1 ≤ (saidD s h d a wn p e).2.2.1 ∧ (saidD s h d a wn p e).2.2.1 ≤ 100000000
    rw [hge]
    exact he.2.2.2.2.1

theorem stN_inv {s h d a wn x0 v0 : Int} {l : List S44} (hd : 0 ≤ d) (hv : 0 ≤ v0 ∧ v0 ≤ 9900) (n : Nat) (hl : ∀ j : Nat, j < n → goodAct a (rd_T44 l j)) : ∀ j : Nat, j ≤ n → invD d x0 j (stN s h d a wn x0 v0 l j)
  | 0 => fun _ => by
    refine ⟨hv, ?_, ?_, ?_, ?_⟩ <;> simp [stN]
    exact hd
  | j + 1 => fun hj => invD_step (stN_inv hd hv n hl j (by omega)) (hl j (by omega))

/-- one tick of the loop -/
theorem impl_Drive.step (s h d a wn x0 : Int) (ok : Dm.okB s h d a wn) (hx0 : 0 ≤ x0) (hx1 : x0 ≤ 1000000) (l : List S44) (n i : Nat) (hn : n ≤ 1000) (hln : l.length = n) (hi : i < n) (p : DmS) (hp : invD d x0 i p)
    (he : goodAct a (rd_T44 l i)) (out : List S86) (hout : out.length = i) (q : Nat) (hq : 20120 < q) :
    impl_Drive.l0 (q + 2) p.x p.v p.hard out l n i s h d a wn p.gs p.ge =
      impl_Drive.l0 q (stepD s h d a wn p (rd_T44 l i)).x (stepD s h d a wn p (rd_T44 l i)).v (stepD s h d a wn p (rd_T44 l i)).hard (out ++ [outD s h d a wn p (rd_T44 l i)]) l n ((i + 1 : Nat) : Int) s h d a wn (stepD s h d a wn p (rd_T44 l i)).gs (stepD s h d a wn p (rd_T44 l i)).ge := by
  obtain ⟨⟨v0, v1⟩, ⟨x1, x2⟩, ⟨h0, h1⟩, ⟨g0, g1⟩, _⟩ := hp
  have px0 : 0 ≤ p.x := by omega
  have px1 : p.x ≤ 100000000 := by omega
  have hact := impl_ActOk.is s h d a wn (rd_T44 l i)
  rw [decide_eq_true ⟨ok, he⟩] at hact
  obtain ⟨⟨w0, w1⟩, ⟨o0, o1⟩, ⟨f0, f1⟩, ⟨m0, m1⟩, ⟨e0, e1⟩, ⟨l0, l1⟩⟩ := he
  obtain ⟨⟨s1, s2⟩, ⟨hh1, hh2⟩, ⟨d1, d2⟩, ⟨a1, a2⟩, ⟨wn1, wn2⟩⟩ := id ok
  simp only [impl_Drive.l0]
  rw [if_pos (show (i : Int) < (n : Int) by omega), if_pos (show (0 : Int) ≤ (i : Int) by omega), if_pos (show (i : Int) < (l.length : Int) by omega), hact]
  simp only [Option.bind_some, if_true]
  have a1' : wrap64 (p.x + (rd_T44 l i).f1) = p.x + (rd_T44 l i).f1 := w_in (by omega) (by omega)
  have a2' : wrap64 (p.v + (rd_T44 l i).f2) = p.v + (rd_T44 l i).f2 := w_in (by omega) (by omega)
  rw [a1', a2', impl_tick.is s h d a wn p.gs p.ge _ _ _ _ _ ok (by omega) (by omega) (by omega) (by omega) (by omega) (by omega) (q + 1) (by omega)]
  simp only [Option.bind_some]
  have ht : tickM s h d a wn p.gs p.ge (p.x + (rd_T44 l i).f1) (p.v + (rd_T44 l i).f2) (rd_T44 l i).f4 (rd_T44 l i).f5 (rd_T44 l i).f6 = saidD s h d a wn p (rd_T44 l i) := rfl
  rw [ht]
  have b1 : wrap64 (p.hard + 1) = p.hard + 1 := w_in (by omega) (by omega)
  have b2 : wrap64 (-h) = -h := w_in (by omega) (by omega)
  have b3 : wrap64 (-h - (rd_T44 l i).f3) = -h - (rd_T44 l i).f3 := w_in (by omega) (by omega)
  have b4 : wrap64 (-s) = -s := w_in (by omega) (by omega)
  have b5 : wrap64 ((i : Int) + 1) = ((i + 1 : Nat) : Int) := w_in (by omega) (by omega)
  have b6 : out.length < 2513169434916 := lim_ok hout hi hn
  have key : ∀ c : Int, c = changeD s h d (saidD s h d a wn p (rd_T44 l i)).2.1 p.hard (rd_T44 l i) → -2000 ≤ c → c ≤ 1000 →
      mx 0 (mn (wrap64 (p.v + c)) 9900) = speedD s h d a wn p (rd_T44 l i) ∧ wrap64 (p.x + mx 0 (mn (wrap64 (p.v + c)) 9900)) = p.x + speedD s h d a wn p (rd_T44 l i) := by
    intro c hc c0 c1
    have e1 : wrap64 (p.v + c) = p.v + c := w_in (by omega) (by omega)
    have e2 : mx 0 (mn (p.v + c) 9900) = speedD s h d a wn p (rd_T44 l i) := by rw [mx_mn]; unfold speedD; rw [← hc]
    have hs := speed_in (p.v + c)
    rw [← mx_mn, e2] at hs
    rw [e1, e2]
    exact ⟨rfl, w_add px0 px1 hs.1 hs.2⟩
  clear hact ht
  rw [b1, b2, b3, b4]
  simp only [impl_Drive.j2]
  by_cases c3 : (saidD s h d a wn p (rd_T44 l i)).2.1 = 3
  · simp only [if_pos c3]
    by_cases c4 : p.hard ≥ d
    · obtain ⟨k1, k2⟩ := key (-h - (rd_T44 l i).f3) (by unfold changeD; rw [if_pos c3, if_pos c4]) (by omega) (by omega)
      rw [if_pos c4, if_pos b6, b5, k2, k1]
      simp only [stepD, outD, if_pos c3]
    · obtain ⟨k1, k2⟩ := key (rd_T44 l i).f0 (by unfold changeD; rw [if_pos c3, if_neg c4]) (by omega) (by omega)
      rw [if_neg c4, if_pos b6, b5, k2, k1]
      simp only [stepD, outD, if_pos c3]
  · simp only [if_neg c3]
    by_cases c4 : (saidD s h d a wn p (rd_T44 l i)).2.1 = 2
    · obtain ⟨k1, k2⟩ := key (-s) (by unfold changeD; rw [if_neg c3, if_pos c4]) (by omega) (by omega)
      rw [if_pos c4, if_pos b6, b5, k2, k1]
      simp only [stepD, outD, if_neg c3]
    · obtain ⟨k1, k2⟩ := key (rd_T44 l i).f0 (by unfold changeD; rw [if_neg c3, if_neg c4]) (by omega) (by omega)
      rw [if_neg c4, if_pos b6, b5, k2, k1]
      simp only [stepD, outD, if_neg c3]

/-- the loop, where all acts are right -/
theorem impl_Drive.all (s h d a wn x0 v0 : Int) (ok : Dm.okB s h d a wn) (hx0 : 0 ≤ x0) (hx1 : x0 ≤ 1000000) (hv : 0 ≤ v0 ∧ v0 ≤ 9900) (l : List S44) (n : Nat) (hn : n ≤ 1000) (hln : l.length = n)
    (hl : ∀ j : Nat, j < n → goodAct a (rd_T44 l j)) : ∀ (D i q : Nat), i + D = n → 2 * D + 20125 < q →
    impl_Drive.l0 q (stN s h d a wn x0 v0 l i).x (stN s h d a wn x0 v0 l i).v (stN s h d a wn x0 v0 l i).hard (outsN s h d a wn x0 v0 l i) l n i s h d a wn (stN s h d a wn x0 v0 l i).gs (stN s h d a wn x0 v0 l i).ge = some (outsN s h d a wn x0 v0 l n) := by
  intro D
  induction D with
  | zero =>
    intro i q hi hq
    obtain ⟨q, rfl⟩ : ∃ z, q = z + 1 := ⟨q - 1, by omega⟩
    obtain rfl : i = n := by omega
    simp only [impl_Drive.l0]
    rw [if_neg (by omega)]
  | succ D ih =>
    intro i q hi hq
    obtain ⟨q, rfl⟩ : ∃ z, q = z + 2 := ⟨q - 2, by omega⟩
    have hd := ok.2.2.1.1
    rw [impl_Drive.step s h d a wn x0 ok hx0 hx1 l n i hn hln (by omega) _ (stN_inv hd hv n hl i (by omega)) (hl i (by omega)) _ (outsN_length ..) q (by omega), ← outsN_succ]
    exact ih (i + 1) q (by omega) (by omega)

end Go.Proofs.Ytnikfadkmhcalaa.Q
