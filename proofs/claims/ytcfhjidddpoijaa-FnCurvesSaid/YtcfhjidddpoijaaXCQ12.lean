/- Walks: a call of each function answers what its Lean function tells; no condition but that it tells something. -/
import Derived.Test.YtcfhjidddpoijaaXCQ0
import Derived.Test.YtcfhjidddpoijaaXCQ4
import Derived.Test.YtcfhjidddpoijaaXCQ5
import Derived.Test.YtcfhjidddpoijaaXCQ6
namespace Go.Proofs.Ytcfhjidddpoijaa.Q
open Go.RowKit Go.Proofs.YtcfhjidddpoijaaW.PrintWords Go.Proofs.YtcfhjidddpoijaaW.PrintLast Go.Proofs.YtcfhjidddpoijaaW.PrintMore
attribute [local go_sem] max2_int min2_int max_two min_two max_three min_three max_four min_four   -- for this text's walks alone
set_option linter.unusedVariables false
set_option linter.unusedSimpArgs false

/-! ### impl_MostHard: function 13 -/
set_option maxHeartbeats 1600000 in
set_option maxRecDepth 100000 in
theorem impl_MostHard.lit (B R base : Nat) (s h d a wn room v : Int) (w : World) (ok : Dm.okB s h d a wn) (hv : 0 ≤ v) (hv2 : v ≤ 10000) (H : Aside0 (DmHolds B R base s h d a wn room w)) :
  Calls Try.prog 35 #[.int .i64 v, .pointer (some ⟨B, 0, none⟩), .pointer (some ⟨R, 0, none⟩)] w fun e w' => e = .returned (.bool (decide (Dm.worstM h d a v ≤ room))) ∧ Below w.heap.size w w' := by
 have hw := MK (impl_worst.is s h d a wn v ok hv hv2 20101 (by omega))
 clear ok
 obtain ⟨⟨c0, c1, c2, c3, c4, c5⟩, hB, hR, hs⟩ := H.out
 have hB' : B < w.heap.size := Nat.lt_of_lt_of_le hB hs
 have hR' : R < w.heap.size := Nat.lt_of_lt_of_le hR hs
 have B0 := Below.refl w.heap.size w
 clear H hs hB hR
 have hu := Try.underlying24
 go_enter Try.func35, Try.ntmps35
 go_wp2_with fail
 go_region_held3 (fun w' => w'.cell? ⟨B, 0, none⟩ = some (.int .i64 s) ∧ w'.cell? ⟨B, 1, none⟩ = some (.int .i64 h) ∧ w'.cell? ⟨B, 2, none⟩ = some (.int .i64 d) ∧ w'.cell? ⟨B, 3, none⟩ = some (.int .i64 a) ∧ w'.cell? ⟨B, 4, none⟩ = some (.int .i64 wn) ∧ w'.cell? ⟨R, 0, none⟩ = some (.int .i64 room) ∧ Below w.heap.size w w')
  (first | exact ⟨c0, c1, c2, c3, c4, c5, B0.drew⟩ | exact dm_held ‹_› hb hB' hR')
  (first | (go_at_call 33; refine (impl_worst.calls 20101 s h d a wn v _ _ hw.out).mono ?_; rintro e w' ⟨rfl, hb⟩))
 all_goals go_wp2
 all_goals go_ret
 all_goals exact ⟨rfl, dm_below ‹_›⟩

set_option maxHeartbeats 1600000 in
set_option maxRecDepth 100000 in
theorem impl_most.at35 (B R base : Nat) (s h d a wn room n : Int) (good : Int → Bool) (w : World) (hn : 0 ≤ n) (hn2 : n ≤ 10000) (hf : Aside0 (Dm.Falls good)) (H : Aside0 (DmHolds B R base s h d a wn room w))
  (hg : Aside0 (∀ (v : Int) (wr : World), 0 ≤ v → v ≤ 10000 → Aside0 (DmHolds B R base s h d a wn room wr) →
   Calls Try.prog 35 #[.int .i64 v, .pointer (some ⟨B, 0, none⟩), .pointer (some ⟨R, 0, none⟩)] wr fun e w' => e = .returned (.bool (good v)) ∧ Below wr.heap.size wr w')) :
  Calls Try.prog 34 #[.int .i64 n, .func (.func 35) #[] #[.pointer (some ⟨B, 0, none⟩), .pointer (some ⟨R, 0, none⟩)]] w fun e w' => e = .returned (.int .i64 (Dm.top good (n + 1).toNat)) ∧ Below w.heap.size w w' := by
 go_enter Try.func34, Try.ntmps34
 go_wp2_with fail
 go_loopw [5, 6] (fun lo hi wr => ∃ x y : Int, lo = .int .i64 x ∧ hi = .int .i64 y ∧ -1 ≤ x ∧ x ≤ y ∧ y ≤ n ∧ Aside0 (DmInv good (n + 1).toNat x y) ∧ Aside0 (DmHolds B R base s h d a wn room wr) ∧ Aside0 (Below w.heap.size w wr)) (fun lo hi _ => (intOf hi - intOf lo).toNat)
 case atStart => exact ⟨-1, n, rfl, rfl, by omega, by omega, by omega, ⟨fun h => by omega, fun v h1 h2 => by omega⟩, H, ⟨Below.refl _ _⟩⟩
 case round =>
  obtain ⟨x, y, rfl, rfl, hx, hxy, hy, IV, HH, HB⟩ := hrel
  by_cases hlt : x < y
  ·cases hgm : good ((x + y + 1) / 2) with
   | true =>
    have G := MK hgm
    clear hgm
    go_wp2_with (first | (go_at_call 35; refine ((hg.out ((x + y + 1) / 2) _ (by omega) (by omega) HH).mono ?_); rw [G.out]; rintro e w' ⟨rfl, hb⟩))
    go_roundw
    case rel => exact ⟨(x + y + 1) / 2, y, rfl, rfl, by omega, by omega, by omega, ⟨IV.out.up G.out⟩, ⟨HH.out.below hb HH.out.2.2.2⟩, ⟨HB.out.trans (hb.mono HB.out.size)⟩⟩
    case measure => simp [intOf]; omega
   | false =>
    have G := MK hgm
    clear hgm
    go_wp2_with (first | (go_at_call 35; refine ((hg.out ((x + y + 1) / 2) _ (by omega) (by omega) HH).mono ?_); rw [G.out]; rintro e w' ⟨rfl, hb⟩))
    go_roundw
    case rel => exact ⟨x, (x + y + 1) / 2 - 1, rfl, rfl, by omega, by omega, by omega, ⟨IV.out.down hf.out G.out⟩, ⟨HH.out.below hb HH.out.2.2.2⟩, ⟨HB.out.trans (hb.mono HB.out.size)⟩⟩
    case measure => simp [intOf]; omega
  ·have he := IV.out.done (by omega) hx (by omega)
   have HE := MK he
   clear he
   go_wp2_with fail
   go_ret
   exact ⟨dm_ret HE.out, HB.out⟩

def impl_MostHard.f (a0_0 : Int) (a0_1 : Int) (a0_2 : Int) (a0_3 : Int) (a0_4 : Int) (a1 : Int) : Option (Int) := some (Dm.mostHardM a0_0 a0_1 a0_2 a0_3 a0_4 a1)
set_option maxHeartbeats 1600000 in
set_option maxRecDepth 100000 in
theorem impl_MostHard.calls (a0_0 : Int) (a0_1 : Int) (a0_2 : Int) (a0_3 : Int) (a0_4 : Int) (a1 : Int) (r : Int) (w : World) (h : impl_MostHard.f a0_0 a0_1 a0_2 a0_3 a0_4 a1 = some r) :
  Calls Try.prog 13 #[.agg #[.int .i64 a0_0, .int .i64 a0_1, .int .i64 a0_2, .int .i64 a0_3, .int .i64 a0_4], .int .i64 a1] w fun e w' => e = .returned (.int .i64 r) ∧ Below w.heap.size w w' := by
 obtain rfl := Option.some.inj h
 clear h
 have hmf : ∀ (fn : Fn) (first cap : Array Value) (w : World), (Instr.makeFunc fn first cap).run Try.prog w = .ok (.func fn first cap) w := fun _ _ _ _ => rfl
 have hu := Try.underlying24
 by_cases ok : Dm.okB a0_0 a0_1 a0_2 a0_3 a0_4
 ·have hF : Aside0 (impl_BrakesOk.f a0_0 a0_1 a0_2 a0_3 a0_4 = some true) := ⟨by rw [impl_BrakesOk.is, decide_eq_true ok]⟩
  by_cases rm : 0 ≤ a1 ∧ a1 ≤ 100000000
  ·have hI : Aside0 (impl_in.f a1 0 100000000 = some true) := ⟨by rw [impl_in.is, decide_eq_true rm]⟩
   have hE : Aside0 (Dm.mostHardM a0_0 a0_1 a0_2 a0_3 a0_4 a1 = Dm.top (fun v => decide (Dm.worstM a0_1 a0_2 a0_3 v ≤ a1)) 10001) := ⟨by unfold Dm.mostHardM; rw [if_pos ⟨ok, rm⟩]⟩
   have hfl : Aside0 (Dm.Falls (fun v => decide (Dm.worstM a0_1 a0_2 a0_3 v ≤ a1))) := ⟨Dm.worst_falls _ _ _ _ (by have := ok.1; have := ok.2.1; omega)⟩
   have OK := MK ok
   clear ok rm
   go_enter Try.func13, Try.ntmps13
   go_wp2_with (first
    | (go_at_call 29; refine (impl_BrakesOk.calls a0_0 a0_1 a0_2 a0_3 a0_4 true _ hF.out).mono ?_; rintro e w1 ⟨rfl, hb⟩; have HH := MK (dm_start w w1 _ _ _ _ _ _ _ _ hb); have HB := MK (dm_two hb); clear hb; have c5 := HH.out.1.2.2.2.2.2)
    | (go_at_call 30; refine (impl_in.calls a1 0 100000000 true _ hI.out).mono ?_; rintro e w2 ⟨rfl, hd⟩; have HB2 := MK (dm_on HB.out hd.below HB.out.size); have HH2 := MK (HH.out.below hd.below HH.out.2.2.2); clear hd)
    | (go_at_call 34; refine (impl_most.at35 w.heap.size (w.heap.size + 1) (w.heap.size + 2) a0_0 a0_1 a0_2 a0_3 a0_4 a1 10000 _ _ (by omega) (by omega) hfl HH2 ⟨fun v wr h1 h2 h3 => impl_MostHard.lit _ _ _ a0_0 a0_1 a0_2 a0_3 a0_4 a1 v wr OK.out h1 h2 h3⟩).mono ?_; rintro e w3 ⟨rfl, hb⟩; have HB3 := MK (dm_on HB2.out hb HB2.out.size); clear hb))
   go_ret
   exact ⟨dm_ret hE.out, HB3.out⟩
  ·have hI : Aside0 (impl_in.f a1 0 100000000 = some false) := ⟨by rw [impl_in.is, decide_eq_false rm]⟩
   have hE : Aside0 (Dm.mostHardM a0_0 a0_1 a0_2 a0_3 a0_4 a1 = -1) := ⟨by unfold Dm.mostHardM; rw [if_neg (fun z => rm z.2)]⟩
   clear ok rm
   go_enter Try.func13, Try.ntmps13
   go_wp2_with (first
    | (go_at_call 29; refine (impl_BrakesOk.calls a0_0 a0_1 a0_2 a0_3 a0_4 true _ hF.out).mono ?_; rintro e w1 ⟨rfl, hb⟩; have HH := MK (dm_start w w1 _ _ _ _ _ _ _ _ hb); have HB := MK (dm_two hb); clear hb; have c5 := HH.out.1.2.2.2.2.2)
    | (go_at_call 30; refine (impl_in.calls a1 0 100000000 false _ hI.out).mono ?_; rintro e w2 ⟨rfl, hd⟩; have HB2 := MK (dm_on HB.out hd.below HB.out.size); clear hd))
   go_ret
   exact ⟨dm_ret hE.out, HB2.out⟩
 ·have hF : Aside0 (impl_BrakesOk.f a0_0 a0_1 a0_2 a0_3 a0_4 = some false) := ⟨by rw [impl_BrakesOk.is, decide_eq_false ok]⟩
  have hE : Aside0 (Dm.mostHardM a0_0 a0_1 a0_2 a0_3 a0_4 a1 = -1) := ⟨by unfold Dm.mostHardM; rw [if_neg (fun z => ok z.1)]⟩
  clear ok
  go_enter Try.func13, Try.ntmps13
  go_wp2_with (first
   | (go_at_call 29; refine (impl_BrakesOk.calls a0_0 a0_1 a0_2 a0_3 a0_4 false _ hF.out).mono ?_; rintro e w1 ⟨rfl, hb⟩; have HB := MK (dm_two hb); clear hb))
  go_ret
  exact ⟨dm_ret hE.out, HB.out⟩

/-! ### spec_l1in: function 38 -/
def spec_l1in.f (a0 : Int) (a1 : Int) (a2 : Int) : Option (Bool) := if a0 ≥ a1 then (some (decide (a0 ≤ a2))) else (some false)
set_option maxHeartbeats 8000000 in
set_option maxRecDepth 100000 in
theorem spec_l1in.calls (a0 : Int) (a1 : Int) (a2 : Int) (r : Bool) (w : World) (h : spec_l1in.f a0 a1 a2 = some r) :
  Calls Try.prog 38 #[.int .i64 a0, .int .i64 a1, .int .i64 a2] w fun e w' => e = .returned (.bool r) ∧ Drawn0 w w' := by
 have H : (if a0 ≥ a1 then (some (decide (a0 ≤ a2))) else (some false)) = some r := h
 clear h
 by_cases c4 : a0 ≥ a1
 ·rw [if_pos c4] at H
  have c4b0 : decide (a1 ≤ a0) = true := decide_eq_true c4
  clear c4
  obtain rfl := Option.some.inj H
  go_enter Try.func38, Try.ntmps38
  go_wp2
  go_ret
  exact ⟨by first | rfl | (simp; done) | (simp [*]; done), by repeat (first | exact Drawn0.refl _ | apply Drawn0.step)⟩
 ·rw [if_neg c4] at H
  have c4b0 : decide (a1 ≤ a0) = false := decide_eq_false c4
  clear c4
  obtain rfl := Option.some.inj H
  go_enter Try.func38, Try.ntmps38
  go_wp2
  go_ret
  exact ⟨by first | rfl | (simp; done) | (simp [*]; done), by repeat (first | exact Drawn0.refl _ | apply Drawn0.step)⟩

/-! ### spec_BrakesOk: function 37 -/
def spec_BrakesOk.f (a0_0 : Int) (a0_1 : Int) (a0_2 : Int) (a0_3 : Int) (a0_4 : Int) : Option (Bool) := (spec_l1in.f a0_0 10 1000).bind fun t332 => (if t332 = true then ((spec_l1in.f a0_1 a0_0 1000).bind fun t333 => (if t333 = true then ((spec_l1in.f a0_2 0 20).bind fun t334 => (if t334 = true then ((spec_l1in.f a0_3 0 100).bind fun t335 => (if t335 = true then ((spec_l1in.f a0_4 0 60).bind fun t336 => (some t336)) else (some false))) else (some false))) else (some false))) else (some false))
set_option maxHeartbeats 8000000 in
set_option maxRecDepth 100000 in
theorem spec_BrakesOk.calls (a0_0 : Int) (a0_1 : Int) (a0_2 : Int) (a0_3 : Int) (a0_4 : Int) (r : Bool) (w : World) (h : spec_BrakesOk.f a0_0 a0_1 a0_2 a0_3 a0_4 = some r) :
  Calls Try.prog 37 #[.agg #[.int .i64 a0_0, .int .i64 a0_1, .int .i64 a0_2, .int .i64 a0_3, .int .i64 a0_4]] w fun e w' => e = .returned (.bool r) ∧ Below w.heap.size w w' := by
 have hu24 := Try.underlying24
 have HB := MK (Below.refl w.heap.size w)
 have H : ((spec_l1in.f a0_0 10 1000).bind fun t332 => (if t332 = true then ((spec_l1in.f a0_1 a0_0 1000).bind fun t333 => (if t333 = true then ((spec_l1in.f a0_2 0 20).bind fun t334 => (if t334 = true then ((spec_l1in.f a0_3 0 100).bind fun t335 => (if t335 = true then ((spec_l1in.f a0_4 0 60).bind fun t336 => (some t336)) else (some false))) else (some false))) else (some false))) else (some false))) = some r := h
 clear h
 replace H := Option.bind_eq_some_iff.mp H
 obtain ⟨t332, A20, H⟩ := H
 replace H : (if t332 = true then ((spec_l1in.f a0_1 a0_0 1000).bind fun t333 => (if t333 = true then ((spec_l1in.f a0_2 0 20).bind fun t334 => (if t334 = true then ((spec_l1in.f a0_3 0 100).bind fun t335 => (if t335 = true then ((spec_l1in.f a0_4 0 60).bind fun t336 => (some t336)) else (some false))) else (some false))) else (some false))) else (some false)) = some r := H
 have A2 := MK A20
 clear A20
 by_cases c3 : t332 = true
 ·subst c3
  have H1 : ((spec_l1in.f a0_1 a0_0 1000).bind fun t333 => (if t333 = true then ((spec_l1in.f a0_2 0 20).bind fun t334 => (if t334 = true then ((spec_l1in.f a0_3 0 100).bind fun t335 => (if t335 = true then ((spec_l1in.f a0_4 0 60).bind fun t336 => (some t336)) else (some false))) else (some false))) else (some false))) = some r := by rw [if_pos rfl] at H; exact H
  clear H
  have H := H1
  clear H1
  replace H := Option.bind_eq_some_iff.mp H
  obtain ⟨t333, A40, H⟩ := H
  replace H : (if t333 = true then ((spec_l1in.f a0_2 0 20).bind fun t334 => (if t334 = true then ((spec_l1in.f a0_3 0 100).bind fun t335 => (if t335 = true then ((spec_l1in.f a0_4 0 60).bind fun t336 => (some t336)) else (some false))) else (some false))) else (some false)) = some r := H
  have A4 := MK A40
  clear A40
  by_cases c5 : t333 = true
  ·subst c5
   have H1 : ((spec_l1in.f a0_2 0 20).bind fun t334 => (if t334 = true then ((spec_l1in.f a0_3 0 100).bind fun t335 => (if t335 = true then ((spec_l1in.f a0_4 0 60).bind fun t336 => (some t336)) else (some false))) else (some false))) = some r := by rw [if_pos rfl] at H; exact H
   clear H
   have H := H1
   clear H1
   replace H := Option.bind_eq_some_iff.mp H
   obtain ⟨t334, A60, H⟩ := H
   replace H : (if t334 = true then ((spec_l1in.f a0_3 0 100).bind fun t335 => (if t335 = true then ((spec_l1in.f a0_4 0 60).bind fun t336 => (some t336)) else (some false))) else (some false)) = some r := H
   have A6 := MK A60
   clear A60
   by_cases c7 : t334 = true
   ·subst c7
    have H1 : ((spec_l1in.f a0_3 0 100).bind fun t335 => (if t335 = true then ((spec_l1in.f a0_4 0 60).bind fun t336 => (some t336)) else (some false))) = some r := by rw [if_pos rfl] at H; exact H
    clear H
    have H := H1
    clear H1
    replace H := Option.bind_eq_some_iff.mp H
    obtain ⟨t335, A80, H⟩ := H
    replace H : (if t335 = true then ((spec_l1in.f a0_4 0 60).bind fun t336 => (some t336)) else (some false)) = some r := H
    have A8 := MK A80
    clear A80
    by_cases c9 : t335 = true
    ·subst c9
     have H1 : ((spec_l1in.f a0_4 0 60).bind fun t336 => (some t336)) = some r := by rw [if_pos rfl] at H; exact H
     clear H
     have H := H1
     clear H1
     replace H := Option.bind_eq_some_iff.mp H
     obtain ⟨t336, A100, H⟩ := H
     replace H : (some t336) = some r := H
     have A10 := MK A100
     clear A100
     obtain rfl := Option.some.inj H
     go_enter Try.func37, Try.ntmps37
     go_wp2_with (first | ((with_reducible refine gate_dst (N := 1) rfl ?_); refine box_event ?hg (N := 1) ?hd (cs := #[.int .i64 a0_0, .int .i64 a0_1, .int .i64 a0_2, .int .i64 a0_3, .int .i64 a0_4]) (t := 24) ?hr ?_; (case hd => rfl); (case hg => rfl); (case hr => first | (go_simp; done) | (go_simp; rfl)); intro gb331 hg w11 hbox hb; have n0_ := MK (below_step (by repeat (first | (with_reducible first | exact HB.out | apply lA | apply lN | apply lD) | exact HB.out)) hb); have n1_ := MK (hbox); have n2_ := MK ((by rw [hg]; exact (below_size (by repeat (first | (with_reducible first | exact HB.out | apply lA | apply lN | apply lD) | exact HB.out))) : w.heap.size ≤ gb331)); have n3_ := MK ((by rw [hg]; exact (below_size (by repeat (first | (with_reducible first | exact HB.out | apply lA | apply lN | apply lD) | exact HB.out))) : w.heap.size ≤ gb331)); clear HB; have HB := n0_; have BK331 := n1_; have GW331 := n2_; have GE331 := n3_; clear n0_ n1_ n2_ n3_; clear hb hbox hg; obtain ⟨hcz12_0, hcz12_1, hcz12_2, hcz12_3, hcz12_4⟩ := bc5 BK331.out; obtain ⟨hfz12_0, hfz12_1, hfz12_2, hfz12_3, hfz12_4⟩ := bf5 BK331.out) | ((with_reducible refine gate_callee (f := 38) rfl ?_); refine goesL_ (some 5) rfl rfl Try.func38 (by kernel_rfl) rfl #[.int .i64 a0_0, .int .i64 10, .int .i64 1000] rfl (by (try simp only [List.map_toArray, List.map_cons, List.map_nil]); first | done | rfl | (simp only [List.length_drop, List.length_take]; rfl)) ?_; (with_reducible refine (spec_l1in.calls a0_0 10 1000 true _ A2.out).mono ?_); rintro e w' ⟨rfl, ⟨nd, rfl⟩⟩; refine ⟨_, rfl, ?_⟩) | (go_at_call 38; (with_reducible refine (spec_l1in.calls a0_1 a0_0 1000 true _ A4.out).mono ?_); rintro e w' ⟨rfl, ⟨nd, rfl⟩⟩) | (go_at_call 38; (with_reducible refine (spec_l1in.calls a0_2 0 20 true _ A6.out).mono ?_); rintro e w' ⟨rfl, ⟨nd, rfl⟩⟩) | (go_at_call 38; (with_reducible refine (spec_l1in.calls a0_3 0 100 true _ A8.out).mono ?_); rintro e w' ⟨rfl, ⟨nd, rfl⟩⟩) | (go_at_call 38; (with_reducible refine (spec_l1in.calls a0_4 0 60 t336 _ A10.out).mono ?_); rintro e w' ⟨rfl, ⟨nd, rfl⟩⟩))
     go_ret
     exact ⟨by first | rfl | (simp [errW_none, errW_some] <;> rfl) | (simp [*, errW_none, errW_some] <;> rfl), by repeat (first | (with_reducible first | exact HB.out | apply lA | apply lN | apply lD | refine lS ?_ GE331.out) | exact HB.out)⟩
    ·replace c9 := Bool.eq_false_iff.mpr c9
     subst c9
     have H1 : (some false) = some r := by rw [if_neg (show ¬ (false = true) by decide)] at H; exact H
     clear H
     have H := H1
     clear H1
     obtain rfl := Option.some.inj H
     go_enter Try.func37, Try.ntmps37
     go_wp2_with (first | ((with_reducible refine gate_dst (N := 1) rfl ?_); refine box_event ?hg (N := 1) ?hd (cs := #[.int .i64 a0_0, .int .i64 a0_1, .int .i64 a0_2, .int .i64 a0_3, .int .i64 a0_4]) (t := 24) ?hr ?_; (case hd => rfl); (case hg => rfl); (case hr => first | (go_simp; done) | (go_simp; rfl)); intro gb331 hg w13 hbox hb; have n0_ := MK (below_step (by repeat (first | (with_reducible first | exact HB.out | apply lA | apply lN | apply lD) | exact HB.out)) hb); have n1_ := MK (hbox); have n2_ := MK ((by rw [hg]; exact (below_size (by repeat (first | (with_reducible first | exact HB.out | apply lA | apply lN | apply lD) | exact HB.out))) : w.heap.size ≤ gb331)); have n3_ := MK ((by rw [hg]; exact (below_size (by repeat (first | (with_reducible first | exact HB.out | apply lA | apply lN | apply lD) | exact HB.out))) : w.heap.size ≤ gb331)); clear HB; have HB := n0_; have BK331 := n1_; have GW331 := n2_; have GE331 := n3_; clear n0_ n1_ n2_ n3_; clear hb hbox hg; obtain ⟨hcz14_0, hcz14_1, hcz14_2, hcz14_3, hcz14_4⟩ := bc5 BK331.out; obtain ⟨hfz14_0, hfz14_1, hfz14_2, hfz14_3, hfz14_4⟩ := bf5 BK331.out) | ((with_reducible refine gate_callee (f := 38) rfl ?_); refine goesL_ (some 5) rfl rfl Try.func38 (by kernel_rfl) rfl #[.int .i64 a0_0, .int .i64 10, .int .i64 1000] rfl (by (try simp only [List.map_toArray, List.map_cons, List.map_nil]); first | done | rfl | (simp only [List.length_drop, List.length_take]; rfl)) ?_; (with_reducible refine (spec_l1in.calls a0_0 10 1000 true _ A2.out).mono ?_); rintro e w' ⟨rfl, ⟨nd, rfl⟩⟩; refine ⟨_, rfl, ?_⟩) | (go_at_call 38; (with_reducible refine (spec_l1in.calls a0_1 a0_0 1000 true _ A4.out).mono ?_); rintro e w' ⟨rfl, ⟨nd, rfl⟩⟩) | (go_at_call 38; (with_reducible refine (spec_l1in.calls a0_2 0 20 true _ A6.out).mono ?_); rintro e w' ⟨rfl, ⟨nd, rfl⟩⟩) | (go_at_call 38; (with_reducible refine (spec_l1in.calls a0_3 0 100 false _ A8.out).mono ?_); rintro e w' ⟨rfl, ⟨nd, rfl⟩⟩))
     go_ret
     exact ⟨by first | rfl | (simp [errW_none, errW_some] <;> rfl) | (simp [*, errW_none, errW_some] <;> rfl), by repeat (first | (with_reducible first | exact HB.out | apply lA | apply lN | apply lD | refine lS ?_ GE331.out) | exact HB.out)⟩
   ·replace c7 := Bool.eq_false_iff.mpr c7
    subst c7
    have H1 : (some false) = some r := by rw [if_neg (show ¬ (false = true) by decide)] at H; exact H
    clear H
    have H := H1
    clear H1
    obtain rfl := Option.some.inj H
    go_enter Try.func37, Try.ntmps37
    go_wp2_with (first | ((with_reducible refine gate_dst (N := 1) rfl ?_); refine box_event ?hg (N := 1) ?hd (cs := #[.int .i64 a0_0, .int .i64 a0_1, .int .i64 a0_2, .int .i64 a0_3, .int .i64 a0_4]) (t := 24) ?hr ?_; (case hd => rfl); (case hg => rfl); (case hr => first | (go_simp; done) | (go_simp; rfl)); intro gb331 hg w15 hbox hb; have n0_ := MK (below_step (by repeat (first | (with_reducible first | exact HB.out | apply lA | apply lN | apply lD) | exact HB.out)) hb); have n1_ := MK (hbox); have n2_ := MK ((by rw [hg]; exact (below_size (by repeat (first | (with_reducible first | exact HB.out | apply lA | apply lN | apply lD) | exact HB.out))) : w.heap.size ≤ gb331)); have n3_ := MK ((by rw [hg]; exact (below_size (by repeat (first | (with_reducible first | exact HB.out | apply lA | apply lN | apply lD) | exact HB.out))) : w.heap.size ≤ gb331)); clear HB; have HB := n0_; have BK331 := n1_; have GW331 := n2_; have GE331 := n3_; clear n0_ n1_ n2_ n3_; clear hb hbox hg; obtain ⟨hcz16_0, hcz16_1, hcz16_2, hcz16_3, hcz16_4⟩ := bc5 BK331.out; obtain ⟨hfz16_0, hfz16_1, hfz16_2, hfz16_3, hfz16_4⟩ := bf5 BK331.out) | ((with_reducible refine gate_callee (f := 38) rfl ?_); refine goesL_ (some 5) rfl rfl Try.func38 (by kernel_rfl) rfl #[.int .i64 a0_0, .int .i64 10, .int .i64 1000] rfl (by (try simp only [List.map_toArray, List.map_cons, List.map_nil]); first | done | rfl | (simp only [List.length_drop, List.length_take]; rfl)) ?_; (with_reducible refine (spec_l1in.calls a0_0 10 1000 true _ A2.out).mono ?_); rintro e w' ⟨rfl, ⟨nd, rfl⟩⟩; refine ⟨_, rfl, ?_⟩) | (go_at_call 38; (with_reducible refine (spec_l1in.calls a0_1 a0_0 1000 true _ A4.out).mono ?_); rintro e w' ⟨rfl, ⟨nd, rfl⟩⟩) | (go_at_call 38; (with_reducible refine (spec_l1in.calls a0_2 0 20 false _ A6.out).mono ?_); rintro e w' ⟨rfl, ⟨nd, rfl⟩⟩))
    go_ret
    exact ⟨by first | rfl | (simp [errW_none, errW_some] <;> rfl) | (simp [*, errW_none, errW_some] <;> rfl), by repeat (first | (with_reducible first | exact HB.out | apply lA | apply lN | apply lD | refine lS ?_ GE331.out) | exact HB.out)⟩
  ·replace c5 := Bool.eq_false_iff.mpr c5
   subst c5
   have H1 : (some false) = some r := by rw [if_neg (show ¬ (false = true) by decide)] at H; exact H
   clear H
   have H := H1
   clear H1
   obtain rfl := Option.some.inj H
   go_enter Try.func37, Try.ntmps37
   go_wp2_with (first | ((with_reducible refine gate_dst (N := 1) rfl ?_); refine box_event ?hg (N := 1) ?hd (cs := #[.int .i64 a0_0, .int .i64 a0_1, .int .i64 a0_2, .int .i64 a0_3, .int .i64 a0_4]) (t := 24) ?hr ?_; (case hd => rfl); (case hg => rfl); (case hr => first | (go_simp; done) | (go_simp; rfl)); intro gb331 hg w17 hbox hb; have n0_ := MK (below_step (by repeat (first | (with_reducible first | exact HB.out | apply lA | apply lN | apply lD) | exact HB.out)) hb); have n1_ := MK (hbox); have n2_ := MK ((by rw [hg]; exact (below_size (by repeat (first | (with_reducible first | exact HB.out | apply lA | apply lN | apply lD) | exact HB.out))) : w.heap.size ≤ gb331)); have n3_ := MK ((by rw [hg]; exact (below_size (by repeat (first | (with_reducible first | exact HB.out | apply lA | apply lN | apply lD) | exact HB.out))) : w.heap.size ≤ gb331)); clear HB; have HB := n0_; have BK331 := n1_; have GW331 := n2_; have GE331 := n3_; clear n0_ n1_ n2_ n3_; clear hb hbox hg; obtain ⟨hcz18_0, hcz18_1, hcz18_2, hcz18_3, hcz18_4⟩ := bc5 BK331.out; obtain ⟨hfz18_0, hfz18_1, hfz18_2, hfz18_3, hfz18_4⟩ := bf5 BK331.out) | ((with_reducible refine gate_callee (f := 38) rfl ?_); refine goesL_ (some 5) rfl rfl Try.func38 (by kernel_rfl) rfl #[.int .i64 a0_0, .int .i64 10, .int .i64 1000] rfl (by (try simp only [List.map_toArray, List.map_cons, List.map_nil]); first | done | rfl | (simp only [List.length_drop, List.length_take]; rfl)) ?_; (with_reducible refine (spec_l1in.calls a0_0 10 1000 true _ A2.out).mono ?_); rintro e w' ⟨rfl, ⟨nd, rfl⟩⟩; refine ⟨_, rfl, ?_⟩) | (go_at_call 38; (with_reducible refine (spec_l1in.calls a0_1 a0_0 1000 false _ A4.out).mono ?_); rintro e w' ⟨rfl, ⟨nd, rfl⟩⟩))
   go_ret
   exact ⟨by first | rfl | (simp [errW_none, errW_some] <;> rfl) | (simp [*, errW_none, errW_some] <;> rfl), by repeat (first | (with_reducible first | exact HB.out | apply lA | apply lN | apply lD | refine lS ?_ GE331.out) | exact HB.out)⟩
 ·replace c3 := Bool.eq_false_iff.mpr c3
  subst c3
  have H1 : (some false) = some r := by rw [if_neg (show ¬ (false = true) by decide)] at H; exact H
  clear H
  have H := H1
  clear H1
  obtain rfl := Option.some.inj H
  go_enter Try.func37, Try.ntmps37
  go_wp2_with (first | ((with_reducible refine gate_dst (N := 1) rfl ?_); refine box_event ?hg (N := 1) ?hd (cs := #[.int .i64 a0_0, .int .i64 a0_1, .int .i64 a0_2, .int .i64 a0_3, .int .i64 a0_4]) (t := 24) ?hr ?_; (case hd => rfl); (case hg => rfl); (case hr => first | (go_simp; done) | (go_simp; rfl)); intro gb331 hg w19 hbox hb; have n0_ := MK (below_step (by repeat (first | (with_reducible first | exact HB.out | apply lA | apply lN | apply lD) | exact HB.out)) hb); have n1_ := MK (hbox); have n2_ := MK ((by rw [hg]; exact (below_size (by repeat (first | (with_reducible first | exact HB.out | apply lA | apply lN | apply lD) | exact HB.out))) : w.heap.size ≤ gb331)); have n3_ := MK ((by rw [hg]; exact (below_size (by repeat (first | (with_reducible first | exact HB.out | apply lA | apply lN | apply lD) | exact HB.out))) : w.heap.size ≤ gb331)); clear HB; have HB := n0_; have BK331 := n1_; have GW331 := n2_; have GE331 := n3_; clear n0_ n1_ n2_ n3_; clear hb hbox hg; obtain ⟨hcz20_0, hcz20_1, hcz20_2, hcz20_3, hcz20_4⟩ := bc5 BK331.out; obtain ⟨hfz20_0, hfz20_1, hfz20_2, hfz20_3, hfz20_4⟩ := bf5 BK331.out) | ((with_reducible refine gate_callee (f := 38) rfl ?_); refine goesL_ (some 5) rfl rfl Try.func38 (by kernel_rfl) rfl #[.int .i64 a0_0, .int .i64 10, .int .i64 1000] rfl (by (try simp only [List.map_toArray, List.map_cons, List.map_nil]); first | done | rfl | (simp only [List.length_drop, List.length_take]; rfl)) ?_; (with_reducible refine (spec_l1in.calls a0_0 10 1000 false _ A2.out).mono ?_); rintro e w' ⟨rfl, ⟨nd, rfl⟩⟩; refine ⟨_, rfl, ?_⟩))
  go_ret
  exact ⟨by first | rfl | (simp [errW_none, errW_some] <;> rfl) | (simp [*, errW_none, errW_some] <;> rfl), by repeat (first | (with_reducible first | exact HB.out | apply lA | apply lN | apply lD | refine lS ?_ GE331.out) | exact HB.out)⟩

/-! ### spec_l1slow: function 55 -/
def spec_l1slow.l0 : Nat → Int → Int → Int → Option (Int)
 | 0, _, _, _ => none
 | k + 1, x0, x1, x5 => if x0 > 0 then (if (wrap64 (x0 - x1)) > 0 then (spec_l1slow.l0 k (wrap64 (x0 - x1)) x1 (wrap64 (x5 + (wrap64 (x0 - x1))))) else (spec_l1slow.l0 k (wrap64 (x0 - x1)) x1 x5)) else (some x5)
def spec_l1slow.f (k : Nat) (a0 : Int) (a1 : Int) : Option (Int) := spec_l1slow.l0 k a0 a1 0
set_option maxHeartbeats 8000000 in
set_option maxRecDepth 100000 in
theorem spec_l1slow.calls (k : Nat) (a0 : Int) (a1 : Int) (r : Int) (w : World) (h : spec_l1slow.f k a0 a1 = some r) :
  Calls Try.prog 55 #[.int .i64 a0, .int .i64 a1] w fun e w' => e = .returned (.int .i64 r) ∧ Drawn0 w w' := by
 have H : (spec_l1slow.l0 k a0 a1 0) = some r := h
 clear h
 have H' := MK H
 clear H
 go_enter Try.func55, Try.ntmps55
 go_wp2
 go_loopg [0, 5] k (fun kq v0 v5 w' => ∃ (x0_1 : Int) (x5_1 : Int), v0 = .int .i64 x0_1 ∧ v5 = .int .i64 x5_1 ∧ Aside0 (spec_l1slow.l0 kq x0_1 a1 x5_1 = some r) ∧ Aside0 (kq ≤ k) ∧ Drawn0 w w')
 case atStart => exact ⟨(a0), (0), (by first | rfl | (simp; done) | (simp [*]; done)), (by first | rfl | (simp; done) | (simp [*]; done)), H', ⟨Nat.le_refl _⟩, by repeat (first | exact Drawn0.refl _ | apply Drawn0.step)⟩
 case round =>
  clear H'
  obtain ⟨x0_1, x5_1, rfl, rfl, HA, HK1, ⟨m1, rfl⟩⟩ := hrel
  cases gk with
  | zero => exact absurd HA.out (by simp [spec_l1slow.l0])
  | succ k1 =>
   have H := HA.out
   clear HA
   simp only [spec_l1slow.l0] at H
   by_cases c3 : x0_1 > 0
   ·rw [if_pos c3] at H
    have c3b0 : decide (0 < x0_1) = true := decide_eq_true c3
    clear c3
    by_cases c4 : (wrap64 (x0_1 - a1)) > 0
    ·rw [if_pos c4] at H
     have c4b0 : decide (0 < (wrap64 (x0_1 - a1))) = true := decide_eq_true c4
     clear c4
     have H' := MK H
     clear H
     go_wp2
     go_roundg k1
     case measure => have := HK1.out; omega
     case rel => exact ⟨(wrap64 (x0_1 - a1)), (wrap64 (x5_1 + (wrap64 (x0_1 - a1)))), (by first | rfl | (simp; done) | (simp [*]; done)), (by first | rfl | (simp; done) | (simp [*]; done)), H', ⟨by have := HK1.out; omega⟩, by repeat (first | exact Drawn0.refl _ | apply Drawn0.step)⟩
    ·rw [if_neg c4] at H
     have c4b0 : decide (0 < (wrap64 (x0_1 - a1))) = false := decide_eq_false c4
     clear c4
     have H' := MK H
     clear H
     go_wp2
     go_roundg k1
     case measure => have := HK1.out; omega
     case rel => exact ⟨(wrap64 (x0_1 - a1)), (x5_1), (by first | rfl | (simp; done) | (simp [*]; done)), (by first | rfl | (simp; done) | (simp [*]; done)), H', ⟨by have := HK1.out; omega⟩, by repeat (first | exact Drawn0.refl _ | apply Drawn0.step)⟩
   ·rw [if_neg c3] at H
    have c3b0 : decide (0 < x0_1) = false := decide_eq_false c3
    clear c3
    obtain rfl := Option.some.inj H
    go_wp2
    go_ret
    exact ⟨by first | rfl | (simp; done) | (simp [*]; done), by repeat (first | exact Drawn0.refl _ | apply Drawn0.step)⟩

/-! ### spec_l1worst: function 39 -/
def spec_l1worst.l0 : Nat → Int → Int → Int → Int → Int → Int → Int → Int → Option (Int)
 | 0, _, _, _, _, _, _, _, _ => none
 | k + 1, x1, x5, x6, x338000, x338001, x338002, x338003, x338004 => if x6 ≤ x338002 then (spec_l1worst.l0 k (wrap64 (x1 + x338003)) (wrap64 (x5 + (wrap64 (x1 + x338003)))) (wrap64 (x6 + 1)) x338000 x338001 x338002 x338003 x338004) else ((spec_l1slow.f k x1 x338001).bind fun t338 => (some (wrap64 (x5 + t338))))
def spec_l1worst.f (k : Nat) (a0_0 : Int) (a0_1 : Int) (a0_2 : Int) (a0_3 : Int) (a0_4 : Int) (a1 : Int) : Option (Int) := spec_l1worst.l0 k a1 0 0 a0_0 a0_1 a0_2 a0_3 a0_4
set_option maxHeartbeats 8000000 in
set_option maxRecDepth 100000 in
theorem spec_l1worst.calls (k : Nat) (a0_0 : Int) (a0_1 : Int) (a0_2 : Int) (a0_3 : Int) (a0_4 : Int) (a1 : Int) (r : Int) (w : World) (h : spec_l1worst.f k a0_0 a0_1 a0_2 a0_3 a0_4 a1 = some r) :
  Calls Try.prog 39 #[.agg #[.int .i64 a0_0, .int .i64 a0_1, .int .i64 a0_2, .int .i64 a0_3, .int .i64 a0_4], .int .i64 a1] w fun e w' => e = .returned (.int .i64 r) ∧ Below w.heap.size w w' := by
 have hu24 := Try.underlying24
 have HB := MK (Below.refl w.heap.size w)
 have H : (spec_l1worst.l0 k a1 0 0 a0_0 a0_1 a0_2 a0_3 a0_4) = some r := h
 clear h
 have H' := MK H
 clear H
 go_enter Try.func39, Try.ntmps39
 go_wp2_with (first | ((with_reducible refine gate_dst (N := 2) rfl ?_); refine box_event ?hg (N := 2) ?hd (cs := #[.int .i64 a0_0, .int .i64 a0_1, .int .i64 a0_2, .int .i64 a0_3, .int .i64 a0_4]) (t := 24) ?hr ?_; (case hd => rfl); (case hg => rfl); (case hr => first | (go_simp; done) | (go_simp; rfl)); intro gb337 hg w3 hbox hb; have n0_ := MK (below_step (by repeat (first | (with_reducible first | exact HB.out | apply lA | apply lN | apply lD) | exact HB.out)) hb); have n1_ := MK (hbox); have n2_ := MK ((by rw [hg]; exact (below_size (by repeat (first | (with_reducible first | exact HB.out | apply lA | apply lN | apply lD) | exact HB.out))) : w.heap.size ≤ gb337)); have n3_ := MK ((by rw [hg]; exact (below_size (by repeat (first | (with_reducible first | exact HB.out | apply lA | apply lN | apply lD) | exact HB.out))) : w.heap.size ≤ gb337)); clear HB; have HB := n0_; have BK337 := n1_; have GW337 := n2_; have GE337 := n3_; clear n0_ n1_ n2_ n3_; clear hb hbox hg))
 go_loopg [1, 5, 6] k (fun kq v1 v5 v6 w' => ∃ (x1_1 : Int) (x5_1 : Int) (x6_1 : Int), v1 = .int .i64 x1_1 ∧ v5 = .int .i64 x5_1 ∧ v6 = .int .i64 x6_1 ∧ Aside0 (spec_l1worst.l0 kq x1_1 x5_1 x6_1 a0_0 a0_1 a0_2 a0_3 a0_4 = some r) ∧ Aside0 (kq ≤ k) ∧ Aside0 (w'.heap[gb337]? = some (.cells #[.int .i64 a0_0, .int .i64 a0_1, .int .i64 a0_2, .int .i64 a0_3, .int .i64 a0_4] 24 (0, 0))) ∧ Aside0 (Below w.heap.size w w'))
 case atStart => exact ⟨(a1), (0), (0), (by first | rfl | (simp; done) | (simp [*]; done)), (by first | rfl | (simp; done) | (simp [*]; done)), (by first | rfl | (simp; done) | (simp [*]; done)), H', ⟨Nat.le_refl _⟩, ⟨by (with_reducible repeat (first | refine bN ?_ _ | refine bD ?_ | refine bA ?_ _)); exact BK337.out⟩, ⟨by repeat (first | (with_reducible first | exact HB.out | apply lA | apply lN | apply lD | refine lS ?_ GE337.out) | exact HB.out)⟩⟩
 case round =>
  clear H'
  obtain ⟨x1_1, x5_1, x6_1, rfl, rfl, rfl, HA, HK1, BK337, HB⟩ := hrel
  cases gk with
  | zero => exact absurd HA.out (by simp [spec_l1worst.l0])
  | succ k1 =>
   have H := HA.out
   clear HA
   simp only [spec_l1worst.l0] at H
   have HC4 := MK H
   clear H
   obtain ⟨hcz5_0, hcz5_1, hcz5_2, hcz5_3, hcz5_4⟩ := bc5 BK337.out
   obtain ⟨hfz5_0, hfz5_1, hfz5_2, hfz5_3, hfz5_4⟩ := bf5 BK337.out
   go_upto_if 10 with (fail)
   have H := HC4.out
   clear HC4
   by_cases c6 : x6_1 ≤ a0_2
   ·rw [if_pos c6] at H
    have c6b0 : decide (x6_1 ≤ a0_2) = true := decide_eq_true c6
    clear c6
    (first | rw [c6b0] | (simp only [i64_w, i32_w]; rw [c6b0]) | skip)
    have H' := MK H
    clear H
    obtain ⟨hcz7_0, hcz7_1, hcz7_2, hcz7_3, hcz7_4⟩ := bc5 BK337.out
    obtain ⟨hfz7_0, hfz7_1, hfz7_2, hfz7_3, hfz7_4⟩ := bf5 BK337.out
    go_wp2
    go_roundg k1
    case measure => have := HK1.out; omega
    case rel => exact ⟨(wrap64 (x1_1 + a0_3)), (wrap64 (x5_1 + (wrap64 (x1_1 + a0_3)))), (wrap64 (x6_1 + 1)), (by first | rfl | (simp; done) | (simp [*]; done)), (by first | rfl | (simp; done) | (simp [*]; done)), (by first | rfl | (simp; done) | (simp [*]; done)), H', ⟨by have := HK1.out; omega⟩, ⟨by (with_reducible repeat (first | refine bN ?_ _ | refine bD ?_ | refine bA ?_ _)); exact BK337.out⟩, ⟨by repeat (first | (with_reducible first | exact HB.out | apply lA | apply lN | apply lD | refine lS ?_ GE337.out) | exact HB.out)⟩⟩
   ·rw [if_neg c6] at H
    have c6b0 : decide (x6_1 ≤ a0_2) = false := decide_eq_false c6
    clear c6
    (first | rw [c6b0] | (simp only [i64_w, i32_w]; rw [c6b0]) | skip)
    replace H := Option.bind_eq_some_iff.mp H
    obtain ⟨t338, A80, H⟩ := H
    replace H : (some (wrap64 (x5_1 + t338))) = some r := H
    have A8 := MK A80
    clear A80
    obtain rfl := Option.some.inj H
    obtain ⟨hcz9_0, hcz9_1, hcz9_2, hcz9_3, hcz9_4⟩ := bc5 BK337.out
    obtain ⟨hfz9_0, hfz9_1, hfz9_2, hfz9_3, hfz9_4⟩ := bf5 BK337.out
    go_wp2_with (first | ((with_reducible refine gate_callee (f := 55) rfl ?_); refine goesL_ (some 24) rfl rfl Try.func55 (by kernel_rfl) rfl #[.int .i64 x1_1, .int .i64 a0_1] rfl (by (try simp only [List.map_toArray, List.map_cons, List.map_nil]); first | done | rfl | (simp only [List.length_drop, List.length_take]; rfl)) ?_; (with_reducible refine (spec_l1slow.calls k1 x1_1 a0_1 t338 _ A8.out).mono ?_); rintro e w' ⟨rfl, ⟨nd, rfl⟩⟩; refine ⟨_, rfl, ?_⟩))
    go_ret
    exact ⟨by first | rfl | (simp [errW_none, errW_some] <;> rfl) | (simp [*, errW_none, errW_some] <;> rfl), by repeat (first | (with_reducible first | exact HB.out | apply lA | apply lN | apply lD | refine lS ?_ GE337.out) | exact HB.out)⟩

/-! ### spec_MostHard: function 15 -/
mutual
def spec_MostHard.j0 : Nat → Int → Bool → Int → Int → Int → Int → Int → Option (Int)
 | 0, _, _, _, _, _, _, _ => none
 | k + 1, x1, x14, x340000, x340001, x340002, x340003, x340004 => if x14 = true then (some (-1)) else (spec_MostHard.l0 k x1 (-1) 0 x340000 x340001 x340002 x340003 x340004)
def spec_MostHard.l0 : Nat → Int → Int → Int → Int → Int → Int → Int → Int → Option (Int)
 | 0, _, _, _, _, _, _, _, _ => none
 | k + 1, x1, x5, x6, x340000, x340001, x340002, x340003, x340004 => if x6 ≤ 10000 then ((spec_l1worst.f k x340000 x340001 x340002 x340003 x340004 x6).bind fun t342 => (if t342 ≤ x1 then (spec_MostHard.l0 k x1 x6 (wrap64 (x6 + 1)) x340000 x340001 x340002 x340003 x340004) else (some x5))) else (some x5)
end
def spec_MostHard.f (k : Nat) (a0_0 : Int) (a0_1 : Int) (a0_2 : Int) (a0_3 : Int) (a0_4 : Int) (a1 : Int) : Option (Int) := (spec_BrakesOk.f a0_0 a0_1 a0_2 a0_3 a0_4).bind fun t340 => (if t340 = true then ((spec_l1in.f a1 0 100000000).bind fun t341 => (spec_MostHard.j0 k a1 (!t341) a0_0 a0_1 a0_2 a0_3 a0_4)) else (spec_MostHard.j0 k a1 true a0_0 a0_1 a0_2 a0_3 a0_4))
set_option maxHeartbeats 8000000 in
set_option maxRecDepth 100000 in
theorem spec_MostHard.calls (k : Nat) (a0_0 : Int) (a0_1 : Int) (a0_2 : Int) (a0_3 : Int) (a0_4 : Int) (a1 : Int) (r : Int) (w : World) (h : spec_MostHard.f k a0_0 a0_1 a0_2 a0_3 a0_4 a1 = some r) :
  Calls Try.prog 15 #[.agg #[.int .i64 a0_0, .int .i64 a0_1, .int .i64 a0_2, .int .i64 a0_3, .int .i64 a0_4], .int .i64 a1] w fun e w' => e = .returned (.int .i64 r) ∧ Below w.heap.size w w' := by
 have hu24 := Try.underlying24
 have HB := MK (Below.refl w.heap.size w)
 have H : ((spec_BrakesOk.f a0_0 a0_1 a0_2 a0_3 a0_4).bind fun t340 => (if t340 = true then ((spec_l1in.f a1 0 100000000).bind fun t341 => (spec_MostHard.j0 k a1 (!t341) a0_0 a0_1 a0_2 a0_3 a0_4)) else (spec_MostHard.j0 k a1 true a0_0 a0_1 a0_2 a0_3 a0_4))) = some r := h
 clear h
 have HC3 := MK H
 clear H
 go_enter Try.func15, Try.ntmps15
 go_upto_region 1 with (first | ((with_reducible refine gate_dst (N := 2) rfl ?_); refine box_event ?hg (N := 2) ?hd (cs := #[.int .i64 a0_0, .int .i64 a0_1, .int .i64 a0_2, .int .i64 a0_3, .int .i64 a0_4]) (t := 24) ?hr ?_; (case hd => rfl); (case hg => rfl); (case hr => first | (go_simp; done) | (go_simp; rfl)); intro gb339 hg w4 hbox hb; have n0_ := MK (below_step (by repeat (first | (with_reducible first | exact HB.out | apply lA | apply lN | apply lD) | exact HB.out)) hb); have n1_ := MK (hbox); have n2_ := MK ((by rw [hg]; exact (below_size (by repeat (first | (with_reducible first | exact HB.out | apply lA | apply lN | apply lD) | exact HB.out))) : w.heap.size ≤ gb339)); have n3_ := MK ((by rw [hg]; exact (below_size (by repeat (first | (with_reducible first | exact HB.out | apply lA | apply lN | apply lD) | exact HB.out))) : w.heap.size ≤ gb339)); clear HB; have HB := n0_; have BK339 := n1_; have GW339 := n2_; have GE339 := n3_; clear n0_ n1_ n2_ n3_; clear hb hbox hg))
 (try simp only [Act.put, List.setIfInBounds_toArray, List.set_cons_zero, List.set_cons_succ])
 go_cut [14] (fun v14 wc => ∃ (kq : Nat) (x14_2 : Bool), v14 = .bool x14_2 ∧ Aside0 (spec_MostHard.j0 kq a1 x14_2 a0_0 a0_1 a0_2 a0_3 a0_4 = some r) ∧ Aside0 (kq ≤ k) ∧ Aside0 (wc.heap[gb339]? = some (.cells #[.int .i64 a0_0, .int .i64 a0_1, .int .i64 a0_2, .int .i64 a0_3, .int .i64 a0_4] 24 (0, 0))) ∧ Aside0 (Below w.heap.size w wc))
 case first =>
  have H := HC3.out
  clear HC3
  replace H := Option.bind_eq_some_iff.mp H
  obtain ⟨t340, A50, H⟩ := H
  replace H : (if t340 = true then ((spec_l1in.f a1 0 100000000).bind fun t341 => (spec_MostHard.j0 k a1 (!t341) a0_0 a0_1 a0_2 a0_3 a0_4)) else (spec_MostHard.j0 k a1 true a0_0 a0_1 a0_2 a0_3 a0_4)) = some r := H
  have A5 := MK A50
  clear A50
  by_cases c6 : t340 = true
  ·subst c6
   have H1 : ((spec_l1in.f a1 0 100000000).bind fun t341 => (spec_MostHard.j0 k a1 (!t341) a0_0 a0_1 a0_2 a0_3 a0_4)) = some r := by rw [if_pos rfl] at H; exact H
   clear H
   have H := H1
   clear H1
   replace H := Option.bind_eq_some_iff.mp H
   obtain ⟨t341, A70, H⟩ := H
   replace H : (spec_MostHard.j0 k a1 (!t341) a0_0 a0_1 a0_2 a0_3 a0_4) = some r := H
   have A7 := MK A70
   clear A70
   have H' := MK H
   clear H
   obtain ⟨hcz8_0, hcz8_1, hcz8_2, hcz8_3, hcz8_4⟩ := bc5 BK339.out
   obtain ⟨hfz8_0, hfz8_1, hfz8_2, hfz8_3, hfz8_4⟩ := bf5 BK339.out
   go_wp2_with (first | ((with_reducible refine gate_callee (f := 37) rfl ?_); refine goesL_ (some 8) rfl rfl Try.func37 (by kernel_rfl) rfl #[.agg #[.int .i64 a0_0, .int .i64 a0_1, .int .i64 a0_2, .int .i64 a0_3, .int .i64 a0_4]] rfl (by (try simp only [List.map_toArray, List.map_cons, List.map_nil]); first | done | rfl | (simp only [List.length_drop, List.length_take]; rfl)) ?_; (with_reducible refine (spec_BrakesOk.calls a0_0 a0_1 a0_2 a0_3 a0_4 true _ A5.out).mono ?_); rintro e w9 ⟨rfl, hb⟩; refine ⟨_, rfl, ?_⟩; have n0_ := MK (blk_below (by (with_reducible repeat (first | refine bN ?_ _ | refine bD ?_ | refine bA ?_ _)); exact BK339.out) hb); have n1_ := MK (below_step (by repeat (first | (with_reducible first | exact HB.out | apply lA | apply lN | apply lD | refine lS ?_ GE339.out) | exact HB.out)) hb); clear BK339; clear HB; have BK339 := n0_; have HB := n1_; clear n0_ n1_; (try clear hb); (try clear hb2); (try clear hk); (try clear hi)) | (go_at_call 38; (with_reducible refine (spec_l1in.calls a1 0 100000000 t341 _ A7.out).mono ?_); rintro e w' ⟨rfl, ⟨nd, rfl⟩⟩))
   go_meet
   case rel => exact ⟨_, (!t341), (by first | rfl | (simp; done) | (simp [*]; done)), H', ⟨by first | omega | exact Nat.le_refl _⟩, ⟨by (with_reducible repeat (first | refine bN ?_ _ | refine bD ?_ | refine bA ?_ _)); exact BK339.out⟩, ⟨by repeat (first | (with_reducible first | exact HB.out | apply lA | apply lN | apply lD | refine lS ?_ GE339.out) | exact HB.out)⟩⟩
  ·replace c6 := Bool.eq_false_iff.mpr c6
   subst c6
   have H1 : (spec_MostHard.j0 k a1 true a0_0 a0_1 a0_2 a0_3 a0_4) = some r := by rw [if_neg (show ¬ (false = true) by decide)] at H; exact H
   clear H
   have H := H1
   clear H1
   have H' := MK H
   clear H
   obtain ⟨hcz10_0, hcz10_1, hcz10_2, hcz10_3, hcz10_4⟩ := bc5 BK339.out
   obtain ⟨hfz10_0, hfz10_1, hfz10_2, hfz10_3, hfz10_4⟩ := bf5 BK339.out
   go_wp2_with (first | ((with_reducible refine gate_callee (f := 37) rfl ?_); refine goesL_ (some 8) rfl rfl Try.func37 (by kernel_rfl) rfl #[.agg #[.int .i64 a0_0, .int .i64 a0_1, .int .i64 a0_2, .int .i64 a0_3, .int .i64 a0_4]] rfl (by (try simp only [List.map_toArray, List.map_cons, List.map_nil]); first | done | rfl | (simp only [List.length_drop, List.length_take]; rfl)) ?_; (with_reducible refine (spec_BrakesOk.calls a0_0 a0_1 a0_2 a0_3 a0_4 false _ A5.out).mono ?_); rintro e w11 ⟨rfl, hb⟩; refine ⟨_, rfl, ?_⟩; have n0_ := MK (blk_below (by (with_reducible repeat (first | refine bN ?_ _ | refine bD ?_ | refine bA ?_ _)); exact BK339.out) hb); have n1_ := MK (below_step (by repeat (first | (with_reducible first | exact HB.out | apply lA | apply lN | apply lD | refine lS ?_ GE339.out) | exact HB.out)) hb); clear BK339; clear HB; have BK339 := n0_; have HB := n1_; clear n0_ n1_; (try clear hb); (try clear hb2); (try clear hk); (try clear hi)))
   go_meet
   case rel => exact ⟨_, (true), (by first | rfl | (simp; done) | (simp [*]; done)), H', ⟨by first | omega | exact Nat.le_refl _⟩, ⟨by (with_reducible repeat (first | refine bN ?_ _ | refine bD ?_ | refine bA ?_ _)); exact BK339.out⟩, ⟨by repeat (first | (with_reducible first | exact HB.out | apply lA | apply lN | apply lD | refine lS ?_ GE339.out) | exact HB.out)⟩⟩
 case rest =>
  clear HC3
  obtain ⟨kq, x14_2, rfl, HA, HJ2, BK339, HB⟩ := hcut
  cases kq with
  | zero => exact absurd HA.out (by simp [spec_MostHard.j0])
  | succ kj2 =>
   have H := HA.out
   clear HA
   simp only [spec_MostHard.j0] at H
   by_cases c12 : x14_2 = true
   ·subst c12
    have H1 : (some (-1)) = some r := by rw [if_pos rfl] at H; exact H
    clear H
    have H := H1
    clear H1
    obtain rfl := Option.some.inj H
    go_wp2
    go_ret
    exact ⟨by first | rfl | (simp [errW_none, errW_some] <;> rfl) | (simp [*, errW_none, errW_some] <;> rfl), by repeat (first | (with_reducible first | exact HB.out | apply lA | apply lN | apply lD | refine lS ?_ GE339.out) | exact HB.out)⟩
   ·replace c12 := Bool.eq_false_iff.mpr c12
    subst c12
    have H1 : (spec_MostHard.l0 kj2 a1 (-1) 0 a0_0 a0_1 a0_2 a0_3 a0_4) = some r := by rw [if_neg (show ¬ (false = true) by decide)] at H; exact H
    clear H
    have H := H1
    clear H1
    have H' := MK H
    clear H
    go_wp2
    go_loopg [5, 6] kj2 (fun kq v5 v6 w' => ∃ (x5_2 : Int) (x6_2 : Int), v5 = .int .i64 x5_2 ∧ v6 = .int .i64 x6_2 ∧ Aside0 (spec_MostHard.l0 kq a1 x5_2 x6_2 a0_0 a0_1 a0_2 a0_3 a0_4 = some r) ∧ Aside0 (kq ≤ kj2) ∧ Aside0 (w'.heap[gb339]? = some (.cells #[.int .i64 a0_0, .int .i64 a0_1, .int .i64 a0_2, .int .i64 a0_3, .int .i64 a0_4] 24 (0, 0))) ∧ Aside0 (Below w.heap.size w w'))
    case atStart => exact ⟨((-1)), (0), (by first | rfl | (simp; done) | (simp [*]; done)), (by first | rfl | (simp; done) | (simp [*]; done)), H', ⟨Nat.le_refl _⟩, ⟨by (with_reducible repeat (first | refine bN ?_ _ | refine bD ?_ | refine bA ?_ _)); exact BK339.out⟩, ⟨by repeat (first | (with_reducible first | exact HB.out | apply lA | apply lN | apply lD | refine lS ?_ GE339.out) | exact HB.out)⟩⟩
    case round =>
     clear H'
     (try clear c12)
     obtain ⟨x5_2, x6_2, rfl, rfl, HA, HK2, BK339, HB⟩ := hrel
     cases gk with
     | zero => exact absurd HA.out (by simp [spec_MostHard.l0])
     | succ k2 =>
      have H := HA.out
      clear HA
      simp only [spec_MostHard.l0] at H
      by_cases c13 : x6_2 ≤ 10000
      ·rw [if_pos c13] at H
       have c13b0 : decide (x6_2 ≤ 10000) = true := decide_eq_true c13
       clear c13
       replace H := Option.bind_eq_some_iff.mp H
       obtain ⟨t342, A140, H⟩ := H
       replace H : (if t342 ≤ a1 then (spec_MostHard.l0 k2 a1 x6_2 (wrap64 (x6_2 + 1)) a0_0 a0_1 a0_2 a0_3 a0_4) else (some x5_2)) = some r := H
       have A14 := MK A140
       clear A140
       have HC15 := MK H
       clear H
       obtain ⟨hcz16_0, hcz16_1, hcz16_2, hcz16_3, hcz16_4⟩ := bc5 BK339.out
       obtain ⟨hfz16_0, hfz16_1, hfz16_2, hfz16_3, hfz16_4⟩ := bf5 BK339.out
       go_upto_if 23 with (first | (go_at_call 39; (with_reducible refine (spec_l1worst.calls k2 a0_0 a0_1 a0_2 a0_3 a0_4 x6_2 t342 _ A14.out).mono ?_); rintro e w17 ⟨rfl, hb⟩; have n0_ := MK (blk_below (by (with_reducible repeat (first | refine bN ?_ _ | refine bD ?_ | refine bA ?_ _)); exact BK339.out) hb); have n1_ := MK (below_step (by repeat (first | (with_reducible first | exact HB.out | apply lA | apply lN | apply lD | refine lS ?_ GE339.out) | exact HB.out)) hb); clear BK339; clear HB; have BK339 := n0_; have HB := n1_; clear n0_ n1_; (try clear hb); (try clear hb2); (try clear hk); (try clear hi)))
       (try simp only [Act.put, List.setIfInBounds_toArray, List.set_cons_zero, List.set_cons_succ])
       have H := HC15.out
       clear HC15
       by_cases c18 : t342 ≤ a1
       ·rw [if_pos c18] at H
        have c18b0 : decide (t342 ≤ a1) = true := decide_eq_true c18
        clear c18
        (first | rw [c18b0] | (simp only [i64_w, i32_w]; rw [c18b0]) | skip)
        have H' := MK H
        clear H
        go_wp2
        go_roundg k2
        case measure => have := HJ2.out; have := HK2.out; omega
        case rel => exact ⟨(x6_2), (wrap64 (x6_2 + 1)), (by first | rfl | (simp; done) | (simp [*]; done)), (by first | rfl | (simp; done) | (simp [*]; done)), H', ⟨by have := HJ2.out; have := HK2.out; omega⟩, ⟨by (with_reducible repeat (first | refine bN ?_ _ | refine bD ?_ | refine bA ?_ _)); exact BK339.out⟩, ⟨by repeat (first | (with_reducible first | exact HB.out | apply lA | apply lN | apply lD | refine lS ?_ GE339.out) | exact HB.out)⟩⟩
       ·rw [if_neg c18] at H
        have c18b0 : decide (t342 ≤ a1) = false := decide_eq_false c18
        clear c18
        (first | rw [c18b0] | (simp only [i64_w, i32_w]; rw [c18b0]) | skip)
        obtain rfl := Option.some.inj H
        go_wp2
        go_ret
        exact ⟨by first | rfl | (simp [errW_none, errW_some] <;> rfl) | (simp [*, errW_none, errW_some] <;> rfl), by repeat (first | (with_reducible first | exact HB.out | apply lA | apply lN | apply lD | refine lS ?_ GE339.out) | exact HB.out)⟩
      ·rw [if_neg c13] at H
       have c13b0 : decide (x6_2 ≤ 10000) = false := decide_eq_false c13
       clear c13
       obtain rfl := Option.some.inj H
       go_wp2
       go_ret
       exact ⟨by first | rfl | (simp [errW_none, errW_some] <;> rfl) | (simp [*, errW_none, errW_some] <;> rfl), by repeat (first | (with_reducible first | exact HB.out | apply lA | apply lN | apply lD | refine lS ?_ GE339.out) | exact HB.out)⟩

end Go.Proofs.Ytcfhjidddpoijaa.Q
