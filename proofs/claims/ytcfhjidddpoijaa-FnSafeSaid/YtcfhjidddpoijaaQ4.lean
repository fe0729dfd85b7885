/- The walks of the program's functions: what a call of each answers is what its Lean function tells; conditions: none but that the Lean function tells something (a bound on rounds). Written by a program of this session out of the translation. -/
import Derived.Test.YtcfhjidddpoijaaQ0
import Derived.Test.YtcfhjidddpoijaaQ2
import Derived.Test.YtcfhjidddpoijaaQ3
namespace Go.Proofs.Ytcfhjidddpoijaa.Q
open Go.RowKit Go.Proofs.YtcfhjidddpoijaaW.PrintWords Go.Proofs.YtcfhjidddpoijaaW.PrintLast Go.Proofs.YtcfhjidddpoijaaW.PrintMore
attribute [local go_sem] max2_int min2_int max_two min_two max_three min_three max_four min_four   -- for this text's walks alone
set_option linter.unusedVariables false
set_option linter.unusedSimpArgs false

/-! ### spec_l4Cur_acts: function 28 -/
mutual
def spec_l4Cur_acts.l0 : Nat → List (S39) → Int → Int → List Int → Int → Int → Int → Int → Int → Int → Int → Option ((List (S39)) × Int × Int)
 | 0, _, _, _, _, _, _, _, _, _, _, _ => none
 | k + 1, x5, x6, x7, x1000, x1001, x1002, x158000, x158001, x158002, x158003, x158004 => if x7 > 0 then ((spec_l4Cur_pick.f x1000 x1001 x1002 12).bind fun bt164 => (if bt164.1 = 0 then ((spec_l4Cur_wide.f x1000 bt164.2.1 bt164.2.2 2000).bind fun bt167 => ((spec_l4Cur_act.f x1000 bt167.2.1 bt167.2.2 x158000 x158001 x158002 x158003 x158004 (wrap64 (x6 + bt167.1))).bind fun bt170 => (if x5.length < 2513169434916 then (spec_l4Cur_acts.l0 k (x5 ++ [(⟨bt170.1, bt170.2.1, bt170.2.2.1, bt170.2.2.2.1, bt170.2.2.2.2.1, bt170.2.2.2.2.2.1, bt170.2.2.2.2.2.2.1⟩ : S39)]) (wrap64 (x6 + bt167.1)) (wrap64 (x7 - 1)) x1000 bt170.2.2.2.2.2.2.2.1 bt170.2.2.2.2.2.2.2.2 x158000 x158001 x158002 x158003 x158004) else (none)))) else (if bt164.1 = 1 then ((spec_l4Cur_pick.f x1000 bt164.2.1 bt164.2.2 3).bind fun bt182 => (if bt182.1 = 0 then ((spec_l4Cur_wide.f x1000 bt182.2.1 bt182.2.2 600).bind fun bt185 => (spec_l4Cur_acts.j1 k x5 (wrap64 (x6 - bt185.1)) x7 x1000 bt185.2.1 bt185.2.2 x158000 x158001 x158002 x158003 x158004)) else (spec_l4Cur_acts.j1 k x5 x6 x7 x1000 bt182.2.1 bt182.2.2 x158000 x158001 x158002 x158003 x158004))) else ((spec_l4Cur_act.f x1000 bt164.2.1 bt164.2.2 x158000 x158001 x158002 x158003 x158004 x6).bind fun bt212 => (if x5.length < 2513169434916 then (spec_l4Cur_acts.l0 k (x5 ++ [(⟨bt212.1, bt212.2.1, bt212.2.2.1, bt212.2.2.2.1, bt212.2.2.2.2.1, bt212.2.2.2.2.2.1, bt212.2.2.2.2.2.2.1⟩ : S39)]) x6 (wrap64 (x7 - 1)) x1000 bt212.2.2.2.2.2.2.2.1 bt212.2.2.2.2.2.2.2.2 x158000 x158001 x158002 x158003 x158004) else (none)))))) else (some (x5, x1001, x1002))
def spec_l4Cur_acts.j1 : Nat → List (S39) → Int → Int → List Int → Int → Int → Int → Int → Int → Int → Int → Option ((List (S39)) × Int × Int)
 | 0, _, _, _, _, _, _, _, _, _, _, _ => none
 | k + 1, x5, x6, x7, x1000, x1001, x1002, x158000, x158001, x158002, x158003, x158004 => if x6 < 0 then ((spec_l4Cur_act.f x1000 x1001 x1002 x158000 x158001 x158002 x158003 x158004 0).bind fun bt188 => (if x5.length < 2513169434916 then (spec_l4Cur_acts.l0 k (x5 ++ [(⟨bt188.1, bt188.2.1, bt188.2.2.1, bt188.2.2.2.1, bt188.2.2.2.2.1, bt188.2.2.2.2.2.1, bt188.2.2.2.2.2.2.1⟩ : S39)]) 0 (wrap64 (x7 - 1)) x1000 bt188.2.2.2.2.2.2.2.1 bt188.2.2.2.2.2.2.2.2 x158000 x158001 x158002 x158003 x158004) else (none))) else ((spec_l4Cur_act.f x1000 x1001 x1002 x158000 x158001 x158002 x158003 x158004 x6).bind fun bt200 => (if x5.length < 2513169434916 then (spec_l4Cur_acts.l0 k (x5 ++ [(⟨bt200.1, bt200.2.1, bt200.2.2.1, bt200.2.2.2.1, bt200.2.2.2.2.1, bt200.2.2.2.2.2.1, bt200.2.2.2.2.2.2.1⟩ : S39)]) x6 (wrap64 (x7 - 1)) x1000 bt200.2.2.2.2.2.2.2.1 bt200.2.2.2.2.2.2.2.2 x158000 x158001 x158002 x158003 x158004) else (none)))
end
def spec_l4Cur_acts.f (k : Nat) (s0_0 : List Int) (s0_1 : Int) (s0_2 : Int) (a1_0 : Int) (a1_1 : Int) (a1_2 : Int) (a1_3 : Int) (a1_4 : Int) : Option ((List (S39)) × Int × Int) := (spec_l4Cur_wide.f s0_0 s0_1 s0_2 3000).bind fun bt158 => ((spec_l4Cur_pick.f s0_0 bt158.2.1 bt158.2.2 60).bind fun bt161 => (spec_l4Cur_acts.l0 k ([] : List (S39)) bt158.1 (wrap64 (10 + bt161.1)) s0_0 bt161.2.1 bt161.2.2 a1_0 a1_1 a1_2 a1_3 a1_4))
set_option maxHeartbeats 8000000 in
set_option maxRecDepth 100000 in
theorem spec_l4Cur_acts.calls (k : Nat) (g : Nat) (s0_0 : List Int) (s0_1 : Int) (s0_2 : Int) (a1_0 : Int) (a1_1 : Int) (a1_2 : Int) (a1_3 : Int) (a1_4 : Int) (r1 : List (S39)) (r2 : Int) (r3 : Int) (w0 w : World) (hI : IsS57 w0 w g s0_0 s0_1 s0_2) (hB : Below w0.heap.size w0 w) (h : spec_l4Cur_acts.f k s0_0 s0_1 s0_2 a1_0 a1_1 a1_2 a1_3 a1_4 = some (r1, r2, r3)) :
  Calls Try.prog 28 #[.pointer (some ⟨g, 0, none⟩), .agg #[.int .i64 a1_0, .int .i64 a1_1, .int .i64 a1_2, .int .i64 a1_3, .int .i64 a1_4]] w fun e w' => ∃ v0_ : Value, e = .returned (v0_) ∧ Kd.R k39 39 w' w.heap.size (fun _ => True) v0_ r1 ∧ IsS57 w0 w' g s0_0 r2 r3 ∧ Below w0.heap.size w0 w' ∧ KeepBut w w' g none := by
 have hu24 := Try.underlying24
 have HI0 := MK hI
 have HK := MK (KeepBut.refl w g none)
 have HL := MK hB.size
 clear hI
 have HW0 := MK hB.size
 have HB := MK hB
 clear hB
 have H : ((spec_l4Cur_wide.f s0_0 s0_1 s0_2 3000).bind fun bt158 => ((spec_l4Cur_pick.f s0_0 bt158.2.1 bt158.2.2 60).bind fun bt161 => (spec_l4Cur_acts.l0 k ([] : List (S39)) bt158.1 (wrap64 (10 + bt161.1)) s0_0 bt161.2.1 bt161.2.2 a1_0 a1_1 a1_2 a1_3 a1_4))) = some (r1, r2, r3) := h
 clear h
 replace H := Option.bind_eq_some_iff.mp H
 obtain ⟨⟨t158, t159, t160⟩, A30, H⟩ := H
 replace H : ((spec_l4Cur_pick.f s0_0 t159 t160 60).bind fun bt161 => (spec_l4Cur_acts.l0 k ([] : List (S39)) t158 (wrap64 (10 + bt161.1)) s0_0 bt161.2.1 bt161.2.2 a1_0 a1_1 a1_2 a1_3 a1_4)) = some (r1, r2, r3) := H
 have A3 := MK A30
 clear A30
 replace H := Option.bind_eq_some_iff.mp H
 obtain ⟨⟨t161, t162, t163⟩, A40, H⟩ := H
 replace H : (spec_l4Cur_acts.l0 k ([] : List (S39)) t158 (wrap64 (10 + t161)) s0_0 t162 t163 a1_0 a1_1 a1_2 a1_3 a1_4) = some (r1, r2, r3) := H
 have A4 := MK A40
 clear A40
 have H' := MK H
 clear H
 go_enter Try.func28, Try.ntmps28
 go_wp2_with (first | ((with_reducible refine gate_dst (N := 3) rfl ?_); refine box_event ?hg (N := 3) ?hd (cs := #[.int .i64 a1_0, .int .i64 a1_1, .int .i64 a1_2, .int .i64 a1_3, .int .i64 a1_4]) (t := 24) ?hr ?_; (case hd => rfl); (case hg => rfl); (case hr => first | (go_simp; done) | (go_simp; rfl)); intro gb157 hg w5 hbox hb; have n0_ := MK (IsS57.below (by repeat (first | (with_reducible first | exact HI0.out | apply IsS57.alloc | apply IsS57.drewN | apply IsS57.drew | apply IsS57.set_1 | apply IsS57.set_2) | exact HI0.out)) hb); have n1_ := MK (KeepBut.trans (by repeat (first | (with_reducible first | exact HK.out | apply KeepBut.set_ | apply keep_drewN | apply keep_drew | apply keep_alloc) | exact HK.out)) (KeepBut.of_below hb g none) (.inl rfl)); have n2_ := MK (below_step (by repeat (first | (with_reducible first | exact HB.out | apply lA | apply lN | apply lD | refine lS ?_ (IsS57.ge HI0.out)) | exact HB.out)) hb); have n3_ := MK (hbox); have n4_ := MK ((by rw [hg]; exact (keep_size (w := w) (g := g) (row := none) (by repeat (first | (with_reducible first | exact HK.out | apply KeepBut.set_ | apply keep_drewN | apply keep_drew | apply keep_alloc) | exact HK.out))) : w.heap.size ≤ gb157)); have n5_ := MK ((Nat.le_trans HW0.out (by rw [hg]; exact (keep_size (w := w) (g := g) (row := none) (by repeat (first | (with_reducible first | exact HK.out | apply KeepBut.set_ | apply keep_drewN | apply keep_drew | apply keep_alloc) | exact HK.out))) : w.heap.size ≤ gb157) : w0.heap.size ≤ gb157)); have n6_ := MK ((by rw [hg]; exact Nat.ne_of_lt (IsS57.lt (show IsS57 w0 _ g s0_0 s0_1 s0_2 from by repeat (first | (with_reducible first | exact HI0.out | apply IsS57.alloc | apply IsS57.drewN | apply IsS57.drew | apply IsS57.set_1 | apply IsS57.set_2) | exact HI0.out))) : g ≠ gb157)); have n7_ := MK ((by rw [hg]; exact Nat.ne_of_gt (IsS57.lt (show IsS57 w0 _ g s0_0 s0_1 s0_2 from by repeat (first | (with_reducible first | exact HI0.out | apply IsS57.alloc | apply IsS57.drewN | apply IsS57.drew | apply IsS57.set_1 | apply IsS57.set_2) | exact HI0.out))) : gb157 ≠ g)); clear HI0; clear HK; clear HB; have HI0 := n0_; have HK := n1_; have HB := n2_; have BK157 := n3_; have GW157 := n4_; have GE157 := n5_; have NB0_157 := n6_; have NB157_0 := n7_; clear n0_ n1_ n2_ n3_ n4_ n5_ n6_ n7_; clear hb hbox hg) | ((with_reducible refine gate_callee (f := 53) rfl ?_); refine goesL_ (some 9) rfl rfl Try.func53 (by kernel_rfl) rfl #[.pointer (some ⟨g, 0, none⟩), .int .i64 3000] rfl (by (try simp only [List.map_toArray, List.map_cons, List.map_nil]); first | done | rfl | (simp only [List.length_drop, List.length_take]; rfl)) ?_; (with_reducible refine (spec_l4Cur_wide.calls g s0_0 s0_1 s0_2 3000 t158 t159 t160 w0 _ ?side1 ?side2 A3.out).mono ?_); (case side1 => repeat (first | (with_reducible first | exact HI0.out | apply IsS57.alloc | apply IsS57.drewN | apply IsS57.drew | apply IsS57.set_1 | apply IsS57.set_2 | refine IsS57.far ?_ NB0_157.out _) | exact HI0.out)); (case side2 => repeat (first | (with_reducible first | exact HB.out | apply lA | apply lN | apply lD | refine lS ?_ (IsS57.ge HI0.out) | refine lS ?_ GE157.out) | exact HB.out)); rintro e w6 ⟨rfl, hi, hb, hk⟩; refine ⟨_, rfl, ?_⟩; have n0_ := MK (KeepBut.blk hk (g' := gb157) (o := .cells #[.int .i64 a1_0, .int .i64 a1_1, .int .i64 a1_2, .int .i64 a1_3, .int .i64 a1_4] 24 (0, 0)) (by (with_reducible repeat (first | refine bN ?_ _ | refine bD ?_ | refine bA ?_ _)); exact BK157.out) NB157_0.out (by simp)); have n1_ := MK (KeepBut.trans (by repeat (first | (with_reducible first | exact HK.out | apply KeepBut.set_ | apply keep_drewN | apply keep_drew | apply keep_alloc | refine keep_far ?_ GW157.out _) | exact HK.out)) hk (.inl rfl)); have n2_ := MK (hb); have n3_ := MK (hi); clear BK157; clear HK; clear HB; clear HI0; have BK157 := n0_; have HK := n1_; have HB := n2_; have HI0 := n3_; clear n0_ n1_ n2_ n3_; (try clear hb); (try clear hb2); (try clear hk); (try clear hi)) | ((with_reducible refine gate_callee (f := 45) rfl ?_); refine goesL_ (some 11) rfl rfl Try.func45 (by kernel_rfl) rfl #[.pointer (some ⟨g, 0, none⟩), .int .i64 60] rfl (by (try simp only [List.map_toArray, List.map_cons, List.map_nil]); first | done | rfl | (simp only [List.length_drop, List.length_take]; rfl)) ?_; (with_reducible refine (spec_l4Cur_pick.calls g s0_0 t159 t160 60 t161 t162 t163 w0 _ ?side1 ?side2 A4.out).mono ?_); (case side1 => repeat (first | (with_reducible first | exact HI0.out | apply IsS57.alloc | apply IsS57.drewN | apply IsS57.drew | apply IsS57.set_1 | apply IsS57.set_2 | refine IsS57.far ?_ NB0_157.out _) | exact HI0.out)); (case side2 => repeat (first | (with_reducible first | exact HB.out | apply lA | apply lN | apply lD | refine lS ?_ (IsS57.ge HI0.out) | refine lS ?_ GE157.out) | exact HB.out)); rintro e w7 ⟨rfl, hi, hb, hk⟩; refine ⟨_, rfl, ?_⟩; have n0_ := MK (KeepBut.blk hk (g' := gb157) (o := .cells #[.int .i64 a1_0, .int .i64 a1_1, .int .i64 a1_2, .int .i64 a1_3, .int .i64 a1_4] 24 (0, 0)) (by (with_reducible repeat (first | refine bN ?_ _ | refine bD ?_ | refine bA ?_ _)); exact BK157.out) NB157_0.out (by simp)); have n1_ := MK (KeepBut.trans (by repeat (first | (with_reducible first | exact HK.out | apply KeepBut.set_ | apply keep_drewN | apply keep_drew | apply keep_alloc | refine keep_far ?_ GW157.out _) | exact HK.out)) hk (.inl rfl)); have n2_ := MK (hb); have n3_ := MK (hi); clear BK157; clear HK; clear HB; clear HI0; have BK157 := n0_; have HK := n1_; have HB := n2_; have HI0 := n3_; clear n0_ n1_ n2_ n3_; (try clear hb); (try clear hb2); (try clear hk); (try clear hi)))
 go_loopg [5, 6, 7] k (fun kq v5 v6 v7 w' => ∃ (x5_1 : List (S39)) (x6_1 : Int) (x7_1 : Int) (x1001_1 : Int) (x1002_1 : Int), v6 = .int .i64 x6_1 ∧ v7 = .int .i64 x7_1 ∧ Aside0 (spec_l4Cur_acts.l0 kq x5_1 x6_1 x7_1 s0_0 x1001_1 x1002_1 a1_0 a1_1 a1_2 a1_3 a1_4 = some (r1, r2, r3)) ∧ Aside0 (kq ≤ k) ∧ Aside0 (Kd.R k39 39 w' w.heap.size (fun _ => True) v5 x5_1) ∧ Aside0 (w'.heap[gb157]? = some (.cells #[.int .i64 a1_0, .int .i64 a1_1, .int .i64 a1_2, .int .i64 a1_3, .int .i64 a1_4] 24 (0, 0))) ∧ Aside0 (IsS57 w0 w' g s0_0 x1001_1 x1002_1) ∧ Aside0 (KeepBut w w' g none) ∧ Aside0 (Below w0.heap.size w0 w'))
 case atStart => exact ⟨(([] : List (S39))), (t158), (wrap64 (10 + t161)), (t162), (t163), (by first | rfl | (simp; done) | (simp [*]; done)), (by first | rfl | (simp; done) | (simp [*]; done)), H', ⟨Nat.le_refl _⟩, ⟨by first | exact Kd.R_nil _ _ _ _ _ | exact Kd.N_nil _ _ _ _ _ | exact Kd.V_nil _ _ _ _ _ | exact Kd.Q_nil _ _ _ _ _ | exact Kd.S_nil _ _ _ _ _⟩, ⟨by (with_reducible repeat (first | refine bN ?_ _ | refine bD ?_ | refine bA ?_ _)); exact BK157.out⟩, ⟨by repeat (first | (with_reducible first | exact HI0.out | apply IsS57.alloc | apply IsS57.drewN | apply IsS57.drew | apply IsS57.set_1 | apply IsS57.set_2 | refine IsS57.far ?_ NB0_157.out _) | exact HI0.out)⟩, ⟨by repeat (first | (with_reducible first | exact HK.out | apply KeepBut.set_ | apply keep_drewN | apply keep_drew | apply keep_alloc | refine keep_far ?_ GW157.out _) | exact HK.out)⟩, ⟨by repeat (first | (with_reducible first | exact HB.out | apply lA | apply lN | apply lD | refine lS ?_ (IsS57.ge HI0.out) | refine lS ?_ GE157.out) | exact HB.out)⟩⟩
 case round =>
  clear H'
  obtain ⟨x5_1, x6_1, x7_1, x1001_1, x1002_1, rfl, rfl, HA, HK1, HO_5, BK157, HI0, HK, HB⟩ := hrel
  cases gk with
  | zero => exact absurd HA.out (by simp [spec_l4Cur_acts.l0])
  | succ k1 =>
   have H := HA.out
   clear HA
   simp only [spec_l4Cur_acts.l0] at H
   by_cases c8 : x7_1 > 0
   ·rw [if_pos c8] at H
    have c8b0 : decide (0 < x7_1) = true := decide_eq_true c8
    clear c8
    replace H := Option.bind_eq_some_iff.mp H
    obtain ⟨⟨t164, t165, t166⟩, A90, H⟩ := H
    replace H : (if t164 = 0 then ((spec_l4Cur_wide.f s0_0 t165 t166 2000).bind fun bt167 => ((spec_l4Cur_act.f s0_0 bt167.2.1 bt167.2.2 a1_0 a1_1 a1_2 a1_3 a1_4 (wrap64 (x6_1 + bt167.1))).bind fun bt170 => (if x5_1.length < 2513169434916 then (spec_l4Cur_acts.l0 k1 (x5_1 ++ [(⟨bt170.1, bt170.2.1, bt170.2.2.1, bt170.2.2.2.1, bt170.2.2.2.2.1, bt170.2.2.2.2.2.1, bt170.2.2.2.2.2.2.1⟩ : S39)]) (wrap64 (x6_1 + bt167.1)) (wrap64 (x7_1 - 1)) s0_0 bt170.2.2.2.2.2.2.2.1 bt170.2.2.2.2.2.2.2.2 a1_0 a1_1 a1_2 a1_3 a1_4) else (none)))) else (if t164 = 1 then ((spec_l4Cur_pick.f s0_0 t165 t166 3).bind fun bt182 => (if bt182.1 = 0 then ((spec_l4Cur_wide.f s0_0 bt182.2.1 bt182.2.2 600).bind fun bt185 => (spec_l4Cur_acts.j1 k1 x5_1 (wrap64 (x6_1 - bt185.1)) x7_1 s0_0 bt185.2.1 bt185.2.2 a1_0 a1_1 a1_2 a1_3 a1_4)) else (spec_l4Cur_acts.j1 k1 x5_1 x6_1 x7_1 s0_0 bt182.2.1 bt182.2.2 a1_0 a1_1 a1_2 a1_3 a1_4))) else ((spec_l4Cur_act.f s0_0 t165 t166 a1_0 a1_1 a1_2 a1_3 a1_4 x6_1).bind fun bt212 => (if x5_1.length < 2513169434916 then (spec_l4Cur_acts.l0 k1 (x5_1 ++ [(⟨bt212.1, bt212.2.1, bt212.2.2.1, bt212.2.2.2.1, bt212.2.2.2.2.1, bt212.2.2.2.2.2.1, bt212.2.2.2.2.2.2.1⟩ : S39)]) x6_1 (wrap64 (x7_1 - 1)) s0_0 bt212.2.2.2.2.2.2.2.1 bt212.2.2.2.2.2.2.2.2 a1_0 a1_1 a1_2 a1_3 a1_4) else (none))))) = some (r1, r2, r3) := H
    have A9 := MK A90
    clear A90
    have HC10 := MK H
    clear H
    go_upto_if 19 with (first | ((with_reducible refine gate_callee (f := 45) rfl ?_); refine goesL_ (some 18) rfl rfl Try.func45 (by kernel_rfl) rfl #[.pointer (some ⟨g, 0, none⟩), .int .i64 12] rfl (by (try simp only [List.map_toArray, List.map_cons, List.map_nil]); first | done | rfl | (simp only [List.length_drop, List.length_take]; rfl)) ?_; (with_reducible refine (spec_l4Cur_pick.calls g s0_0 x1001_1 x1002_1 12 t164 t165 t166 w0 _ ?side1 ?side2 A9.out).mono ?_); (case side1 => repeat (first | (with_reducible first | exact HI0.out | apply IsS57.alloc | apply IsS57.drewN | apply IsS57.drew | apply IsS57.set_1 | apply IsS57.set_2 | refine IsS57.far ?_ NB0_157.out _) | exact HI0.out)); (case side2 => repeat (first | (with_reducible first | exact HB.out | apply lA | apply lN | apply lD | refine lS ?_ (IsS57.ge HI0.out) | refine lS ?_ GE157.out) | exact HB.out)); rintro e w11 ⟨rfl, hi, hb, hk⟩; refine ⟨_, rfl, ?_⟩; have n0_ := MK (Kd.R_mono (Kd.R_keep (IsS57.apart (show IsS57 w0 _ g s0_0 x1001_1 x1002_1 from by repeat (first | (with_reducible first | exact HI0.out | apply IsS57.alloc | apply IsS57.drewN | apply IsS57.drew | apply IsS57.set_1 | apply IsS57.set_2 | refine IsS57.far ?_ NB0_157.out _) | exact HI0.out)) (by (with_reducible repeat (first | apply Kd.R_alloc | apply Kd.R_drewN | apply Kd.R_drew)); exact HO_5.out) (by decide)) hk (fun _ h => h.2)) (fun _ h => h.1)); have n1_ := MK (KeepBut.blk hk (g' := gb157) (o := .cells #[.int .i64 a1_0, .int .i64 a1_1, .int .i64 a1_2, .int .i64 a1_3, .int .i64 a1_4] 24 (0, 0)) (by (with_reducible repeat (first | refine bN ?_ _ | refine bD ?_ | refine bA ?_ _)); exact BK157.out) NB157_0.out (by simp)); have n2_ := MK (KeepBut.trans (by repeat (first | (with_reducible first | exact HK.out | apply KeepBut.set_ | apply keep_drewN | apply keep_drew | apply keep_alloc | refine keep_far ?_ GW157.out _) | exact HK.out)) hk (.inl rfl)); have n3_ := MK (hb); have n4_ := MK (hi); clear HO_5; clear BK157; clear HK; clear HB; clear HI0; have HO_5 := n0_; have BK157 := n1_; have HK := n2_; have HB := n3_; have HI0 := n4_; clear n0_ n1_ n2_ n3_ n4_; (try clear hb); (try clear hb2); (try clear hk); (try clear hi)))
    (try simp only [Act.put, List.setIfInBounds_toArray, List.set_cons_zero, List.set_cons_succ])
    have H := HC10.out
    clear HC10
    by_cases c12 : t164 = 0
    ·rw [if_pos c12] at H
     have c12b0 : (t164 == 0) = true := beq_iff_eq.mpr c12
     have c12b1 : (t164 != 0) = false := bne_eq_false_iff_eq.mpr c12
     clear c12
     (first | rw [c12b0] | (simp only [i64_w, i32_w]; rw [c12b0]) | skip)
     replace H := Option.bind_eq_some_iff.mp H
     obtain ⟨⟨t167, t168, t169⟩, A130, H⟩ := H
     replace H : ((spec_l4Cur_act.f s0_0 t168 t169 a1_0 a1_1 a1_2 a1_3 a1_4 (wrap64 (x6_1 + t167))).bind fun bt170 => (if x5_1.length < 2513169434916 then (spec_l4Cur_acts.l0 k1 (x5_1 ++ [(⟨bt170.1, bt170.2.1, bt170.2.2.1, bt170.2.2.2.1, bt170.2.2.2.2.1, bt170.2.2.2.2.2.1, bt170.2.2.2.2.2.2.1⟩ : S39)]) (wrap64 (x6_1 + t167)) (wrap64 (x7_1 - 1)) s0_0 bt170.2.2.2.2.2.2.2.1 bt170.2.2.2.2.2.2.2.2 a1_0 a1_1 a1_2 a1_3 a1_4) else (none))) = some (r1, r2, r3) := H
     have A13 := MK A130
     clear A130
     replace H := Option.bind_eq_some_iff.mp H
     obtain ⟨⟨t170, t171, t172, t173, t174, t175, t176, t177, t178⟩, A140, H⟩ := H
     replace H : (if x5_1.length < 2513169434916 then (spec_l4Cur_acts.l0 k1 (x5_1 ++ [(⟨t170, t171, t172, t173, t174, t175, t176⟩ : S39)]) (wrap64 (x6_1 + t167)) (wrap64 (x7_1 - 1)) s0_0 t177 t178 a1_0 a1_1 a1_2 a1_3 a1_4) else (none)) = some (r1, r2, r3) := H
     have A14 := MK A140
     clear A140
     by_cases c15 : x5_1.length < 2513169434916
     ·rw [if_pos c15] at H
      have LMc15 := MK c15
      clear c15
      obtain ⟨y179, hy179⟩ : ∃ y_ : List (S39), y_ = (x5_1 ++ [(⟨t170, t171, t172, t173, t174, t175, t176⟩ : S39)]) := ⟨_, rfl⟩
      replace H : (spec_l4Cur_acts.l0 k1 y179 (wrap64 (x6_1 + t167)) (wrap64 (x7_1 - 1)) s0_0 t177 t178 a1_0 a1_1 a1_2 a1_3 a1_4) = some (r1, r2, r3) := by first | (rw [hy179]; with_reducible exact H) | (have H2_ := (Option.bind_some _ _).symm.trans H; rw [hy179]; with_reducible exact H2_) | (have H2_ := (Option.bind_some _ _).symm.trans H; with_reducible exact H2_) | with_reducible exact H | (rw [hy179]; exact H) | exact H
      have Ny179 := MK hy179
      clear hy179
      have H' := MK H
      clear H
      go_wp2_with (first | ((with_reducible refine gate_callee (f := 53) rfl ?_); refine goesL_ (some 23) rfl rfl Try.func53 (by kernel_rfl) rfl #[.pointer (some ⟨g, 0, none⟩), .int .i64 2000] rfl (by (try simp only [List.map_toArray, List.map_cons, List.map_nil]); first | done | rfl | (simp only [List.length_drop, List.length_take]; rfl)) ?_; (with_reducible refine (spec_l4Cur_wide.calls g s0_0 t165 t166 2000 t167 t168 t169 w0 _ ?side1 ?side2 A13.out).mono ?_); (case side1 => repeat (first | (with_reducible first | exact HI0.out | apply IsS57.alloc | apply IsS57.drewN | apply IsS57.drew | apply IsS57.set_1 | apply IsS57.set_2 | refine IsS57.far ?_ NB0_157.out _) | exact HI0.out)); (case side2 => repeat (first | (with_reducible first | exact HB.out | apply lA | apply lN | apply lD | refine lS ?_ (IsS57.ge HI0.out) | refine lS ?_ GE157.out) | exact HB.out)); rintro e w16 ⟨rfl, hi, hb, hk⟩; refine ⟨_, rfl, ?_⟩; have n0_ := MK (Kd.R_mono (Kd.R_keep (IsS57.apart (show IsS57 w0 _ g s0_0 t165 t166 from by repeat (first | (with_reducible first | exact HI0.out | apply IsS57.alloc | apply IsS57.drewN | apply IsS57.drew | apply IsS57.set_1 | apply IsS57.set_2 | refine IsS57.far ?_ NB0_157.out _) | exact HI0.out)) (by (with_reducible repeat (first | apply Kd.R_alloc | apply Kd.R_drewN | apply Kd.R_drew)); exact HO_5.out) (by decide)) hk (fun _ h => h.2)) (fun _ h => h.1)); have n1_ := MK (KeepBut.blk hk (g' := gb157) (o := .cells #[.int .i64 a1_0, .int .i64 a1_1, .int .i64 a1_2, .int .i64 a1_3, .int .i64 a1_4] 24 (0, 0)) (by (with_reducible repeat (first | refine bN ?_ _ | refine bD ?_ | refine bA ?_ _)); exact BK157.out) NB157_0.out (by simp)); have n2_ := MK (KeepBut.trans (by repeat (first | (with_reducible first | exact HK.out | apply KeepBut.set_ | apply keep_drewN | apply keep_drew | apply keep_alloc | refine keep_far ?_ GW157.out _) | exact HK.out)) hk (.inl rfl)); have n3_ := MK (hb); have n4_ := MK (hi); clear HO_5; clear BK157; clear HK; clear HB; clear HI0; have HO_5 := n0_; have BK157 := n1_; have HK := n2_; have HB := n3_; have HI0 := n4_; clear n0_ n1_ n2_ n3_ n4_; (try clear hb); (try clear hb2); (try clear hk); (try clear hi); have hnb17 := NB157_0.out; have hnc17 := NB0_157.out; obtain ⟨hcz18_0, hcz18_1, hcz18_2, hcz18_3, hcz18_4⟩ := bc5 BK157.out; obtain ⟨hfz18_0, hfz18_1, hfz18_2, hfz18_3, hfz18_4⟩ := bf5 BK157.out) | ((with_reducible refine gate_callee (f := 54) rfl ?_); refine goesL_ (some 40) rfl rfl Try.func54 (by kernel_rfl) rfl #[.pointer (some ⟨g, 0, none⟩), .agg #[.int .i64 a1_0, .int .i64 a1_1, .int .i64 a1_2, .int .i64 a1_3, .int .i64 a1_4], .int .i64 (wrap64 (x6_1 + t167))] rfl (by (try simp only [List.map_toArray, List.map_cons, List.map_nil]); first | done | rfl | (simp only [List.length_drop, List.length_take]; rfl)) ?_; (with_reducible refine (spec_l4Cur_act.calls g s0_0 t168 t169 a1_0 a1_1 a1_2 a1_3 a1_4 (wrap64 (x6_1 + t167)) t170 t171 t172 t173 t174 t175 t176 t177 t178 w0 _ ?side1 ?side2 A14.out).mono ?_); (case side1 => repeat (first | (with_reducible first | exact HI0.out | apply IsS57.alloc | apply IsS57.drewN | apply IsS57.drew | apply IsS57.set_1 | apply IsS57.set_2 | refine IsS57.far ?_ NB0_157.out _) | exact HI0.out)); (case side2 => repeat (first | (with_reducible first | exact HB.out | apply lA | apply lN | apply lD | refine lS ?_ (IsS57.ge HI0.out) | refine lS ?_ GE157.out) | exact HB.out)); rintro e w19 ⟨rfl, hi, hb, hk⟩; refine ⟨_, rfl, ?_⟩; have n0_ := MK (Kd.R_mono (Kd.R_keep (IsS57.apart (show IsS57 w0 _ g s0_0 t168 t169 from by repeat (first | (with_reducible first | exact HI0.out | apply IsS57.alloc | apply IsS57.drewN | apply IsS57.drew | apply IsS57.set_1 | apply IsS57.set_2 | refine IsS57.far ?_ NB0_157.out _) | exact HI0.out)) (by (with_reducible repeat (first | apply Kd.R_alloc | apply Kd.R_drewN | apply Kd.R_drew)); exact HO_5.out) (by decide)) hk (fun _ h => h.2)) (fun _ h => h.1)); have n1_ := MK (KeepBut.blk hk (g' := gb157) (o := .cells #[.int .i64 a1_0, .int .i64 a1_1, .int .i64 a1_2, .int .i64 a1_3, .int .i64 a1_4] 24 (0, 0)) (by (with_reducible repeat (first | refine bN ?_ _ | refine bD ?_ | refine bA ?_ _)); exact BK157.out) NB157_0.out (by simp)); have n2_ := MK (KeepBut.trans (by repeat (first | (with_reducible first | exact HK.out | apply KeepBut.set_ | apply keep_drewN | apply keep_drew | apply keep_alloc | refine keep_far ?_ GW157.out _) | exact HK.out)) hk (.inl rfl)); have n3_ := MK (hb); have n4_ := MK (hi); clear HO_5; clear BK157; clear HK; clear HB; clear HI0; have HO_5 := n0_; have BK157 := n1_; have HK := n2_; have HB := n3_; have HI0 := n4_; clear n0_ n1_ n2_ n3_ n4_; (try clear hb); (try clear hb2); (try clear hk); (try clear hi)) | ((with_reducible refine gate_builtin (b := .append) (xs := #[.tmp 36, .tmp 41]) rfl ?_); at_builtin; refine Kd.R_append k39 w.heap.size rfl (.tmp 36) (.tmp 41) 25 39 (.agg #[(.int .i64 0), (.int .i64 0), (.int .i64 0), (.int .i64 0), (.int .i64 0), (.int .i64 0), (.bool false)]) 56 rfl Try.underlying25 info39 rfl (by decide) (by omega) u5 x5_1 (⟨t170, t171, t172, t173, t174, t175, t176⟩ : S39) [.int .i64 t170, .int .i64 t171, .int .i64 t172, .int .i64 t173, .int .i64 t174, .int .i64 t175, .bool t176] (fun _ => True) (fun _ => False) rfl rfl ?aP (fun _ hk => hk.elim) ?aF ?aO (Below.refl _ _) ?aS ?aL ?_; (case aP => exact k39_mkM _ _ _ (⟨t170, t171, t172, t173, t174, t175, t176⟩ : S39)); (case aF => exact (fun _ _ => trivial)); (case aO => exact (by (with_reducible repeat (first | apply Kd.R_alloc | apply Kd.R_drewN | apply Kd.R_drew)); exact HO_5.out)); (case aS => exact (keep_size (w := w) (g := g) (row := none) (by repeat (first | (with_reducible first | exact HK.out | apply KeepBut.set_ | apply keep_drewN | apply keep_drew | apply keep_alloc | refine keep_far ?_ GW157.out _) | exact HK.out)))); (case aL => have := LMc15.out; omega); intro v180 w20 ho hb hg hat; rw [← Ny179.out] at ho; have n0_ := MK (blk_grown (g := gb157) (o := .cells #[.int .i64 a1_0, .int .i64 a1_1, .int .i64 a1_2, .int .i64 a1_3, .int .i64 a1_4] 24 (0, 0)) (by (with_reducible repeat (first | refine bN ?_ _ | refine bD ?_ | refine bA ?_ _)); exact BK157.out) hg (Kd.R_ne HO_5.out BK157.out (by decide))); have n1_ := MK (IsS57.grown (by repeat (first | (with_reducible first | exact HI0.out | apply IsS57.alloc | apply IsS57.drewN | apply IsS57.drew | apply IsS57.set_1 | apply IsS57.set_2 | refine IsS57.far ?_ NB0_157.out _) | exact HI0.out)) hg (IsS57.own_ne HI0.out HO_5.out (by decide))); have n2_ := MK (below_weaken (by repeat (first | (with_reducible first | exact HB.out | apply lA | apply lN | apply lD | refine lS ?_ (IsS57.ge HI0.out) | refine lS ?_ GE157.out) | exact HB.out)) HL.out hb); have n3_ := MK (KeepBut.trans (by repeat (first | (with_reducible first | exact HK.out | apply KeepBut.set_ | apply keep_drewN | apply keep_drew | apply keep_alloc | refine keep_far ?_ GW157.out _) | exact HK.out)) (KeepBut.of_grown hg g) (Kd.R_base2 HO_5.out)); have n4_ := MK (ho); clear BK157; clear HI0; clear HB; clear HK; clear HO_5; have BK157 := n0_; have HI0 := n1_; have HB := n2_; have HK := n3_; have HO181 := n4_; clear n0_ n1_ n2_ n3_ n4_; clear ho hb hg hat))
      go_roundg k1
      case measure => have := HK1.out; omega
      case rel => exact ⟨(y179), (wrap64 (x6_1 + t167)), (wrap64 (x7_1 - 1)), (t177), (t178), (by first | rfl | (simp; done) | (simp [*]; done)), (by first | rfl | (simp; done) | (simp [*]; done)), H', ⟨by have := HK1.out; omega⟩, ⟨by (with_reducible repeat (first | apply Kd.R_alloc | apply Kd.R_drewN | apply Kd.R_drew)); exact HO181.out⟩, ⟨by (with_reducible repeat (first | refine bN ?_ _ | refine bD ?_ | refine bA ?_ _)); exact BK157.out⟩, ⟨by repeat (first | (with_reducible first | exact HI0.out | apply IsS57.alloc | apply IsS57.drewN | apply IsS57.drew | apply IsS57.set_1 | apply IsS57.set_2 | refine IsS57.far ?_ NB0_157.out _) | exact HI0.out)⟩, ⟨by repeat (first | (with_reducible first | exact HK.out | apply KeepBut.set_ | apply keep_drewN | apply keep_drew | apply keep_alloc | refine keep_far ?_ GW157.out _) | exact HK.out)⟩, ⟨by repeat (first | (with_reducible first | exact HB.out | apply lA | apply lN | apply lD | refine lS ?_ (IsS57.ge HI0.out) | refine lS ?_ GE157.out) | exact HB.out)⟩⟩
     ·rw [if_neg c15] at H
      exact absurd H (by simp)
    ·rw [if_neg c12] at H
     have c12b0 : (t164 == 0) = false := beq_eq_false_iff_ne.mpr c12
     have c12b1 : (t164 != 0) = true := bne_iff_ne.mpr c12
     (first | rw [c12b0] | (simp only [i64_w, i32_w]; rw [c12b0]) | skip)
     by_cases c21 : t164 = 1
     ·rw [if_pos c21] at H
      have c21b0 : (t164 == 1) = true := beq_iff_eq.mpr c21
      have c21b1 : (t164 != 1) = false := bne_eq_false_iff_eq.mpr c21
      clear c21
      replace H := Option.bind_eq_some_iff.mp H
      obtain ⟨⟨t182, t183, t184⟩, A220, H⟩ := H
      replace H : (if t182 = 0 then ((spec_l4Cur_wide.f s0_0 t183 t184 600).bind fun bt185 => (spec_l4Cur_acts.j1 k1 x5_1 (wrap64 (x6_1 - bt185.1)) x7_1 s0_0 bt185.2.1 bt185.2.2 a1_0 a1_1 a1_2 a1_3 a1_4)) else (spec_l4Cur_acts.j1 k1 x5_1 x6_1 x7_1 s0_0 t183 t184 a1_0 a1_1 a1_2 a1_3 a1_4)) = some (r1, r2, r3) := H
      have A22 := MK A220
      clear A220
      have HC23 := MK H
      clear H
      go_upto_if 29 with (first | ((with_reducible refine gate_callee (f := 45) rfl ?_); refine goesL_ (some 28) rfl rfl Try.func45 (by kernel_rfl) rfl #[.pointer (some ⟨g, 0, none⟩), .int .i64 3] rfl (by (try simp only [List.map_toArray, List.map_cons, List.map_nil]); first | done | rfl | (simp only [List.length_drop, List.length_take]; rfl)) ?_; (with_reducible refine (spec_l4Cur_pick.calls g s0_0 t165 t166 3 t182 t183 t184 w0 _ ?side1 ?side2 A22.out).mono ?_); (case side1 => repeat (first | (with_reducible first | exact HI0.out | apply IsS57.alloc | apply IsS57.drewN | apply IsS57.drew | apply IsS57.set_1 | apply IsS57.set_2 | refine IsS57.far ?_ NB0_157.out _) | exact HI0.out)); (case side2 => repeat (first | (with_reducible first | exact HB.out | apply lA | apply lN | apply lD | refine lS ?_ (IsS57.ge HI0.out) | refine lS ?_ GE157.out) | exact HB.out)); rintro e w24 ⟨rfl, hi, hb, hk⟩; refine ⟨_, rfl, ?_⟩; have n0_ := MK (Kd.R_mono (Kd.R_keep (IsS57.apart (show IsS57 w0 _ g s0_0 t165 t166 from by repeat (first | (with_reducible first | exact HI0.out | apply IsS57.alloc | apply IsS57.drewN | apply IsS57.drew | apply IsS57.set_1 | apply IsS57.set_2 | refine IsS57.far ?_ NB0_157.out _) | exact HI0.out)) (by (with_reducible repeat (first | apply Kd.R_alloc | apply Kd.R_drewN | apply Kd.R_drew)); exact HO_5.out) (by decide)) hk (fun _ h => h.2)) (fun _ h => h.1)); have n1_ := MK (KeepBut.blk hk (g' := gb157) (o := .cells #[.int .i64 a1_0, .int .i64 a1_1, .int .i64 a1_2, .int .i64 a1_3, .int .i64 a1_4] 24 (0, 0)) (by (with_reducible repeat (first | refine bN ?_ _ | refine bD ?_ | refine bA ?_ _)); exact BK157.out) NB157_0.out (by simp)); have n2_ := MK (KeepBut.trans (by repeat (first | (with_reducible first | exact HK.out | apply KeepBut.set_ | apply keep_drewN | apply keep_drew | apply keep_alloc | refine keep_far ?_ GW157.out _) | exact HK.out)) hk (.inl rfl)); have n3_ := MK (hb); have n4_ := MK (hi); clear HO_5; clear BK157; clear HK; clear HB; clear HI0; have HO_5 := n0_; have BK157 := n1_; have HK := n2_; have HB := n3_; have HI0 := n4_; clear n0_ n1_ n2_ n3_ n4_; (try clear hb); (try clear hb2); (try clear hk); (try clear hi)))
      (try simp only [Act.put, List.setIfInBounds_toArray, List.set_cons_zero, List.set_cons_succ])
      go_cut [6] (fun v6 wc => ∃ (kq : Nat) (x6_22 : Int) (x1001_22 : Int) (x1002_22 : Int), v6 = .int .i64 x6_22 ∧ Aside0 (spec_l4Cur_acts.j1 kq x5_1 x6_22 x7_1 s0_0 x1001_22 x1002_22 a1_0 a1_1 a1_2 a1_3 a1_4 = some (r1, r2, r3)) ∧ Aside0 (kq ≤ k1) ∧ Aside0 (Kd.R k39 39 wc w.heap.size (fun _ => True) u5 x5_1) ∧ Aside0 (wc.heap[gb157]? = some (.cells #[.int .i64 a1_0, .int .i64 a1_1, .int .i64 a1_2, .int .i64 a1_3, .int .i64 a1_4] 24 (0, 0))) ∧ Aside0 (IsS57 w0 wc g s0_0 x1001_22 x1002_22) ∧ Aside0 (KeepBut w wc g none) ∧ Aside0 (Below w0.heap.size w0 wc))
      case first =>
       have H := HC23.out
       clear HC23
       by_cases c25 : t182 = 0
       ·rw [if_pos c25] at H
        have c25b0 : (t182 == 0) = true := beq_iff_eq.mpr c25
        have c25b1 : (t182 != 0) = false := bne_eq_false_iff_eq.mpr c25
        clear c25
        (first | rw [c25b0] | (simp only [i64_w, i32_w]; rw [c25b0]) | skip)
        replace H := Option.bind_eq_some_iff.mp H
        obtain ⟨⟨t185, t186, t187⟩, A260, H⟩ := H
        replace H : (spec_l4Cur_acts.j1 k1 x5_1 (wrap64 (x6_1 - t185)) x7_1 s0_0 t186 t187 a1_0 a1_1 a1_2 a1_3 a1_4) = some (r1, r2, r3) := H
        have A26 := MK A260
        clear A260
        have H' := MK H
        clear H
        go_wp2_with (first | ((with_reducible refine gate_callee (f := 53) rfl ?_); refine goesL_ (some 32) rfl rfl Try.func53 (by kernel_rfl) rfl #[.pointer (some ⟨g, 0, none⟩), .int .i64 600] rfl (by (try simp only [List.map_toArray, List.map_cons, List.map_nil]); first | done | rfl | (simp only [List.length_drop, List.length_take]; rfl)) ?_; (with_reducible refine (spec_l4Cur_wide.calls g s0_0 t183 t184 600 t185 t186 t187 w0 _ ?side1 ?side2 A26.out).mono ?_); (case side1 => repeat (first | (with_reducible first | exact HI0.out | apply IsS57.alloc | apply IsS57.drewN | apply IsS57.drew | apply IsS57.set_1 | apply IsS57.set_2 | refine IsS57.far ?_ NB0_157.out _) | exact HI0.out)); (case side2 => repeat (first | (with_reducible first | exact HB.out | apply lA | apply lN | apply lD | refine lS ?_ (IsS57.ge HI0.out) | refine lS ?_ GE157.out) | exact HB.out)); rintro e w27 ⟨rfl, hi, hb, hk⟩; refine ⟨_, rfl, ?_⟩; have n0_ := MK (Kd.R_mono (Kd.R_keep (IsS57.apart (show IsS57 w0 _ g s0_0 t183 t184 from by repeat (first | (with_reducible first | exact HI0.out | apply IsS57.alloc | apply IsS57.drewN | apply IsS57.drew | apply IsS57.set_1 | apply IsS57.set_2 | refine IsS57.far ?_ NB0_157.out _) | exact HI0.out)) (by (with_reducible repeat (first | apply Kd.R_alloc | apply Kd.R_drewN | apply Kd.R_drew)); exact HO_5.out) (by decide)) hk (fun _ h => h.2)) (fun _ h => h.1)); have n1_ := MK (KeepBut.blk hk (g' := gb157) (o := .cells #[.int .i64 a1_0, .int .i64 a1_1, .int .i64 a1_2, .int .i64 a1_3, .int .i64 a1_4] 24 (0, 0)) (by (with_reducible repeat (first | refine bN ?_ _ | refine bD ?_ | refine bA ?_ _)); exact BK157.out) NB157_0.out (by simp)); have n2_ := MK (KeepBut.trans (by repeat (first | (with_reducible first | exact HK.out | apply KeepBut.set_ | apply keep_drewN | apply keep_drew | apply keep_alloc | refine keep_far ?_ GW157.out _) | exact HK.out)) hk (.inl rfl)); have n3_ := MK (hb); have n4_ := MK (hi); clear HO_5; clear BK157; clear HK; clear HB; clear HI0; have HO_5 := n0_; have BK157 := n1_; have HK := n2_; have HB := n3_; have HI0 := n4_; clear n0_ n1_ n2_ n3_ n4_; (try clear hb); (try clear hb2); (try clear hk); (try clear hi)))
        go_meet
        case rel => exact ⟨_, (wrap64 (x6_1 - t185)), (t186), (t187), (by first | rfl | (simp; done) | (simp [*]; done)), H', ⟨by have := HK1.out; first | omega | exact Nat.le_refl _⟩, ⟨by (with_reducible repeat (first | apply Kd.R_alloc | apply Kd.R_drewN | apply Kd.R_drew)); exact HO_5.out⟩, ⟨by (with_reducible repeat (first | refine bN ?_ _ | refine bD ?_ | refine bA ?_ _)); exact BK157.out⟩, ⟨by repeat (first | (with_reducible first | exact HI0.out | apply IsS57.alloc | apply IsS57.drewN | apply IsS57.drew | apply IsS57.set_1 | apply IsS57.set_2 | refine IsS57.far ?_ NB0_157.out _) | exact HI0.out)⟩, ⟨by repeat (first | (with_reducible first | exact HK.out | apply KeepBut.set_ | apply keep_drewN | apply keep_drew | apply keep_alloc | refine keep_far ?_ GW157.out _) | exact HK.out)⟩, ⟨by repeat (first | (with_reducible first | exact HB.out | apply lA | apply lN | apply lD | refine lS ?_ (IsS57.ge HI0.out) | refine lS ?_ GE157.out) | exact HB.out)⟩⟩
       ·rw [if_neg c25] at H
        have c25b0 : (t182 == 0) = false := beq_eq_false_iff_ne.mpr c25
        have c25b1 : (t182 != 0) = true := bne_iff_ne.mpr c25
        (first | rw [c25b0] | (simp only [i64_w, i32_w]; rw [c25b0]) | skip)
        have H' := MK H
        clear H
        go_wp2
        go_meet
        case rel => exact ⟨_, (x6_1), (t183), (t184), (by first | rfl | (simp; done) | (simp [*]; done)), H', ⟨by have := HK1.out; first | omega | exact Nat.le_refl _⟩, ⟨by (with_reducible repeat (first | apply Kd.R_alloc | apply Kd.R_drewN | apply Kd.R_drew)); exact HO_5.out⟩, ⟨by (with_reducible repeat (first | refine bN ?_ _ | refine bD ?_ | refine bA ?_ _)); exact BK157.out⟩, ⟨by repeat (first | (with_reducible first | exact HI0.out | apply IsS57.alloc | apply IsS57.drewN | apply IsS57.drew | apply IsS57.set_1 | apply IsS57.set_2 | refine IsS57.far ?_ NB0_157.out _) | exact HI0.out)⟩, ⟨by repeat (first | (with_reducible first | exact HK.out | apply KeepBut.set_ | apply keep_drewN | apply keep_drew | apply keep_alloc | refine keep_far ?_ GW157.out _) | exact HK.out)⟩, ⟨by repeat (first | (with_reducible first | exact HB.out | apply lA | apply lN | apply lD | refine lS ?_ (IsS57.ge HI0.out) | refine lS ?_ GE157.out) | exact HB.out)⟩⟩
      case rest =>
       clear HC23
       (try clear c8); (try clear c12); (try clear c21); (try clear c21b0); (try clear c21b1)
       obtain ⟨kq, x6_22, x1001_22, x1002_22, rfl, HA, HJ22, HO_5, BK157, HI0, HK, HB⟩ := hcut
       cases kq with
       | zero => exact absurd HA.out (by simp [spec_l4Cur_acts.j1])
       | succ kj22 =>
        have H := HA.out
        clear HA
        simp only [spec_l4Cur_acts.j1] at H
        by_cases c28 : x6_22 < 0
        ·rw [if_pos c28] at H
         have c28b0 : decide (x6_22 < 0) = true := decide_eq_true c28
         clear c28
         replace H := Option.bind_eq_some_iff.mp H
         obtain ⟨⟨t188, t189, t190, t191, t192, t193, t194, t195, t196⟩, A290, H⟩ := H
         replace H : (if x5_1.length < 2513169434916 then (spec_l4Cur_acts.l0 kj22 (x5_1 ++ [(⟨t188, t189, t190, t191, t192, t193, t194⟩ : S39)]) 0 (wrap64 (x7_1 - 1)) s0_0 t195 t196 a1_0 a1_1 a1_2 a1_3 a1_4) else (none)) = some (r1, r2, r3) := H
         have A29 := MK A290
         clear A290
         by_cases c30 : x5_1.length < 2513169434916
         ·rw [if_pos c30] at H
          have LMc30 := MK c30
          clear c30
          obtain ⟨y197, hy197⟩ : ∃ y_ : List (S39), y_ = (x5_1 ++ [(⟨t188, t189, t190, t191, t192, t193, t194⟩ : S39)]) := ⟨_, rfl⟩
          replace H : (spec_l4Cur_acts.l0 kj22 y197 0 (wrap64 (x7_1 - 1)) s0_0 t195 t196 a1_0 a1_1 a1_2 a1_3 a1_4) = some (r1, r2, r3) := by first | (rw [hy197]; with_reducible exact H) | (have H2_ := (Option.bind_some _ _).symm.trans H; rw [hy197]; with_reducible exact H2_) | (have H2_ := (Option.bind_some _ _).symm.trans H; with_reducible exact H2_) | with_reducible exact H | (rw [hy197]; exact H) | exact H
          have Ny197 := MK hy197
          clear hy197
          have H' := MK H
          clear H
          have hnb31 := NB157_0.out
          have hnc31 := NB0_157.out
          obtain ⟨hcz32_0, hcz32_1, hcz32_2, hcz32_3, hcz32_4⟩ := bc5 BK157.out
          obtain ⟨hfz32_0, hfz32_1, hfz32_2, hfz32_3, hfz32_4⟩ := bf5 BK157.out
          go_wp2_with (first | ((with_reducible refine gate_callee (f := 54) rfl ?_); refine goesL_ (some 40) rfl rfl Try.func54 (by kernel_rfl) rfl #[.pointer (some ⟨g, 0, none⟩), .agg #[.int .i64 a1_0, .int .i64 a1_1, .int .i64 a1_2, .int .i64 a1_3, .int .i64 a1_4], .int .i64 0] rfl (by (try simp only [List.map_toArray, List.map_cons, List.map_nil]); first | done | rfl | (simp only [List.length_drop, List.length_take]; rfl)) ?_; (with_reducible refine (spec_l4Cur_act.calls g s0_0 x1001_22 x1002_22 a1_0 a1_1 a1_2 a1_3 a1_4 0 t188 t189 t190 t191 t192 t193 t194 t195 t196 w0 _ ?side1 ?side2 A29.out).mono ?_); (case side1 => repeat (first | (with_reducible first | exact HI0.out | apply IsS57.alloc | apply IsS57.drewN | apply IsS57.drew | apply IsS57.set_1 | apply IsS57.set_2 | refine IsS57.far ?_ NB0_157.out _) | exact HI0.out)); (case side2 => repeat (first | (with_reducible first | exact HB.out | apply lA | apply lN | apply lD | refine lS ?_ (IsS57.ge HI0.out) | refine lS ?_ GE157.out) | exact HB.out)); rintro e w33 ⟨rfl, hi, hb, hk⟩; refine ⟨_, rfl, ?_⟩; have n0_ := MK (Kd.R_mono (Kd.R_keep (IsS57.apart (show IsS57 w0 _ g s0_0 x1001_22 x1002_22 from by repeat (first | (with_reducible first | exact HI0.out | apply IsS57.alloc | apply IsS57.drewN | apply IsS57.drew | apply IsS57.set_1 | apply IsS57.set_2 | refine IsS57.far ?_ NB0_157.out _) | exact HI0.out)) (by (with_reducible repeat (first | apply Kd.R_alloc | apply Kd.R_drewN | apply Kd.R_drew)); exact HO_5.out) (by decide)) hk (fun _ h => h.2)) (fun _ h => h.1)); have n1_ := MK (KeepBut.blk hk (g' := gb157) (o := .cells #[.int .i64 a1_0, .int .i64 a1_1, .int .i64 a1_2, .int .i64 a1_3, .int .i64 a1_4] 24 (0, 0)) (by (with_reducible repeat (first | refine bN ?_ _ | refine bD ?_ | refine bA ?_ _)); exact BK157.out) NB157_0.out (by simp)); have n2_ := MK (KeepBut.trans (by repeat (first | (with_reducible first | exact HK.out | apply KeepBut.set_ | apply keep_drewN | apply keep_drew | apply keep_alloc | refine keep_far ?_ GW157.out _) | exact HK.out)) hk (.inl rfl)); have n3_ := MK (hb); have n4_ := MK (hi); clear HO_5; clear BK157; clear HK; clear HB; clear HI0; have HO_5 := n0_; have BK157 := n1_; have HK := n2_; have HB := n3_; have HI0 := n4_; clear n0_ n1_ n2_ n3_ n4_; (try clear hb); (try clear hb2); (try clear hk); (try clear hi)) | ((with_reducible refine gate_builtin (b := .append) (xs := #[.tmp 36, .tmp 41]) rfl ?_); at_builtin; refine Kd.R_append k39 w.heap.size rfl (.tmp 36) (.tmp 41) 25 39 (.agg #[(.int .i64 0), (.int .i64 0), (.int .i64 0), (.int .i64 0), (.int .i64 0), (.int .i64 0), (.bool false)]) 56 rfl Try.underlying25 info39 rfl (by decide) (by omega) u5 x5_1 (⟨t188, t189, t190, t191, t192, t193, t194⟩ : S39) [.int .i64 t188, .int .i64 t189, .int .i64 t190, .int .i64 t191, .int .i64 t192, .int .i64 t193, .bool t194] (fun _ => True) (fun _ => False) rfl rfl ?aP (fun _ hk => hk.elim) ?aF ?aO (Below.refl _ _) ?aS ?aL ?_; (case aP => exact k39_mkM _ _ _ (⟨t188, t189, t190, t191, t192, t193, t194⟩ : S39)); (case aF => exact (fun _ _ => trivial)); (case aO => exact (by (with_reducible repeat (first | apply Kd.R_alloc | apply Kd.R_drewN | apply Kd.R_drew)); exact HO_5.out)); (case aS => exact (keep_size (w := w) (g := g) (row := none) (by repeat (first | (with_reducible first | exact HK.out | apply KeepBut.set_ | apply keep_drewN | apply keep_drew | apply keep_alloc | refine keep_far ?_ GW157.out _) | exact HK.out)))); (case aL => have := LMc30.out; omega); intro v198 w34 ho hb hg hat; rw [← Ny197.out] at ho; have n0_ := MK (blk_grown (g := gb157) (o := .cells #[.int .i64 a1_0, .int .i64 a1_1, .int .i64 a1_2, .int .i64 a1_3, .int .i64 a1_4] 24 (0, 0)) (by (with_reducible repeat (first | refine bN ?_ _ | refine bD ?_ | refine bA ?_ _)); exact BK157.out) hg (Kd.R_ne HO_5.out BK157.out (by decide))); have n1_ := MK (IsS57.grown (by repeat (first | (with_reducible first | exact HI0.out | apply IsS57.alloc | apply IsS57.drewN | apply IsS57.drew | apply IsS57.set_1 | apply IsS57.set_2 | refine IsS57.far ?_ NB0_157.out _) | exact HI0.out)) hg (IsS57.own_ne HI0.out HO_5.out (by decide))); have n2_ := MK (below_weaken (by repeat (first | (with_reducible first | exact HB.out | apply lA | apply lN | apply lD | refine lS ?_ (IsS57.ge HI0.out) | refine lS ?_ GE157.out) | exact HB.out)) HL.out hb); have n3_ := MK (KeepBut.trans (by repeat (first | (with_reducible first | exact HK.out | apply KeepBut.set_ | apply keep_drewN | apply keep_drew | apply keep_alloc | refine keep_far ?_ GW157.out _) | exact HK.out)) (KeepBut.of_grown hg g) (Kd.R_base2 HO_5.out)); have n4_ := MK (ho); clear BK157; clear HI0; clear HB; clear HK; clear HO_5; have BK157 := n0_; have HI0 := n1_; have HB := n2_; have HK := n3_; have HO199 := n4_; clear n0_ n1_ n2_ n3_ n4_; clear ho hb hg hat))
          go_roundg kj22
          case measure => have := HK1.out; have := HJ22.out; omega
          case rel => exact ⟨(y197), (0), (wrap64 (x7_1 - 1)), (t195), (t196), (by first | rfl | (simp; done) | (simp [*]; done)), (by first | rfl | (simp; done) | (simp [*]; done)), H', ⟨by have := HK1.out; have := HJ22.out; omega⟩, ⟨by (with_reducible repeat (first | apply Kd.R_alloc | apply Kd.R_drewN | apply Kd.R_drew)); exact HO199.out⟩, ⟨by (with_reducible repeat (first | refine bN ?_ _ | refine bD ?_ | refine bA ?_ _)); exact BK157.out⟩, ⟨by repeat (first | (with_reducible first | exact HI0.out | apply IsS57.alloc | apply IsS57.drewN | apply IsS57.drew | apply IsS57.set_1 | apply IsS57.set_2 | refine IsS57.far ?_ NB0_157.out _) | exact HI0.out)⟩, ⟨by repeat (first | (with_reducible first | exact HK.out | apply KeepBut.set_ | apply keep_drewN | apply keep_drew | apply keep_alloc | refine keep_far ?_ GW157.out _) | exact HK.out)⟩, ⟨by repeat (first | (with_reducible first | exact HB.out | apply lA | apply lN | apply lD | refine lS ?_ (IsS57.ge HI0.out) | refine lS ?_ GE157.out) | exact HB.out)⟩⟩
         ·rw [if_neg c30] at H
          exact absurd H (by simp)
        ·rw [if_neg c28] at H
         have c28b0 : decide (x6_22 < 0) = false := decide_eq_false c28
         clear c28
         replace H := Option.bind_eq_some_iff.mp H
         obtain ⟨⟨t200, t201, t202, t203, t204, t205, t206, t207, t208⟩, A350, H⟩ := H
         replace H : (if x5_1.length < 2513169434916 then (spec_l4Cur_acts.l0 kj22 (x5_1 ++ [(⟨t200, t201, t202, t203, t204, t205, t206⟩ : S39)]) x6_22 (wrap64 (x7_1 - 1)) s0_0 t207 t208 a1_0 a1_1 a1_2 a1_3 a1_4) else (none)) = some (r1, r2, r3) := H
         have A35 := MK A350
         clear A350
         by_cases c36 : x5_1.length < 2513169434916
         ·rw [if_pos c36] at H
          have LMc36 := MK c36
          clear c36
          obtain ⟨y209, hy209⟩ : ∃ y_ : List (S39), y_ = (x5_1 ++ [(⟨t200, t201, t202, t203, t204, t205, t206⟩ : S39)]) := ⟨_, rfl⟩
          replace H : (spec_l4Cur_acts.l0 kj22 y209 x6_22 (wrap64 (x7_1 - 1)) s0_0 t207 t208 a1_0 a1_1 a1_2 a1_3 a1_4) = some (r1, r2, r3) := by first | (rw [hy209]; with_reducible exact H) | (have H2_ := (Option.bind_some _ _).symm.trans H; rw [hy209]; with_reducible exact H2_) | (have H2_ := (Option.bind_some _ _).symm.trans H; with_reducible exact H2_) | with_reducible exact H | (rw [hy209]; exact H) | exact H
          have Ny209 := MK hy209
          clear hy209
          have H' := MK H
          clear H
          have hnb37 := NB157_0.out
          have hnc37 := NB0_157.out
          obtain ⟨hcz38_0, hcz38_1, hcz38_2, hcz38_3, hcz38_4⟩ := bc5 BK157.out
          obtain ⟨hfz38_0, hfz38_1, hfz38_2, hfz38_3, hfz38_4⟩ := bf5 BK157.out
          go_wp2_with (first | ((with_reducible refine gate_callee (f := 54) rfl ?_); refine goesL_ (some 40) rfl rfl Try.func54 (by kernel_rfl) rfl #[.pointer (some ⟨g, 0, none⟩), .agg #[.int .i64 a1_0, .int .i64 a1_1, .int .i64 a1_2, .int .i64 a1_3, .int .i64 a1_4], .int .i64 x6_22] rfl (by (try simp only [List.map_toArray, List.map_cons, List.map_nil]); first | done | rfl | (simp only [List.length_drop, List.length_take]; rfl)) ?_; (with_reducible refine (spec_l4Cur_act.calls g s0_0 x1001_22 x1002_22 a1_0 a1_1 a1_2 a1_3 a1_4 x6_22 t200 t201 t202 t203 t204 t205 t206 t207 t208 w0 _ ?side1 ?side2 A35.out).mono ?_); (case side1 => repeat (first | (with_reducible first | exact HI0.out | apply IsS57.alloc | apply IsS57.drewN | apply IsS57.drew | apply IsS57.set_1 | apply IsS57.set_2 | refine IsS57.far ?_ NB0_157.out _) | exact HI0.out)); (case side2 => repeat (first | (with_reducible first | exact HB.out | apply lA | apply lN | apply lD | refine lS ?_ (IsS57.ge HI0.out) | refine lS ?_ GE157.out) | exact HB.out)); rintro e w39 ⟨rfl, hi, hb, hk⟩; refine ⟨_, rfl, ?_⟩; have n0_ := MK (Kd.R_mono (Kd.R_keep (IsS57.apart (show IsS57 w0 _ g s0_0 x1001_22 x1002_22 from by repeat (first | (with_reducible first | exact HI0.out | apply IsS57.alloc | apply IsS57.drewN | apply IsS57.drew | apply IsS57.set_1 | apply IsS57.set_2 | refine IsS57.far ?_ NB0_157.out _) | exact HI0.out)) (by (with_reducible repeat (first | apply Kd.R_alloc | apply Kd.R_drewN | apply Kd.R_drew)); exact HO_5.out) (by decide)) hk (fun _ h => h.2)) (fun _ h => h.1)); have n1_ := MK (KeepBut.blk hk (g' := gb157) (o := .cells #[.int .i64 a1_0, .int .i64 a1_1, .int .i64 a1_2, .int .i64 a1_3, .int .i64 a1_4] 24 (0, 0)) (by (with_reducible repeat (first | refine bN ?_ _ | refine bD ?_ | refine bA ?_ _)); exact BK157.out) NB157_0.out (by simp)); have n2_ := MK (KeepBut.trans (by repeat (first | (with_reducible first | exact HK.out | apply KeepBut.set_ | apply keep_drewN | apply keep_drew | apply keep_alloc | refine keep_far ?_ GW157.out _) | exact HK.out)) hk (.inl rfl)); have n3_ := MK (hb); have n4_ := MK (hi); clear HO_5; clear BK157; clear HK; clear HB; clear HI0; have HO_5 := n0_; have BK157 := n1_; have HK := n2_; have HB := n3_; have HI0 := n4_; clear n0_ n1_ n2_ n3_ n4_; (try clear hb); (try clear hb2); (try clear hk); (try clear hi)) | ((with_reducible refine gate_builtin (b := .append) (xs := #[.tmp 36, .tmp 41]) rfl ?_); at_builtin; refine Kd.R_append k39 w.heap.size rfl (.tmp 36) (.tmp 41) 25 39 (.agg #[(.int .i64 0), (.int .i64 0), (.int .i64 0), (.int .i64 0), (.int .i64 0), (.int .i64 0), (.bool false)]) 56 rfl Try.underlying25 info39 rfl (by decide) (by omega) u5 x5_1 (⟨t200, t201, t202, t203, t204, t205, t206⟩ : S39) [.int .i64 t200, .int .i64 t201, .int .i64 t202, .int .i64 t203, .int .i64 t204, .int .i64 t205, .bool t206] (fun _ => True) (fun _ => False) rfl rfl ?aP (fun _ hk => hk.elim) ?aF ?aO (Below.refl _ _) ?aS ?aL ?_; (case aP => exact k39_mkM _ _ _ (⟨t200, t201, t202, t203, t204, t205, t206⟩ : S39)); (case aF => exact (fun _ _ => trivial)); (case aO => exact (by (with_reducible repeat (first | apply Kd.R_alloc | apply Kd.R_drewN | apply Kd.R_drew)); exact HO_5.out)); (case aS => exact (keep_size (w := w) (g := g) (row := none) (by repeat (first | (with_reducible first | exact HK.out | apply KeepBut.set_ | apply keep_drewN | apply keep_drew | apply keep_alloc | refine keep_far ?_ GW157.out _) | exact HK.out)))); (case aL => have := LMc36.out; omega); intro v210 w40 ho hb hg hat; rw [← Ny209.out] at ho; have n0_ := MK (blk_grown (g := gb157) (o := .cells #[.int .i64 a1_0, .int .i64 a1_1, .int .i64 a1_2, .int .i64 a1_3, .int .i64 a1_4] 24 (0, 0)) (by (with_reducible repeat (first | refine bN ?_ _ | refine bD ?_ | refine bA ?_ _)); exact BK157.out) hg (Kd.R_ne HO_5.out BK157.out (by decide))); have n1_ := MK (IsS57.grown (by repeat (first | (with_reducible first | exact HI0.out | apply IsS57.alloc | apply IsS57.drewN | apply IsS57.drew | apply IsS57.set_1 | apply IsS57.set_2 | refine IsS57.far ?_ NB0_157.out _) | exact HI0.out)) hg (IsS57.own_ne HI0.out HO_5.out (by decide))); have n2_ := MK (below_weaken (by repeat (first | (with_reducible first | exact HB.out | apply lA | apply lN | apply lD | refine lS ?_ (IsS57.ge HI0.out) | refine lS ?_ GE157.out) | exact HB.out)) HL.out hb); have n3_ := MK (KeepBut.trans (by repeat (first | (with_reducible first | exact HK.out | apply KeepBut.set_ | apply keep_drewN | apply keep_drew | apply keep_alloc | refine keep_far ?_ GW157.out _) | exact HK.out)) (KeepBut.of_grown hg g) (Kd.R_base2 HO_5.out)); have n4_ := MK (ho); clear BK157; clear HI0; clear HB; clear HK; clear HO_5; have BK157 := n0_; have HI0 := n1_; have HB := n2_; have HK := n3_; have HO211 := n4_; clear n0_ n1_ n2_ n3_ n4_; clear ho hb hg hat))
          go_roundg kj22
          case measure => have := HK1.out; have := HJ22.out; omega
          case rel => exact ⟨(y209), (x6_22), (wrap64 (x7_1 - 1)), (t207), (t208), (by first | rfl | (simp; done) | (simp [*]; done)), (by first | rfl | (simp; done) | (simp [*]; done)), H', ⟨by have := HK1.out; have := HJ22.out; omega⟩, ⟨by (with_reducible repeat (first | apply Kd.R_alloc | apply Kd.R_drewN | apply Kd.R_drew)); exact HO211.out⟩, ⟨by (with_reducible repeat (first | refine bN ?_ _ | refine bD ?_ | refine bA ?_ _)); exact BK157.out⟩, ⟨by repeat (first | (with_reducible first | exact HI0.out | apply IsS57.alloc | apply IsS57.drewN | apply IsS57.drew | apply IsS57.set_1 | apply IsS57.set_2 | refine IsS57.far ?_ NB0_157.out _) | exact HI0.out)⟩, ⟨by repeat (first | (with_reducible first | exact HK.out | apply KeepBut.set_ | apply keep_drewN | apply keep_drew | apply keep_alloc | refine keep_far ?_ GW157.out _) | exact HK.out)⟩, ⟨by repeat (first | (with_reducible first | exact HB.out | apply lA | apply lN | apply lD | refine lS ?_ (IsS57.ge HI0.out) | refine lS ?_ GE157.out) | exact HB.out)⟩⟩
         ·rw [if_neg c36] at H
          exact absurd H (by simp)
     ·rw [if_neg c21] at H
      have c21b0 : (t164 == 1) = false := beq_eq_false_iff_ne.mpr c21
      have c21b1 : (t164 != 1) = true := bne_iff_ne.mpr c21
      replace H := Option.bind_eq_some_iff.mp H
      obtain ⟨⟨t212, t213, t214, t215, t216, t217, t218, t219, t220⟩, A410, H⟩ := H
      replace H : (if x5_1.length < 2513169434916 then (spec_l4Cur_acts.l0 k1 (x5_1 ++ [(⟨t212, t213, t214, t215, t216, t217, t218⟩ : S39)]) x6_1 (wrap64 (x7_1 - 1)) s0_0 t219 t220 a1_0 a1_1 a1_2 a1_3 a1_4) else (none)) = some (r1, r2, r3) := H
      have A41 := MK A410
      clear A410
      by_cases c42 : x5_1.length < 2513169434916
      ·rw [if_pos c42] at H
       have LMc42 := MK c42
       clear c42
       obtain ⟨y221, hy221⟩ : ∃ y_ : List (S39), y_ = (x5_1 ++ [(⟨t212, t213, t214, t215, t216, t217, t218⟩ : S39)]) := ⟨_, rfl⟩
       replace H : (spec_l4Cur_acts.l0 k1 y221 x6_1 (wrap64 (x7_1 - 1)) s0_0 t219 t220 a1_0 a1_1 a1_2 a1_3 a1_4) = some (r1, r2, r3) := by first | (rw [hy221]; with_reducible exact H) | (have H2_ := (Option.bind_some _ _).symm.trans H; rw [hy221]; with_reducible exact H2_) | (have H2_ := (Option.bind_some _ _).symm.trans H; with_reducible exact H2_) | with_reducible exact H | (rw [hy221]; exact H) | exact H
       have Ny221 := MK hy221
       clear hy221
       have H' := MK H
       clear H
       have hnb43 := NB157_0.out
       have hnc43 := NB0_157.out
       obtain ⟨hcz44_0, hcz44_1, hcz44_2, hcz44_3, hcz44_4⟩ := bc5 BK157.out
       obtain ⟨hfz44_0, hfz44_1, hfz44_2, hfz44_3, hfz44_4⟩ := bf5 BK157.out
       go_wp2_with (first | ((with_reducible refine gate_callee (f := 54) rfl ?_); refine goesL_ (some 40) rfl rfl Try.func54 (by kernel_rfl) rfl #[.pointer (some ⟨g, 0, none⟩), .agg #[.int .i64 a1_0, .int .i64 a1_1, .int .i64 a1_2, .int .i64 a1_3, .int .i64 a1_4], .int .i64 x6_1] rfl (by (try simp only [List.map_toArray, List.map_cons, List.map_nil]); first | done | rfl | (simp only [List.length_drop, List.length_take]; rfl)) ?_; (with_reducible refine (spec_l4Cur_act.calls g s0_0 t165 t166 a1_0 a1_1 a1_2 a1_3 a1_4 x6_1 t212 t213 t214 t215 t216 t217 t218 t219 t220 w0 _ ?side1 ?side2 A41.out).mono ?_); (case side1 => repeat (first | (with_reducible first | exact HI0.out | apply IsS57.alloc | apply IsS57.drewN | apply IsS57.drew | apply IsS57.set_1 | apply IsS57.set_2 | refine IsS57.far ?_ NB0_157.out _) | exact HI0.out)); (case side2 => repeat (first | (with_reducible first | exact HB.out | apply lA | apply lN | apply lD | refine lS ?_ (IsS57.ge HI0.out) | refine lS ?_ GE157.out) | exact HB.out)); rintro e w45 ⟨rfl, hi, hb, hk⟩; refine ⟨_, rfl, ?_⟩; have n0_ := MK (Kd.R_mono (Kd.R_keep (IsS57.apart (show IsS57 w0 _ g s0_0 t165 t166 from by repeat (first | (with_reducible first | exact HI0.out | apply IsS57.alloc | apply IsS57.drewN | apply IsS57.drew | apply IsS57.set_1 | apply IsS57.set_2 | refine IsS57.far ?_ NB0_157.out _) | exact HI0.out)) (by (with_reducible repeat (first | apply Kd.R_alloc | apply Kd.R_drewN | apply Kd.R_drew)); exact HO_5.out) (by decide)) hk (fun _ h => h.2)) (fun _ h => h.1)); have n1_ := MK (KeepBut.blk hk (g' := gb157) (o := .cells #[.int .i64 a1_0, .int .i64 a1_1, .int .i64 a1_2, .int .i64 a1_3, .int .i64 a1_4] 24 (0, 0)) (by (with_reducible repeat (first | refine bN ?_ _ | refine bD ?_ | refine bA ?_ _)); exact BK157.out) NB157_0.out (by simp)); have n2_ := MK (KeepBut.trans (by repeat (first | (with_reducible first | exact HK.out | apply KeepBut.set_ | apply keep_drewN | apply keep_drew | apply keep_alloc | refine keep_far ?_ GW157.out _) | exact HK.out)) hk (.inl rfl)); have n3_ := MK (hb); have n4_ := MK (hi); clear HO_5; clear BK157; clear HK; clear HB; clear HI0; have HO_5 := n0_; have BK157 := n1_; have HK := n2_; have HB := n3_; have HI0 := n4_; clear n0_ n1_ n2_ n3_ n4_; (try clear hb); (try clear hb2); (try clear hk); (try clear hi)) | ((with_reducible refine gate_builtin (b := .append) (xs := #[.tmp 36, .tmp 41]) rfl ?_); at_builtin; refine Kd.R_append k39 w.heap.size rfl (.tmp 36) (.tmp 41) 25 39 (.agg #[(.int .i64 0), (.int .i64 0), (.int .i64 0), (.int .i64 0), (.int .i64 0), (.int .i64 0), (.bool false)]) 56 rfl Try.underlying25 info39 rfl (by decide) (by omega) u5 x5_1 (⟨t212, t213, t214, t215, t216, t217, t218⟩ : S39) [.int .i64 t212, .int .i64 t213, .int .i64 t214, .int .i64 t215, .int .i64 t216, .int .i64 t217, .bool t218] (fun _ => True) (fun _ => False) rfl rfl ?aP (fun _ hk => hk.elim) ?aF ?aO (Below.refl _ _) ?aS ?aL ?_; (case aP => exact k39_mkM _ _ _ (⟨t212, t213, t214, t215, t216, t217, t218⟩ : S39)); (case aF => exact (fun _ _ => trivial)); (case aO => exact (by (with_reducible repeat (first | apply Kd.R_alloc | apply Kd.R_drewN | apply Kd.R_drew)); exact HO_5.out)); (case aS => exact (keep_size (w := w) (g := g) (row := none) (by repeat (first | (with_reducible first | exact HK.out | apply KeepBut.set_ | apply keep_drewN | apply keep_drew | apply keep_alloc | refine keep_far ?_ GW157.out _) | exact HK.out)))); (case aL => have := LMc42.out; omega); intro v222 w46 ho hb hg hat; rw [← Ny221.out] at ho; have n0_ := MK (blk_grown (g := gb157) (o := .cells #[.int .i64 a1_0, .int .i64 a1_1, .int .i64 a1_2, .int .i64 a1_3, .int .i64 a1_4] 24 (0, 0)) (by (with_reducible repeat (first | refine bN ?_ _ | refine bD ?_ | refine bA ?_ _)); exact BK157.out) hg (Kd.R_ne HO_5.out BK157.out (by decide))); have n1_ := MK (IsS57.grown (by repeat (first | (with_reducible first | exact HI0.out | apply IsS57.alloc | apply IsS57.drewN | apply IsS57.drew | apply IsS57.set_1 | apply IsS57.set_2 | refine IsS57.far ?_ NB0_157.out _) | exact HI0.out)) hg (IsS57.own_ne HI0.out HO_5.out (by decide))); have n2_ := MK (below_weaken (by repeat (first | (with_reducible first | exact HB.out | apply lA | apply lN | apply lD | refine lS ?_ (IsS57.ge HI0.out) | refine lS ?_ GE157.out) | exact HB.out)) HL.out hb); have n3_ := MK (KeepBut.trans (by repeat (first | (with_reducible first | exact HK.out | apply KeepBut.set_ | apply keep_drewN | apply keep_drew | apply keep_alloc | refine keep_far ?_ GW157.out _) | exact HK.out)) (KeepBut.of_grown hg g) (Kd.R_base2 HO_5.out)); have n4_ := MK (ho); clear BK157; clear HI0; clear HB; clear HK; clear HO_5; have BK157 := n0_; have HI0 := n1_; have HB := n2_; have HK := n3_; have HO223 := n4_; clear n0_ n1_ n2_ n3_ n4_; clear ho hb hg hat))
       go_roundg k1
       case measure => have := HK1.out; omega
       case rel => exact ⟨(y221), (x6_1), (wrap64 (x7_1 - 1)), (t219), (t220), (by first | rfl | (simp; done) | (simp [*]; done)), (by first | rfl | (simp; done) | (simp [*]; done)), H', ⟨by have := HK1.out; omega⟩, ⟨by (with_reducible repeat (first | apply Kd.R_alloc | apply Kd.R_drewN | apply Kd.R_drew)); exact HO223.out⟩, ⟨by (with_reducible repeat (first | refine bN ?_ _ | refine bD ?_ | refine bA ?_ _)); exact BK157.out⟩, ⟨by repeat (first | (with_reducible first | exact HI0.out | apply IsS57.alloc | apply IsS57.drewN | apply IsS57.drew | apply IsS57.set_1 | apply IsS57.set_2 | refine IsS57.far ?_ NB0_157.out _) | exact HI0.out)⟩, ⟨by repeat (first | (with_reducible first | exact HK.out | apply KeepBut.set_ | apply keep_drewN | apply keep_drew | apply keep_alloc | refine keep_far ?_ GW157.out _) | exact HK.out)⟩, ⟨by repeat (first | (with_reducible first | exact HB.out | apply lA | apply lN | apply lD | refine lS ?_ (IsS57.ge HI0.out) | refine lS ?_ GE157.out) | exact HB.out)⟩⟩
      ·rw [if_neg c42] at H
       exact absurd H (by simp)
   ·rw [if_neg c8] at H
    have c8b0 : decide (0 < x7_1) = false := decide_eq_false c8
    clear c8
    simp only [Option.some.injEq, Prod.mk.injEq] at H
    obtain ⟨rfl, rfl, rfl⟩ := H
    go_wp2
    go_ret
    exact ⟨_, by first | rfl | (simp [errW_none, errW_some] <;> rfl) | (simp [*, errW_none, errW_some] <;> rfl), by (with_reducible repeat (first | apply Kd.R_alloc | apply Kd.R_drewN | apply Kd.R_drew)); exact HO_5.out, by repeat (first | (with_reducible first | exact HI0.out | apply IsS57.alloc | apply IsS57.drewN | apply IsS57.drew | apply IsS57.set_1 | apply IsS57.set_2 | refine IsS57.far ?_ NB0_157.out _) | exact HI0.out), by repeat (first | (with_reducible first | exact HB.out | apply lA | apply lN | apply lD | refine lS ?_ (IsS57.ge HI0.out) | refine lS ?_ GE157.out) | exact HB.out), by repeat (first | (with_reducible first | exact HK.out | apply KeepBut.set_ | apply keep_drewN | apply keep_drew | apply keep_alloc | refine keep_far ?_ GW157.out _) | exact HK.out)⟩

/-! ### spec_Drives: function 9 -/
def spec_Drives.f (k : Nat) (l0 : List Int) : Option (Int × Int × Int × Int × Int × (List (S39))) := (spec_l4Cur_brakes.f l0 0 0).bind fun bt226 => ((spec_l4Cur_acts.f k l0 bt226.2.2.2.2.2.1 bt226.2.2.2.2.2.2 bt226.1 bt226.2.1 bt226.2.2.1 bt226.2.2.2.1 bt226.2.2.2.2.1).bind fun bt234 => (some (bt226.1, bt226.2.1, bt226.2.2.1, bt226.2.2.2.1, bt226.2.2.2.2.1, bt234.1)))
set_option maxHeartbeats 8000000 in
set_option maxRecDepth 100000 in
theorem spec_Drives.calls (k : Nat) (A0 : Option Addr) (c0 : Nat) (l0 : List Int) (r1 : Int) (r2 : Int) (r3 : Int) (r4 : Int) (r5 : Int) (r6 : List (S39)) (w : World) (hr0 : Kd.C (Kd.int .u8) w A0 l0.length l0) (hc0 : l0.length ≤ c0) (h : spec_Drives.f k l0 = some (r1, r2, r3, r4, r5, r6)) :
  Calls Try.prog 9 #[.slice A0 l0.length c0] w fun e w' => ∃ v5_ : Value, e = .returned (.tuple #[.agg #[.int .i64 r1, .int .i64 r2, .int .i64 r3, .int .i64 r4, .int .i64 r5], v5_]) ∧ Kd.R k39 39 w' w.heap.size (fun _ => True) v5_ r6 ∧ Below w.heap.size w w' := by
 have hu24 := Try.underlying24
 have hu57 := Try.underlying57
 have HR0 := MK hr0
 have HC0 := MK hc0
 clear hr0 hc0
 have HB := MK (Below.refl w.heap.size w)
 have H : ((spec_l4Cur_brakes.f l0 0 0).bind fun bt226 => ((spec_l4Cur_acts.f k l0 bt226.2.2.2.2.2.1 bt226.2.2.2.2.2.2 bt226.1 bt226.2.1 bt226.2.2.1 bt226.2.2.2.1 bt226.2.2.2.2.1).bind fun bt234 => (some (bt226.1, bt226.2.1, bt226.2.2.1, bt226.2.2.2.1, bt226.2.2.2.2.1, bt234.1)))) = some (r1, r2, r3, r4, r5, r6) := h
 clear h
 replace H := Option.bind_eq_some_iff.mp H
 obtain ⟨⟨t226, t227, t228, t229, t230, t231, t232⟩, A20, H⟩ := H
 replace H : ((spec_l4Cur_acts.f k l0 t231 t232 t226 t227 t228 t229 t230).bind fun bt234 => (some (t226, t227, t228, t229, t230, bt234.1))) = some (r1, r2, r3, r4, r5, r6) := H
 have A2 := MK A20
 clear A20
 replace H := Option.bind_eq_some_iff.mp H
 obtain ⟨⟨t234, t237, t238⟩, A30, H⟩ := H
 replace H : (some (t226, t227, t228, t229, t230, t234)) = some (r1, r2, r3, r4, r5, r6) := H
 have A3 := MK A30
 clear A30
 simp only [Option.some.injEq, Prod.mk.injEq] at H
 obtain ⟨rfl, rfl, rfl, rfl, rfl, rfl⟩ := H
 go_enter Try.func9, Try.ntmps9
 try go_wp2_with (first | ((with_reducible refine gate_dst (N := 2) rfl ?_); refine box_event ?hg (N := 2) ?hd (cs := #[.int .i64 0, .int .i64 0, .int .i64 0, .int .i64 0, .int .i64 0]) (t := 24) ?hr ?_; (case hd => rfl); (case hg => rfl); (case hr => first | (go_simp; done) | (go_simp; rfl)); intro gb224 hg w4 hbox hb; have n0_ := MK (below_step (by repeat (first | (with_reducible first | exact HB.out | apply lA | apply lN | apply lD) | exact HB.out)) hb); have n1_ := MK (hbox); have n2_ := MK ((by rw [hg]; exact (below_size (by repeat (first | (with_reducible first | exact HB.out | apply lA | apply lN | apply lD) | exact HB.out))) : w.heap.size ≤ gb224)); have n3_ := MK ((by rw [hg]; exact (below_size (by repeat (first | (with_reducible first | exact HB.out | apply lA | apply lN | apply lD) | exact HB.out))) : w.heap.size ≤ gb224)); clear HB; have HB := n0_; have BK224 := n1_; have GW224 := n2_; have GE224 := n3_; clear n0_ n1_ n2_ n3_; clear hb hbox hg) | ((with_reducible refine gate_dst (N := 8) rfl ?_); refine box_event ?hg (N := 8) ?hd (cs := #[.slice A0 l0.length c0, .int .i64 0, .int .u64 0]) (t := 57) ?hr ?_; (case hd => rfl); (case hg => rfl); (case hr => first | (go_simp; done) | (go_simp; rfl)); intro gb225 hg w5 hbox hb; have n0_ := MK (blk_below (by (with_reducible repeat (first | refine bN ?_ _ | refine bD ?_ | refine bA ?_ _)); exact BK224.out) hb); have n1_ := MK (below_step (by repeat (first | (with_reducible first | exact HB.out | apply lA | apply lN | apply lD | refine lS ?_ GE224.out) | exact HB.out)) hb); have n2_ := MK ((⟨_, _, hbox, (by rw [hg]; exact (below_size (by repeat (first | (with_reducible first | exact HB.out | apply lA | apply lN | apply lD | refine lS ?_ GE224.out) | exact HB.out))) : w.heap.size ≤ gb225), HR0.out⟩ : IsS57 w w5 gb225 l0 0 0)); have n3_ := MK ((by rw [hg]; exact (below_size (by repeat (first | (with_reducible first | exact HB.out | apply lA | apply lN | apply lD | refine lS ?_ GE224.out) | exact HB.out))) : w.heap.size ≤ gb225)); have n4_ := MK ((by rw [hg]; exact (below_size (by repeat (first | (with_reducible first | exact HB.out | apply lA | apply lN | apply lD | refine lS ?_ GE224.out) | exact HB.out))) : w.heap.size ≤ gb225)); have n5_ := MK ((by rw [hg]; exact Nat.ne_of_lt (blk_lt (by (with_reducible repeat (first | refine bN ?_ _ | refine bD ?_ | refine bA ?_ _)); exact BK224.out)) : gb224 ≠ gb225)); have n6_ := MK ((by rw [hg]; exact Nat.ne_of_gt (blk_lt (by (with_reducible repeat (first | refine bN ?_ _ | refine bD ?_ | refine bA ?_ _)); exact BK224.out)) : gb225 ≠ gb224)); clear BK224; clear HB; have BK224 := n0_; have HB := n1_; have HI225 := n2_; have GW225 := n3_; have GE225 := n4_; have NB224_225 := n5_; have NB225_224 := n6_; clear n0_ n1_ n2_ n3_ n4_ n5_ n6_; clear hb hbox hg) | ((with_reducible refine gate_callee (f := 27) rfl ?_); refine goesL_ (some 10) rfl rfl Try.func27 (by kernel_rfl) rfl #[.pointer (some ⟨gb225, 0, none⟩)] rfl (by (try simp only [List.map_toArray, List.map_cons, List.map_nil]); first | done | rfl | (simp only [List.length_drop, List.length_take]; rfl)) ?_; (with_reducible refine (spec_l4Cur_brakes.calls gb225 l0 0 0 t226 t227 t228 t229 t230 t231 t232 w _ ?side1 ?side2 A2.out).mono ?_); (case side1 => repeat (first | (with_reducible first | exact HI225.out | apply IsS57.alloc | apply IsS57.drewN | apply IsS57.drew | apply IsS57.set_1 | apply IsS57.set_2 | refine IsS57.far ?_ NB225_224.out _) | exact HI225.out)); (case side2 => repeat (first | (with_reducible first | exact HB.out | apply lA | apply lN | apply lD | refine lS ?_ (IsS57.ge HI225.out) | refine lS ?_ GE224.out) | exact HB.out)); rintro e w6 ⟨rfl, hi, hb, hk⟩; refine ⟨_, rfl, ?_⟩; have n0_ := MK (KeepBut.blk hk (g' := gb224) (o := .cells #[.int .i64 0, .int .i64 0, .int .i64 0, .int .i64 0, .int .i64 0] 24 (0, 0)) (by (with_reducible repeat (first | refine bN ?_ _ | refine bD ?_ | refine bA ?_ _)); exact BK224.out) NB224_225.out (by simp)); have n1_ := MK (hb); have n2_ := MK (hi); clear BK224; clear HB; clear HI225; have BK224 := n0_; have HB := n1_; have HI225 := n2_; clear n0_ n1_ n2_; (try clear hb); (try clear hb2); (try clear hk); (try clear hi)) | ((with_reducible refine gate_dst (N := 5) rfl ?_); refine box_event ?hg (N := 5) ?hd (cs := #[.int .i64 0, .int .i64 0, .int .i64 0, .int .i64 0, .int .i64 0]) (t := 24) ?hr ?_; (case hd => rfl); (case hg => rfl); (case hr => first | (go_simp; done) | (go_simp; rfl)); intro gb233 hg w7 hbox hb; have n0_ := MK (blk_below (by (with_reducible repeat (first | refine bN ?_ _ | refine bD ?_ | refine bA ?_ _)); exact BK224.out) hb); have n1_ := MK (IsS57.below (by repeat (first | (with_reducible first | exact HI225.out | apply IsS57.alloc | apply IsS57.drewN | apply IsS57.drew | apply IsS57.set_1 | apply IsS57.set_2 | refine IsS57.far ?_ NB225_224.out _) | exact HI225.out)) hb); have n2_ := MK (below_step (by repeat (first | (with_reducible first | exact HB.out | apply lA | apply lN | apply lD | refine lS ?_ (IsS57.ge HI225.out) | refine lS ?_ GE224.out) | exact HB.out)) hb); have n3_ := MK (hbox); have n4_ := MK ((by rw [hg]; exact (below_size (by repeat (first | (with_reducible first | exact HB.out | apply lA | apply lN | apply lD | refine lS ?_ (IsS57.ge HI225.out) | refine lS ?_ GE224.out) | exact HB.out))) : w.heap.size ≤ gb233)); have n5_ := MK ((by rw [hg]; exact (below_size (by repeat (first | (with_reducible first | exact HB.out | apply lA | apply lN | apply lD | refine lS ?_ (IsS57.ge HI225.out) | refine lS ?_ GE224.out) | exact HB.out))) : w.heap.size ≤ gb233)); have n6_ := MK ((by rw [hg]; exact Nat.ne_of_lt (blk_lt (by (with_reducible repeat (first | refine bN ?_ _ | refine bD ?_ | refine bA ?_ _)); exact BK224.out)) : gb224 ≠ gb233)); have n7_ := MK ((by rw [hg]; exact Nat.ne_of_gt (blk_lt (by (with_reducible repeat (first | refine bN ?_ _ | refine bD ?_ | refine bA ?_ _)); exact BK224.out)) : gb233 ≠ gb224)); have n8_ := MK ((by rw [hg]; exact Nat.ne_of_lt (IsS57.lt (show IsS57 w _ gb225 l0 t231 t232 from by repeat (first | (with_reducible first | exact HI225.out | apply IsS57.alloc | apply IsS57.drewN | apply IsS57.drew | apply IsS57.set_1 | apply IsS57.set_2 | refine IsS57.far ?_ NB225_224.out _) | exact HI225.out))) : gb225 ≠ gb233)); have n9_ := MK ((by rw [hg]; exact Nat.ne_of_gt (IsS57.lt (show IsS57 w _ gb225 l0 t231 t232 from by repeat (first | (with_reducible first | exact HI225.out | apply IsS57.alloc | apply IsS57.drewN | apply IsS57.drew | apply IsS57.set_1 | apply IsS57.set_2 | refine IsS57.far ?_ NB225_224.out _) | exact HI225.out))) : gb233 ≠ gb225)); clear BK224; clear HI225; clear HB; have BK224 := n0_; have HI225 := n1_; have HB := n2_; have BK233 := n3_; have GW233 := n4_; have GE233 := n5_; have NB224_233 := n6_; have NB233_224 := n7_; have NB225_233 := n8_; have NB233_225 := n9_; clear n0_ n1_ n2_ n3_ n4_ n5_ n6_ n7_ n8_ n9_; clear hb hbox hg; have hnb8 := NB233_224.out; have hnc8 := NB224_233.out; have hnb9 := NB233_225.out; have hnc9 := NB225_233.out; obtain ⟨hcz10_0, hcz10_1, hcz10_2, hcz10_3, hcz10_4⟩ := bc5 BK233.out; obtain ⟨hfz10_0, hfz10_1, hfz10_2, hfz10_3, hfz10_4⟩ := bf5 BK233.out))
 have n0_ : Aside0 ((((((w7.setCell ⟨gb233, 0, none⟩ (.int .i64 t226)).setCell ⟨gb233, 1, none⟩ (.int .i64 t227)).setCell ⟨gb233, 2, none⟩ (.int .i64 t228)).setCell ⟨gb233, 3, none⟩ (.int .i64 t229)).setCell ⟨gb233, 4, none⟩ (.int .i64 t230)).heap[gb224]? = some (.cells #[.int .i64 0, .int .i64 0, .int .i64 0, .int .i64 0, .int .i64 0] 24 (0, 0))) := ⟨by (with_reducible repeat (first | refine bN ?_ _ | refine bD ?_ | refine bA ?_ _)); refine blk_far ?_ NB224_233.out _; (with_reducible repeat (first | refine bN ?_ _ | refine bD ?_ | refine bA ?_ _)); refine blk_far ?_ NB224_233.out _; (with_reducible repeat (first | refine bN ?_ _ | refine bD ?_ | refine bA ?_ _)); refine blk_far ?_ NB224_233.out _; (with_reducible repeat (first | refine bN ?_ _ | refine bD ?_ | refine bA ?_ _)); refine blk_far ?_ NB224_233.out _; (with_reducible repeat (first | refine bN ?_ _ | refine bD ?_ | refine bA ?_ _)); refine blk_far ?_ NB224_233.out _; (with_reducible repeat (first | refine bN ?_ _ | refine bD ?_ | refine bA ?_ _)); exact BK224.out⟩
 have n1_ : Aside0 ((((((w7.setCell ⟨gb233, 0, none⟩ (.int .i64 t226)).setCell ⟨gb233, 1, none⟩ (.int .i64 t227)).setCell ⟨gb233, 2, none⟩ (.int .i64 t228)).setCell ⟨gb233, 3, none⟩ (.int .i64 t229)).setCell ⟨gb233, 4, none⟩ (.int .i64 t230)).heap[gb233]? = some (.cells #[.int .i64 t226, .int .i64 t227, .int .i64 t228, .int .i64 t229, .int .i64 t230] 24 (0, 0))) := ⟨by (with_reducible repeat (first | refine bN ?_ _ | refine bD ?_ | refine bA ?_ _)); refine blk_put (cs := #[.int .i64 t226, .int .i64 t227, .int .i64 t228, .int .i64 t229, .int .i64 0]) ?_ 4 _ rfl; (with_reducible repeat (first | refine bN ?_ _ | refine bD ?_ | refine bA ?_ _)); refine blk_put (cs := #[.int .i64 t226, .int .i64 t227, .int .i64 t228, .int .i64 0, .int .i64 0]) ?_ 3 _ rfl; (with_reducible repeat (first | refine bN ?_ _ | refine bD ?_ | refine bA ?_ _)); refine blk_put (cs := #[.int .i64 t226, .int .i64 t227, .int .i64 0, .int .i64 0, .int .i64 0]) ?_ 2 _ rfl; (with_reducible repeat (first | refine bN ?_ _ | refine bD ?_ | refine bA ?_ _)); refine blk_put (cs := #[.int .i64 t226, .int .i64 0, .int .i64 0, .int .i64 0, .int .i64 0]) ?_ 1 _ rfl; (with_reducible repeat (first | refine bN ?_ _ | refine bD ?_ | refine bA ?_ _)); refine blk_put (cs := #[.int .i64 0, .int .i64 0, .int .i64 0, .int .i64 0, .int .i64 0]) ?_ 0 _ rfl; (with_reducible repeat (first | refine bN ?_ _ | refine bD ?_ | refine bA ?_ _)); exact BK233.out⟩
 have n2_ : Aside0 (IsS57 w (((((w7.setCell ⟨gb233, 0, none⟩ (.int .i64 t226)).setCell ⟨gb233, 1, none⟩ (.int .i64 t227)).setCell ⟨gb233, 2, none⟩ (.int .i64 t228)).setCell ⟨gb233, 3, none⟩ (.int .i64 t229)).setCell ⟨gb233, 4, none⟩ (.int .i64 t230)) gb225 l0 t231 t232) := ⟨by repeat (first | (with_reducible first | exact HI225.out | apply IsS57.alloc | apply IsS57.drewN | apply IsS57.drew | apply IsS57.set_1 | apply IsS57.set_2 | refine IsS57.far ?_ NB225_224.out _ | refine IsS57.far ?_ NB225_233.out _) | exact HI225.out)⟩
 have n3_ : Aside0 (Below w.heap.size w (((((w7.setCell ⟨gb233, 0, none⟩ (.int .i64 t226)).setCell ⟨gb233, 1, none⟩ (.int .i64 t227)).setCell ⟨gb233, 2, none⟩ (.int .i64 t228)).setCell ⟨gb233, 3, none⟩ (.int .i64 t229)).setCell ⟨gb233, 4, none⟩ (.int .i64 t230))) := ⟨by repeat (first | (with_reducible first | exact HB.out | apply lA | apply lN | apply lD | refine lS ?_ (IsS57.ge HI225.out) | refine lS ?_ GE224.out | refine lS ?_ GE233.out) | exact HB.out)⟩
 (try clear BK224)
 (try clear BK233)
 (try clear HI225)
 (try clear HB)
 generalize (((((w7.setCell ⟨gb233, 0, none⟩ (.int .i64 t226)).setCell ⟨gb233, 1, none⟩ (.int .i64 t227)).setCell ⟨gb233, 2, none⟩ (.int .i64 t228)).setCell ⟨gb233, 3, none⟩ (.int .i64 t229)).setCell ⟨gb233, 4, none⟩ (.int .i64 t230)) = w11 at n0_ n1_ n2_ n3_ ⊢
 have BK224 := n0_
 have BK233 := n1_
 have HI225 := n2_
 have HB := n3_
 clear n0_ n1_ n2_ n3_
 have n0_ := MK (bD BK224.out)
 have n1_ := MK (bD BK233.out)
 have n2_ := MK (IsS57.drew HI225.out)
 have n3_ := MK (lD HB.out)
 clear BK224
 clear BK233
 clear HI225
 clear HB
 have BK224 := n0_
 have BK233 := n1_
 have HI225 := n2_
 have HB := n3_
 clear n0_ n1_ n2_ n3_
 refine start_ (n := 6) (S := fun w' => w'.cell? ⟨gb233, 0, none⟩ = some (.int .i64 t226) ∧ w'.cell? ⟨gb233, 1, none⟩ = some (.int .i64 t227) ∧ w'.cell? ⟨gb233, 2, none⟩ = some (.int .i64 t228) ∧ w'.cell? ⟨gb233, 3, none⟩ = some (.int .i64 t229) ∧ w'.cell? ⟨gb233, 4, none⟩ = some (.int .i64 t230)) (ds := []) #[false, false, false, false, false, false] (by kernel_rfl) rfl rfl ⟨(blk_cell BK233.out 0).trans rfl, (blk_cell BK233.out 1).trans rfl, (blk_cell BK233.out 2).trans rfl, (blk_cell BK233.out 3).trans rfl, (blk_cell BK233.out 4).trans rfl⟩ (fun hHeld => ?_)
 generalize w11.drew = w12 at BK224 BK233 HI225 HB hHeld ⊢
 refine pure_ (i := 1) (N := some 12) (v := ?_) (a' := ?_) #[false, true, false, false, false, false] rfl rfl (by kernel_rfl) (fun _ _ _ h => h) (Or.inl ⟨by rfl, ?_⟩) ?_ ?_
 rotate_left
 ·intro w'
  go_simp
  with_reducible rfl
 rotate_left
 ·simp only [Act.put, List.setIfInBounds_toArray, List.set_cons_zero, List.set_cons_succ, i64_w, i32_w]
  rfl
 refine take_ (i := 0) (N := some 11) (v := ?_) (a' := ?_) #[true, true, false, false, false, false] rfl rfl (by kernel_rfl) (fun _ _ _ h => h) (Or.inl ⟨by rfl, ?_⟩) hHeld ?_ ?_
 rotate_left
 ·rintro w' ⟨s0, s1, s2, s3, s4⟩
  go_simp
  with_reducible rfl
 rotate_left
 ·simp only [Act.put, List.setIfInBounds_toArray, List.set_cons_zero, List.set_cons_succ, i64_w, i32_w]
  rfl
 refine take_ (i := 2) (N := some 13) (v := ?_) (a' := ?_) #[true, true, true, false, false, false] rfl rfl (by kernel_rfl) (fun _ _ _ h => h) (Or.inl ⟨by rfl, ?_⟩) hHeld ?_ ?_
 rotate_left
 ·rintro w' ⟨s0, s1, s2, s3, s4⟩
  go_simp
  with_reducible rfl
 rotate_left
 ·simp only [Act.put, List.setIfInBounds_toArray, List.set_cons_zero, List.set_cons_succ, i64_w, i32_w]
  rfl
 refine one_ (i := 3) (N := some 14) #[true, true, true, true, false, false] rfl rfl (by kernel_rfl) (by decide) (fun K hK => ?_)
 refine goes_ Try.func28 (by kernel_rfl) rfl #[.pointer (some ⟨gb225, 0, none⟩), .agg #[.int .i64 t226, .int .i64 t227, .int .i64 t228, .int .i64 t229, .int .i64 t230]] (by rfl) rfl rfl (by (try simp only [List.map_toArray, List.map_cons, List.map_nil]); first | done | rfl | (simp only [List.length_drop, List.length_take]; rfl)) ?_
 with_reducible refine (spec_l4Cur_acts.calls k gb225 l0 t231 t232 t226 t227 t228 t229 t230 t234 t237 t238 w _ ?side1 ?side2 A3.out).mono ?_
 (case side1 => repeat (first | (with_reducible first | exact HI225.out | apply IsS57.alloc | apply IsS57.drewN | apply IsS57.drew | apply IsS57.set_1 | apply IsS57.set_2 | refine IsS57.far ?_ NB225_224.out _ | refine IsS57.far ?_ NB225_233.out _) | exact HI225.out))
 (case side2 => repeat (first | (with_reducible first | exact HB.out | apply lA | apply lN | apply lD | refine lS ?_ (IsS57.ge HI225.out) | refine lS ?_ GE224.out | refine lS ?_ GE233.out) | exact HB.out))
 rintro e w13 ⟨v235, rfl, ho0, hi, hb, hk⟩
 refine ⟨_, rfl, ?_⟩
 have n0_ := MK (KeepBut.blk hk (g' := gb224) (o := .cells #[.int .i64 0, .int .i64 0, .int .i64 0, .int .i64 0, .int .i64 0] 24 (0, 0)) (by (with_reducible repeat (first | refine bN ?_ _ | refine bD ?_ | refine bA ?_ _)); exact BK224.out) NB224_225.out (by simp))
 have n1_ := MK (KeepBut.blk hk (g' := gb233) (o := .cells #[.int .i64 t226, .int .i64 t227, .int .i64 t228, .int .i64 t229, .int .i64 t230] 24 (0, 0)) (by (with_reducible repeat (first | refine bN ?_ _ | refine bD ?_ | refine bA ?_ _)); exact BK233.out) NB233_225.out (by simp))
 have n2_ := MK (Kd.R_lower ho0 (below_size (by repeat (first | (with_reducible first | exact HB.out | apply lA | apply lN | apply lD | refine lS ?_ (IsS57.ge HI225.out) | refine lS ?_ GE224.out | refine lS ?_ GE233.out) | exact HB.out))))
 have n3_ := MK (hb)
 have n4_ := MK (hi)
 clear BK224
 clear BK233
 clear HB
 clear HI225
 have BK224 := n0_
 have BK233 := n1_
 have HO236 := n2_
 have HB := n3_
 have HI225 := n4_
 clear n0_ n1_ n2_ n3_ n4_
 (try clear hb)
 (try clear hb2)
 (try clear hk)
 (try clear hi)
 (try clear ho0)
 refine hK.out _ _ ⟨(blk_cell BK233.out 0).trans rfl, (blk_cell BK233.out 1).trans rfl, (blk_cell BK233.out 2).trans rfl, (blk_cell BK233.out 3).trans rfl, (blk_cell BK233.out 4).trans rfl⟩ (fun hHeld => ?_)
 clear hK K
 refine norm_ (a' := ?_) ?_ ?_
 rotate_left
 ·show Act.put _ (some 14) _ = _
  simp only [Act.put, List.setIfInBounds_toArray, List.set_cons_zero, List.set_cons_succ, i64_w, i32_w]
  rfl
 refine one_ (i := 4) (N := none) #[true, true, true, true, true, false] rfl rfl (by kernel_rfl) (by decide) (fun K hK => ?_)
 have hs14 : w13.cell? ⟨gb224, 0, none⟩ = some (.int .i64 0) := (blk_cell BK224.out 0).trans rfl
 have hfs14 := blk_frozen BK224.out 0
 have hns14_1 := NB233_224.out
 have hms14_1 := NB224_233.out
 have hs15 : w13.cell? ⟨gb224, 1, none⟩ = some (.int .i64 0) := (blk_cell BK224.out 1).trans rfl
 have hfs15 := blk_frozen BK224.out 1
 have hs16 : w13.cell? ⟨gb224, 2, none⟩ = some (.int .i64 0) := (blk_cell BK224.out 2).trans rfl
 have hfs16 := blk_frozen BK224.out 2
 have hs17 : w13.cell? ⟨gb224, 3, none⟩ = some (.int .i64 0) := (blk_cell BK224.out 3).trans rfl
 have hfs17 := blk_frozen BK224.out 3
 have hs18 : w13.cell? ⟨gb224, 4, none⟩ = some (.int .i64 0) := (blk_cell BK224.out 4).trans rfl
 have hfs18 := blk_frozen BK224.out 4
 refine skip_ (w1 := ?_) (by rfl) rfl ?_ ?_
 rotate_left
 ·go_simp
  rfl
 refine hK.out _ _ ⟨((cell_far (p := ⟨gb224, _, none⟩) NB233_224.out _).trans (((cell_far (p := ⟨gb224, _, none⟩) NB233_224.out _).trans (((cell_far (p := ⟨gb224, _, none⟩) NB233_224.out _).trans (((cell_far (p := ⟨gb224, _, none⟩) NB233_224.out _).trans (((cell_far (p := ⟨gb224, _, none⟩) NB233_224.out _).trans (hHeld.1)))))))))), ((cell_far (p := ⟨gb224, _, none⟩) NB233_224.out _).trans (((cell_far (p := ⟨gb224, _, none⟩) NB233_224.out _).trans (((cell_far (p := ⟨gb224, _, none⟩) NB233_224.out _).trans (((cell_far (p := ⟨gb224, _, none⟩) NB233_224.out _).trans (((cell_far (p := ⟨gb224, _, none⟩) NB233_224.out _).trans (hHeld.2.1)))))))))), ((cell_far (p := ⟨gb224, _, none⟩) NB233_224.out _).trans (((cell_far (p := ⟨gb224, _, none⟩) NB233_224.out _).trans (((cell_far (p := ⟨gb224, _, none⟩) NB233_224.out _).trans (((cell_far (p := ⟨gb224, _, none⟩) NB233_224.out _).trans (((cell_far (p := ⟨gb224, _, none⟩) NB233_224.out _).trans (hHeld.2.2.1)))))))))), ((cell_far (p := ⟨gb224, _, none⟩) NB233_224.out _).trans (((cell_far (p := ⟨gb224, _, none⟩) NB233_224.out _).trans (((cell_far (p := ⟨gb224, _, none⟩) NB233_224.out _).trans (((cell_far (p := ⟨gb224, _, none⟩) NB233_224.out _).trans (((cell_far (p := ⟨gb224, _, none⟩) NB233_224.out _).trans (hHeld.2.2.2.1)))))))))), ((cell_far (p := ⟨gb224, _, none⟩) NB233_224.out _).trans (((cell_far (p := ⟨gb224, _, none⟩) NB233_224.out _).trans (((cell_far (p := ⟨gb224, _, none⟩) NB233_224.out _).trans (((cell_far (p := ⟨gb224, _, none⟩) NB233_224.out _).trans (((cell_far (p := ⟨gb224, _, none⟩) NB233_224.out _).trans (hHeld.2.2.2.2))))))))))⟩ (fun hHeld => ?_)
 clear hK K
 refine pure_ (i := 5) (N := some 3) (v := ?_) (a' := ?_) #[true, true, true, true, true, true] rfl rfl (by kernel_rfl) (fun _ _ _ h => h) (Or.inl ⟨by rfl, ?_⟩) ?_ ?_
 rotate_left
 ·intro w'
  go_simp
  with_reducible rfl
 rotate_left
 ·simp only [Act.put, List.setIfInBounds_toArray, List.set_cons_zero, List.set_cons_succ, i64_w, i32_w]
  rfl
 refine done_ (by kernel_rfl) ?_
 try go_wp2
 refine bodyPost_ret (results_ct rfl _ _ gb224 24 #[.int .i64 t226, .int .i64 t227, .int .i64 t228, .int .i64 t229, .int .i64 t230] (0, 0) _ rfl (by (with_reducible repeat (first | refine bN ?_ _ | refine bD ?_ | refine bA ?_ _)); refine blk_put (cs := #[.int .i64 t226, .int .i64 t227, .int .i64 t228, .int .i64 t229, .int .i64 0]) ?_ 4 _ rfl; (with_reducible repeat (first | refine bN ?_ _ | refine bD ?_ | refine bA ?_ _)); refine blk_put (cs := #[.int .i64 t226, .int .i64 t227, .int .i64 t228, .int .i64 0, .int .i64 0]) ?_ 3 _ rfl; (with_reducible repeat (first | refine bN ?_ _ | refine bD ?_ | refine bA ?_ _)); refine blk_put (cs := #[.int .i64 t226, .int .i64 t227, .int .i64 0, .int .i64 0, .int .i64 0]) ?_ 2 _ rfl; (with_reducible repeat (first | refine bN ?_ _ | refine bD ?_ | refine bA ?_ _)); refine blk_put (cs := #[.int .i64 t226, .int .i64 0, .int .i64 0, .int .i64 0, .int .i64 0]) ?_ 1 _ rfl; (with_reducible repeat (first | refine bN ?_ _ | refine bD ?_ | refine bA ?_ _)); refine blk_put (cs := #[.int .i64 0, .int .i64 0, .int .i64 0, .int .i64 0, .int .i64 0]) ?_ 0 _ rfl; (with_reducible repeat (first | refine bN ?_ _ | refine bD ?_ | refine bA ?_ _)); exact BK224.out) Try.underlying24 rfl (by kernel_rfl)) rfl ?_
 exact ⟨_, by first | rfl | (simp [errW_none, errW_some] <;> rfl) | (simp [*, errW_none, errW_some] <;> rfl), by (with_reducible repeat (first | apply Kd.R_alloc | apply Kd.R_drewN | apply Kd.R_drew)); exact Kd.R_mono (Kd.R_far (p := ⟨gb224, 4, none⟩) (Kd.R_far (p := ⟨gb224, 3, none⟩) (Kd.R_far (p := ⟨gb224, 2, none⟩) (Kd.R_far (p := ⟨gb224, 1, none⟩) (Kd.R_far (p := ⟨gb224, 0, none⟩) (Kd.R_types HO236.out BK224.out (by decide)) (fun _ hk => hk.2) (.int .i64 t226)) (fun _ hk => hk.2) (.int .i64 t227)) (fun _ hk => hk.2) (.int .i64 t228)) (fun _ hk => hk.2) (.int .i64 t229)) (fun _ hk => hk.2) (.int .i64 t230)) (fun _ hk => trivial), by repeat (first | (with_reducible first | exact HB.out | apply lA | apply lN | apply lD | refine lS ?_ (IsS57.ge HI225.out) | refine lS ?_ GE224.out | refine lS ?_ GE233.out) | exact HB.out)⟩

/-! ### impl_in: function 30 -/
def impl_in.f (a0 : Int) (a1 : Int) (a2 : Int) : Option (Bool) := if a0 ≥ a1 then (some (decide (a0 ≤ a2))) else (some false)
set_option maxHeartbeats 8000000 in
set_option maxRecDepth 100000 in
theorem impl_in.calls (a0 : Int) (a1 : Int) (a2 : Int) (r : Bool) (w : World) (h : impl_in.f a0 a1 a2 = some r) :
  Calls Try.prog 30 #[.int .i64 a0, .int .i64 a1, .int .i64 a2] w fun e w' => e = .returned (.bool r) ∧ Drawn0 w w' := by
 have H : (if a0 ≥ a1 then (some (decide (a0 ≤ a2))) else (some false)) = some r := h
 clear h
 by_cases c4 : a0 ≥ a1
 ·rw [if_pos c4] at H
  have c4b0 : decide (a1 ≤ a0) = true := decide_eq_true c4
  clear c4
  obtain rfl := Option.some.inj H
  go_enter Try.func30, Try.ntmps30
  go_wp2
  go_ret
  exact ⟨by first | rfl | (simp; done) | (simp [*]; done), by repeat (first | exact Drawn0.refl _ | apply Drawn0.step)⟩
 ·rw [if_neg c4] at H
  have c4b0 : decide (a1 ≤ a0) = false := decide_eq_false c4
  clear c4
  obtain rfl := Option.some.inj H
  go_enter Try.func30, Try.ntmps30
  go_wp2
  go_ret
  exact ⟨by first | rfl | (simp; done) | (simp [*]; done), by repeat (first | exact Drawn0.refl _ | apply Drawn0.step)⟩

end Go.Proofs.Ytcfhjidddpoijaa.Q
