/- Walks: a call of each function answers what its Lean function tells; no condition but that it tells something. -/
import Derived.Test.YtcfhjidddpoijaaXEQ0
import Derived.Test.YtcfhjidddpoijaaXEQ2
namespace Go.Proofs.Ytcfhjidddpoijaa.Q
open Go.RowKit Go.Proofs.YtcfhjidddpoijaaW.PrintWords Go.Proofs.YtcfhjidddpoijaaW.PrintLast Go.Proofs.YtcfhjidddpoijaaW.PrintMore
attribute [local go_sem] max2_int min2_int max_two min_two max_three min_three max_four min_four   -- for this text's walks alone
set_option linter.unusedVariables false
set_option linter.unusedSimpArgs false

/-! ### spec_l4Cur_guard: function 47 -/
def spec_l4Cur_guard.f (s0_0 : List Int) (s0_1 : Int) (s0_2 : Int) (a1_0 : Int) (a1_1 : Int) (a1_2 : Int) (a1_3 : Int) (a1_4 : Bool) : Option (Int × Int × Int × Int) := (spec_l4Cur_pick.f s0_0 s0_1 s0_2 4).bind fun bt538 => ((spec_l4Cur_pick.f s0_0 bt538.2.1 bt538.2.2 8).bind fun bt542 => (if bt542.1 = 0 then ((spec_l4Cur_wide.f s0_0 bt542.2.1 bt542.2.2 4000).bind fun bt545 => (some (bt538.1, bt545.1, bt545.2.1, bt545.2.2))) else (if bt542.1 = 1 then (some (bt538.1, (-1), bt542.2.1, bt542.2.2)) else (if bt542.1 = 2 then ((spec_l4Cur_pick.f s0_0 bt542.2.1 bt542.2.2 4).bind fun bt548 => (if bt548.1 = 0 then ((some (([(-1), 4] : List Int) : List Int)).bind fun y551 => ((spec_l4Cur_pick.f s0_0 bt548.2.1 bt548.2.2 2).bind fun bt554 => (if 0 ≤ bt554.1 then (if bt554.1 < (y551.length : Int) then (some (rd y551 bt554.1, a1_2, bt554.2.1, bt554.2.2)) else (none)) else (none)))) else (some (bt538.1, a1_2, bt548.2.1, bt548.2.2)))) else (some (bt538.1, a1_2, bt542.2.1, bt542.2.2))))))
set_option maxHeartbeats 8000000 in
set_option maxRecDepth 100000 in
theorem spec_l4Cur_guard.calls (g : Nat) (s0_0 : List Int) (s0_1 : Int) (s0_2 : Int) (a1_0 : Int) (a1_1 : Int) (a1_2 : Int) (a1_3 : Int) (a1_4 : Bool) (r1 : Int) (r2 : Int) (r3 : Int) (r4 : Int) (w0 w : World) (hI : IsS57 w0 w g s0_0 s0_1 s0_2) (hB : Below w0.heap.size w0 w) (h : spec_l4Cur_guard.f s0_0 s0_1 s0_2 a1_0 a1_1 a1_2 a1_3 a1_4 = some (r1, r2, r3, r4)) :
  Calls Try.prog 47 #[.pointer (some ⟨g, 0, none⟩), .agg #[.int .i64 a1_0, .int .i64 a1_1, .int .i64 a1_2, .int .i64 a1_3, .bool a1_4]] w fun e w' => e = .returned (.agg #[.int .i64 r1, .int .i64 r2]) ∧ IsS57 w0 w' g s0_0 r3 r4 ∧ Below w0.heap.size w0 w' ∧ KeepBut w w' g none := by
 have hu44 := Try.underlying44
 have hu31 := Try.underlying31
 have HI0 := MK hI
 have HK := MK (KeepBut.refl w g none)
 have HL := MK hB.size
 clear hI
 have HW0 := MK hB.size
 have HB := MK hB
 clear hB
 have H : ((spec_l4Cur_pick.f s0_0 s0_1 s0_2 4).bind fun bt538 => ((spec_l4Cur_pick.f s0_0 bt538.2.1 bt538.2.2 8).bind fun bt542 => (if bt542.1 = 0 then ((spec_l4Cur_wide.f s0_0 bt542.2.1 bt542.2.2 4000).bind fun bt545 => (some (bt538.1, bt545.1, bt545.2.1, bt545.2.2))) else (if bt542.1 = 1 then (some (bt538.1, (-1), bt542.2.1, bt542.2.2)) else (if bt542.1 = 2 then ((spec_l4Cur_pick.f s0_0 bt542.2.1 bt542.2.2 4).bind fun bt548 => (if bt548.1 = 0 then ((some (([(-1), 4] : List Int) : List Int)).bind fun y551 => ((spec_l4Cur_pick.f s0_0 bt548.2.1 bt548.2.2 2).bind fun bt554 => (if 0 ≤ bt554.1 then (if bt554.1 < (y551.length : Int) then (some (rd y551 bt554.1, a1_2, bt554.2.1, bt554.2.2)) else (none)) else (none)))) else (some (bt538.1, a1_2, bt548.2.1, bt548.2.2)))) else (some (bt538.1, a1_2, bt542.2.1, bt542.2.2))))))) = some (r1, r2, r3, r4) := h
 clear h
 replace H := Option.bind_eq_some_iff.mp H
 obtain ⟨⟨t538, t539, t540⟩, A30, H⟩ := H
 replace H : ((spec_l4Cur_pick.f s0_0 t539 t540 8).bind fun bt542 => (if bt542.1 = 0 then ((spec_l4Cur_wide.f s0_0 bt542.2.1 bt542.2.2 4000).bind fun bt545 => (some (t538, bt545.1, bt545.2.1, bt545.2.2))) else (if bt542.1 = 1 then (some (t538, (-1), bt542.2.1, bt542.2.2)) else (if bt542.1 = 2 then ((spec_l4Cur_pick.f s0_0 bt542.2.1 bt542.2.2 4).bind fun bt548 => (if bt548.1 = 0 then ((some (([(-1), 4] : List Int) : List Int)).bind fun y551 => ((spec_l4Cur_pick.f s0_0 bt548.2.1 bt548.2.2 2).bind fun bt554 => (if 0 ≤ bt554.1 then (if bt554.1 < (y551.length : Int) then (some (rd y551 bt554.1, a1_2, bt554.2.1, bt554.2.2)) else (none)) else (none)))) else (some (t538, a1_2, bt548.2.1, bt548.2.2)))) else (some (t538, a1_2, bt542.2.1, bt542.2.2)))))) = some (r1, r2, r3, r4) := H
 have A3 := MK A30
 clear A30
 replace H := Option.bind_eq_some_iff.mp H
 obtain ⟨⟨t542, t543, t544⟩, A40, H⟩ := H
 replace H : (if t542 = 0 then ((spec_l4Cur_wide.f s0_0 t543 t544 4000).bind fun bt545 => (some (t538, bt545.1, bt545.2.1, bt545.2.2))) else (if t542 = 1 then (some (t538, (-1), t543, t544)) else (if t542 = 2 then ((spec_l4Cur_pick.f s0_0 t543 t544 4).bind fun bt548 => (if bt548.1 = 0 then ((some (([(-1), 4] : List Int) : List Int)).bind fun y551 => ((spec_l4Cur_pick.f s0_0 bt548.2.1 bt548.2.2 2).bind fun bt554 => (if 0 ≤ bt554.1 then (if bt554.1 < (y551.length : Int) then (some (rd y551 bt554.1, a1_2, bt554.2.1, bt554.2.2)) else (none)) else (none)))) else (some (t538, a1_2, bt548.2.1, bt548.2.2)))) else (some (t538, a1_2, t543, t544))))) = some (r1, r2, r3, r4) := H
 have A4 := MK A40
 clear A40
 have HC5 := MK H
 clear H
 go_enter Try.func47, Try.ntmps47
 try go_wp2_with (first | ((with_reducible refine gate_dst (N := 3) rfl ?_); refine box_event ?hg (N := 3) ?hd (cs := #[.int .i64 a1_0, .int .i64 a1_1, .int .i64 a1_2, .int .i64 a1_3, .bool a1_4]) (t := 44) ?hr ?_; (case hd => rfl); (case hg => rfl); (case hr => first | (go_simp; done) | (go_simp; rfl)); intro gb536 hg w6 hbox hb; have n0_ := MK (IsS57.below (by repeat (first | (with_reducible first | exact HI0.out | apply IsS57.alloc | apply IsS57.drewN | apply IsS57.drew | apply IsS57.set_1 | apply IsS57.set_2) | exact HI0.out)) hb); have n1_ := MK (KeepBut.trans (by repeat (first | (with_reducible first | exact HK.out | apply KeepBut.set_ | apply keep_drewN | apply keep_drew | apply keep_alloc) | exact HK.out)) (KeepBut.of_below hb g none) (.inl rfl)); have n2_ := MK (below_step (by repeat (first | (with_reducible first | exact HB.out | apply lA | apply lN | apply lD | refine lS ?_ (IsS57.ge HI0.out)) | exact HB.out)) hb); have n3_ := MK (hbox); have n4_ := MK ((by rw [hg]; exact (keep_size (w := w) (g := g) (row := none) (by repeat (first | (with_reducible first | exact HK.out | apply KeepBut.set_ | apply keep_drewN | apply keep_drew | apply keep_alloc) | exact HK.out))) : w.heap.size ≤ gb536)); have n5_ := MK ((Nat.le_trans HW0.out (by rw [hg]; exact (keep_size (w := w) (g := g) (row := none) (by repeat (first | (with_reducible first | exact HK.out | apply KeepBut.set_ | apply keep_drewN | apply keep_drew | apply keep_alloc) | exact HK.out))) : w.heap.size ≤ gb536) : w0.heap.size ≤ gb536)); have n6_ := MK ((by rw [hg]; exact Nat.ne_of_lt (IsS57.lt (show IsS57 w0 _ g s0_0 s0_1 s0_2 from by repeat (first | (with_reducible first | exact HI0.out | apply IsS57.alloc | apply IsS57.drewN | apply IsS57.drew | apply IsS57.set_1 | apply IsS57.set_2) | exact HI0.out))) : g ≠ gb536)); have n7_ := MK ((by rw [hg]; exact Nat.ne_of_gt (IsS57.lt (show IsS57 w0 _ g s0_0 s0_1 s0_2 from by repeat (first | (with_reducible first | exact HI0.out | apply IsS57.alloc | apply IsS57.drewN | apply IsS57.drew | apply IsS57.set_1 | apply IsS57.set_2) | exact HI0.out))) : gb536 ≠ g)); clear HI0; clear HK; clear HB; have HI0 := n0_; have HK := n1_; have HB := n2_; have BK536 := n3_; have GW536 := n4_; have GE536 := n5_; have NB0_536 := n6_; have NB536_0 := n7_; clear n0_ n1_ n2_ n3_ n4_ n5_ n6_ n7_; clear hb hbox hg) | ((with_reducible refine gate_dst (N := 4) rfl ?_); refine box_event ?hg (N := 4) ?hd (cs := #[.int .i64 0, .int .i64 0]) (t := 31) ?hr ?_; (case hd => rfl); (case hg => rfl); (case hr => first | (go_simp; done) | (go_simp; rfl)); intro gb537 hg w7 hbox hb; have n0_ := MK (IsS57.below (by repeat (first | (with_reducible first | exact HI0.out | apply IsS57.alloc | apply IsS57.drewN | apply IsS57.drew | apply IsS57.set_1 | apply IsS57.set_2 | refine IsS57.far ?_ NB0_536.out _) | exact HI0.out)) hb); have n1_ := MK (blk_below (by (with_reducible repeat (first | refine bN ?_ _ | refine bD ?_ | refine bA ?_ _)); exact BK536.out) hb); have n2_ := MK (KeepBut.trans (by repeat (first | (with_reducible first | exact HK.out | apply KeepBut.set_ | apply keep_drewN | apply keep_drew | apply keep_alloc | refine keep_far ?_ GW536.out _) | exact HK.out)) (KeepBut.of_below hb g none) (.inl rfl)); have n3_ := MK (below_step (by repeat (first | (with_reducible first | exact HB.out | apply lA | apply lN | apply lD | refine lS ?_ (IsS57.ge HI0.out) | refine lS ?_ GE536.out) | exact HB.out)) hb); have n4_ := MK (hbox); have n5_ := MK ((by rw [hg]; exact (keep_size (w := w) (g := g) (row := none) (by repeat (first | (with_reducible first | exact HK.out | apply KeepBut.set_ | apply keep_drewN | apply keep_drew | apply keep_alloc | refine keep_far ?_ GW536.out _) | exact HK.out))) : w.heap.size ≤ gb537)); have n6_ := MK ((Nat.le_trans HW0.out (by rw [hg]; exact (keep_size (w := w) (g := g) (row := none) (by repeat (first | (with_reducible first | exact HK.out | apply KeepBut.set_ | apply keep_drewN | apply keep_drew | apply keep_alloc | refine keep_far ?_ GW536.out _) | exact HK.out))) : w.heap.size ≤ gb537) : w0.heap.size ≤ gb537)); have n7_ := MK ((by rw [hg]; exact Nat.ne_of_lt (blk_lt (by (with_reducible repeat (first | refine bN ?_ _ | refine bD ?_ | refine bA ?_ _)); exact BK536.out)) : gb536 ≠ gb537)); have n8_ := MK ((by rw [hg]; exact Nat.ne_of_gt (blk_lt (by (with_reducible repeat (first | refine bN ?_ _ | refine bD ?_ | refine bA ?_ _)); exact BK536.out)) : gb537 ≠ gb536)); have n9_ := MK ((by rw [hg]; exact Nat.ne_of_lt (IsS57.lt (show IsS57 w0 _ g s0_0 s0_1 s0_2 from by repeat (first | (with_reducible first | exact HI0.out | apply IsS57.alloc | apply IsS57.drewN | apply IsS57.drew | apply IsS57.set_1 | apply IsS57.set_2 | refine IsS57.far ?_ NB0_536.out _) | exact HI0.out))) : g ≠ gb537)); have n10_ := MK ((by rw [hg]; exact Nat.ne_of_gt (IsS57.lt (show IsS57 w0 _ g s0_0 s0_1 s0_2 from by repeat (first | (with_reducible first | exact HI0.out | apply IsS57.alloc | apply IsS57.drewN | apply IsS57.drew | apply IsS57.set_1 | apply IsS57.set_2 | refine IsS57.far ?_ NB0_536.out _) | exact HI0.out))) : gb537 ≠ g)); clear HI0; clear BK536; clear HK; clear HB; have HI0 := n0_; have BK536 := n1_; have HK := n2_; have HB := n3_; have BK537 := n4_; have GW537 := n5_; have GE537 := n6_; have NB536_537 := n7_; have NB537_536 := n8_; have NB0_537 := n9_; have NB537_0 := n10_; clear n0_ n1_ n2_ n3_ n4_ n5_ n6_ n7_ n8_ n9_ n10_; clear hb hbox hg))
 have n0_ := MK (bD BK536.out)
 have n1_ := MK (bD BK537.out)
 have n2_ := MK (IsS57.drew HI0.out)
 have n3_ := MK (keep_drew HK.out)
 have n4_ := MK (lD HB.out)
 clear BK536
 clear BK537
 clear HI0
 clear HK
 clear HB
 have BK536 := n0_
 have BK537 := n1_
 have HI0 := n2_
 have HK := n3_
 have HB := n4_
 clear n0_ n1_ n2_ n3_ n4_
 refine start_ (n := 7) (S := fun w' => w'.cell? ⟨gb536, 0, none⟩ = some (.int .i64 a1_0) ∧ w'.cell? ⟨gb536, 1, none⟩ = some (.int .i64 a1_1) ∧ w'.cell? ⟨gb536, 2, none⟩ = some (.int .i64 a1_2) ∧ w'.cell? ⟨gb536, 3, none⟩ = some (.int .i64 a1_3) ∧ w'.cell? ⟨gb536, 4, none⟩ = some (.bool a1_4)) (ds := []) #[false, false, false, false, false, false, false] (by kernel_rfl) rfl rfl ⟨(blk_cell BK536.out 0).trans rfl, (blk_cell BK536.out 1).trans rfl, (blk_cell BK536.out 2).trans rfl, (blk_cell BK536.out 3).trans rfl, (blk_cell BK536.out 4).trans rfl⟩ (fun hHeld => ?_)
 generalize w7.drew = w8 at BK536 BK537 HI0 HK HB hHeld ⊢
 refine pure_ (i := 0) (N := some 6) (v := ?_) (a' := ?_) #[true, false, false, false, false, false, false] rfl rfl (by kernel_rfl) (fun _ _ _ h => h) (Or.inl ⟨by rfl, ?_⟩) ?_ ?_
 rotate_left
 ·intro w'; go_simp; with_reducible rfl
 rotate_left
 ·simp only [Act.put, List.setIfInBounds_toArray, List.set_cons_zero, List.set_cons_succ, i64_w, i32_w]; rfl
 refine pure_ (i := 2) (N := some 8) (v := ?_) (a' := ?_) #[true, false, true, false, false, false, false] rfl rfl (by kernel_rfl) (fun _ _ _ h => h) (Or.inl ⟨by rfl, ?_⟩) ?_ ?_
 rotate_left
 ·intro w'; go_simp; with_reducible rfl
 rotate_left
 ·simp only [Act.put, List.setIfInBounds_toArray, List.set_cons_zero, List.set_cons_succ, i64_w, i32_w]; rfl
 refine take_ (i := 3) (N := some 9) (v := ?_) (a' := ?_) #[true, false, true, true, false, false, false] rfl rfl (by kernel_rfl) (fun _ _ _ h => h) (Or.inl ⟨by rfl, ?_⟩) hHeld ?_ ?_
 rotate_left
 ·rintro w' ⟨s0, s1, s2, s3, s4⟩; go_simp; with_reducible rfl
 rotate_left
 ·simp only [Act.put, List.setIfInBounds_toArray, List.set_cons_zero, List.set_cons_succ, i64_w, i32_w]; rfl
 refine join_ (σ := Nat) 1 #[true, true, true, true, true, true, false] (fun s_ => [(7, .int .i64 t538), (5, .pointer (some ⟨s_, 0, none⟩)), (10, .agg #[.int .i64 t538, .int .i64 a1_2])]) (fun s_ w' => (w'.cell? ⟨gb536, 0, none⟩ = some (.int .i64 a1_0) ∧ w'.cell? ⟨gb536, 1, none⟩ = some (.int .i64 a1_1) ∧ w'.cell? ⟨gb536, 2, none⟩ = some (.int .i64 a1_2) ∧ w'.cell? ⟨gb536, 3, none⟩ = some (.int .i64 a1_3) ∧ w'.cell? ⟨gb536, 4, none⟩ = some (.bool a1_4)) ∧ (w'.heap[gb536]? = some (.cells #[.int .i64 a1_0, .int .i64 a1_1, .int .i64 a1_2, .int .i64 a1_3, .bool a1_4] 44 (0, 0))) ∧ (w'.heap[gb537]? = some (.cells #[.int .i64 0, .int .i64 0] 31 (0, 0))) ∧ (w'.heap[s_]? = some (.cells #[.int .i64 0, .int .i64 0] 31 (0, 0))) ∧ (w.heap.size ≤ s_) ∧ (w0.heap.size ≤ s_) ∧ (g ≠ s_) ∧ (s_ ≠ g) ∧ (gb536 ≠ s_) ∧ (s_ ≠ gb536) ∧ (gb537 ≠ s_) ∧ (s_ ≠ gb537) ∧ (IsS57 w0 w' g s0_0 t539 t540) ∧ (KeepBut w w' g none) ∧ (Below w0.heap.size w0 w')) ?_ ?_
 rotate_left
 ·intro hCont
  refine two_ (i := 1) (j := 5) (Ni := some 7) (Nj := some 5) #[true, true, true, true, false, false, false] #[true, false, true, true, false, true, false] rfl rfl rfl rfl (by kernel_rfl) (by decide) (by decide) (fun K hK => ?_) (fun K hK => ?_)
  ·skip
   refine goes_ Try.func45 (by kernel_rfl) rfl #[.pointer (some ⟨g, 0, none⟩), .int .i64 4] (by rfl) rfl rfl (by (try simp only [List.map_toArray, List.map_cons, List.map_nil]); first | done | rfl | (simp only [List.length_drop, List.length_take]; rfl)) ?_
   with_reducible refine (spec_l4Cur_pick.calls g s0_0 s0_1 s0_2 4 t538 t539 t540 w0 _ ?side1 ?side2 A3.out).mono ?_
   (case side1 => repeat (first | (with_reducible first | exact HI0.out | apply IsS57.alloc | apply IsS57.drewN | apply IsS57.drew | apply IsS57.set_1 | apply IsS57.set_2 | refine IsS57.far ?_ NB0_536.out _ | refine IsS57.far ?_ NB0_537.out _) | exact HI0.out))
   (case side2 => repeat (first | (with_reducible first | exact HB.out | apply lA | apply lN | apply lD | refine lS ?_ (IsS57.ge HI0.out) | refine lS ?_ GE536.out | refine lS ?_ GE537.out) | exact HB.out))
   rintro e w9 ⟨rfl, hi, hb, hk⟩
   refine ⟨_, rfl, ?_⟩
   have n0_ := MK (KeepBut.blk hk (g' := gb536) (o := .cells #[.int .i64 a1_0, .int .i64 a1_1, .int .i64 a1_2, .int .i64 a1_3, .bool a1_4] 44 (0, 0)) (by (with_reducible repeat (first | refine bN ?_ _ | refine bD ?_ | refine bA ?_ _)); exact BK536.out) NB536_0.out (by simp))
   have n1_ := MK (KeepBut.blk hk (g' := gb537) (o := .cells #[.int .i64 0, .int .i64 0] 31 (0, 0)) (by (with_reducible repeat (first | refine bN ?_ _ | refine bD ?_ | refine bA ?_ _)); exact BK537.out) NB537_0.out (by simp))
   have n2_ := MK (KeepBut.trans (by repeat (first | (with_reducible first | exact HK.out | apply KeepBut.set_ | apply keep_drewN | apply keep_drew | apply keep_alloc | refine keep_far ?_ GW536.out _ | refine keep_far ?_ GW537.out _) | exact HK.out)) hk (.inl rfl))
   have n3_ := MK (hb)
   have n4_ := MK (hi)
   clear BK536
   clear BK537
   clear HK
   clear HB
   clear HI0
   have BK536 := n0_
   have BK537 := n1_
   have HK := n2_
   have HB := n3_
   have HI0 := n4_
   clear n0_ n1_ n2_ n3_ n4_
   (try clear hb)
   (try clear hb2)
   (try clear hk)
   (try clear hi)
   refine hK.out _ _ ⟨(blk_cell BK536.out 0).trans rfl, (blk_cell BK536.out 1).trans rfl, (blk_cell BK536.out 2).trans rfl, (blk_cell BK536.out 3).trans rfl, (blk_cell BK536.out 4).trans rfl⟩ (fun hHeld => ?_)
   clear hK K
   refine norm_ (a' := ?_) ?_ ?_
   rotate_left
   ·show Act.put _ (some 7) _ = _; simp only [Act.put, List.setIfInBounds_toArray, List.set_cons_zero, List.set_cons_succ, i64_w, i32_w]; rfl
   refine pure_ (i := 4) (N := some 10) (v := ?_) (a' := ?_) #[true, true, true, true, true, false, false] rfl rfl (by kernel_rfl) (fun _ _ _ h => h) (Or.inl ⟨by rfl, ?_⟩) ?_ ?_
   rotate_left
   ·intro w'; go_simp; with_reducible rfl
   rotate_left
   ·simp only [Act.put, List.setIfInBounds_toArray, List.set_cons_zero, List.set_cons_succ, i64_w, i32_w]; rfl
   refine one_ (i := 5) (N := some 5) #[true, true, true, true, true, true, false] rfl rfl (by kernel_rfl) (by decide) (fun K hK => ?_)
   refine box_step ?hg (N := 5) ?hd (cs := #[.int .i64 0, .int .i64 0]) (t := 31) ?hr ?_; (case hd => rfl); (case hg => rfl); (case hr => first | (go_simp; done) | (go_simp; rfl))
   intro gb541 hg w10 hbox hb
   have n0_ := MK (IsS57.below (by repeat (first | (with_reducible first | exact HI0.out | apply IsS57.alloc | apply IsS57.drewN | apply IsS57.drew | apply IsS57.set_1 | apply IsS57.set_2 | refine IsS57.far ?_ NB0_536.out _ | refine IsS57.far ?_ NB0_537.out _) | exact HI0.out)) hb)
   have n1_ := MK (blk_below (by (with_reducible repeat (first | refine bN ?_ _ | refine bD ?_ | refine bA ?_ _)); exact BK536.out) hb)
   have n2_ := MK (blk_below (by (with_reducible repeat (first | refine bN ?_ _ | refine bD ?_ | refine bA ?_ _)); exact BK537.out) hb)
   have n3_ := MK (KeepBut.trans (by repeat (first | (with_reducible first | exact HK.out | apply KeepBut.set_ | apply keep_drewN | apply keep_drew | apply keep_alloc | refine keep_far ?_ GW536.out _ | refine keep_far ?_ GW537.out _) | exact HK.out)) (KeepBut.of_below hb g none) (.inl rfl))
   have n4_ := MK (below_step (by repeat (first | (with_reducible first | exact HB.out | apply lA | apply lN | apply lD | refine lS ?_ (IsS57.ge HI0.out) | refine lS ?_ GE536.out | refine lS ?_ GE537.out) | exact HB.out)) hb)
   have n5_ := MK (hbox)
   have n6_ := MK ((by rw [hg]; exact (keep_size (w := w) (g := g) (row := none) (by repeat (first | (with_reducible first | exact HK.out | apply KeepBut.set_ | apply keep_drewN | apply keep_drew | apply keep_alloc | refine keep_far ?_ GW536.out _ | refine keep_far ?_ GW537.out _) | exact HK.out))) : w.heap.size ≤ gb541))
   have n7_ := MK ((Nat.le_trans HW0.out (by rw [hg]; exact (keep_size (w := w) (g := g) (row := none) (by repeat (first | (with_reducible first | exact HK.out | apply KeepBut.set_ | apply keep_drewN | apply keep_drew | apply keep_alloc | refine keep_far ?_ GW536.out _ | refine keep_far ?_ GW537.out _) | exact HK.out))) : w.heap.size ≤ gb541) : w0.heap.size ≤ gb541))
   have n8_ := MK ((by rw [hg]; exact Nat.ne_of_lt (blk_lt (by (with_reducible repeat (first | refine bN ?_ _ | refine bD ?_ | refine bA ?_ _)); exact BK536.out)) : gb536 ≠ gb541))
   have n9_ := MK ((by rw [hg]; exact Nat.ne_of_gt (blk_lt (by (with_reducible repeat (first | refine bN ?_ _ | refine bD ?_ | refine bA ?_ _)); exact BK536.out)) : gb541 ≠ gb536))
   have n10_ := MK ((by rw [hg]; exact Nat.ne_of_lt (blk_lt (by (with_reducible repeat (first | refine bN ?_ _ | refine bD ?_ | refine bA ?_ _)); exact BK537.out)) : gb537 ≠ gb541))
   have n11_ := MK ((by rw [hg]; exact Nat.ne_of_gt (blk_lt (by (with_reducible repeat (first | refine bN ?_ _ | refine bD ?_ | refine bA ?_ _)); exact BK537.out)) : gb541 ≠ gb537))
   have n12_ := MK ((by rw [hg]; exact Nat.ne_of_lt (IsS57.lt (show IsS57 w0 _ g s0_0 t539 t540 from by repeat (first | (with_reducible first | exact HI0.out | apply IsS57.alloc | apply IsS57.drewN | apply IsS57.drew | apply IsS57.set_1 | apply IsS57.set_2 | refine IsS57.far ?_ NB0_536.out _ | refine IsS57.far ?_ NB0_537.out _) | exact HI0.out))) : g ≠ gb541))
   have n13_ := MK ((by rw [hg]; exact Nat.ne_of_gt (IsS57.lt (show IsS57 w0 _ g s0_0 t539 t540 from by repeat (first | (with_reducible first | exact HI0.out | apply IsS57.alloc | apply IsS57.drewN | apply IsS57.drew | apply IsS57.set_1 | apply IsS57.set_2 | refine IsS57.far ?_ NB0_536.out _ | refine IsS57.far ?_ NB0_537.out _) | exact HI0.out))) : gb541 ≠ g))
   clear HI0
   clear BK536
   clear BK537
   clear HK
   clear HB
   have HI0 := n0_
   have BK536 := n1_
   have BK537 := n2_
   have HK := n3_
   have HB := n4_
   have BK541 := n5_
   have GW541 := n6_
   have GE541 := n7_
   have NB536_541 := n8_
   have NB541_536 := n9_
   have NB537_541 := n10_
   have NB541_537 := n11_
   have NB0_541 := n12_
   have NB541_0 := n13_
   clear n0_ n1_ n2_ n3_ n4_ n5_ n6_ n7_ n8_ n9_ n10_ n11_ n12_ n13_
   clear hb hbox hg
   refine hK.out _ _ ⟨(blk_cell BK536.out 0).trans rfl, (blk_cell BK536.out 1).trans rfl, (blk_cell BK536.out 2).trans rfl, (blk_cell BK536.out 3).trans rfl, (blk_cell BK536.out 4).trans rfl⟩ (fun hHeld => ?_)
   clear hK K
   refine norm_ (a' := ?_) ?_ ?_
   rotate_left
   ·show Act.put _ (some 5) _ = _; simp only [Act.put, List.setIfInBounds_toArray, List.set_cons_zero, List.set_cons_succ, i64_w, i32_w]; rfl
   exact norm_ (by simp only [putAll, Act.put, List.setIfInBounds_toArray, List.set_cons_zero, List.set_cons_succ]) (hCont (gb541) _ ⟨hHeld, (by (with_reducible repeat (first | refine bN ?_ _ | refine bD ?_ | refine bA ?_ _)); exact BK536.out), (by (with_reducible repeat (first | refine bN ?_ _ | refine bD ?_ | refine bA ?_ _)); exact BK537.out), (by (with_reducible repeat (first | refine bN ?_ _ | refine bD ?_ | refine bA ?_ _)); exact BK541.out), GW541.out, GE541.out, NB0_541.out, NB541_0.out, NB536_541.out, NB541_536.out, NB537_541.out, NB541_537.out, (by repeat (first | (with_reducible first | exact HI0.out | apply IsS57.alloc | apply IsS57.drewN | apply IsS57.drew | apply IsS57.set_1 | apply IsS57.set_2 | refine IsS57.far ?_ NB0_536.out _ | refine IsS57.far ?_ NB0_537.out _ | refine IsS57.far ?_ NB0_541.out _) | exact HI0.out)), (by repeat (first | (with_reducible first | exact HK.out | apply KeepBut.set_ | apply keep_drewN | apply keep_drew | apply keep_alloc | refine keep_far ?_ GW536.out _ | refine keep_far ?_ GW537.out _ | refine keep_far ?_ GW541.out _) | exact HK.out)), (by repeat (first | (with_reducible first | exact HB.out | apply lA | apply lN | apply lD | refine lS ?_ (IsS57.ge HI0.out) | refine lS ?_ GE536.out | refine lS ?_ GE537.out | refine lS ?_ GE541.out) | exact HB.out))⟩)
  ·skip
   refine box_step ?hg (N := 5) ?hd (cs := #[.int .i64 0, .int .i64 0]) (t := 31) ?hr ?_; (case hd => rfl); (case hg => rfl); (case hr => first | (go_simp; done) | (go_simp; rfl))
   intro gb541 hg w9 hbox hb
   have n0_ := MK (IsS57.below (by repeat (first | (with_reducible first | exact HI0.out | apply IsS57.alloc | apply IsS57.drewN | apply IsS57.drew | apply IsS57.set_1 | apply IsS57.set_2 | refine IsS57.far ?_ NB0_536.out _ | refine IsS57.far ?_ NB0_537.out _) | exact HI0.out)) hb)
   have n1_ := MK (blk_below (by (with_reducible repeat (first | refine bN ?_ _ | refine bD ?_ | refine bA ?_ _)); exact BK536.out) hb)
   have n2_ := MK (blk_below (by (with_reducible repeat (first | refine bN ?_ _ | refine bD ?_ | refine bA ?_ _)); exact BK537.out) hb)
   have n3_ := MK (KeepBut.trans (by repeat (first | (with_reducible first | exact HK.out | apply KeepBut.set_ | apply keep_drewN | apply keep_drew | apply keep_alloc | refine keep_far ?_ GW536.out _ | refine keep_far ?_ GW537.out _) | exact HK.out)) (KeepBut.of_below hb g none) (.inl rfl))
   have n4_ := MK (below_step (by repeat (first | (with_reducible first | exact HB.out | apply lA | apply lN | apply lD | refine lS ?_ (IsS57.ge HI0.out) | refine lS ?_ GE536.out | refine lS ?_ GE537.out) | exact HB.out)) hb)
   have n5_ := MK (hbox)
   have n6_ := MK ((by rw [hg]; exact (keep_size (w := w) (g := g) (row := none) (by repeat (first | (with_reducible first | exact HK.out | apply KeepBut.set_ | apply keep_drewN | apply keep_drew | apply keep_alloc | refine keep_far ?_ GW536.out _ | refine keep_far ?_ GW537.out _) | exact HK.out))) : w.heap.size ≤ gb541))
   have n7_ := MK ((Nat.le_trans HW0.out (by rw [hg]; exact (keep_size (w := w) (g := g) (row := none) (by repeat (first | (with_reducible first | exact HK.out | apply KeepBut.set_ | apply keep_drewN | apply keep_drew | apply keep_alloc | refine keep_far ?_ GW536.out _ | refine keep_far ?_ GW537.out _) | exact HK.out))) : w.heap.size ≤ gb541) : w0.heap.size ≤ gb541))
   have n8_ := MK ((by rw [hg]; exact Nat.ne_of_lt (blk_lt (by (with_reducible repeat (first | refine bN ?_ _ | refine bD ?_ | refine bA ?_ _)); exact BK536.out)) : gb536 ≠ gb541))
   have n9_ := MK ((by rw [hg]; exact Nat.ne_of_gt (blk_lt (by (with_reducible repeat (first | refine bN ?_ _ | refine bD ?_ | refine bA ?_ _)); exact BK536.out)) : gb541 ≠ gb536))
   have n10_ := MK ((by rw [hg]; exact Nat.ne_of_lt (blk_lt (by (with_reducible repeat (first | refine bN ?_ _ | refine bD ?_ | refine bA ?_ _)); exact BK537.out)) : gb537 ≠ gb541))
   have n11_ := MK ((by rw [hg]; exact Nat.ne_of_gt (blk_lt (by (with_reducible repeat (first | refine bN ?_ _ | refine bD ?_ | refine bA ?_ _)); exact BK537.out)) : gb541 ≠ gb537))
   have n12_ := MK ((by rw [hg]; exact Nat.ne_of_lt (IsS57.lt (show IsS57 w0 _ g s0_0 s0_1 s0_2 from by repeat (first | (with_reducible first | exact HI0.out | apply IsS57.alloc | apply IsS57.drewN | apply IsS57.drew | apply IsS57.set_1 | apply IsS57.set_2 | refine IsS57.far ?_ NB0_536.out _ | refine IsS57.far ?_ NB0_537.out _) | exact HI0.out))) : g ≠ gb541))
   have n13_ := MK ((by rw [hg]; exact Nat.ne_of_gt (IsS57.lt (show IsS57 w0 _ g s0_0 s0_1 s0_2 from by repeat (first | (with_reducible first | exact HI0.out | apply IsS57.alloc | apply IsS57.drewN | apply IsS57.drew | apply IsS57.set_1 | apply IsS57.set_2 | refine IsS57.far ?_ NB0_536.out _ | refine IsS57.far ?_ NB0_537.out _) | exact HI0.out))) : gb541 ≠ g))
   clear HI0
   clear BK536
   clear BK537
   clear HK
   clear HB
   have HI0 := n0_
   have BK536 := n1_
   have BK537 := n2_
   have HK := n3_
   have HB := n4_
   have BK541 := n5_
   have GW541 := n6_
   have GE541 := n7_
   have NB536_541 := n8_
   have NB541_536 := n9_
   have NB537_541 := n10_
   have NB541_537 := n11_
   have NB0_541 := n12_
   have NB541_0 := n13_
   clear n0_ n1_ n2_ n3_ n4_ n5_ n6_ n7_ n8_ n9_ n10_ n11_ n12_ n13_
   clear hb hbox hg
   refine hK.out _ _ ⟨(blk_cell BK536.out 0).trans rfl, (blk_cell BK536.out 1).trans rfl, (blk_cell BK536.out 2).trans rfl, (blk_cell BK536.out 3).trans rfl, (blk_cell BK536.out 4).trans rfl⟩ (fun hHeld => ?_)
   clear hK K
   refine norm_ (a' := ?_) ?_ ?_
   rotate_left
   ·show Act.put _ (some 5) _ = _; simp only [Act.put, List.setIfInBounds_toArray, List.set_cons_zero, List.set_cons_succ, i64_w, i32_w]; rfl
   refine one_ (i := 1) (N := some 7) #[true, true, true, true, false, true, false] rfl rfl (by kernel_rfl) (by decide) (fun K hK => ?_)
   refine goes_ Try.func45 (by kernel_rfl) rfl #[.pointer (some ⟨g, 0, none⟩), .int .i64 4] (by rfl) rfl rfl (by (try simp only [List.map_toArray, List.map_cons, List.map_nil]); first | done | rfl | (simp only [List.length_drop, List.length_take]; rfl)) ?_
   with_reducible refine (spec_l4Cur_pick.calls g s0_0 s0_1 s0_2 4 t538 t539 t540 w0 _ ?side1 ?side2 A3.out).mono ?_
   (case side1 => repeat (first | (with_reducible first | exact HI0.out | apply IsS57.alloc | apply IsS57.drewN | apply IsS57.drew | apply IsS57.set_1 | apply IsS57.set_2 | refine IsS57.far ?_ NB0_536.out _ | refine IsS57.far ?_ NB0_537.out _ | refine IsS57.far ?_ NB0_541.out _) | exact HI0.out))
   (case side2 => repeat (first | (with_reducible first | exact HB.out | apply lA | apply lN | apply lD | refine lS ?_ (IsS57.ge HI0.out) | refine lS ?_ GE536.out | refine lS ?_ GE537.out | refine lS ?_ GE541.out) | exact HB.out))
   rintro e w10 ⟨rfl, hi, hb, hk⟩
   refine ⟨_, rfl, ?_⟩
   have n0_ := MK (KeepBut.blk hk (g' := gb536) (o := .cells #[.int .i64 a1_0, .int .i64 a1_1, .int .i64 a1_2, .int .i64 a1_3, .bool a1_4] 44 (0, 0)) (by (with_reducible repeat (first | refine bN ?_ _ | refine bD ?_ | refine bA ?_ _)); exact BK536.out) NB536_0.out (by simp))
   have n1_ := MK (KeepBut.blk hk (g' := gb537) (o := .cells #[.int .i64 0, .int .i64 0] 31 (0, 0)) (by (with_reducible repeat (first | refine bN ?_ _ | refine bD ?_ | refine bA ?_ _)); exact BK537.out) NB537_0.out (by simp))
   have n2_ := MK (KeepBut.blk hk (g' := gb541) (o := .cells #[.int .i64 0, .int .i64 0] 31 (0, 0)) (by (with_reducible repeat (first | refine bN ?_ _ | refine bD ?_ | refine bA ?_ _)); exact BK541.out) NB541_0.out (by simp))
   have n3_ := MK (KeepBut.trans (by repeat (first | (with_reducible first | exact HK.out | apply KeepBut.set_ | apply keep_drewN | apply keep_drew | apply keep_alloc | refine keep_far ?_ GW536.out _ | refine keep_far ?_ GW537.out _ | refine keep_far ?_ GW541.out _) | exact HK.out)) hk (.inl rfl))
   have n4_ := MK (hb)
   have n5_ := MK (hi)
   clear BK536
   clear BK537
   clear BK541
   clear HK
   clear HB
   clear HI0
   have BK536 := n0_
   have BK537 := n1_
   have BK541 := n2_
   have HK := n3_
   have HB := n4_
   have HI0 := n5_
   clear n0_ n1_ n2_ n3_ n4_ n5_
   (try clear hb)
   (try clear hb2)
   (try clear hk)
   (try clear hi)
   refine hK.out _ _ ⟨(blk_cell BK536.out 0).trans rfl, (blk_cell BK536.out 1).trans rfl, (blk_cell BK536.out 2).trans rfl, (blk_cell BK536.out 3).trans rfl, (blk_cell BK536.out 4).trans rfl⟩ (fun hHeld => ?_)
   clear hK K
   refine norm_ (a' := ?_) ?_ ?_
   rotate_left
   ·show Act.put _ (some 7) _ = _; simp only [Act.put, List.setIfInBounds_toArray, List.set_cons_zero, List.set_cons_succ, i64_w, i32_w]; rfl
   refine pure_ (i := 4) (N := some 10) (v := ?_) (a' := ?_) #[true, true, true, true, true, true, false] rfl rfl (by kernel_rfl) (fun _ _ _ h => h) (Or.inl ⟨by rfl, ?_⟩) ?_ ?_
   rotate_left
   ·intro w'; go_simp; with_reducible rfl
   rotate_left
   ·simp only [Act.put, List.setIfInBounds_toArray, List.set_cons_zero, List.set_cons_succ, i64_w, i32_w]; rfl
   exact norm_ (by simp only [putAll, Act.put, List.setIfInBounds_toArray, List.set_cons_zero, List.set_cons_succ]) (hCont (gb541) _ ⟨hHeld, (by (with_reducible repeat (first | refine bN ?_ _ | refine bD ?_ | refine bA ?_ _)); exact BK536.out), (by (with_reducible repeat (first | refine bN ?_ _ | refine bD ?_ | refine bA ?_ _)); exact BK537.out), (by (with_reducible repeat (first | refine bN ?_ _ | refine bD ?_ | refine bA ?_ _)); exact BK541.out), GW541.out, GE541.out, NB0_541.out, NB541_0.out, NB536_541.out, NB541_536.out, NB537_541.out, NB541_537.out, (by repeat (first | (with_reducible first | exact HI0.out | apply IsS57.alloc | apply IsS57.drewN | apply IsS57.drew | apply IsS57.set_1 | apply IsS57.set_2 | refine IsS57.far ?_ NB0_536.out _ | refine IsS57.far ?_ NB0_537.out _ | refine IsS57.far ?_ NB0_541.out _) | exact HI0.out)), (by repeat (first | (with_reducible first | exact HK.out | apply KeepBut.set_ | apply keep_drewN | apply keep_drew | apply keep_alloc | refine keep_far ?_ GW536.out _ | refine keep_far ?_ GW537.out _ | refine keep_far ?_ GW541.out _) | exact HK.out)), (by repeat (first | (with_reducible first | exact HB.out | apply lA | apply lN | apply lD | refine lS ?_ (IsS57.ge HI0.out) | refine lS ?_ GE536.out | refine lS ?_ GE537.out | refine lS ?_ GE541.out) | exact HB.out))⟩)
 rintro gb541 w11 ⟨hS_, h0_, h1_, h2_, h3_, h4_, h5_, h6_, h7_, h8_, h9_, h10_, h11_, h12_, h13_⟩
 have n0_ : Aside0 (w11.heap[gb536]? = some (.cells #[.int .i64 a1_0, .int .i64 a1_1, .int .i64 a1_2, .int .i64 a1_3, .bool a1_4] 44 (0, 0))) := ⟨h0_⟩
 have n1_ : Aside0 (w11.heap[gb537]? = some (.cells #[.int .i64 0, .int .i64 0] 31 (0, 0))) := ⟨h1_⟩
 have n2_ : Aside0 (w11.heap[gb541]? = some (.cells #[.int .i64 0, .int .i64 0] 31 (0, 0))) := ⟨h2_⟩
 have n3_ : Aside0 (w.heap.size ≤ gb541) := ⟨h3_⟩
 have n4_ : Aside0 (w0.heap.size ≤ gb541) := ⟨h4_⟩
 have n5_ : Aside0 (g ≠ gb541) := ⟨h5_⟩
 have n6_ : Aside0 (gb541 ≠ g) := ⟨h6_⟩
 have n7_ : Aside0 (gb536 ≠ gb541) := ⟨h7_⟩
 have n8_ : Aside0 (gb541 ≠ gb536) := ⟨h8_⟩
 have n9_ : Aside0 (gb537 ≠ gb541) := ⟨h9_⟩
 have n10_ : Aside0 (gb541 ≠ gb537) := ⟨h10_⟩
 have n11_ : Aside0 (IsS57 w0 w11 g s0_0 t539 t540) := ⟨h11_⟩
 have n12_ : Aside0 (KeepBut w w11 g none) := ⟨h12_⟩
 have n13_ : Aside0 (Below w0.heap.size w0 w11) := ⟨h13_⟩
 clear BK536
 clear BK537
 clear HI0
 clear HK
 clear HB
 clear h0_ h1_ h2_ h3_ h4_ h5_ h6_ h7_ h8_ h9_ h10_ h11_ h12_ h13_
 have BK536 := n0_
 have BK537 := n1_
 have BK541 := n2_
 have GW541 := n3_
 have GE541 := n4_
 have NB0_541 := n5_
 have NB541_0 := n6_
 have NB536_541 := n7_
 have NB541_536 := n8_
 have NB537_541 := n9_
 have NB541_537 := n10_
 have HI0 := n11_
 have HK := n12_
 have HB := n13_
 clear n0_ n1_ n2_ n3_ n4_ n5_ n6_ n7_ n8_ n9_ n10_ n11_ n12_ n13_
 have hHeld : w11.cell? ⟨gb536, 0, none⟩ = some (.int .i64 a1_0) ∧ w11.cell? ⟨gb536, 1, none⟩ = some (.int .i64 a1_1) ∧ w11.cell? ⟨gb536, 2, none⟩ = some (.int .i64 a1_2) ∧ w11.cell? ⟨gb536, 3, none⟩ = some (.int .i64 a1_3) ∧ w11.cell? ⟨gb536, 4, none⟩ = some (.bool a1_4) := hS_
 refine norm_ (a' := ?_) ?_ ?_
 rotate_left
 ·simp only [putAll, Act.put, List.setIfInBounds_toArray, List.set_cons_zero, List.set_cons_succ]
  rfl
 refine one_ (i := 6) (N := none) #[true, true, true, true, true, true, true] rfl rfl (by kernel_rfl) (by decide) (fun K hK => ?_)
 have hs12 : w11.cell? ⟨gb541, 0, none⟩ = some (.int .i64 0) := (blk_cell BK541.out 0).trans rfl
 have hfs12 := blk_frozen BK541.out 0
 have hns12_0 := NB536_541.out
 have hns12_1 := NB537_541.out
 have hms12_0 := NB541_536.out
 have hms12_1 := NB541_537.out
 have hs13 : w11.cell? ⟨gb541, 1, none⟩ = some (.int .i64 0) := (blk_cell BK541.out 1).trans rfl
 have hfs13 := blk_frozen BK541.out 1
 refine skip_ (w1 := ?_) (by rfl) rfl ?_ ?_
 rotate_left
 ·go_simp
  rfl
 refine hK.out _ _ ⟨((cell_far (p := ⟨gb541, _, none⟩) NB536_541.out _).trans (((cell_far (p := ⟨gb541, _, none⟩) NB536_541.out _).trans (hHeld.1)))), ((cell_far (p := ⟨gb541, _, none⟩) NB536_541.out _).trans (((cell_far (p := ⟨gb541, _, none⟩) NB536_541.out _).trans (hHeld.2.1)))), ((cell_far (p := ⟨gb541, _, none⟩) NB536_541.out _).trans (((cell_far (p := ⟨gb541, _, none⟩) NB536_541.out _).trans (hHeld.2.2.1)))), ((cell_far (p := ⟨gb541, _, none⟩) NB536_541.out _).trans (((cell_far (p := ⟨gb541, _, none⟩) NB536_541.out _).trans (hHeld.2.2.2.1)))), ((cell_far (p := ⟨gb541, _, none⟩) NB536_541.out _).trans (((cell_far (p := ⟨gb541, _, none⟩) NB536_541.out _).trans (hHeld.2.2.2.2))))⟩ (fun hHeld => ?_)
 clear hK K
 refine done_ (by kernel_rfl) ?_
 go_upto_if 13 with (first | ((with_reducible refine gate_callee (f := 45) rfl ?_); refine goesL_ (some 12) rfl rfl Try.func45 (by kernel_rfl) rfl #[.pointer (some ⟨g, 0, none⟩), .int .i64 8] rfl (by (try simp only [List.map_toArray, List.map_cons, List.map_nil]); first | done | rfl | (simp only [List.length_drop, List.length_take]; rfl)) ?_; (with_reducible refine (spec_l4Cur_pick.calls g s0_0 t539 t540 8 t542 t543 t544 w0 _ ?side1 ?side2 A4.out).mono ?_); (case side1 => repeat (first | (with_reducible first | exact HI0.out | apply IsS57.alloc | apply IsS57.drewN | apply IsS57.drew | apply IsS57.set_1 | apply IsS57.set_2 | refine IsS57.far ?_ NB0_536.out _ | refine IsS57.far ?_ NB0_537.out _ | refine IsS57.far ?_ NB0_541.out _) | exact HI0.out)); (case side2 => repeat (first | (with_reducible first | exact HB.out | apply lA | apply lN | apply lD | refine lS ?_ (IsS57.ge HI0.out) | refine lS ?_ GE536.out | refine lS ?_ GE537.out | refine lS ?_ GE541.out) | exact HB.out)); rintro e w14 ⟨rfl, hi, hb, hk⟩; refine ⟨_, rfl, ?_⟩; have n0_ := MK (KeepBut.blk hk (g' := gb536) (o := .cells #[.int .i64 a1_0, .int .i64 a1_1, .int .i64 a1_2, .int .i64 a1_3, .bool a1_4] 44 (0, 0)) (by (with_reducible repeat (first | refine bN ?_ _ | refine bD ?_ | refine bA ?_ _)); refine blk_far ?_ NB536_541.out _; (with_reducible repeat (first | refine bN ?_ _ | refine bD ?_ | refine bA ?_ _)); refine blk_far ?_ NB536_541.out _; (with_reducible repeat (first | refine bN ?_ _ | refine bD ?_ | refine bA ?_ _)); exact BK536.out) NB536_0.out (by simp)); have n1_ := MK (KeepBut.blk hk (g' := gb537) (o := .cells #[.int .i64 0, .int .i64 0] 31 (0, 0)) (by (with_reducible repeat (first | refine bN ?_ _ | refine bD ?_ | refine bA ?_ _)); refine blk_far ?_ NB537_541.out _; (with_reducible repeat (first | refine bN ?_ _ | refine bD ?_ | refine bA ?_ _)); refine blk_far ?_ NB537_541.out _; (with_reducible repeat (first | refine bN ?_ _ | refine bD ?_ | refine bA ?_ _)); exact BK537.out) NB537_0.out (by simp)); have n2_ := MK (KeepBut.blk hk (g' := gb541) (o := .cells #[.int .i64 t538, .int .i64 a1_2] 31 (0, 0)) (by (with_reducible repeat (first | refine bN ?_ _ | refine bD ?_ | refine bA ?_ _)); refine blk_put (cs := #[.int .i64 t538, .int .i64 0]) ?_ 1 _ rfl; (with_reducible repeat (first | refine bN ?_ _ | refine bD ?_ | refine bA ?_ _)); refine blk_put (cs := #[.int .i64 0, .int .i64 0]) ?_ 0 _ rfl; (with_reducible repeat (first | refine bN ?_ _ | refine bD ?_ | refine bA ?_ _)); exact BK541.out) NB541_0.out (by simp)); have n3_ := MK (KeepBut.trans (by repeat (first | (with_reducible first | exact HK.out | apply KeepBut.set_ | apply keep_drewN | apply keep_drew | apply keep_alloc | refine keep_far ?_ GW536.out _ | refine keep_far ?_ GW537.out _ | refine keep_far ?_ GW541.out _) | exact HK.out)) hk (.inl rfl)); have n4_ := MK (hb); have n5_ := MK (hi); clear BK536; clear BK537; clear BK541; clear HK; clear HB; clear HI0; have BK536 := n0_; have BK537 := n1_; have BK541 := n2_; have HK := n3_; have HB := n4_; have HI0 := n5_; clear n0_ n1_ n2_ n3_ n4_ n5_; (try clear hb); (try clear hb2); (try clear hk); (try clear hi)))
 (try simp only [Act.put, List.setIfInBounds_toArray, List.set_cons_zero, List.set_cons_succ])
 have H := HC5.out
 clear HC5
 by_cases c15 : t542 = 0
 ·rw [if_pos c15] at H
  have c15b0 : (t542 == 0) = true := beq_iff_eq.mpr c15
  have c15b1 : (t542 != 0) = false := bne_eq_false_iff_eq.mpr c15
  clear c15
  (first | rw [c15b0] | (simp only [i64_w, i32_w]; rw [c15b0]) | rw [c15b1] | skip)
  replace H := Option.bind_eq_some_iff.mp H
  obtain ⟨⟨t545, t546, t547⟩, A160, H⟩ := H
  replace H : (some (t538, t545, t546, t547)) = some (r1, r2, r3, r4) := H
  have A16 := MK A160
  clear A160
  simp only [Option.some.injEq, Prod.mk.injEq] at H
  obtain ⟨rfl, rfl, rfl, rfl⟩ := H
  go_wp2_with (first | ((with_reducible refine gate_callee (f := 53) rfl ?_); refine goesL_ (some 16) rfl rfl Try.func53 (by kernel_rfl) rfl #[.pointer (some ⟨g, 0, none⟩), .int .i64 4000] rfl (by (try simp only [List.map_toArray, List.map_cons, List.map_nil]); first | done | rfl | (simp only [List.length_drop, List.length_take]; rfl)) ?_; (with_reducible refine (spec_l4Cur_wide.calls g s0_0 t543 t544 4000 t545 t546 t547 w0 _ ?side1 ?side2 A16.out).mono ?_); (case side1 => repeat (first | (with_reducible first | exact HI0.out | apply IsS57.alloc | apply IsS57.drewN | apply IsS57.drew | apply IsS57.set_1 | apply IsS57.set_2 | refine IsS57.far ?_ NB0_536.out _ | refine IsS57.far ?_ NB0_537.out _ | refine IsS57.far ?_ NB0_541.out _) | exact HI0.out)); (case side2 => repeat (first | (with_reducible first | exact HB.out | apply lA | apply lN | apply lD | refine lS ?_ (IsS57.ge HI0.out) | refine lS ?_ GE536.out | refine lS ?_ GE537.out | refine lS ?_ GE541.out) | exact HB.out)); rintro e w17 ⟨rfl, hi, hb, hk⟩; refine ⟨_, rfl, ?_⟩; have n0_ := MK (KeepBut.blk hk (g' := gb536) (o := .cells #[.int .i64 a1_0, .int .i64 a1_1, .int .i64 a1_2, .int .i64 a1_3, .bool a1_4] 44 (0, 0)) (by (with_reducible repeat (first | refine bN ?_ _ | refine bD ?_ | refine bA ?_ _)); exact BK536.out) NB536_0.out (by simp)); have n1_ := MK (KeepBut.blk hk (g' := gb537) (o := .cells #[.int .i64 0, .int .i64 0] 31 (0, 0)) (by (with_reducible repeat (first | refine bN ?_ _ | refine bD ?_ | refine bA ?_ _)); exact BK537.out) NB537_0.out (by simp)); have n2_ := MK (KeepBut.blk hk (g' := gb541) (o := .cells #[.int .i64 t538, .int .i64 a1_2] 31 (0, 0)) (by (with_reducible repeat (first | refine bN ?_ _ | refine bD ?_ | refine bA ?_ _)); exact BK541.out) NB541_0.out (by simp)); have n3_ := MK (KeepBut.trans (by repeat (first | (with_reducible first | exact HK.out | apply KeepBut.set_ | apply keep_drewN | apply keep_drew | apply keep_alloc | refine keep_far ?_ GW536.out _ | refine keep_far ?_ GW537.out _ | refine keep_far ?_ GW541.out _) | exact HK.out)) hk (.inl rfl)); have n4_ := MK (hb); have n5_ := MK (hi); clear BK536; clear BK537; clear BK541; clear HK; clear HB; clear HI0; have BK536 := n0_; have BK537 := n1_; have BK541 := n2_; have HK := n3_; have HB := n4_; have HI0 := n5_; clear n0_ n1_ n2_ n3_ n4_ n5_; (try clear hb); (try clear hb2); (try clear hk); (try clear hi); have hnb18 := NB541_536.out; have hnc18 := NB536_541.out; have hnb19 := NB541_537.out; have hnc19 := NB537_541.out; have hnb20 := NB541_0.out; have hnc20 := NB0_541.out; have hcz21_0 : w17.cell? ⟨gb541, 0, none⟩ = some (.int .i64 t538) := (blk_cell BK541.out 0).trans rfl; have hcz21_1 : w17.cell? ⟨gb541, 1, none⟩ = some (.int .i64 a1_2) := (blk_cell BK541.out 1).trans rfl; obtain ⟨hfz21_0, hfz21_1⟩ := bf2 BK541.out; have hnb22 := NB537_536.out; have hnc22 := NB536_537.out; have hnb23 := NB537_0.out; have hnc23 := NB0_537.out; obtain ⟨hcz24_0, hcz24_1⟩ := bc2 BK537.out; obtain ⟨hfz24_0, hfz24_1⟩ := bf2 BK537.out))
  refine bodyPost_ret (results_cell_row rfl _ _ gb537 31 #[.int .i64 t538, .int .i64 t545] (0, 0) _ rfl (by (with_reducible repeat (first | refine bN ?_ _ | refine bD ?_ | refine bA ?_ _)); refine blk_put (cs := #[.int .i64 t538, .int .i64 0]) ?_ 1 _ rfl; (with_reducible repeat (first | refine bN ?_ _ | refine bD ?_ | refine bA ?_ _)); refine blk_put (cs := #[.int .i64 0, .int .i64 0]) ?_ 0 _ rfl; (with_reducible repeat (first | refine bN ?_ _ | refine bD ?_ | refine bA ?_ _)); refine blk_far ?_ NB537_541.out _; (with_reducible repeat (first | refine bN ?_ _ | refine bD ?_ | refine bA ?_ _)); exact BK537.out) Try.underlying31 rfl (by kernel_rfl)) rfl ?_
  exact ⟨by first | rfl | (simp [errW_none, errW_some] <;> rfl) | (simp [*, errW_none, errW_some] <;> rfl), by repeat (first | (with_reducible first | exact HI0.out | apply IsS57.alloc | apply IsS57.drewN | apply IsS57.drew | apply IsS57.set_1 | apply IsS57.set_2 | refine IsS57.far ?_ NB0_536.out _ | refine IsS57.far ?_ NB0_537.out _ | refine IsS57.far ?_ NB0_541.out _) | exact HI0.out), by repeat (first | (with_reducible first | exact HB.out | apply lA | apply lN | apply lD | refine lS ?_ (IsS57.ge HI0.out) | refine lS ?_ GE536.out | refine lS ?_ GE537.out | refine lS ?_ GE541.out) | exact HB.out), by repeat (first | (with_reducible first | exact HK.out | apply KeepBut.set_ | apply keep_drewN | apply keep_drew | apply keep_alloc | refine keep_far ?_ GW536.out _ | refine keep_far ?_ GW537.out _ | refine keep_far ?_ GW541.out _) | exact HK.out)⟩
 ·rw [if_neg c15] at H
  have c15b0 : (t542 == 0) = false := beq_eq_false_iff_ne.mpr c15
  have c15b1 : (t542 != 0) = true := bne_iff_ne.mpr c15
  (first | rw [c15b0] | (simp only [i64_w, i32_w]; rw [c15b0]) | rw [c15b1] | skip)
  by_cases c25 : t542 = 1
  ·rw [if_pos c25] at H
   have c25b0 : (t542 == 1) = true := beq_iff_eq.mpr c25
   have c25b1 : (t542 != 1) = false := bne_eq_false_iff_eq.mpr c25
   clear c25
   simp only [Option.some.injEq, Prod.mk.injEq] at H
   obtain ⟨rfl, rfl, rfl, rfl⟩ := H
   have hnb26 := NB541_536.out
   have hnc26 := NB536_541.out
   have hnb27 := NB541_537.out
   have hnc27 := NB537_541.out
   have hnb28 := NB541_0.out
   have hnc28 := NB0_541.out
   have hcz29_0 : w14.cell? ⟨gb541, 0, none⟩ = some (.int .i64 t538) := (blk_cell BK541.out 0).trans rfl
   have hcz29_1 : w14.cell? ⟨gb541, 1, none⟩ = some (.int .i64 a1_2) := (blk_cell BK541.out 1).trans rfl
   obtain ⟨hfz29_0, hfz29_1⟩ := bf2 BK541.out
   have hnb30 := NB537_536.out
   have hnc30 := NB536_537.out
   have hnb31 := NB537_0.out
   have hnc31 := NB0_537.out
   obtain ⟨hcz32_0, hcz32_1⟩ := bc2 BK537.out
   obtain ⟨hfz32_0, hfz32_1⟩ := bf2 BK537.out
   go_wp2
   refine bodyPost_ret (results_cell_row rfl _ _ gb537 31 #[.int .i64 t538, .int .i64 (-1)] (0, 0) _ rfl (by (with_reducible repeat (first | refine bN ?_ _ | refine bD ?_ | refine bA ?_ _)); refine blk_put (cs := #[.int .i64 t538, .int .i64 0]) ?_ 1 _ rfl; (with_reducible repeat (first | refine bN ?_ _ | refine bD ?_ | refine bA ?_ _)); refine blk_put (cs := #[.int .i64 0, .int .i64 0]) ?_ 0 _ rfl; (with_reducible repeat (first | refine bN ?_ _ | refine bD ?_ | refine bA ?_ _)); refine blk_far ?_ NB537_541.out _; (with_reducible repeat (first | refine bN ?_ _ | refine bD ?_ | refine bA ?_ _)); exact BK537.out) Try.underlying31 rfl (by kernel_rfl)) rfl ?_
   exact ⟨by first | rfl | (simp [errW_none, errW_some] <;> rfl) | (simp [*, errW_none, errW_some] <;> rfl), by repeat (first | (with_reducible first | exact HI0.out | apply IsS57.alloc | apply IsS57.drewN | apply IsS57.drew | apply IsS57.set_1 | apply IsS57.set_2 | refine IsS57.far ?_ NB0_536.out _ | refine IsS57.far ?_ NB0_537.out _ | refine IsS57.far ?_ NB0_541.out _) | exact HI0.out), by repeat (first | (with_reducible first | exact HB.out | apply lA | apply lN | apply lD | refine lS ?_ (IsS57.ge HI0.out) | refine lS ?_ GE536.out | refine lS ?_ GE537.out | refine lS ?_ GE541.out) | exact HB.out), by repeat (first | (with_reducible first | exact HK.out | apply KeepBut.set_ | apply keep_drewN | apply keep_drew | apply keep_alloc | refine keep_far ?_ GW536.out _ | refine keep_far ?_ GW537.out _ | refine keep_far ?_ GW541.out _) | exact HK.out)⟩
  ·rw [if_neg c25] at H
   have c25b0 : (t542 == 1) = false := beq_eq_false_iff_ne.mpr c25
   have c25b1 : (t542 != 1) = true := bne_iff_ne.mpr c25
   by_cases c33 : t542 = 2
   ·rw [if_pos c33] at H
    have c33b0 : (t542 == 2) = true := beq_iff_eq.mpr c33
    have c33b1 : (t542 != 2) = false := bne_eq_false_iff_eq.mpr c33
    clear c33
    replace H := Option.bind_eq_some_iff.mp H
    obtain ⟨⟨t548, t549, t550⟩, A340, H⟩ := H
    replace H : (if t548 = 0 then ((some (([(-1), 4] : List Int) : List Int)).bind fun y551 => ((spec_l4Cur_pick.f s0_0 t549 t550 2).bind fun bt554 => (if 0 ≤ bt554.1 then (if bt554.1 < (y551.length : Int) then (some (rd y551 bt554.1, a1_2, bt554.2.1, bt554.2.2)) else (none)) else (none)))) else (some (t538, a1_2, t549, t550))) = some (r1, r2, r3, r4) := H
    have A34 := MK A340
    clear A340
    have HC35 := MK H
    clear H
    go_upto_if 25 with (first | ((with_reducible refine gate_callee (f := 45) rfl ?_); refine goesL_ (some 24) rfl rfl Try.func45 (by kernel_rfl) rfl #[.pointer (some ⟨g, 0, none⟩), .int .i64 4] rfl (by (try simp only [List.map_toArray, List.map_cons, List.map_nil]); first | done | rfl | (simp only [List.length_drop, List.length_take]; rfl)) ?_; (with_reducible refine (spec_l4Cur_pick.calls g s0_0 t543 t544 4 t548 t549 t550 w0 _ ?side1 ?side2 A34.out).mono ?_); (case side1 => repeat (first | (with_reducible first | exact HI0.out | apply IsS57.alloc | apply IsS57.drewN | apply IsS57.drew | apply IsS57.set_1 | apply IsS57.set_2 | refine IsS57.far ?_ NB0_536.out _ | refine IsS57.far ?_ NB0_537.out _ | refine IsS57.far ?_ NB0_541.out _) | exact HI0.out)); (case side2 => repeat (first | (with_reducible first | exact HB.out | apply lA | apply lN | apply lD | refine lS ?_ (IsS57.ge HI0.out) | refine lS ?_ GE536.out | refine lS ?_ GE537.out | refine lS ?_ GE541.out) | exact HB.out)); rintro e w36 ⟨rfl, hi, hb, hk⟩; refine ⟨_, rfl, ?_⟩; have n0_ := MK (KeepBut.blk hk (g' := gb536) (o := .cells #[.int .i64 a1_0, .int .i64 a1_1, .int .i64 a1_2, .int .i64 a1_3, .bool a1_4] 44 (0, 0)) (by (with_reducible repeat (first | refine bN ?_ _ | refine bD ?_ | refine bA ?_ _)); exact BK536.out) NB536_0.out (by simp)); have n1_ := MK (KeepBut.blk hk (g' := gb537) (o := .cells #[.int .i64 0, .int .i64 0] 31 (0, 0)) (by (with_reducible repeat (first | refine bN ?_ _ | refine bD ?_ | refine bA ?_ _)); exact BK537.out) NB537_0.out (by simp)); have n2_ := MK (KeepBut.blk hk (g' := gb541) (o := .cells #[.int .i64 t538, .int .i64 a1_2] 31 (0, 0)) (by (with_reducible repeat (first | refine bN ?_ _ | refine bD ?_ | refine bA ?_ _)); exact BK541.out) NB541_0.out (by simp)); have n3_ := MK (KeepBut.trans (by repeat (first | (with_reducible first | exact HK.out | apply KeepBut.set_ | apply keep_drewN | apply keep_drew | apply keep_alloc | refine keep_far ?_ GW536.out _ | refine keep_far ?_ GW537.out _ | refine keep_far ?_ GW541.out _) | exact HK.out)) hk (.inl rfl)); have n4_ := MK (hb); have n5_ := MK (hi); clear BK536; clear BK537; clear BK541; clear HK; clear HB; clear HI0; have BK536 := n0_; have BK537 := n1_; have BK541 := n2_; have HK := n3_; have HB := n4_; have HI0 := n5_; clear n0_ n1_ n2_ n3_ n4_ n5_; (try clear hb); (try clear hb2); (try clear hk); (try clear hi)))
    (try simp only [Act.put, List.setIfInBounds_toArray, List.set_cons_zero, List.set_cons_succ])
    have H := HC35.out
    clear HC35
    by_cases c37 : t548 = 0
    ·rw [if_pos c37] at H
     have c37b0 : (t548 == 0) = true := beq_iff_eq.mpr c37
     have c37b1 : (t548 != 0) = false := bne_eq_false_iff_eq.mpr c37
     clear c37
     (first | rw [c37b0] | (simp only [i64_w, i32_w]; rw [c37b0]) | rw [c37b1] | skip)
     obtain ⟨y551, hy551⟩ : ∃ y_ : List Int, y_ = (([(-1), 4] : List Int)) := ⟨_, rfl⟩
     replace H : ((spec_l4Cur_pick.f s0_0 t549 t550 2).bind fun bt554 => (if 0 ≤ bt554.1 then (if bt554.1 < (y551.length : Int) then (some (rd y551 bt554.1, a1_2, bt554.2.1, bt554.2.2)) else (none)) else (none))) = some (r1, r2, r3, r4) := by first | (rw [hy551]; with_reducible exact H) | (have H2_ := (Option.bind_some _ _).symm.trans H; rw [hy551]; with_reducible exact H2_) | (have H2_ := (Option.bind_some _ _).symm.trans H; with_reducible exact H2_) | with_reducible exact H | (rw [hy551]; exact H) | exact H
     have Ny551 := MK hy551
     clear hy551
     replace H := Option.bind_eq_some_iff.mp H
     obtain ⟨⟨t554, t555, t556⟩, A380, H⟩ := H
     replace H : (if 0 ≤ t554 then (if t554 < (y551.length : Int) then (some (rd y551 t554, a1_2, t555, t556)) else (none)) else (none)) = some (r1, r2, r3, r4) := H
     have A38 := MK A380
     clear A380
     by_cases c39 : 0 ≤ t554
     ·rw [if_pos c39] at H
      have c39b0 : decide (0 ≤ t554) = true := decide_eq_true c39
      clear c39
      by_cases c40 : t554 < (y551.length : Int)
      ·rw [if_pos c40] at H
       have c40b0 : decide (t554 < (y551.length : Int)) = true := decide_eq_true c40
       clear c40
       simp only [Option.some.injEq, Prod.mk.injEq] at H
       obtain ⟨rfl, rfl, rfl, rfl⟩ := H
       go_wp2_with (first | ((with_reducible refine gate_dst (N := 26) rfl ?_); refine Kd.R_lit (Kd.int .i64) _ 3 ?hg (N := 26) ?hd (xs := ([(-1), 4] : List Int)) (inner := [.int .i64 (-1), .int .i64 4]) (ok := fun _ => True) (okp := fun _ => True) ?hr ?hp (fun _ hk => hk) trivial (Below.refl _ _) (Nat.le_refl _) (by simp) ?_; (case hd => rfl); (case hg => rfl); (case hr => first | (go_simp; done) | (go_simp; rfl)); (case hp => exact (Reps.one (show Kd.M (Kd.int .i64) _ _ _ (-1) [.int .i64 (-1)] from rfl) (Reps.one (show Kd.M (Kd.int .i64) _ _ _ 4 [.int .i64 4] from rfl) (Reps.none _ _)))); intro v552 w41 ho42 hb hg_ hnew_; clear hg_ hnew_; (first | rw [← Ny551.out] at ho42 | (simp only [Int.reduceToNat] at ho42; rw [← Ny551.out] at ho42)); have n0_ := MK (Kd.R_lower ho42 (keep_size (w := w) (g := g) (row := none) (by repeat (first | (with_reducible first | exact HK.out | apply KeepBut.set_ | apply keep_drewN | apply keep_drew | apply keep_alloc | refine keep_far ?_ GW536.out _ | refine keep_far ?_ GW537.out _ | refine keep_far ?_ GW541.out _) | exact HK.out)))); have n1_ := MK (IsS57.below (by repeat (first | (with_reducible first | exact HI0.out | apply IsS57.alloc | apply IsS57.drewN | apply IsS57.drew | apply IsS57.set_1 | apply IsS57.set_2 | refine IsS57.far ?_ NB0_536.out _ | refine IsS57.far ?_ NB0_537.out _ | refine IsS57.far ?_ NB0_541.out _) | exact HI0.out)) hb); have n2_ := MK (blk_below (by (with_reducible repeat (first | refine bN ?_ _ | refine bD ?_ | refine bA ?_ _)); exact BK536.out) hb); have n3_ := MK (blk_below (by (with_reducible repeat (first | refine bN ?_ _ | refine bD ?_ | refine bA ?_ _)); exact BK537.out) hb); have n4_ := MK (blk_below (by (with_reducible repeat (first | refine bN ?_ _ | refine bD ?_ | refine bA ?_ _)); exact BK541.out) hb); have n5_ := MK (KeepBut.trans (by repeat (first | (with_reducible first | exact HK.out | apply KeepBut.set_ | apply keep_drewN | apply keep_drew | apply keep_alloc | refine keep_far ?_ GW536.out _ | refine keep_far ?_ GW537.out _ | refine keep_far ?_ GW541.out _) | exact HK.out)) (KeepBut.of_below hb g none) (.inl rfl)); have n6_ := MK (below_step (by repeat (first | (with_reducible first | exact HB.out | apply lA | apply lN | apply lD | refine lS ?_ (IsS57.ge HI0.out) | refine lS ?_ GE536.out | refine lS ?_ GE537.out | refine lS ?_ GE541.out) | exact HB.out)) hb); clear HI0; clear BK536; clear BK537; clear BK541; clear HK; clear HB; have HO553 := n0_; have HI0 := n1_; have BK536 := n2_; have BK537 := n3_; have BK541 := n4_; have HK := n5_; have HB := n6_; clear n0_ n1_ n2_ n3_ n4_ n5_ n6_; clear hb ho42) | ((with_reducible refine gate_callee (f := 45) rfl ?_); refine goesL_ (some 28) rfl rfl Try.func45 (by kernel_rfl) rfl #[.pointer (some ⟨g, 0, none⟩), .int .i64 2] rfl (by (try simp only [List.map_toArray, List.map_cons, List.map_nil]); first | done | rfl | (simp only [List.length_drop, List.length_take]; rfl)) ?_; (with_reducible refine (spec_l4Cur_pick.calls g s0_0 t549 t550 2 t554 t555 t556 w0 _ ?side1 ?side2 A38.out).mono ?_); (case side1 => repeat (first | (with_reducible first | exact HI0.out | apply IsS57.alloc | apply IsS57.drewN | apply IsS57.drew | apply IsS57.set_1 | apply IsS57.set_2 | refine IsS57.far ?_ NB0_536.out _ | refine IsS57.far ?_ NB0_537.out _ | refine IsS57.far ?_ NB0_541.out _) | exact HI0.out)); (case side2 => repeat (first | (with_reducible first | exact HB.out | apply lA | apply lN | apply lD | refine lS ?_ (IsS57.ge HI0.out) | refine lS ?_ GE536.out | refine lS ?_ GE537.out | refine lS ?_ GE541.out) | exact HB.out)); rintro e w43 ⟨rfl, hi, hb, hk⟩; refine ⟨_, rfl, ?_⟩; have n0_ := MK (KeepBut.blk hk (g' := gb536) (o := .cells #[.int .i64 a1_0, .int .i64 a1_1, .int .i64 a1_2, .int .i64 a1_3, .bool a1_4] 44 (0, 0)) (by (with_reducible repeat (first | refine bN ?_ _ | refine bD ?_ | refine bA ?_ _)); exact BK536.out) NB536_0.out (by simp)); have n1_ := MK (KeepBut.blk hk (g' := gb537) (o := .cells #[.int .i64 0, .int .i64 0] 31 (0, 0)) (by (with_reducible repeat (first | refine bN ?_ _ | refine bD ?_ | refine bA ?_ _)); exact BK537.out) NB537_0.out (by simp)); have n2_ := MK (KeepBut.blk hk (g' := gb541) (o := .cells #[.int .i64 t538, .int .i64 a1_2] 31 (0, 0)) (by (with_reducible repeat (first | refine bN ?_ _ | refine bD ?_ | refine bA ?_ _)); exact BK541.out) NB541_0.out (by simp)); have n3_ := MK (Kd.R_mono (Kd.R_keep (IsS57.apart (show IsS57 w0 _ g s0_0 t549 t550 from by repeat (first | (with_reducible first | exact HI0.out | apply IsS57.alloc | apply IsS57.drewN | apply IsS57.drew | apply IsS57.set_1 | apply IsS57.set_2 | refine IsS57.far ?_ NB0_536.out _ | refine IsS57.far ?_ NB0_537.out _ | refine IsS57.far ?_ NB0_541.out _) | exact HI0.out)) (by (with_reducible repeat (first | apply Kd.R_alloc | apply Kd.R_drewN | apply Kd.R_drew)); exact HO553.out) (by decide)) hk (fun _ h => h.2)) (fun _ h => h.1)); have n4_ := MK (KeepBut.trans (by repeat (first | (with_reducible first | exact HK.out | apply KeepBut.set_ | apply keep_drewN | apply keep_drew | apply keep_alloc | refine keep_far ?_ GW536.out _ | refine keep_far ?_ GW537.out _ | refine keep_far ?_ GW541.out _) | exact HK.out)) hk (.inl rfl)); have n5_ := MK (hb); have n6_ := MK (hi); clear BK536; clear BK537; clear BK541; clear HO553; clear HK; clear HB; clear HI0; have BK536 := n0_; have BK537 := n1_; have BK541 := n2_; have HO553 := n3_; have HK := n4_; have HB := n5_; have HI0 := n6_; clear n0_ n1_ n2_ n3_ n4_ n5_ n6_; (try clear hb); (try clear hb2); (try clear hk); (try clear hi); obtain ⟨Ao44, co44, eo44⟩ := Kd.R_slice HO553.out; subst eo44; have p557 : 0 ≤ (t554 : Int) := of_decide_eq_true (by first | (with_reducible assumption) | assumption); have q557 : t554 < (y551.length : Int) := of_decide_eq_true (by first | (with_reducible assumption) | assumption); obtain ⟨ad557, e557, hx557_0⟩ := Kd.at_int (Kd.R_reads' HO553.out).2.2 t554 p557 q557; cases e557; replace p557 := eq_true p557; replace q557 := eq_true q557; have hnb45 := NB541_536.out; have hnc45 := NB536_541.out; have hnb46 := NB541_537.out; have hnc46 := NB537_541.out; have hnb47 := NB541_0.out; have hnc47 := NB0_541.out; have hcz48_0 : w43.cell? ⟨gb541, 0, none⟩ = some (.int .i64 t538) := (blk_cell BK541.out 0).trans rfl; have hcz48_1 : w43.cell? ⟨gb541, 1, none⟩ = some (.int .i64 a1_2) := (blk_cell BK541.out 1).trans rfl; obtain ⟨hfz48_0, hfz48_1⟩ := bf2 BK541.out; have hnb49 := NB537_536.out; have hnc49 := NB536_537.out; have hnb50 := NB537_0.out; have hnc50 := NB0_537.out; obtain ⟨hcz51_0, hcz51_1⟩ := bc2 BK537.out; obtain ⟨hfz51_0, hfz51_1⟩ := bf2 BK537.out))
       refine bodyPost_ret (results_cell_row rfl _ _ gb537 31 #[.int .i64 (rd y551 t554), .int .i64 a1_2] (0, 0) _ rfl (by (with_reducible repeat (first | refine bN ?_ _ | refine bD ?_ | refine bA ?_ _)); refine blk_put (cs := #[.int .i64 (rd y551 t554), .int .i64 0]) ?_ 1 _ rfl; (with_reducible repeat (first | refine bN ?_ _ | refine bD ?_ | refine bA ?_ _)); refine blk_put (cs := #[.int .i64 0, .int .i64 0]) ?_ 0 _ rfl; (with_reducible repeat (first | refine bN ?_ _ | refine bD ?_ | refine bA ?_ _)); refine blk_far ?_ NB537_541.out _; (with_reducible repeat (first | refine bN ?_ _ | refine bD ?_ | refine bA ?_ _)); exact BK537.out) Try.underlying31 rfl (by kernel_rfl)) rfl ?_
       exact ⟨by first | rfl | (simp [errW_none, errW_some] <;> rfl) | (simp [*, errW_none, errW_some] <;> rfl), by repeat (first | (with_reducible first | exact HI0.out | apply IsS57.alloc | apply IsS57.drewN | apply IsS57.drew | apply IsS57.set_1 | apply IsS57.set_2 | refine IsS57.far ?_ NB0_536.out _ | refine IsS57.far ?_ NB0_537.out _ | refine IsS57.far ?_ NB0_541.out _) | exact HI0.out), by repeat (first | (with_reducible first | exact HB.out | apply lA | apply lN | apply lD | refine lS ?_ (IsS57.ge HI0.out) | refine lS ?_ GE536.out | refine lS ?_ GE537.out | refine lS ?_ GE541.out) | exact HB.out), by repeat (first | (with_reducible first | exact HK.out | apply KeepBut.set_ | apply keep_drewN | apply keep_drew | apply keep_alloc | refine keep_far ?_ GW536.out _ | refine keep_far ?_ GW537.out _ | refine keep_far ?_ GW541.out _) | exact HK.out)⟩
      ·rw [if_neg c40] at H
       exact absurd H (by simp)
     ·rw [if_neg c39] at H
      exact absurd H (by simp)
    ·rw [if_neg c37] at H
     have c37b0 : (t548 == 0) = false := beq_eq_false_iff_ne.mpr c37
     have c37b1 : (t548 != 0) = true := bne_iff_ne.mpr c37
     (first | rw [c37b0] | (simp only [i64_w, i32_w]; rw [c37b0]) | rw [c37b1] | skip)
     simp only [Option.some.injEq, Prod.mk.injEq] at H
     obtain ⟨rfl, rfl, rfl, rfl⟩ := H
     have hnb52 := NB541_536.out
     have hnc52 := NB536_541.out
     have hnb53 := NB541_537.out
     have hnc53 := NB537_541.out
     have hnb54 := NB541_0.out
     have hnc54 := NB0_541.out
     have hcz55_0 : w36.cell? ⟨gb541, 0, none⟩ = some (.int .i64 t538) := (blk_cell BK541.out 0).trans rfl
     have hcz55_1 : w36.cell? ⟨gb541, 1, none⟩ = some (.int .i64 a1_2) := (blk_cell BK541.out 1).trans rfl
     obtain ⟨hfz55_0, hfz55_1⟩ := bf2 BK541.out
     have hnb56 := NB537_536.out
     have hnc56 := NB536_537.out
     have hnb57 := NB537_0.out
     have hnc57 := NB0_537.out
     obtain ⟨hcz58_0, hcz58_1⟩ := bc2 BK537.out
     obtain ⟨hfz58_0, hfz58_1⟩ := bf2 BK537.out
     go_wp2
     refine bodyPost_ret (results_cell_row rfl _ _ gb537 31 #[.int .i64 t538, .int .i64 a1_2] (0, 0) _ rfl (by (with_reducible repeat (first | refine bN ?_ _ | refine bD ?_ | refine bA ?_ _)); refine blk_put (cs := #[.int .i64 t538, .int .i64 0]) ?_ 1 _ rfl; (with_reducible repeat (first | refine bN ?_ _ | refine bD ?_ | refine bA ?_ _)); refine blk_put (cs := #[.int .i64 0, .int .i64 0]) ?_ 0 _ rfl; (with_reducible repeat (first | refine bN ?_ _ | refine bD ?_ | refine bA ?_ _)); exact BK537.out) Try.underlying31 rfl (by kernel_rfl)) rfl ?_
     exact ⟨by first | rfl | (simp [errW_none, errW_some] <;> rfl) | (simp [*, errW_none, errW_some] <;> rfl), by repeat (first | (with_reducible first | exact HI0.out | apply IsS57.alloc | apply IsS57.drewN | apply IsS57.drew | apply IsS57.set_1 | apply IsS57.set_2 | refine IsS57.far ?_ NB0_536.out _ | refine IsS57.far ?_ NB0_537.out _ | refine IsS57.far ?_ NB0_541.out _) | exact HI0.out), by repeat (first | (with_reducible first | exact HB.out | apply lA | apply lN | apply lD | refine lS ?_ (IsS57.ge HI0.out) | refine lS ?_ GE536.out | refine lS ?_ GE537.out | refine lS ?_ GE541.out) | exact HB.out), by repeat (first | (with_reducible first | exact HK.out | apply KeepBut.set_ | apply keep_drewN | apply keep_drew | apply keep_alloc | refine keep_far ?_ GW536.out _ | refine keep_far ?_ GW537.out _ | refine keep_far ?_ GW541.out _) | exact HK.out)⟩
   ·rw [if_neg c33] at H
    have c33b0 : (t542 == 2) = false := beq_eq_false_iff_ne.mpr c33
    have c33b1 : (t542 != 2) = true := bne_iff_ne.mpr c33
    simp only [Option.some.injEq, Prod.mk.injEq] at H
    obtain ⟨rfl, rfl, rfl, rfl⟩ := H
    have hnb59 := NB541_536.out
    have hnc59 := NB536_541.out
    have hnb60 := NB541_537.out
    have hnc60 := NB537_541.out
    have hnb61 := NB541_0.out
    have hnc61 := NB0_541.out
    have hcz62_0 : w14.cell? ⟨gb541, 0, none⟩ = some (.int .i64 t538) := (blk_cell BK541.out 0).trans rfl
    have hcz62_1 : w14.cell? ⟨gb541, 1, none⟩ = some (.int .i64 a1_2) := (blk_cell BK541.out 1).trans rfl
    obtain ⟨hfz62_0, hfz62_1⟩ := bf2 BK541.out
    have hnb63 := NB537_536.out
    have hnc63 := NB536_537.out
    have hnb64 := NB537_0.out
    have hnc64 := NB0_537.out
    obtain ⟨hcz65_0, hcz65_1⟩ := bc2 BK537.out
    obtain ⟨hfz65_0, hfz65_1⟩ := bf2 BK537.out
    go_wp2
    refine bodyPost_ret (results_cell_row rfl _ _ gb537 31 #[.int .i64 t538, .int .i64 a1_2] (0, 0) _ rfl (by (with_reducible repeat (first | refine bN ?_ _ | refine bD ?_ | refine bA ?_ _)); refine blk_put (cs := #[.int .i64 t538, .int .i64 0]) ?_ 1 _ rfl; (with_reducible repeat (first | refine bN ?_ _ | refine bD ?_ | refine bA ?_ _)); refine blk_put (cs := #[.int .i64 0, .int .i64 0]) ?_ 0 _ rfl; (with_reducible repeat (first | refine bN ?_ _ | refine bD ?_ | refine bA ?_ _)); exact BK537.out) Try.underlying31 rfl (by kernel_rfl)) rfl ?_
    exact ⟨by first | rfl | (simp [errW_none, errW_some] <;> rfl) | (simp [*, errW_none, errW_some] <;> rfl), by repeat (first | (with_reducible first | exact HI0.out | apply IsS57.alloc | apply IsS57.drewN | apply IsS57.drew | apply IsS57.set_1 | apply IsS57.set_2 | refine IsS57.far ?_ NB0_536.out _ | refine IsS57.far ?_ NB0_537.out _ | refine IsS57.far ?_ NB0_541.out _) | exact HI0.out), by repeat (first | (with_reducible first | exact HB.out | apply lA | apply lN | apply lD | refine lS ?_ (IsS57.ge HI0.out) | refine lS ?_ GE536.out | refine lS ?_ GE537.out | refine lS ?_ GE541.out) | exact HB.out), by repeat (first | (with_reducible first | exact HK.out | apply KeepBut.set_ | apply keep_drewN | apply keep_drew | apply keep_alloc | refine keep_far ?_ GW536.out _ | refine keep_far ?_ GW537.out _ | refine keep_far ?_ GW541.out _) | exact HK.out)⟩

end Go.Proofs.Ytcfhjidddpoijaa.Q
