/- Walks: a call of each function answers what its Lean function tells; no condition but that it tells something. -/
import Derived.Test.YtnikfadkmhcalaaXRQ0
namespace Go.Proofs.Ytnikfadkmhcalaa.Q
open Go.RowKit Go.Proofs.YtnikfadkmhcalaaW.PrintWords Go.Proofs.YtnikfadkmhcalaaW.PrintLast Go.Proofs.YtnikfadkmhcalaaW.PrintMore
attribute [local go_sem] max2_int min2_int max_two min_two max_three min_three max_four min_four   -- for this text's walks alone
set_option linter.unusedVariables false
set_option linter.unusedSimpArgs false

/-! ### laws_markSaidS: function 45 -/
def laws_markSaidS.l0 : Nat → List (S52) → Int → Int → Option (Int × (List (S52)))
 | 0, _, _, _ => none
 | k + 1, x0, x1, x5 => if x5 < (x0.length : Int) then (if 0 ≤ x5 then ((some (x0.set (x5 : Int).toNat (⟨((Int.tmod x1 3) == 0), (⟨(rd_T52 x0 x5).f1.f0, (rd_T52 x0 x5).f1.f1⟩ : S26), (rd_T52 x0 x5).f2, (rd_T52 x0 x5).f3, (rd_T52 x0 x5).f4⟩ : S52) : List (S52))).bind fun y444 => ((some (y444.set (x5 : Int).toNat (⟨(rd_T52 y444 x5).f0, (⟨wrap64 (x1 + 1), (rd_T52 y444 x5).f1.f1⟩ : S26), (rd_T52 y444 x5).f2, (rd_T52 y444 x5).f3, (rd_T52 y444 x5).f4⟩ : S52) : List (S52))).bind fun y445 => ((some (y445.set (x5 : Int).toNat (⟨(rd_T52 y445 x5).f0, (⟨(rd_T52 y445 x5).f1.f0, wrap64 ((wrap64 (x1 + 1)) + 1)⟩ : S26), (rd_T52 y445 x5).f2, (rd_T52 y445 x5).f3, (rd_T52 y445 x5).f4⟩ : S52) : List (S52))).bind fun y446 => ((some (y446.set (x5 : Int).toNat (⟨(rd_T52 y446 x5).f0, (⟨(rd_T52 y446 x5).f1.f0, (rd_T52 y446 x5).f1.f1⟩ : S26), wrap64 ((wrap64 ((wrap64 (x1 + 1)) + 1)) + 1), (rd_T52 y446 x5).f3, (rd_T52 y446 x5).f4⟩ : S52) : List (S52))).bind fun y447 => ((some (y447.set (x5 : Int).toNat (⟨(rd_T52 y447 x5).f0, (⟨(rd_T52 y447 x5).f1.f0, (rd_T52 y447 x5).f1.f1⟩ : S26), (rd_T52 y447 x5).f2, ((Int.tmod (wrap64 ((wrap64 ((wrap64 ((wrap64 (x1 + 1)) + 1)) + 1)) + 1)) 3) == 0), (rd_T52 y447 x5).f4⟩ : S52) : List (S52))).bind fun y448 => (laws_markSaidS.l0 k (y448.set (x5 : Int).toNat (⟨(rd_T52 y448 x5).f0, (⟨(rd_T52 y448 x5).f1.f0, (rd_T52 y448 x5).f1.f1⟩ : S26), (rd_T52 y448 x5).f2, (rd_T52 y448 x5).f3, ((Int.tmod (wrap64 ((wrap64 ((wrap64 ((wrap64 ((wrap64 (x1 + 1)) + 1)) + 1)) + 1)) + 1)) 3) == 0)⟩ : S52)) (wrap64 ((wrap64 ((wrap64 ((wrap64 ((wrap64 ((wrap64 (x1 + 1)) + 1)) + 1)) + 1)) + 1)) + 1)) (wrap64 (x5 + 1)))))))) else (none)) else (some (x1, x0))
def laws_markSaidS.f (k : Nat) (l0 : List (S52)) (a1 : Int) : Option (Int × (List (S52))) := laws_markSaidS.l0 k l0 a1 0
set_option maxHeartbeats 8000000 in
set_option maxRecDepth 100000 in
theorem laws_markSaidS.calls (k : Nat) (P0_ : Nat → Prop) (u9000_ : Value) (l0 : List (S52)) (a1 : Int) (r1 : Int) (r2 : List (S52)) (w0 w : World) (hB : Below w0.heap.size w0 w) (ho0 : Kd.R k52 52 w w0.heap.size P0_ u9000_ l0) (h : laws_markSaidS.f k l0 a1 = some (r1, r2)) :
  Calls Try.prog 45 #[u9000_, .int .i64 a1] w fun e w' => e = .returned (.int .i64 r1) ∧ Kd.R k52 52 w' w0.heap.size (fun k_ => (P0_ k_ ∨ w.heap.size ≤ k_)) u9000_ r2 ∧ Below w0.heap.size w0 w' ∧ Kept w w' (fun k_ => P0_ k_) := by
 have HO0 := MK (show Kd.R k52 52 w w0.heap.size (fun k_ => (P0_ k_ ∨ w.heap.size ≤ k_)) u9000_ l0 from Kd.R_mono ho0 (fun k_ hk => (.inl hk)))
 have HK := MK (Kept.refl w (fun k_ => P0_ k_))
 have HW0 := MK hB.size
 have HB := MK hB
 clear hB
 have H : (laws_markSaidS.l0 k l0 a1 0) = some (r1, r2) := h
 clear h
 have H' := MK H
 clear H
 go_enter Try.func45, Try.ntmps45
 go_wp2
 go_loopg [1, 5] k (fun kq v1 v5 w' => ∃ (x0_1 : List (S52)) (x1_1 : Int) (x5_1 : Int), v1 = .int .i64 x1_1 ∧ v5 = .int .i64 x5_1 ∧ Aside0 (laws_markSaidS.l0 kq x0_1 x1_1 x5_1 = some (r1, r2)) ∧ Aside0 (kq ≤ k) ∧ Aside0 (Kd.R k52 52 w' w0.heap.size (fun k_ => (P0_ k_ ∨ w.heap.size ≤ k_)) u9000_ x0_1) ∧ Aside0 (Kept w w' (fun k_ => P0_ k_)) ∧ Aside0 (Below w0.heap.size w0 w'))
 case atStart => exact ⟨(l0), (a1), (0), (by first | rfl | (simp; done) | (simp [*]; done)), (by first | rfl | (simp; done) | (simp [*]; done)), H', ⟨Nat.le_refl _⟩, ⟨by (with_reducible repeat (first | apply Kd.R_alloc | apply Kd.R_drewN | apply Kd.R_drew)); exact HO0.out⟩, ⟨by repeat (first | (with_reducible first | exact HK.out | apply Kept.alloc | apply Kept.drewN | apply Kept.drew) | exact HK.out)⟩, ⟨by repeat (first | (with_reducible first | exact HB.out | apply lA | apply lN | apply lD) | exact HB.out)⟩⟩
 case round =>
  clear H'
  obtain ⟨x0_1, x1_1, x5_1, rfl, rfl, HA, HK1, HO_0, HK, HB⟩ := hrel
  cases gk with
  | zero => exact absurd HA.out (by simp [laws_markSaidS.l0])
  | succ k1 =>
   have H := HA.out
   clear HA
   simp only [laws_markSaidS.l0] at H
   have HC3 := MK H
   clear H
   obtain ⟨Ao4, co4, eo4⟩ := Kd.R_slice HO_0.out
   subst eo4
   go_upto_if 9 with (fail)
   have H := HC3.out
   clear HC3
   by_cases c5 : x5_1 < (x0_1.length : Int)
   ·rw [if_pos c5] at H
    have c5b0 : decide (x5_1 < (x0_1.length : Int)) = true := decide_eq_true c5
    clear c5
    (first | rw [c5b0] | (simp only [i64_w, i32_w]; rw [c5b0]) | skip)
    by_cases c6 : 0 ≤ x5_1
    ·rw [if_pos c6] at H
     have c6b0 : decide (0 ≤ x5_1) = true := decide_eq_true c6
     clear c6
     obtain ⟨y444, hy444⟩ : ∃ y_ : List (S52), y_ = (x0_1.set (x5_1 : Int).toNat (⟨((Int.tmod x1_1 3) == 0), (⟨(rd_T52 x0_1 x5_1).f1.f0, (rd_T52 x0_1 x5_1).f1.f1⟩ : S26), (rd_T52 x0_1 x5_1).f2, (rd_T52 x0_1 x5_1).f3, (rd_T52 x0_1 x5_1).f4⟩ : S52)) := ⟨_, rfl⟩
     replace H : ((some (y444.set (x5_1 : Int).toNat (⟨(rd_T52 y444 x5_1).f0, (⟨wrap64 (x1_1 + 1), (rd_T52 y444 x5_1).f1.f1⟩ : S26), (rd_T52 y444 x5_1).f2, (rd_T52 y444 x5_1).f3, (rd_T52 y444 x5_1).f4⟩ : S52) : List (S52))).bind fun y445 => ((some (y445.set (x5_1 : Int).toNat (⟨(rd_T52 y445 x5_1).f0, (⟨(rd_T52 y445 x5_1).f1.f0, wrap64 ((wrap64 (x1_1 + 1)) + 1)⟩ : S26), (rd_T52 y445 x5_1).f2, (rd_T52 y445 x5_1).f3, (rd_T52 y445 x5_1).f4⟩ : S52) : List (S52))).bind fun y446 => ((some (y446.set (x5_1 : Int).toNat (⟨(rd_T52 y446 x5_1).f0, (⟨(rd_T52 y446 x5_1).f1.f0, (rd_T52 y446 x5_1).f1.f1⟩ : S26), wrap64 ((wrap64 ((wrap64 (x1_1 + 1)) + 1)) + 1), (rd_T52 y446 x5_1).f3, (rd_T52 y446 x5_1).f4⟩ : S52) : List (S52))).bind fun y447 => ((some (y447.set (x5_1 : Int).toNat (⟨(rd_T52 y447 x5_1).f0, (⟨(rd_T52 y447 x5_1).f1.f0, (rd_T52 y447 x5_1).f1.f1⟩ : S26), (rd_T52 y447 x5_1).f2, ((Int.tmod (wrap64 ((wrap64 ((wrap64 ((wrap64 (x1_1 + 1)) + 1)) + 1)) + 1)) 3) == 0), (rd_T52 y447 x5_1).f4⟩ : S52) : List (S52))).bind fun y448 => (laws_markSaidS.l0 k1 (y448.set (x5_1 : Int).toNat (⟨(rd_T52 y448 x5_1).f0, (⟨(rd_T52 y448 x5_1).f1.f0, (rd_T52 y448 x5_1).f1.f1⟩ : S26), (rd_T52 y448 x5_1).f2, (rd_T52 y448 x5_1).f3, ((Int.tmod (wrap64 ((wrap64 ((wrap64 ((wrap64 ((wrap64 (x1_1 + 1)) + 1)) + 1)) + 1)) + 1)) 3) == 0)⟩ : S52)) (wrap64 ((wrap64 ((wrap64 ((wrap64 ((wrap64 ((wrap64 (x1_1 + 1)) + 1)) + 1)) + 1)) + 1)) + 1)) (wrap64 (x5_1 + 1))))))) = some (r1, r2) := by first | (rw [hy444]; with_reducible exact H) | (have H2_ := (Option.bind_some _ _).symm.trans H; rw [hy444]; with_reducible exact H2_) | (have H2_ := (Option.bind_some _ _).symm.trans H; with_reducible exact H2_) | with_reducible exact H | (rw [hy444]; exact H) | exact H
     have Ny444 := MK hy444
     clear hy444
     obtain ⟨y445, hy445⟩ : ∃ y_ : List (S52), y_ = (y444.set (x5_1 : Int).toNat (⟨(rd_T52 y444 x5_1).f0, (⟨wrap64 (x1_1 + 1), (rd_T52 y444 x5_1).f1.f1⟩ : S26), (rd_T52 y444 x5_1).f2, (rd_T52 y444 x5_1).f3, (rd_T52 y444 x5_1).f4⟩ : S52)) := ⟨_, rfl⟩
     replace H : ((some (y445.set (x5_1 : Int).toNat (⟨(rd_T52 y445 x5_1).f0, (⟨(rd_T52 y445 x5_1).f1.f0, wrap64 ((wrap64 (x1_1 + 1)) + 1)⟩ : S26), (rd_T52 y445 x5_1).f2, (rd_T52 y445 x5_1).f3, (rd_T52 y445 x5_1).f4⟩ : S52) : List (S52))).bind fun y446 => ((some (y446.set (x5_1 : Int).toNat (⟨(rd_T52 y446 x5_1).f0, (⟨(rd_T52 y446 x5_1).f1.f0, (rd_T52 y446 x5_1).f1.f1⟩ : S26), wrap64 ((wrap64 ((wrap64 (x1_1 + 1)) + 1)) + 1), (rd_T52 y446 x5_1).f3, (rd_T52 y446 x5_1).f4⟩ : S52) : List (S52))).bind fun y447 => ((some (y447.set (x5_1 : Int).toNat (⟨(rd_T52 y447 x5_1).f0, (⟨(rd_T52 y447 x5_1).f1.f0, (rd_T52 y447 x5_1).f1.f1⟩ : S26), (rd_T52 y447 x5_1).f2, ((Int.tmod (wrap64 ((wrap64 ((wrap64 ((wrap64 (x1_1 + 1)) + 1)) + 1)) + 1)) 3) == 0), (rd_T52 y447 x5_1).f4⟩ : S52) : List (S52))).bind fun y448 => (laws_markSaidS.l0 k1 (y448.set (x5_1 : Int).toNat (⟨(rd_T52 y448 x5_1).f0, (⟨(rd_T52 y448 x5_1).f1.f0, (rd_T52 y448 x5_1).f1.f1⟩ : S26), (rd_T52 y448 x5_1).f2, (rd_T52 y448 x5_1).f3, ((Int.tmod (wrap64 ((wrap64 ((wrap64 ((wrap64 ((wrap64 (x1_1 + 1)) + 1)) + 1)) + 1)) + 1)) 3) == 0)⟩ : S52)) (wrap64 ((wrap64 ((wrap64 ((wrap64 ((wrap64 ((wrap64 (x1_1 + 1)) + 1)) + 1)) + 1)) + 1)) + 1)) (wrap64 (x5_1 + 1)))))) = some (r1, r2) := by first | (rw [hy445]; with_reducible exact H) | (have H2_ := (Option.bind_some _ _).symm.trans H; rw [hy445]; with_reducible exact H2_) | (have H2_ := (Option.bind_some _ _).symm.trans H; with_reducible exact H2_) | with_reducible exact H | (rw [hy445]; exact H) | exact H
     have Ny445 := MK hy445
     clear hy445
     obtain ⟨y446, hy446⟩ : ∃ y_ : List (S52), y_ = (y445.set (x5_1 : Int).toNat (⟨(rd_T52 y445 x5_1).f0, (⟨(rd_T52 y445 x5_1).f1.f0, wrap64 ((wrap64 (x1_1 + 1)) + 1)⟩ : S26), (rd_T52 y445 x5_1).f2, (rd_T52 y445 x5_1).f3, (rd_T52 y445 x5_1).f4⟩ : S52)) := ⟨_, rfl⟩
     replace H : ((some (y446.set (x5_1 : Int).toNat (⟨(rd_T52 y446 x5_1).f0, (⟨(rd_T52 y446 x5_1).f1.f0, (rd_T52 y446 x5_1).f1.f1⟩ : S26), wrap64 ((wrap64 ((wrap64 (x1_1 + 1)) + 1)) + 1), (rd_T52 y446 x5_1).f3, (rd_T52 y446 x5_1).f4⟩ : S52) : List (S52))).bind fun y447 => ((some (y447.set (x5_1 : Int).toNat (⟨(rd_T52 y447 x5_1).f0, (⟨(rd_T52 y447 x5_1).f1.f0, (rd_T52 y447 x5_1).f1.f1⟩ : S26), (rd_T52 y447 x5_1).f2, ((Int.tmod (wrap64 ((wrap64 ((wrap64 ((wrap64 (x1_1 + 1)) + 1)) + 1)) + 1)) 3) == 0), (rd_T52 y447 x5_1).f4⟩ : S52) : List (S52))).bind fun y448 => (laws_markSaidS.l0 k1 (y448.set (x5_1 : Int).toNat (⟨(rd_T52 y448 x5_1).f0, (⟨(rd_T52 y448 x5_1).f1.f0, (rd_T52 y448 x5_1).f1.f1⟩ : S26), (rd_T52 y448 x5_1).f2, (rd_T52 y448 x5_1).f3, ((Int.tmod (wrap64 ((wrap64 ((wrap64 ((wrap64 ((wrap64 (x1_1 + 1)) + 1)) + 1)) + 1)) + 1)) 3) == 0)⟩ : S52)) (wrap64 ((wrap64 ((wrap64 ((wrap64 ((wrap64 ((wrap64 (x1_1 + 1)) + 1)) + 1)) + 1)) + 1)) + 1)) (wrap64 (x5_1 + 1))))) = some (r1, r2) := by first | (rw [hy446]; with_reducible exact H) | (have H2_ := (Option.bind_some _ _).symm.trans H; rw [hy446]; with_reducible exact H2_) | (have H2_ := (Option.bind_some _ _).symm.trans H; with_reducible exact H2_) | with_reducible exact H | (rw [hy446]; exact H) | exact H
     have Ny446 := MK hy446
     clear hy446
     obtain ⟨y447, hy447⟩ : ∃ y_ : List (S52), y_ = (y446.set (x5_1 : Int).toNat (⟨(rd_T52 y446 x5_1).f0, (⟨(rd_T52 y446 x5_1).f1.f0, (rd_T52 y446 x5_1).f1.f1⟩ : S26), wrap64 ((wrap64 ((wrap64 (x1_1 + 1)) + 1)) + 1), (rd_T52 y446 x5_1).f3, (rd_T52 y446 x5_1).f4⟩ : S52)) := ⟨_, rfl⟩
     replace H : ((some (y447.set (x5_1 : Int).toNat (⟨(rd_T52 y447 x5_1).f0, (⟨(rd_T52 y447 x5_1).f1.f0, (rd_T52 y447 x5_1).f1.f1⟩ : S26), (rd_T52 y447 x5_1).f2, ((Int.tmod (wrap64 ((wrap64 ((wrap64 ((wrap64 (x1_1 + 1)) + 1)) + 1)) + 1)) 3) == 0), (rd_T52 y447 x5_1).f4⟩ : S52) : List (S52))).bind fun y448 => (laws_markSaidS.l0 k1 (y448.set (x5_1 : Int).toNat (⟨(rd_T52 y448 x5_1).f0, (⟨(rd_T52 y448 x5_1).f1.f0, (rd_T52 y448 x5_1).f1.f1⟩ : S26), (rd_T52 y448 x5_1).f2, (rd_T52 y448 x5_1).f3, ((Int.tmod (wrap64 ((wrap64 ((wrap64 ((wrap64 ((wrap64 (x1_1 + 1)) + 1)) + 1)) + 1)) + 1)) 3) == 0)⟩ : S52)) (wrap64 ((wrap64 ((wrap64 ((wrap64 ((wrap64 ((wrap64 (x1_1 + 1)) + 1)) + 1)) + 1)) + 1)) + 1)) (wrap64 (x5_1 + 1)))) = some (r1, r2) := by first | (rw [hy447]; with_reducible exact H) | (have H2_ := (Option.bind_some _ _).symm.trans H; rw [hy447]; with_reducible exact H2_) | (have H2_ := (Option.bind_some _ _).symm.trans H; with_reducible exact H2_) | with_reducible exact H | (rw [hy447]; exact H) | exact H
     have Ny447 := MK hy447
     clear hy447
     obtain ⟨y448, hy448⟩ : ∃ y_ : List (S52), y_ = (y447.set (x5_1 : Int).toNat (⟨(rd_T52 y447 x5_1).f0, (⟨(rd_T52 y447 x5_1).f1.f0, (rd_T52 y447 x5_1).f1.f1⟩ : S26), (rd_T52 y447 x5_1).f2, ((Int.tmod (wrap64 ((wrap64 ((wrap64 ((wrap64 (x1_1 + 1)) + 1)) + 1)) + 1)) 3) == 0), (rd_T52 y447 x5_1).f4⟩ : S52)) := ⟨_, rfl⟩
     replace H : (laws_markSaidS.l0 k1 (y448.set (x5_1 : Int).toNat (⟨(rd_T52 y448 x5_1).f0, (⟨(rd_T52 y448 x5_1).f1.f0, (rd_T52 y448 x5_1).f1.f1⟩ : S26), (rd_T52 y448 x5_1).f2, (rd_T52 y448 x5_1).f3, ((Int.tmod (wrap64 ((wrap64 ((wrap64 ((wrap64 ((wrap64 (x1_1 + 1)) + 1)) + 1)) + 1)) + 1)) 3) == 0)⟩ : S52)) (wrap64 ((wrap64 ((wrap64 ((wrap64 ((wrap64 ((wrap64 (x1_1 + 1)) + 1)) + 1)) + 1)) + 1)) + 1)) (wrap64 (x5_1 + 1))) = some (r1, r2) := by first | (rw [hy448]; with_reducible exact H) | (have H2_ := (Option.bind_some _ _).symm.trans H; rw [hy448]; with_reducible exact H2_) | (have H2_ := (Option.bind_some _ _).symm.trans H; with_reducible exact H2_) | with_reducible exact H | (rw [hy448]; exact H) | exact H
     have Ny448 := MK hy448
     clear hy448
     obtain ⟨y449, hy449⟩ : ∃ y_ : List (S52), y_ = (y448.set (x5_1 : Int).toNat (⟨(rd_T52 y448 x5_1).f0, (⟨(rd_T52 y448 x5_1).f1.f0, (rd_T52 y448 x5_1).f1.f1⟩ : S26), (rd_T52 y448 x5_1).f2, (rd_T52 y448 x5_1).f3, ((Int.tmod (wrap64 ((wrap64 ((wrap64 ((wrap64 ((wrap64 (x1_1 + 1)) + 1)) + 1)) + 1)) + 1)) 3) == 0)⟩ : S52)) := ⟨_, rfl⟩
     replace H : (laws_markSaidS.l0 k1 y449 (wrap64 ((wrap64 ((wrap64 ((wrap64 ((wrap64 ((wrap64 (x1_1 + 1)) + 1)) + 1)) + 1)) + 1)) + 1)) (wrap64 (x5_1 + 1))) = some (r1, r2) := by first | (rw [hy449]; with_reducible exact H) | (have H2_ := (Option.bind_some _ _).symm.trans H; rw [hy449]; with_reducible exact H2_) | (have H2_ := (Option.bind_some _ _).symm.trans H; with_reducible exact H2_) | with_reducible exact H | (rw [hy449]; exact H) | exact H
     have Ny449 := MK hy449
     clear hy449
     have H' := MK H
     clear H
     have p7 : 0 ≤ (x5_1 : Int) := of_decide_eq_true (by first | (with_reducible assumption) | assumption)
     have q7 : (x5_1 : Int) < ((x0_1.length : Int) : Int) := of_decide_eq_true (by first | (with_reducible assumption) | assumption)
     obtain ⟨go7, co7, eo7, gb7, gl7, cl7, HG7⟩ := Kd.R_form HO_0.out (by omega)
     (first | cases eo7 | (injection eo7 with ea_ en_ ec_; (first | subst ea_ | (injection ea_ with ea_; subst ea_)); subst ec_; clear en_))
     have GB7 := MK gb7
     have GG7 := MK HG7
     clear gb7 gl7 HG7
     have HMgo7 := MK (show (P0_ go7 ∨ w.heap.size ≤ go7) from (HO_0.out.1 _ rfl))
     obtain ⟨ce7, hcl7, hM7, hcc7, hfr7⟩ := Kd.R_elem HO_0.out z52 (x5_1 : Int) p7 q7
     obtain rfl := k52_openM hM7
     have hx7_0 : wr.cell? ⟨go7, (x5_1 : Int).toNat * 6, none⟩ = some (.bool ((rd_T52 x0_1 x5_1).f0)) := hcc7 0 _ rfl
     have hx7_1 : wr.cell? ⟨go7, (x5_1 : Int).toNat * 6 + 1, none⟩ = some (.int .i64 ((rd_T52 x0_1 x5_1).f1.f0)) := hcc7 1 _ rfl
     have hx7_2 : wr.cell? ⟨go7, (x5_1 : Int).toNat * 6 + 2, none⟩ = some (.int .i64 ((rd_T52 x0_1 x5_1).f1.f1)) := hcc7 2 _ rfl
     have hx7_3 : wr.cell? ⟨go7, (x5_1 : Int).toNat * 6 + 3, none⟩ = some (.int .i64 ((rd_T52 x0_1 x5_1).f2)) := hcc7 3 _ rfl
     have hx7_4 : wr.cell? ⟨go7, (x5_1 : Int).toNat * 6 + 4, none⟩ = some (.bool ((rd_T52 x0_1 x5_1).f3)) := hcc7 4 _ rfl
     have hx7_5 : wr.cell? ⟨go7, (x5_1 : Int).toNat * 6 + 5, none⟩ = some (.bool ((rd_T52 x0_1 x5_1).f4)) := hcc7 5 _ rfl
     have hf7_0 : wr.frozen? ⟨go7, (x5_1 : Int).toNat * 6, none⟩ = false := hfr7 0
     have hf7_1 : wr.frozen? ⟨go7, (x5_1 : Int).toNat * 6 + 1, none⟩ = false := hfr7 1
     have hf7_2 : wr.frozen? ⟨go7, (x5_1 : Int).toNat * 6 + 2, none⟩ = false := hfr7 2
     have hf7_3 : wr.frozen? ⟨go7, (x5_1 : Int).toNat * 6 + 3, none⟩ = false := hfr7 3
     have hf7_4 : wr.frozen? ⟨go7, (x5_1 : Int).toNat * 6 + 4, none⟩ = false := hfr7 4
     have hf7_5 : wr.frozen? ⟨go7, (x5_1 : Int).toNat * 6 + 5, none⟩ = false := hfr7 5
     clear hcl7 hcc7 hfr7 hM7
     replace p7 := eq_true p7
     replace q7 := eq_true q7
     have HX13 := MK (show Kd.R k52 52 wr w0.heap.size (fun k_ => (P0_ k_ ∨ w.heap.size ≤ k_)) (.slice (some ⟨go7, 0, none⟩) x0_1.length co4) x0_1 from (by (with_reducible repeat (first | apply Kd.R_alloc | apply Kd.R_drewN | apply Kd.R_drew)); exact HO_0.out))
     obtain ⟨ce13, hcl13, hM13, hcc13, hfr13⟩ := Kd.R_elem HX13.out z52 (x5_1 : Int) (of_decide_eq_true (by first | (with_reducible assumption) | assumption)) (by have h_ : (x5_1 : Int) < ((x0_1.length : Int) : Int) := of_decide_eq_true (by first | (with_reducible assumption) | assumption); first | exact h_ | (have e_ := (Kd.R_reads' HO_0.out).1; omega) | simpa using h_)
     obtain rfl := k52_openM hM13
     have HP13 := Kd.R_seg HX13.out (x5_1 : Int) (of_decide_eq_true (by first | (with_reducible assumption) | assumption)) (by have h_ : (x5_1 : Int) < ((x0_1.length : Int) : Int) := of_decide_eq_true (by first | (with_reducible assumption) | assumption); first | exact h_ | (have e_ := (Kd.R_reads' HO_0.out).1; omega) | simpa using h_) (seg := [.bool ((Int.tmod x1_1 3) == 0)]) (j := 0) hcl13 hcc13 (show 1 ≤ 6 from by decide) (x' := (⟨((Int.tmod x1_1 3) == 0), (⟨(rd_T52 x0_1 x5_1).f1.f0, (rd_T52 x0_1 x5_1).f1.f1⟩ : S26), (rd_T52 x0_1 x5_1).f2, (rd_T52 x0_1 x5_1).f3, (rd_T52 x0_1 x5_1).f4⟩ : S52)) (k52_mkM _ _ _ (⟨((Int.tmod x1_1 3) == 0), (⟨(rd_T52 x0_1 x5_1).f1.f0, (rd_T52 x0_1 x5_1).f1.f1⟩ : S26), (rd_T52 x0_1 x5_1).f2, (rd_T52 x0_1 x5_1).f3, (rd_T52 x0_1 x5_1).f4⟩ : S52) ) (fun _ hk => hk)
     have hx13_0 := hcc13 0 _ rfl
     (try simp only [show (k52).sz = 6 from rfl, Nat.mul_one, Nat.add_zero] at hx13_0)
     have hf13_0 := hfr13 0
     (try simp only [show (k52).sz = 6 from rfl, Nat.mul_one, Nat.add_zero] at hf13_0)
     clear hcl13 hcc13 hfr13 hM13
     go_wp2_with (first | ((with_reducible refine gate_store (t := 4) (p := 18) rfl ?_); refine store_event (t := 4) (p := 18) (v := ?vo_w14) (w1 := (wr.setCell ⟨go7, (x5_1 : Int).toNat * 6, none⟩ (.bool ((Int.tmod x1_1 3) == 0)))) ?hg ?ho ?hn ?hr ?_; (case ho => rfl); (case hg => rfl); (case hn => rfl); (case hr => first | (go_simp; done) | (go_simp; rfl)); intro w14 hw; have hg : wr.grownBy w14 (some go7) := (by rw [hw]; exact HP13.2); have hp_ : Kd.R k52 52 w14 w0.heap.size (fun k_ => (P0_ k_ ∨ w.heap.size ≤ k_)) (.slice (some ⟨go7, 0, none⟩) x0_1.length co4) y444 := (by rw [hw, Ny444.out]; exact HP13.1); clear HP13; have n0_ := MK (hp_); have n1_ := MK ((by rw [hw]; exact lS (HB.out) GB7.out : Below w0.heap.size w0 w14)); have n2_ := MK (Kept.of_grown (S := (fun k_ => P0_ k_)) hg (by repeat (first | (with_reducible first | exact HK.out | apply Kept.alloc | apply Kept.drewN | apply Kept.drew) | exact HK.out)) (fun k_ e_ => (HO_0.out.1 k_ e_))); clear HO_0; clear HB; clear HK; have HO_0 := n0_; have HB := n1_; have HK := n2_; clear n0_ n1_ n2_; clear hg hw hp_; have p8 : 0 ≤ (x5_1 : Int) := of_decide_eq_true (by first | (with_reducible assumption) | assumption); have q8 : (x5_1 : Int) < ((x0_1.length : Int) : Int) := of_decide_eq_true (by first | (with_reducible assumption) | assumption); obtain ⟨ce8, hcl8, hM8, hcc8, hfr8⟩ := Kd.R_elem HO_0.out z52 (x5_1 : Int) p8 q8; obtain rfl := k52_openM hM8; have hx8_0 : w14.cell? ⟨go7, (x5_1 : Int).toNat * 6, none⟩ = some (.bool ((rd_T52 y444 x5_1).f0)) := hcc8 0 _ rfl; have hx8_1 : w14.cell? ⟨go7, (x5_1 : Int).toNat * 6 + 1, none⟩ = some (.int .i64 ((rd_T52 y444 x5_1).f1.f0)) := hcc8 1 _ rfl; have hx8_2 : w14.cell? ⟨go7, (x5_1 : Int).toNat * 6 + 2, none⟩ = some (.int .i64 ((rd_T52 y444 x5_1).f1.f1)) := hcc8 2 _ rfl; have hx8_3 : w14.cell? ⟨go7, (x5_1 : Int).toNat * 6 + 3, none⟩ = some (.int .i64 ((rd_T52 y444 x5_1).f2)) := hcc8 3 _ rfl; have hx8_4 : w14.cell? ⟨go7, (x5_1 : Int).toNat * 6 + 4, none⟩ = some (.bool ((rd_T52 y444 x5_1).f3)) := hcc8 4 _ rfl; have hx8_5 : w14.cell? ⟨go7, (x5_1 : Int).toNat * 6 + 5, none⟩ = some (.bool ((rd_T52 y444 x5_1).f4)) := hcc8 5 _ rfl; have hf8_0 : w14.frozen? ⟨go7, (x5_1 : Int).toNat * 6, none⟩ = false := hfr8 0; have hf8_1 : w14.frozen? ⟨go7, (x5_1 : Int).toNat * 6 + 1, none⟩ = false := hfr8 1; have hf8_2 : w14.frozen? ⟨go7, (x5_1 : Int).toNat * 6 + 2, none⟩ = false := hfr8 2; have hf8_3 : w14.frozen? ⟨go7, (x5_1 : Int).toNat * 6 + 3, none⟩ = false := hfr8 3; have hf8_4 : w14.frozen? ⟨go7, (x5_1 : Int).toNat * 6 + 4, none⟩ = false := hfr8 4; have hf8_5 : w14.frozen? ⟨go7, (x5_1 : Int).toNat * 6 + 5, none⟩ = false := hfr8 5; clear hcl8 hcc8 hfr8 hM8; replace p8 := eq_true p8; replace q8 := eq_true q8; have HX15 := MK (show Kd.R k52 52 w14 w0.heap.size (fun k_ => (P0_ k_ ∨ w.heap.size ≤ k_)) (.slice (some ⟨go7, 0, none⟩) x0_1.length co4) y444 from (by (with_reducible repeat (first | apply Kd.R_alloc | apply Kd.R_drewN | apply Kd.R_drew)); exact HO_0.out)); obtain ⟨ce15, hcl15, hM15, hcc15, hfr15⟩ := Kd.R_elem HX15.out z52 (x5_1 : Int) (of_decide_eq_true (by first | (with_reducible assumption) | assumption)) (by have h_ : (x5_1 : Int) < ((x0_1.length : Int) : Int) := of_decide_eq_true (by first | (with_reducible assumption) | assumption); first | exact h_ | (have e_ := (Kd.R_reads' HO_0.out).1; omega) | simpa using h_); obtain rfl := k52_openM hM15; have HP15 := Kd.R_seg HX15.out (x5_1 : Int) (of_decide_eq_true (by first | (with_reducible assumption) | assumption)) (by have h_ : (x5_1 : Int) < ((x0_1.length : Int) : Int) := of_decide_eq_true (by first | (with_reducible assumption) | assumption); first | exact h_ | (have e_ := (Kd.R_reads' HO_0.out).1; omega) | simpa using h_) (seg := [.int .i64 (wrap64 (x1_1 + 1))]) (j := 1) hcl15 hcc15 (show 2 ≤ 6 from by decide) (x' := (⟨(rd_T52 y444 x5_1).f0, (⟨wrap64 (x1_1 + 1), (rd_T52 y444 x5_1).f1.f1⟩ : S26), (rd_T52 y444 x5_1).f2, (rd_T52 y444 x5_1).f3, (rd_T52 y444 x5_1).f4⟩ : S52)) (k52_mkM _ _ _ (⟨(rd_T52 y444 x5_1).f0, (⟨wrap64 (x1_1 + 1), (rd_T52 y444 x5_1).f1.f1⟩ : S26), (rd_T52 y444 x5_1).f2, (rd_T52 y444 x5_1).f3, (rd_T52 y444 x5_1).f4⟩ : S52) ) (fun _ hk => hk); have hx15_1 := hcc15 1 _ rfl; (try simp only [show (k52).sz = 6 from rfl, Nat.mul_one, Nat.add_zero] at hx15_1); have hf15_1 := hfr15 1; (try simp only [show (k52).sz = 6 from rfl, Nat.mul_one, Nat.add_zero] at hf15_1); clear hcl15 hcc15 hfr15 hM15) | ((with_reducible refine gate_store (t := 3) (p := 26) rfl ?_); refine store_event (t := 3) (p := 26) (v := ?vo_w16) (w1 := (w14.setCell ⟨go7, (x5_1 : Int).toNat * 6 + 1, none⟩ (.int .i64 (wrap64 (x1_1 + 1))))) ?hg ?ho ?hn ?hr ?_; (case ho => rfl); (case hg => rfl); (case hn => rfl); (case hr => first | (go_simp; done) | (go_simp; rfl)); intro w16 hw; have hg : w14.grownBy w16 (some go7) := (by rw [hw]; exact HP15.2); have hp_ : Kd.R k52 52 w16 w0.heap.size (fun k_ => (P0_ k_ ∨ w.heap.size ≤ k_)) (.slice (some ⟨go7, 0, none⟩) x0_1.length co4) y445 := (by rw [hw, Ny445.out]; exact HP15.1); clear HP15; have n0_ := MK (hp_); have n1_ := MK ((by rw [hw]; exact lS (HB.out) GB7.out : Below w0.heap.size w0 w16)); have n2_ := MK (Kept.of_grown (S := (fun k_ => P0_ k_)) hg (by repeat (first | (with_reducible first | exact HK.out | apply Kept.alloc | apply Kept.drewN | apply Kept.drew) | exact HK.out)) (fun k_ e_ => (HO_0.out.1 k_ e_))); clear HO_0; clear HB; clear HK; have HO_0 := n0_; have HB := n1_; have HK := n2_; clear n0_ n1_ n2_; clear hg hw hp_; have p9 : 0 ≤ (x5_1 : Int) := of_decide_eq_true (by first | (with_reducible assumption) | assumption); have q9 : (x5_1 : Int) < ((x0_1.length : Int) : Int) := of_decide_eq_true (by first | (with_reducible assumption) | assumption); obtain ⟨ce9, hcl9, hM9, hcc9, hfr9⟩ := Kd.R_elem HO_0.out z52 (x5_1 : Int) p9 q9; obtain rfl := k52_openM hM9; have hx9_0 : w16.cell? ⟨go7, (x5_1 : Int).toNat * 6, none⟩ = some (.bool ((rd_T52 y445 x5_1).f0)) := hcc9 0 _ rfl; have hx9_1 : w16.cell? ⟨go7, (x5_1 : Int).toNat * 6 + 1, none⟩ = some (.int .i64 ((rd_T52 y445 x5_1).f1.f0)) := hcc9 1 _ rfl; have hx9_2 : w16.cell? ⟨go7, (x5_1 : Int).toNat * 6 + 2, none⟩ = some (.int .i64 ((rd_T52 y445 x5_1).f1.f1)) := hcc9 2 _ rfl; have hx9_3 : w16.cell? ⟨go7, (x5_1 : Int).toNat * 6 + 3, none⟩ = some (.int .i64 ((rd_T52 y445 x5_1).f2)) := hcc9 3 _ rfl; have hx9_4 : w16.cell? ⟨go7, (x5_1 : Int).toNat * 6 + 4, none⟩ = some (.bool ((rd_T52 y445 x5_1).f3)) := hcc9 4 _ rfl; have hx9_5 : w16.cell? ⟨go7, (x5_1 : Int).toNat * 6 + 5, none⟩ = some (.bool ((rd_T52 y445 x5_1).f4)) := hcc9 5 _ rfl; have hf9_0 : w16.frozen? ⟨go7, (x5_1 : Int).toNat * 6, none⟩ = false := hfr9 0; have hf9_1 : w16.frozen? ⟨go7, (x5_1 : Int).toNat * 6 + 1, none⟩ = false := hfr9 1; have hf9_2 : w16.frozen? ⟨go7, (x5_1 : Int).toNat * 6 + 2, none⟩ = false := hfr9 2; have hf9_3 : w16.frozen? ⟨go7, (x5_1 : Int).toNat * 6 + 3, none⟩ = false := hfr9 3; have hf9_4 : w16.frozen? ⟨go7, (x5_1 : Int).toNat * 6 + 4, none⟩ = false := hfr9 4; have hf9_5 : w16.frozen? ⟨go7, (x5_1 : Int).toNat * 6 + 5, none⟩ = false := hfr9 5; clear hcl9 hcc9 hfr9 hM9; replace p9 := eq_true p9; replace q9 := eq_true q9; have HX17 := MK (show Kd.R k52 52 w16 w0.heap.size (fun k_ => (P0_ k_ ∨ w.heap.size ≤ k_)) (.slice (some ⟨go7, 0, none⟩) x0_1.length co4) y445 from (by (with_reducible repeat (first | apply Kd.R_alloc | apply Kd.R_drewN | apply Kd.R_drew)); exact HO_0.out)); obtain ⟨ce17, hcl17, hM17, hcc17, hfr17⟩ := Kd.R_elem HX17.out z52 (x5_1 : Int) (of_decide_eq_true (by first | (with_reducible assumption) | assumption)) (by have h_ : (x5_1 : Int) < ((x0_1.length : Int) : Int) := of_decide_eq_true (by first | (with_reducible assumption) | assumption); first | exact h_ | (have e_ := (Kd.R_reads' HO_0.out).1; omega) | simpa using h_); obtain rfl := k52_openM hM17; have HP17 := Kd.R_seg HX17.out (x5_1 : Int) (of_decide_eq_true (by first | (with_reducible assumption) | assumption)) (by have h_ : (x5_1 : Int) < ((x0_1.length : Int) : Int) := of_decide_eq_true (by first | (with_reducible assumption) | assumption); first | exact h_ | (have e_ := (Kd.R_reads' HO_0.out).1; omega) | simpa using h_) (seg := [.int .i64 (wrap64 ((wrap64 (x1_1 + 1)) + 1))]) (j := 2) hcl17 hcc17 (show 3 ≤ 6 from by decide) (x' := (⟨(rd_T52 y445 x5_1).f0, (⟨(rd_T52 y445 x5_1).f1.f0, wrap64 ((wrap64 (x1_1 + 1)) + 1)⟩ : S26), (rd_T52 y445 x5_1).f2, (rd_T52 y445 x5_1).f3, (rd_T52 y445 x5_1).f4⟩ : S52)) (k52_mkM _ _ _ (⟨(rd_T52 y445 x5_1).f0, (⟨(rd_T52 y445 x5_1).f1.f0, wrap64 ((wrap64 (x1_1 + 1)) + 1)⟩ : S26), (rd_T52 y445 x5_1).f2, (rd_T52 y445 x5_1).f3, (rd_T52 y445 x5_1).f4⟩ : S52) ) (fun _ hk => hk); have hx17_2 := hcc17 2 _ rfl; (try simp only [show (k52).sz = 6 from rfl, Nat.mul_one, Nat.add_zero] at hx17_2); have hf17_2 := hfr17 2; (try simp only [show (k52).sz = 6 from rfl, Nat.mul_one, Nat.add_zero] at hf17_2); clear hcl17 hcc17 hfr17 hM17) | ((with_reducible refine gate_store (t := 3) (p := 34) rfl ?_); refine store_event (t := 3) (p := 34) (v := ?vo_w18) (w1 := (w16.setCell ⟨go7, (x5_1 : Int).toNat * 6 + 2, none⟩ (.int .i64 (wrap64 ((wrap64 (x1_1 + 1)) + 1))))) ?hg ?ho ?hn ?hr ?_; (case ho => rfl); (case hg => rfl); (case hn => rfl); (case hr => first | (go_simp; done) | (go_simp; rfl)); intro w18 hw; have hg : w16.grownBy w18 (some go7) := (by rw [hw]; exact HP17.2); have hp_ : Kd.R k52 52 w18 w0.heap.size (fun k_ => (P0_ k_ ∨ w.heap.size ≤ k_)) (.slice (some ⟨go7, 0, none⟩) x0_1.length co4) y446 := (by rw [hw, Ny446.out]; exact HP17.1); clear HP17; have n0_ := MK (hp_); have n1_ := MK ((by rw [hw]; exact lS (HB.out) GB7.out : Below w0.heap.size w0 w18)); have n2_ := MK (Kept.of_grown (S := (fun k_ => P0_ k_)) hg (by repeat (first | (with_reducible first | exact HK.out | apply Kept.alloc | apply Kept.drewN | apply Kept.drew) | exact HK.out)) (fun k_ e_ => (HO_0.out.1 k_ e_))); clear HO_0; clear HB; clear HK; have HO_0 := n0_; have HB := n1_; have HK := n2_; clear n0_ n1_ n2_; clear hg hw hp_; have p10 : 0 ≤ (x5_1 : Int) := of_decide_eq_true (by first | (with_reducible assumption) | assumption); have q10 : (x5_1 : Int) < ((x0_1.length : Int) : Int) := of_decide_eq_true (by first | (with_reducible assumption) | assumption); obtain ⟨ce10, hcl10, hM10, hcc10, hfr10⟩ := Kd.R_elem HO_0.out z52 (x5_1 : Int) p10 q10; obtain rfl := k52_openM hM10; have hx10_0 : w18.cell? ⟨go7, (x5_1 : Int).toNat * 6, none⟩ = some (.bool ((rd_T52 y446 x5_1).f0)) := hcc10 0 _ rfl; have hx10_1 : w18.cell? ⟨go7, (x5_1 : Int).toNat * 6 + 1, none⟩ = some (.int .i64 ((rd_T52 y446 x5_1).f1.f0)) := hcc10 1 _ rfl; have hx10_2 : w18.cell? ⟨go7, (x5_1 : Int).toNat * 6 + 2, none⟩ = some (.int .i64 ((rd_T52 y446 x5_1).f1.f1)) := hcc10 2 _ rfl; have hx10_3 : w18.cell? ⟨go7, (x5_1 : Int).toNat * 6 + 3, none⟩ = some (.int .i64 ((rd_T52 y446 x5_1).f2)) := hcc10 3 _ rfl; have hx10_4 : w18.cell? ⟨go7, (x5_1 : Int).toNat * 6 + 4, none⟩ = some (.bool ((rd_T52 y446 x5_1).f3)) := hcc10 4 _ rfl; have hx10_5 : w18.cell? ⟨go7, (x5_1 : Int).toNat * 6 + 5, none⟩ = some (.bool ((rd_T52 y446 x5_1).f4)) := hcc10 5 _ rfl; have hf10_0 : w18.frozen? ⟨go7, (x5_1 : Int).toNat * 6, none⟩ = false := hfr10 0; have hf10_1 : w18.frozen? ⟨go7, (x5_1 : Int).toNat * 6 + 1, none⟩ = false := hfr10 1; have hf10_2 : w18.frozen? ⟨go7, (x5_1 : Int).toNat * 6 + 2, none⟩ = false := hfr10 2; have hf10_3 : w18.frozen? ⟨go7, (x5_1 : Int).toNat * 6 + 3, none⟩ = false := hfr10 3; have hf10_4 : w18.frozen? ⟨go7, (x5_1 : Int).toNat * 6 + 4, none⟩ = false := hfr10 4; have hf10_5 : w18.frozen? ⟨go7, (x5_1 : Int).toNat * 6 + 5, none⟩ = false := hfr10 5; clear hcl10 hcc10 hfr10 hM10; replace p10 := eq_true p10; replace q10 := eq_true q10; have HX19 := MK (show Kd.R k52 52 w18 w0.heap.size (fun k_ => (P0_ k_ ∨ w.heap.size ≤ k_)) (.slice (some ⟨go7, 0, none⟩) x0_1.length co4) y446 from (by (with_reducible repeat (first | apply Kd.R_alloc | apply Kd.R_drewN | apply Kd.R_drew)); exact HO_0.out)); obtain ⟨ce19, hcl19, hM19, hcc19, hfr19⟩ := Kd.R_elem HX19.out z52 (x5_1 : Int) (of_decide_eq_true (by first | (with_reducible assumption) | assumption)) (by have h_ : (x5_1 : Int) < ((x0_1.length : Int) : Int) := of_decide_eq_true (by first | (with_reducible assumption) | assumption); first | exact h_ | (have e_ := (Kd.R_reads' HO_0.out).1; omega) | simpa using h_); obtain rfl := k52_openM hM19; have HP19 := Kd.R_seg HX19.out (x5_1 : Int) (of_decide_eq_true (by first | (with_reducible assumption) | assumption)) (by have h_ : (x5_1 : Int) < ((x0_1.length : Int) : Int) := of_decide_eq_true (by first | (with_reducible assumption) | assumption); first | exact h_ | (have e_ := (Kd.R_reads' HO_0.out).1; omega) | simpa using h_) (seg := [.int .i64 (wrap64 ((wrap64 ((wrap64 (x1_1 + 1)) + 1)) + 1))]) (j := 3) hcl19 hcc19 (show 4 ≤ 6 from by decide) (x' := (⟨(rd_T52 y446 x5_1).f0, (⟨(rd_T52 y446 x5_1).f1.f0, (rd_T52 y446 x5_1).f1.f1⟩ : S26), wrap64 ((wrap64 ((wrap64 (x1_1 + 1)) + 1)) + 1), (rd_T52 y446 x5_1).f3, (rd_T52 y446 x5_1).f4⟩ : S52)) (k52_mkM _ _ _ (⟨(rd_T52 y446 x5_1).f0, (⟨(rd_T52 y446 x5_1).f1.f0, (rd_T52 y446 x5_1).f1.f1⟩ : S26), wrap64 ((wrap64 ((wrap64 (x1_1 + 1)) + 1)) + 1), (rd_T52 y446 x5_1).f3, (rd_T52 y446 x5_1).f4⟩ : S52) ) (fun _ hk => hk); have hx19_3 := hcc19 3 _ rfl; (try simp only [show (k52).sz = 6 from rfl, Nat.mul_one, Nat.add_zero] at hx19_3); have hf19_3 := hfr19 3; (try simp only [show (k52).sz = 6 from rfl, Nat.mul_one, Nat.add_zero] at hf19_3); clear hcl19 hcc19 hfr19 hM19) | ((with_reducible refine gate_store (t := 3) (p := 41) rfl ?_); refine store_event (t := 3) (p := 41) (v := ?vo_w20) (w1 := (w18.setCell ⟨go7, (x5_1 : Int).toNat * 6 + 3, none⟩ (.int .i64 (wrap64 ((wrap64 ((wrap64 (x1_1 + 1)) + 1)) + 1))))) ?hg ?ho ?hn ?hr ?_; (case ho => rfl); (case hg => rfl); (case hn => rfl); (case hr => first | (go_simp; done) | (go_simp; rfl)); intro w20 hw; have hg : w18.grownBy w20 (some go7) := (by rw [hw]; exact HP19.2); have hp_ : Kd.R k52 52 w20 w0.heap.size (fun k_ => (P0_ k_ ∨ w.heap.size ≤ k_)) (.slice (some ⟨go7, 0, none⟩) x0_1.length co4) y447 := (by rw [hw, Ny447.out]; exact HP19.1); clear HP19; have n0_ := MK (hp_); have n1_ := MK ((by rw [hw]; exact lS (HB.out) GB7.out : Below w0.heap.size w0 w20)); have n2_ := MK (Kept.of_grown (S := (fun k_ => P0_ k_)) hg (by repeat (first | (with_reducible first | exact HK.out | apply Kept.alloc | apply Kept.drewN | apply Kept.drew) | exact HK.out)) (fun k_ e_ => (HO_0.out.1 k_ e_))); clear HO_0; clear HB; clear HK; have HO_0 := n0_; have HB := n1_; have HK := n2_; clear n0_ n1_ n2_; clear hg hw hp_; have p11 : 0 ≤ (x5_1 : Int) := of_decide_eq_true (by first | (with_reducible assumption) | assumption); have q11 : (x5_1 : Int) < ((x0_1.length : Int) : Int) := of_decide_eq_true (by first | (with_reducible assumption) | assumption); obtain ⟨ce11, hcl11, hM11, hcc11, hfr11⟩ := Kd.R_elem HO_0.out z52 (x5_1 : Int) p11 q11; obtain rfl := k52_openM hM11; have hx11_0 : w20.cell? ⟨go7, (x5_1 : Int).toNat * 6, none⟩ = some (.bool ((rd_T52 y447 x5_1).f0)) := hcc11 0 _ rfl; have hx11_1 : w20.cell? ⟨go7, (x5_1 : Int).toNat * 6 + 1, none⟩ = some (.int .i64 ((rd_T52 y447 x5_1).f1.f0)) := hcc11 1 _ rfl; have hx11_2 : w20.cell? ⟨go7, (x5_1 : Int).toNat * 6 + 2, none⟩ = some (.int .i64 ((rd_T52 y447 x5_1).f1.f1)) := hcc11 2 _ rfl; have hx11_3 : w20.cell? ⟨go7, (x5_1 : Int).toNat * 6 + 3, none⟩ = some (.int .i64 ((rd_T52 y447 x5_1).f2)) := hcc11 3 _ rfl; have hx11_4 : w20.cell? ⟨go7, (x5_1 : Int).toNat * 6 + 4, none⟩ = some (.bool ((rd_T52 y447 x5_1).f3)) := hcc11 4 _ rfl; have hx11_5 : w20.cell? ⟨go7, (x5_1 : Int).toNat * 6 + 5, none⟩ = some (.bool ((rd_T52 y447 x5_1).f4)) := hcc11 5 _ rfl; have hf11_0 : w20.frozen? ⟨go7, (x5_1 : Int).toNat * 6, none⟩ = false := hfr11 0; have hf11_1 : w20.frozen? ⟨go7, (x5_1 : Int).toNat * 6 + 1, none⟩ = false := hfr11 1; have hf11_2 : w20.frozen? ⟨go7, (x5_1 : Int).toNat * 6 + 2, none⟩ = false := hfr11 2; have hf11_3 : w20.frozen? ⟨go7, (x5_1 : Int).toNat * 6 + 3, none⟩ = false := hfr11 3; have hf11_4 : w20.frozen? ⟨go7, (x5_1 : Int).toNat * 6 + 4, none⟩ = false := hfr11 4; have hf11_5 : w20.frozen? ⟨go7, (x5_1 : Int).toNat * 6 + 5, none⟩ = false := hfr11 5; clear hcl11 hcc11 hfr11 hM11; replace p11 := eq_true p11; replace q11 := eq_true q11; have HX21 := MK (show Kd.R k52 52 w20 w0.heap.size (fun k_ => (P0_ k_ ∨ w.heap.size ≤ k_)) (.slice (some ⟨go7, 0, none⟩) x0_1.length co4) y447 from (by (with_reducible repeat (first | apply Kd.R_alloc | apply Kd.R_drewN | apply Kd.R_drew)); exact HO_0.out)); obtain ⟨ce21, hcl21, hM21, hcc21, hfr21⟩ := Kd.R_elem HX21.out z52 (x5_1 : Int) (of_decide_eq_true (by first | (with_reducible assumption) | assumption)) (by have h_ : (x5_1 : Int) < ((x0_1.length : Int) : Int) := of_decide_eq_true (by first | (with_reducible assumption) | assumption); first | exact h_ | (have e_ := (Kd.R_reads' HO_0.out).1; omega) | simpa using h_); obtain rfl := k52_openM hM21; have HP21 := Kd.R_seg HX21.out (x5_1 : Int) (of_decide_eq_true (by first | (with_reducible assumption) | assumption)) (by have h_ : (x5_1 : Int) < ((x0_1.length : Int) : Int) := of_decide_eq_true (by first | (with_reducible assumption) | assumption); first | exact h_ | (have e_ := (Kd.R_reads' HO_0.out).1; omega) | simpa using h_) (seg := [.bool ((Int.tmod (wrap64 ((wrap64 ((wrap64 ((wrap64 (x1_1 + 1)) + 1)) + 1)) + 1)) 3) == 0)]) (j := 4) hcl21 hcc21 (show 5 ≤ 6 from by decide) (x' := (⟨(rd_T52 y447 x5_1).f0, (⟨(rd_T52 y447 x5_1).f1.f0, (rd_T52 y447 x5_1).f1.f1⟩ : S26), (rd_T52 y447 x5_1).f2, ((Int.tmod (wrap64 ((wrap64 ((wrap64 ((wrap64 (x1_1 + 1)) + 1)) + 1)) + 1)) 3) == 0), (rd_T52 y447 x5_1).f4⟩ : S52)) (k52_mkM _ _ _ (⟨(rd_T52 y447 x5_1).f0, (⟨(rd_T52 y447 x5_1).f1.f0, (rd_T52 y447 x5_1).f1.f1⟩ : S26), (rd_T52 y447 x5_1).f2, ((Int.tmod (wrap64 ((wrap64 ((wrap64 ((wrap64 (x1_1 + 1)) + 1)) + 1)) + 1)) 3) == 0), (rd_T52 y447 x5_1).f4⟩ : S52) ) (fun _ hk => hk); have hx21_4 := hcc21 4 _ rfl; (try simp only [show (k52).sz = 6 from rfl, Nat.mul_one, Nat.add_zero] at hx21_4); have hf21_4 := hfr21 4; (try simp only [show (k52).sz = 6 from rfl, Nat.mul_one, Nat.add_zero] at hf21_4); clear hcl21 hcc21 hfr21 hM21) | ((with_reducible refine gate_store (t := 4) (p := 50) rfl ?_); refine store_event (t := 4) (p := 50) (v := ?vo_w22) (w1 := (w20.setCell ⟨go7, (x5_1 : Int).toNat * 6 + 4, none⟩ (.bool ((Int.tmod (wrap64 ((wrap64 ((wrap64 ((wrap64 (x1_1 + 1)) + 1)) + 1)) + 1)) 3) == 0)))) ?hg ?ho ?hn ?hr ?_; (case ho => rfl); (case hg => rfl); (case hn => rfl); (case hr => first | (go_simp; done) | (go_simp; rfl)); intro w22 hw; have hg : w20.grownBy w22 (some go7) := (by rw [hw]; exact HP21.2); have hp_ : Kd.R k52 52 w22 w0.heap.size (fun k_ => (P0_ k_ ∨ w.heap.size ≤ k_)) (.slice (some ⟨go7, 0, none⟩) x0_1.length co4) y448 := (by rw [hw, Ny448.out]; exact HP21.1); clear HP21; have n0_ := MK (hp_); have n1_ := MK ((by rw [hw]; exact lS (HB.out) GB7.out : Below w0.heap.size w0 w22)); have n2_ := MK (Kept.of_grown (S := (fun k_ => P0_ k_)) hg (by repeat (first | (with_reducible first | exact HK.out | apply Kept.alloc | apply Kept.drewN | apply Kept.drew) | exact HK.out)) (fun k_ e_ => (HO_0.out.1 k_ e_))); clear HO_0; clear HB; clear HK; have HO_0 := n0_; have HB := n1_; have HK := n2_; clear n0_ n1_ n2_; clear hg hw hp_; have p12 : 0 ≤ (x5_1 : Int) := of_decide_eq_true (by first | (with_reducible assumption) | assumption); have q12 : (x5_1 : Int) < ((x0_1.length : Int) : Int) := of_decide_eq_true (by first | (with_reducible assumption) | assumption); obtain ⟨ce12, hcl12, hM12, hcc12, hfr12⟩ := Kd.R_elem HO_0.out z52 (x5_1 : Int) p12 q12; obtain rfl := k52_openM hM12; have hx12_0 : w22.cell? ⟨go7, (x5_1 : Int).toNat * 6, none⟩ = some (.bool ((rd_T52 y448 x5_1).f0)) := hcc12 0 _ rfl; have hx12_1 : w22.cell? ⟨go7, (x5_1 : Int).toNat * 6 + 1, none⟩ = some (.int .i64 ((rd_T52 y448 x5_1).f1.f0)) := hcc12 1 _ rfl; have hx12_2 : w22.cell? ⟨go7, (x5_1 : Int).toNat * 6 + 2, none⟩ = some (.int .i64 ((rd_T52 y448 x5_1).f1.f1)) := hcc12 2 _ rfl; have hx12_3 : w22.cell? ⟨go7, (x5_1 : Int).toNat * 6 + 3, none⟩ = some (.int .i64 ((rd_T52 y448 x5_1).f2)) := hcc12 3 _ rfl; have hx12_4 : w22.cell? ⟨go7, (x5_1 : Int).toNat * 6 + 4, none⟩ = some (.bool ((rd_T52 y448 x5_1).f3)) := hcc12 4 _ rfl; have hx12_5 : w22.cell? ⟨go7, (x5_1 : Int).toNat * 6 + 5, none⟩ = some (.bool ((rd_T52 y448 x5_1).f4)) := hcc12 5 _ rfl; have hf12_0 : w22.frozen? ⟨go7, (x5_1 : Int).toNat * 6, none⟩ = false := hfr12 0; have hf12_1 : w22.frozen? ⟨go7, (x5_1 : Int).toNat * 6 + 1, none⟩ = false := hfr12 1; have hf12_2 : w22.frozen? ⟨go7, (x5_1 : Int).toNat * 6 + 2, none⟩ = false := hfr12 2; have hf12_3 : w22.frozen? ⟨go7, (x5_1 : Int).toNat * 6 + 3, none⟩ = false := hfr12 3; have hf12_4 : w22.frozen? ⟨go7, (x5_1 : Int).toNat * 6 + 4, none⟩ = false := hfr12 4; have hf12_5 : w22.frozen? ⟨go7, (x5_1 : Int).toNat * 6 + 5, none⟩ = false := hfr12 5; clear hcl12 hcc12 hfr12 hM12; replace p12 := eq_true p12; replace q12 := eq_true q12; have HX23 := MK (show Kd.R k52 52 w22 w0.heap.size (fun k_ => (P0_ k_ ∨ w.heap.size ≤ k_)) (.slice (some ⟨go7, 0, none⟩) x0_1.length co4) y448 from (by (with_reducible repeat (first | apply Kd.R_alloc | apply Kd.R_drewN | apply Kd.R_drew)); exact HO_0.out)); obtain ⟨ce23, hcl23, hM23, hcc23, hfr23⟩ := Kd.R_elem HX23.out z52 (x5_1 : Int) (of_decide_eq_true (by first | (with_reducible assumption) | assumption)) (by have h_ : (x5_1 : Int) < ((x0_1.length : Int) : Int) := of_decide_eq_true (by first | (with_reducible assumption) | assumption); first | exact h_ | (have e_ := (Kd.R_reads' HO_0.out).1; omega) | simpa using h_); obtain rfl := k52_openM hM23; have HP23 := Kd.R_seg HX23.out (x5_1 : Int) (of_decide_eq_true (by first | (with_reducible assumption) | assumption)) (by have h_ : (x5_1 : Int) < ((x0_1.length : Int) : Int) := of_decide_eq_true (by first | (with_reducible assumption) | assumption); first | exact h_ | (have e_ := (Kd.R_reads' HO_0.out).1; omega) | simpa using h_) (seg := [.bool ((Int.tmod (wrap64 ((wrap64 ((wrap64 ((wrap64 ((wrap64 (x1_1 + 1)) + 1)) + 1)) + 1)) + 1)) 3) == 0)]) (j := 5) hcl23 hcc23 (show 6 ≤ 6 from by decide) (x' := (⟨(rd_T52 y448 x5_1).f0, (⟨(rd_T52 y448 x5_1).f1.f0, (rd_T52 y448 x5_1).f1.f1⟩ : S26), (rd_T52 y448 x5_1).f2, (rd_T52 y448 x5_1).f3, ((Int.tmod (wrap64 ((wrap64 ((wrap64 ((wrap64 ((wrap64 (x1_1 + 1)) + 1)) + 1)) + 1)) + 1)) 3) == 0)⟩ : S52)) (k52_mkM _ _ _ (⟨(rd_T52 y448 x5_1).f0, (⟨(rd_T52 y448 x5_1).f1.f0, (rd_T52 y448 x5_1).f1.f1⟩ : S26), (rd_T52 y448 x5_1).f2, (rd_T52 y448 x5_1).f3, ((Int.tmod (wrap64 ((wrap64 ((wrap64 ((wrap64 ((wrap64 (x1_1 + 1)) + 1)) + 1)) + 1)) + 1)) 3) == 0)⟩ : S52) ) (fun _ hk => hk); have hx23_5 := hcc23 5 _ rfl; (try simp only [show (k52).sz = 6 from rfl, Nat.mul_one, Nat.add_zero] at hx23_5); have hf23_5 := hfr23 5; (try simp only [show (k52).sz = 6 from rfl, Nat.mul_one, Nat.add_zero] at hf23_5); clear hcl23 hcc23 hfr23 hM23) | ((with_reducible refine gate_store (t := 4) (p := 59) rfl ?_); refine store_event (t := 4) (p := 59) (v := ?vo_w24) (w1 := (w22.setCell ⟨go7, (x5_1 : Int).toNat * 6 + 5, none⟩ (.bool ((Int.tmod (wrap64 ((wrap64 ((wrap64 ((wrap64 ((wrap64 (x1_1 + 1)) + 1)) + 1)) + 1)) + 1)) 3) == 0)))) ?hg ?ho ?hn ?hr ?_; (case ho => rfl); (case hg => rfl); (case hn => rfl); (case hr => first | (go_simp; done) | (go_simp; rfl)); intro w24 hw; have hg : w22.grownBy w24 (some go7) := (by rw [hw]; exact HP23.2); have hp_ : Kd.R k52 52 w24 w0.heap.size (fun k_ => (P0_ k_ ∨ w.heap.size ≤ k_)) (.slice (some ⟨go7, 0, none⟩) x0_1.length co4) y449 := (by rw [hw, Ny449.out]; exact HP23.1); clear HP23; have n0_ := MK (hp_); have n1_ := MK ((by rw [hw]; exact lS (HB.out) GB7.out : Below w0.heap.size w0 w24)); have n2_ := MK (Kept.of_grown (S := (fun k_ => P0_ k_)) hg (by repeat (first | (with_reducible first | exact HK.out | apply Kept.alloc | apply Kept.drewN | apply Kept.drew) | exact HK.out)) (fun k_ e_ => (HO_0.out.1 k_ e_))); clear HO_0; clear HB; clear HK; have HO_0 := n0_; have HB := n1_; have HK := n2_; clear n0_ n1_ n2_; clear hg hw hp_))
     go_roundg k1
     case measure => have := HK1.out; omega
     case rel => exact ⟨(y449), (wrap64 ((wrap64 ((wrap64 ((wrap64 ((wrap64 ((wrap64 (x1_1 + 1)) + 1)) + 1)) + 1)) + 1)) + 1)), (wrap64 (x5_1 + 1)), (by first | rfl | (simp; done) | (simp [*]; done)), (by first | rfl | (simp; done) | (simp [*]; done)), H', ⟨by have := HK1.out; omega⟩, ⟨by (with_reducible repeat (first | apply Kd.R_alloc | apply Kd.R_drewN | apply Kd.R_drew)); exact HO_0.out⟩, ⟨by repeat (first | (with_reducible first | exact HK.out | apply Kept.alloc | apply Kept.drewN | apply Kept.drew) | exact HK.out)⟩, ⟨by repeat (first | (with_reducible first | exact HB.out | apply lA | apply lN | apply lD) | exact HB.out)⟩⟩
    ·rw [if_neg c6] at H
     exact absurd H (by simp)
   ·rw [if_neg c5] at H
    have c5b0 : decide (x5_1 < (x0_1.length : Int)) = false := decide_eq_false c5
    clear c5
    (first | rw [c5b0] | (simp only [i64_w, i32_w]; rw [c5b0]) | skip)
    simp only [Option.some.injEq, Prod.mk.injEq] at H
    obtain ⟨rfl, rfl⟩ := H
    go_wp2
    go_ret
    exact ⟨by first | rfl | (simp [errW_none, errW_some] <;> rfl) | (simp [*, errW_none, errW_some] <;> rfl), by (with_reducible repeat (first | apply Kd.R_alloc | apply Kd.R_drewN | apply Kd.R_drew)); exact HO_0.out, by repeat (first | (with_reducible first | exact HB.out | apply lA | apply lN | apply lD) | exact HB.out), by repeat (first | (with_reducible first | exact HK.out | apply Kept.alloc | apply Kept.drewN | apply Kept.drew) | exact HK.out)⟩

/-! ### laws_heldSaidS: function 46 -/
def laws_heldSaidS.l0 : Nat → List (S52) → Int → Int → Option (Int)
 | 0, _, _, _ => none
 | k + 1, x0, x1, x5 => if x5 < (x0.length : Int) then (if 0 ≤ x5 then (if (((rd_T52 x0 x5).f0) != ((Int.tmod x1 3) == 0)) = true then (some (-1)) else (if ((rd_T52 x0 x5).f1.f0) = (wrap64 (x1 + 1)) then (if ((rd_T52 x0 x5).f1.f1) = (wrap64 ((wrap64 (x1 + 1)) + 1)) then (if ((rd_T52 x0 x5).f2) = (wrap64 ((wrap64 ((wrap64 (x1 + 1)) + 1)) + 1)) then (if (((rd_T52 x0 x5).f3) != ((Int.tmod (wrap64 ((wrap64 ((wrap64 ((wrap64 (x1 + 1)) + 1)) + 1)) + 1)) 3) == 0)) = true then (some (-1)) else (if (((rd_T52 x0 x5).f4) != ((Int.tmod (wrap64 ((wrap64 ((wrap64 ((wrap64 ((wrap64 (x1 + 1)) + 1)) + 1)) + 1)) + 1)) 3) == 0)) = true then (some (-1)) else (laws_heldSaidS.l0 k x0 (wrap64 ((wrap64 ((wrap64 ((wrap64 ((wrap64 ((wrap64 (x1 + 1)) + 1)) + 1)) + 1)) + 1)) + 1)) (wrap64 (x5 + 1))))) else (some (-1))) else (some (-1))) else (some (-1)))) else (none)) else (some x1)
def laws_heldSaidS.f (k : Nat) (l0 : List (S52)) (a1 : Int) : Option (Int) := laws_heldSaidS.l0 k l0 a1 0
set_option maxHeartbeats 8000000 in
set_option maxRecDepth 100000 in
theorem laws_heldSaidS.calls (k : Nat) (A0 : Option Addr) (c0 : Nat) (l0 : List (S52)) (a1 : Int) (r : Int) (w : World) (hr0 : Kd.C k52 w A0 l0.length l0) (hc0 : l0.length ≤ c0) (h : laws_heldSaidS.f k l0 a1 = some r) :
  Calls Try.prog 46 #[.slice A0 l0.length c0, .int .i64 a1] w fun e w' => e = .returned (.int .i64 r) ∧ Drawn0 w w' := by
 have HR0 := MK hr0
 have HC0 := MK hc0
 clear hr0 hc0
 have H : (laws_heldSaidS.l0 k l0 a1 0) = some r := h
 clear h
 have H' := MK H
 clear H
 go_enter Try.func46, Try.ntmps46
 go_wp2
 go_loopg [1, 5] k (fun kq v1 v5 w' => ∃ (x1_1 : Int) (x5_1 : Int), v1 = .int .i64 x1_1 ∧ v5 = .int .i64 x5_1 ∧ Aside0 (laws_heldSaidS.l0 kq l0 x1_1 x5_1 = some r) ∧ Aside0 (kq ≤ k) ∧ Drawn0 w w')
 case atStart => exact ⟨(a1), (0), (by first | rfl | (simp; done) | (simp [*]; done)), (by first | rfl | (simp; done) | (simp [*]; done)), H', ⟨Nat.le_refl _⟩, by repeat (first | exact Drawn0.refl _ | apply Drawn0.step)⟩
 case round =>
  clear H'
  obtain ⟨x1_1, x5_1, rfl, rfl, HA, HK1, ⟨m1, rfl⟩⟩ := hrel
  cases gk with
  | zero => exact absurd HA.out (by simp [laws_heldSaidS.l0])
  | succ k1 =>
   have H := HA.out
   clear HA
   simp only [laws_heldSaidS.l0] at H
   by_cases c3 : x5_1 < (l0.length : Int)
   ·rw [if_pos c3] at H
    have c3b0 : decide (x5_1 < (l0.length : Int)) = true := decide_eq_true c3
    clear c3
    by_cases c4 : 0 ≤ x5_1
    ·rw [if_pos c4] at H
     have c4b0 : decide (0 ≤ x5_1) = true := decide_eq_true c4
     clear c4
     have HC5 := MK H
     clear H
     have p450 : 0 ≤ (x5_1 : Int) := of_decide_eq_true (by first | (with_reducible assumption) | assumption)
     have q450 : x5_1 < (l0.length : Int) := of_decide_eq_true (by first | (with_reducible assumption) | assumption)
     obtain ⟨ad450, e450, hx450_0, hx450_1, hx450_2, hx450_3, hx450_4, hx450_5⟩ := at_T52 HR0.out x5_1 p450 q450
     cases e450
     replace p450 := eq_true p450
     replace q450 := eq_true q450
     go_upto_if 20 with (fail)
     have H := HC5.out
     clear HC5
     by_cases c6 : (((rd_T52 l0 x5_1).f0) != ((Int.tmod x1_1 3) == 0)) = true
     ·rw [if_pos c6] at H
      have c6b0 : (((rd_T52 l0 x5_1).f0) != ((Int.tmod x1_1 3) == 0)) = true := c6
      (try (have c6b1 : decide (((rd_T52 l0 x5_1).f0) = ((Int.tmod x1_1 3) == 0)) = false := by simpa using c6))
      (try (have c6b2 : (((rd_T52 l0 x5_1).f0) == ((Int.tmod x1_1 3) == 0)) = false := by simpa using c6))
      (try (have c6b3 : ¬ (((rd_T52 l0 x5_1).f0) = ((Int.tmod x1_1 3) == 0)) := by simpa using c6))
      clear c6
      (first | rw [c6b0] | (simp only [i64_w, i32_w]; rw [c6b0]) | (rw [c6b2]; simp only [Bool.not_true, Bool.not_false]) | skip)
      obtain rfl := Option.some.inj H
      go_wp2
      go_ret
      exact ⟨by first | rfl | (simp; done) | (simp [*]; done), by repeat (first | exact Drawn0.refl _ | apply Drawn0.step)⟩
     ·rw [if_neg c6] at H
      have c6b0 : (((rd_T52 l0 x5_1).f0) != ((Int.tmod x1_1 3) == 0)) = false := by simpa using c6
      (try (have c6b1 : decide (((rd_T52 l0 x5_1).f0) = ((Int.tmod x1_1 3) == 0)) = true := by simpa using c6))
      (try (have c6b2 : (((rd_T52 l0 x5_1).f0) == ((Int.tmod x1_1 3) == 0)) = true := by simpa using c6))
      clear c6
      (first | rw [c6b0] | (simp only [i64_w, i32_w]; rw [c6b0]) | (rw [c6b2]; simp only [Bool.not_true, Bool.not_false]) | skip)
      have HC7 := MK H
      clear H
      have p451 : 0 ≤ (x5_1 : Int) := of_decide_eq_true (by first | (with_reducible assumption) | assumption)
      have q451 : x5_1 < (l0.length : Int) := of_decide_eq_true (by first | (with_reducible assumption) | assumption)
      obtain ⟨ad451, e451, hx451_0, hx451_1, hx451_2, hx451_3, hx451_4, hx451_5⟩ := at_T52 HR0.out x5_1 p451 q451
      obtain rfl : ad450 = ad451 := (by injection e451)
      replace p451 := eq_true p451
      replace q451 := eq_true q451
      go_upto_if 30 with (fail)
      have H := HC7.out
      clear HC7
      by_cases c8 : ((rd_T52 l0 x5_1).f1.f0) = (wrap64 (x1_1 + 1))
      ·rw [if_pos c8] at H
       have c8b0 : (((rd_T52 l0 x5_1).f1.f0) == (wrap64 (x1_1 + 1))) = true := beq_iff_eq.mpr c8
       have c8b1 : (((rd_T52 l0 x5_1).f1.f0) != (wrap64 (x1_1 + 1))) = false := bne_eq_false_iff_eq.mpr c8
       clear c8
       (first | rw [c8b0] | (simp only [i64_w, i32_w]; rw [c8b0]) | rw [c8b1] | skip)
       have HC9 := MK H
       clear H
       have p452 : 0 ≤ (x5_1 : Int) := of_decide_eq_true (by first | (with_reducible assumption) | assumption)
       have q452 : x5_1 < (l0.length : Int) := of_decide_eq_true (by first | (with_reducible assumption) | assumption)
       obtain ⟨ad452, e452, hx452_0, hx452_1, hx452_2, hx452_3, hx452_4, hx452_5⟩ := at_T52 HR0.out x5_1 p452 q452
       obtain rfl : ad450 = ad452 := (by injection e452)
       replace p452 := eq_true p452
       replace q452 := eq_true q452
       go_upto_if 40 with (fail)
       have H := HC9.out
       clear HC9
       by_cases c10 : ((rd_T52 l0 x5_1).f1.f1) = (wrap64 ((wrap64 (x1_1 + 1)) + 1))
       ·rw [if_pos c10] at H
        have c10b0 : (((rd_T52 l0 x5_1).f1.f1) == (wrap64 ((wrap64 (x1_1 + 1)) + 1))) = true := beq_iff_eq.mpr c10
        have c10b1 : (((rd_T52 l0 x5_1).f1.f1) != (wrap64 ((wrap64 (x1_1 + 1)) + 1))) = false := bne_eq_false_iff_eq.mpr c10
        clear c10
        (first | rw [c10b0] | (simp only [i64_w, i32_w]; rw [c10b0]) | rw [c10b1] | skip)
        have HC11 := MK H
        clear H
        have p453 : 0 ≤ (x5_1 : Int) := of_decide_eq_true (by first | (with_reducible assumption) | assumption)
        have q453 : x5_1 < (l0.length : Int) := of_decide_eq_true (by first | (with_reducible assumption) | assumption)
        obtain ⟨ad453, e453, hx453_0, hx453_1, hx453_2, hx453_3, hx453_4, hx453_5⟩ := at_T52 HR0.out x5_1 p453 q453
        obtain rfl : ad450 = ad453 := (by injection e453)
        replace p453 := eq_true p453
        replace q453 := eq_true q453
        go_upto_if 49 with (fail)
        have H := HC11.out
        clear HC11
        by_cases c12 : ((rd_T52 l0 x5_1).f2) = (wrap64 ((wrap64 ((wrap64 (x1_1 + 1)) + 1)) + 1))
        ·rw [if_pos c12] at H
         have c12b0 : (((rd_T52 l0 x5_1).f2) == (wrap64 ((wrap64 ((wrap64 (x1_1 + 1)) + 1)) + 1))) = true := beq_iff_eq.mpr c12
         have c12b1 : (((rd_T52 l0 x5_1).f2) != (wrap64 ((wrap64 ((wrap64 (x1_1 + 1)) + 1)) + 1))) = false := bne_eq_false_iff_eq.mpr c12
         clear c12
         (first | rw [c12b0] | (simp only [i64_w, i32_w]; rw [c12b0]) | rw [c12b1] | skip)
         have HC13 := MK H
         clear H
         have p454 : 0 ≤ (x5_1 : Int) := of_decide_eq_true (by first | (with_reducible assumption) | assumption)
         have q454 : x5_1 < (l0.length : Int) := of_decide_eq_true (by first | (with_reducible assumption) | assumption)
         obtain ⟨ad454, e454, hx454_0, hx454_1, hx454_2, hx454_3, hx454_4, hx454_5⟩ := at_T52 HR0.out x5_1 p454 q454
         obtain rfl : ad450 = ad454 := (by injection e454)
         replace p454 := eq_true p454
         replace q454 := eq_true q454
         go_upto_if 60 with (fail)
         have H := HC13.out
         clear HC13
         by_cases c14 : (((rd_T52 l0 x5_1).f3) != ((Int.tmod (wrap64 ((wrap64 ((wrap64 ((wrap64 (x1_1 + 1)) + 1)) + 1)) + 1)) 3) == 0)) = true
         ·rw [if_pos c14] at H
          have c14b0 : (((rd_T52 l0 x5_1).f3) != ((Int.tmod (wrap64 ((wrap64 ((wrap64 ((wrap64 (x1_1 + 1)) + 1)) + 1)) + 1)) 3) == 0)) = true := c14
          (try (have c14b1 : decide (((rd_T52 l0 x5_1).f3) = ((Int.tmod (wrap64 ((wrap64 ((wrap64 ((wrap64 (x1_1 + 1)) + 1)) + 1)) + 1)) 3) == 0)) = false := by simpa using c14))
          (try (have c14b2 : (((rd_T52 l0 x5_1).f3) == ((Int.tmod (wrap64 ((wrap64 ((wrap64 ((wrap64 (x1_1 + 1)) + 1)) + 1)) + 1)) 3) == 0)) = false := by simpa using c14))
          (try (have c14b3 : ¬ (((rd_T52 l0 x5_1).f3) = ((Int.tmod (wrap64 ((wrap64 ((wrap64 ((wrap64 (x1_1 + 1)) + 1)) + 1)) + 1)) 3) == 0)) := by simpa using c14))
          clear c14
          (first | rw [c14b0] | (simp only [i64_w, i32_w]; rw [c14b0]) | (rw [c14b2]; simp only [Bool.not_true, Bool.not_false]) | skip)
          obtain rfl := Option.some.inj H
          go_wp2
          go_ret
          exact ⟨by first | rfl | (simp; done) | (simp [*]; done), by repeat (first | exact Drawn0.refl _ | apply Drawn0.step)⟩
         ·rw [if_neg c14] at H
          have c14b0 : (((rd_T52 l0 x5_1).f3) != ((Int.tmod (wrap64 ((wrap64 ((wrap64 ((wrap64 (x1_1 + 1)) + 1)) + 1)) + 1)) 3) == 0)) = false := by simpa using c14
          (try (have c14b1 : decide (((rd_T52 l0 x5_1).f3) = ((Int.tmod (wrap64 ((wrap64 ((wrap64 ((wrap64 (x1_1 + 1)) + 1)) + 1)) + 1)) 3) == 0)) = true := by simpa using c14))
          (try (have c14b2 : (((rd_T52 l0 x5_1).f3) == ((Int.tmod (wrap64 ((wrap64 ((wrap64 ((wrap64 (x1_1 + 1)) + 1)) + 1)) + 1)) 3) == 0)) = true := by simpa using c14))
          clear c14
          (first | rw [c14b0] | (simp only [i64_w, i32_w]; rw [c14b0]) | (rw [c14b2]; simp only [Bool.not_true, Bool.not_false]) | skip)
          have HC15 := MK H
          clear H
          have p455 : 0 ≤ (x5_1 : Int) := of_decide_eq_true (by first | (with_reducible assumption) | assumption)
          have q455 : x5_1 < (l0.length : Int) := of_decide_eq_true (by first | (with_reducible assumption) | assumption)
          obtain ⟨ad455, e455, hx455_0, hx455_1, hx455_2, hx455_3, hx455_4, hx455_5⟩ := at_T52 HR0.out x5_1 p455 q455
          obtain rfl : ad450 = ad455 := (by injection e455)
          replace p455 := eq_true p455
          replace q455 := eq_true q455
          go_upto_if 71 with (fail)
          have H := HC15.out
          clear HC15
          by_cases c16 : (((rd_T52 l0 x5_1).f4) != ((Int.tmod (wrap64 ((wrap64 ((wrap64 ((wrap64 ((wrap64 (x1_1 + 1)) + 1)) + 1)) + 1)) + 1)) 3) == 0)) = true
          ·rw [if_pos c16] at H
           have c16b0 : (((rd_T52 l0 x5_1).f4) != ((Int.tmod (wrap64 ((wrap64 ((wrap64 ((wrap64 ((wrap64 (x1_1 + 1)) + 1)) + 1)) + 1)) + 1)) 3) == 0)) = true := c16
           (try (have c16b1 : decide (((rd_T52 l0 x5_1).f4) = ((Int.tmod (wrap64 ((wrap64 ((wrap64 ((wrap64 ((wrap64 (x1_1 + 1)) + 1)) + 1)) + 1)) + 1)) 3) == 0)) = false := by simpa using c16))
           (try (have c16b2 : (((rd_T52 l0 x5_1).f4) == ((Int.tmod (wrap64 ((wrap64 ((wrap64 ((wrap64 ((wrap64 (x1_1 + 1)) + 1)) + 1)) + 1)) + 1)) 3) == 0)) = false := by simpa using c16))
           (try (have c16b3 : ¬ (((rd_T52 l0 x5_1).f4) = ((Int.tmod (wrap64 ((wrap64 ((wrap64 ((wrap64 ((wrap64 (x1_1 + 1)) + 1)) + 1)) + 1)) + 1)) 3) == 0)) := by simpa using c16))
           clear c16
           (first | rw [c16b0] | (simp only [i64_w, i32_w]; rw [c16b0]) | (rw [c16b2]; simp only [Bool.not_true, Bool.not_false]) | skip)
           obtain rfl := Option.some.inj H
           go_wp2
           go_ret
           exact ⟨by first | rfl | (simp; done) | (simp [*]; done), by repeat (first | exact Drawn0.refl _ | apply Drawn0.step)⟩
          ·rw [if_neg c16] at H
           have c16b0 : (((rd_T52 l0 x5_1).f4) != ((Int.tmod (wrap64 ((wrap64 ((wrap64 ((wrap64 ((wrap64 (x1_1 + 1)) + 1)) + 1)) + 1)) + 1)) 3) == 0)) = false := by simpa using c16
           (try (have c16b1 : decide (((rd_T52 l0 x5_1).f4) = ((Int.tmod (wrap64 ((wrap64 ((wrap64 ((wrap64 ((wrap64 (x1_1 + 1)) + 1)) + 1)) + 1)) + 1)) 3) == 0)) = true := by simpa using c16))
           (try (have c16b2 : (((rd_T52 l0 x5_1).f4) == ((Int.tmod (wrap64 ((wrap64 ((wrap64 ((wrap64 ((wrap64 (x1_1 + 1)) + 1)) + 1)) + 1)) + 1)) 3) == 0)) = true := by simpa using c16))
           clear c16
           (first | rw [c16b0] | (simp only [i64_w, i32_w]; rw [c16b0]) | (rw [c16b2]; simp only [Bool.not_true, Bool.not_false]) | skip)
           have H' := MK H
           clear H
           go_wp2
           go_roundg k1
           case measure => have := HK1.out; omega
           case rel => exact ⟨(wrap64 ((wrap64 ((wrap64 ((wrap64 ((wrap64 ((wrap64 (x1_1 + 1)) + 1)) + 1)) + 1)) + 1)) + 1)), (wrap64 (x5_1 + 1)), (by first | rfl | (simp; done) | (simp [*]; done)), (by first | rfl | (simp; done) | (simp [*]; done)), H', ⟨by have := HK1.out; omega⟩, by repeat (first | exact Drawn0.refl _ | apply Drawn0.step)⟩
        ·rw [if_neg c12] at H
         have c12b0 : (((rd_T52 l0 x5_1).f2) == (wrap64 ((wrap64 ((wrap64 (x1_1 + 1)) + 1)) + 1))) = false := beq_eq_false_iff_ne.mpr c12
         have c12b1 : (((rd_T52 l0 x5_1).f2) != (wrap64 ((wrap64 ((wrap64 (x1_1 + 1)) + 1)) + 1))) = true := bne_iff_ne.mpr c12
         (first | rw [c12b0] | (simp only [i64_w, i32_w]; rw [c12b0]) | rw [c12b1] | skip)
         obtain rfl := Option.some.inj H
         go_wp2
         go_ret
         exact ⟨by first | rfl | (simp; done) | (simp [*]; done), by repeat (first | exact Drawn0.refl _ | apply Drawn0.step)⟩
       ·rw [if_neg c10] at H
        have c10b0 : (((rd_T52 l0 x5_1).f1.f1) == (wrap64 ((wrap64 (x1_1 + 1)) + 1))) = false := beq_eq_false_iff_ne.mpr c10
        have c10b1 : (((rd_T52 l0 x5_1).f1.f1) != (wrap64 ((wrap64 (x1_1 + 1)) + 1))) = true := bne_iff_ne.mpr c10
        (first | rw [c10b0] | (simp only [i64_w, i32_w]; rw [c10b0]) | rw [c10b1] | skip)
        obtain rfl := Option.some.inj H
        go_wp2
        go_ret
        exact ⟨by first | rfl | (simp; done) | (simp [*]; done), by repeat (first | exact Drawn0.refl _ | apply Drawn0.step)⟩
      ·rw [if_neg c8] at H
       have c8b0 : (((rd_T52 l0 x5_1).f1.f0) == (wrap64 (x1_1 + 1))) = false := beq_eq_false_iff_ne.mpr c8
       have c8b1 : (((rd_T52 l0 x5_1).f1.f0) != (wrap64 (x1_1 + 1))) = true := bne_iff_ne.mpr c8
       (first | rw [c8b0] | (simp only [i64_w, i32_w]; rw [c8b0]) | rw [c8b1] | skip)
       obtain rfl := Option.some.inj H
       go_wp2
       go_ret
       exact ⟨by first | rfl | (simp; done) | (simp [*]; done), by repeat (first | exact Drawn0.refl _ | apply Drawn0.step)⟩
    ·rw [if_neg c4] at H
     exact absurd H (by simp)
   ·rw [if_neg c3] at H
    have c3b0 : decide (x5_1 < (l0.length : Int)) = false := decide_eq_false c3
    clear c3
    obtain rfl := Option.some.inj H
    go_wp2
    go_ret
    exact ⟨by first | rfl | (simp; done) | (simp [*]; done), by repeat (first | exact Drawn0.refl _ | apply Drawn0.step)⟩

end Go.Proofs.Ytnikfadkmhcalaa.Q
