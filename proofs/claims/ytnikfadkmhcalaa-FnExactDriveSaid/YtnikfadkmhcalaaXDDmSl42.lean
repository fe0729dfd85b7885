/- An argument that is a slice of structs of whole numbers and bools, read as the walks read it; conditions: that it reads as data. -/
import Derived.Test.YtnikfadkmhcalaaXDQ0
import Derived.Deep.Slices
import Derived.Deep.Fields
import Derived.ChangeSame
import Derived.ChangeArms
import Derived.KernelRfl
namespace Go.Proofs.Ytnikfadkmhcalaa.Q
open Go.ChangeShapes Go.WideShapes Go.RowKit Go.Deep Go.Proofs.YtnikfadkmhcalaaW.PrintWords Go.Proofs.YtnikfadkmhcalaaW.PrintLast Go.Proofs.YtnikfadkmhcalaaW.PrintMore

theorem dm_list {α : Type} {P : Nat → α → Prop} : ∀ {n : Nat}, (∀ i, i < n → ∃ x, P i x) → ∃ l : List α, l.length = n ∧ ∀ i x, l[i]? = some x → P i x
  | 0, _ => ⟨[], rfl, fun i x h => by simp at h⟩
  | n + 1, h => by
    obtain ⟨l, hl, hP⟩ := dm_list (n := n) (fun i hi => h i (Nat.lt_succ_of_lt hi))
    obtain ⟨x, hx⟩ := h n (Nat.lt_succ_self n)
    refine ⟨l ++ [x], by simp [hl], fun i y hy => ?_⟩
    rcases Nat.lt_or_ge i l.length with c | c
    · rw [List.getElem?_append_left c] at hy
      exact hP i y hy
    · rw [List.getElem?_append_right c] at hy
      rcases e : i - l.length with _ | z
      · rw [e] at hy
        obtain rfl : i = n := by omega
        have : x = y := by simpa using hy
        rw [← this]
        exact hx
      · rw [e] at hy
        simp at hy
theorem dm_slice42 {H : Type} {enc : TypeId × Value → H} {w : World} {base : Nat} {spare : Nat → Bool} {held : Bool} {t : TypeId} {A : Option Addr} {len cap : Nat} {d : DataW H} {p : List MemPlace} (ht : Try.prog.underlying t = some (.slice 42)) (h : DataW.Trod enc Try.prog w base spare held t (.slice A len cap) d p) :
    ∃ l : List S42, l.length = len ∧ Kd.C k42 w A l.length l ∧ l.length ≤ cap ∧ l.length ≤ 9223372036854775807 := by
  obtain ⟨fuel, hf⟩ := h
  rcases open_slice ht hf with ⟨hcs, _⟩ | ⟨a, len', cap', m, n, D, Pl, hcs, hb, hl, hm, hmm, hx, hi⟩
  · simp [Value.cells] at hcs
    obtain ⟨rfl, rfl, rfl⟩ := hcs
    exact ⟨[], rfl, ⟨rfl, Nat.zero_le _, fun h => absurd h (by simp)⟩, Nat.zero_le _, Nat.zero_le _⟩
  · simp [Value.cells] at hcs
    obtain ⟨rfl, rfl, rfl⟩ := hcs
    have hlm : len ≤ m := by rw [hmm]; split <;> omega
    have hC : Try.prog.cellsOf 42 = 7 := by kernel_rfl
    have hmax : len ≤ 9223372036854775807 := by unfold maxLen at hm; omega
    have key : ∀ i, i < len → ∃ x : S42, ∀ z u, ([.int .i64 x.f0, .int .i64 x.f1, .int .i64 x.f2, .int .i64 x.f3, .int .i64 x.f4, .int .i64 x.f5, .bool x.f6] : List Value)[z]? = some u → w.cell? (a.add (i * 7 + z)) = some u := by
      intro i hil
      obtain ⟨cs', hc, ht'⟩ := hi i (Nat.lt_of_lt_of_le hil hlm)
      rw [hC] at hc
      obtain ⟨_, hcl, hat⟩ := World.cells?_some hc
      match cs', hcl with
      | [c0, c1, c2, c3, c4, c5, c6], _ =>
        obtain ⟨xs, n', _, _, _, hlen, hg⟩ := DataW.trod_struct Try.underlying42 ht'
        match xs, hlen with
        | [y0, y1, y2, y3, y4, y5, y6], _ =>
          have z0 : DataW.trod enc Try.prog w base spare held n' 3 [c0] = some y0 := by simpa [show Try.prog.cellsOf 3 = 1 from by kernel_rfl] using hg 0 _ rfl
          obtain ⟨a0, e0, _⟩ := DataW.trod_int Try.underlying3 z0
          obtain rfl : c0 = Value.int .i64 a0 := by simpa using e0
          have z1 : DataW.trod enc Try.prog w base spare held n' 3 [c1] = some y1 := by simpa [show Try.prog.cellsOf 3 = 1 from by kernel_rfl] using hg 1 _ rfl
          obtain ⟨a1, e1, _⟩ := DataW.trod_int Try.underlying3 z1
          obtain rfl : c1 = Value.int .i64 a1 := by simpa using e1
          have z2 : DataW.trod enc Try.prog w base spare held n' 3 [c2] = some y2 := by simpa [show Try.prog.cellsOf 3 = 1 from by kernel_rfl] using hg 2 _ rfl
          obtain ⟨a2, e2, _⟩ := DataW.trod_int Try.underlying3 z2
          obtain rfl : c2 = Value.int .i64 a2 := by simpa using e2
          have z3 : DataW.trod enc Try.prog w base spare held n' 3 [c3] = some y3 := by simpa [show Try.prog.cellsOf 3 = 1 from by kernel_rfl] using hg 3 _ rfl
          obtain ⟨a3, e3, _⟩ := DataW.trod_int Try.underlying3 z3
          obtain rfl : c3 = Value.int .i64 a3 := by simpa using e3
          have z4 : DataW.trod enc Try.prog w base spare held n' 3 [c4] = some y4 := by simpa [show Try.prog.cellsOf 3 = 1 from by kernel_rfl] using hg 4 _ rfl
          obtain ⟨a4, e4, _⟩ := DataW.trod_int Try.underlying3 z4
          obtain rfl : c4 = Value.int .i64 a4 := by simpa using e4
          have z5 : DataW.trod enc Try.prog w base spare held n' 3 [c5] = some y5 := by simpa [show Try.prog.cellsOf 3 = 1 from by kernel_rfl] using hg 5 _ rfl
          obtain ⟨a5, e5, _⟩ := DataW.trod_int Try.underlying3 z5
          obtain rfl : c5 = Value.int .i64 a5 := by simpa using e5
          have z6 : DataW.trod enc Try.prog w base spare held n' 4 [c6] = some y6 := by simpa [show Try.prog.cellsOf 4 = 1 from by kernel_rfl] using hg 6 _ rfl
          obtain ⟨a6, e6, _⟩ := DataW.trod_bool Try.underlying4 z6
          obtain rfl : c6 = Value.bool a6 := by simpa using e6
          refine ⟨⟨a0, a1, a2, a3, a4, a5, a6⟩, fun z u hz => ?_⟩
          have hzl : z < 7 := by
            rcases Nat.lt_or_ge z 7 with c | c
            · exact c
            · rw [List.getElem?_eq_none (by simpa using c)] at hz; cases hz
          rw [← Go.Deep.add_add, hat z hzl]
          exact hz
    obtain ⟨l, hll, hP⟩ := dm_list key
    refine ⟨l, hll, ⟨rfl, by rw [hll]; exact hmax, fun _ => ⟨a, rfl, fun j x hj => ⟨_, rfl, k42_mk w x, fun i u hu => hP j x hj i u hu⟩⟩⟩, by rw [hll]; exact hl, by rw [hll]; exact hmax⟩

end Go.Proofs.Ytnikfadkmhcalaa.Q
