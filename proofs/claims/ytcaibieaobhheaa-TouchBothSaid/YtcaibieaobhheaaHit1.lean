/- What the functions of package touch compute: balls, crates. -/
import Derived.Test.YtcaibieaobhheaaTouch
import Derived.Test.YtcaibieaobhheaaVar3
import Derived.Deep.Cut
namespace Go.Proofs.Ytcaibieaobhheaa
open Go.RowKit M
set_option maxRecDepth 100000
set_option maxHeartbeats 4000000
set_option linter.unusedVariables false
set_option linter.unusedSimpArgs false
attribute [local go_sem ↓] Go.wp_at_zero Go.wp_at_succ
theorem if_00 {α : Type} (t e : α) : (if (0 : Int) = 0 then t else e) = t := if_pos rfl
theorem clamp_i64 {a l h : Int} (h1 : I64 a) (h2 : I64 l) (h3 : I64 h) : I64 (clampI a l h) := by
  unfold clampI; split
  · exact h2
  · split
    · exact h3
    · exact h1
theorem balls_x (a b : Bd) (ha : a.ok) (hb : b.ok) (w : World) :
    Calls Try.prog 60 #[.agg #[.int .i64 a.shape, .int .i64 a.sx, .int .i64 a.sy, .int .i64 a.mass, .int .i64 a.px, .int .i64 a.py, .int .i64 a.mx, .int .i64 a.my], .agg #[.int .i64 b.shape, .int .i64 b.sx, .int .i64 b.sy, .int .i64 b.mass, .int .i64 b.px, .int .i64 b.py, .int .i64 b.mx, .int .i64 b.my]] w fun en w' => OutHb (ballsX a b) en ∧ Bw w w' := by
  have C1 := Lib.hid (vecSub_x b.px b.py a.px a.py hb.px hb.py ha.px ha.py)
  have C2 := Lib.hid vecUnit_x
  have C3 := Lib.hid (calcAdd_x a.sx b.sx ha.sx hb.sx)
  have C4 := Lib.hid calcSub_x
  have C5 := Lib.hid hitR_c
  have z : I64 4294967296 := by unfold I64; omega
  go_enter Try.func60, Try.ntmps60
  go_wp2_with fail
  (with_reducible refine (C1.out _).mono ?_); rintro en w1 ⟨ho, hb⟩
  have G1 : Below w.heap.size w w1 := Below.trans (by (repeat (with_reducible refine M.Below.drewN ?_ _)); go_grown) (hb.mono (by go_size))
  have S1 := G1.size
  have hz1 := hb.size
  obtain ⟨hc1, hf1⟩ := M.bcell hb
  have L1_0 : w.heap.size < w1.heap.size := by have := hz1; (try simp only [World.size_alloc, World.size_setCell, World.size_drew, World.heap_drewN] at this); omega
  have N1_0 : w1.heap.size ≠ w.heap.size := Nat.ne_of_gt L1_0
  have M1_0 : w.heap.size ≠ w1.heap.size := Nat.ne_of_lt L1_0
  have q1_0_1 : w1.cell? ⟨w.heap.size, 1, none⟩ = some (.int .i64 a.sx) := by rw [hc1 _ _ (by (try simp [go_sem]) <;> omega)]; simp [go_sem]
  have f1_0 : ∀ o, w1.frozen? ⟨w.heap.size, o, none⟩ = false := fun o => by rw [hf1 _ _ (by (try simp [go_sem]) <;> omega)]; simp [go_sem]
  have L1_1 : w.heap.size + 1 < w1.heap.size := by have := hz1; (try simp only [World.size_alloc, World.size_setCell, World.size_drew, World.heap_drewN] at this); omega
  have N1_1 : w1.heap.size ≠ w.heap.size + 1 := Nat.ne_of_gt L1_1
  have M1_1 : w.heap.size + 1 ≠ w1.heap.size := Nat.ne_of_lt L1_1
  have q1_1_1 : w1.cell? ⟨w.heap.size + 1, 1, none⟩ = some (.int .i64 b.sx) := by rw [hc1 _ _ (by (try simp [go_sem]) <;> omega)]; simp [go_sem]
  have f1_1 : ∀ o, w1.frozen? ⟨w.heap.size + 1, o, none⟩ = false := fun o => by rw [hf1 _ _ (by (try simp [go_sem]) <;> omega)]; simp [go_sem]
  have L1_2 : w.heap.size + 1 + 1 < w1.heap.size := by have := hz1; (try simp only [World.size_alloc, World.size_setCell, World.size_drew, World.heap_drewN] at this); omega
  have N1_2 : w1.heap.size ≠ w.heap.size + 1 + 1 := Nat.ne_of_gt L1_2
  have M1_2 : w.heap.size + 1 + 1 ≠ w1.heap.size := Nat.ne_of_lt L1_2
  have q1_2_0 : w1.cell? ⟨w.heap.size + 1 + 1, 0, none⟩ = some (.int .i64 0) := by rw [hc1 _ _ (by (try simp [go_sem]) <;> omega)]; simp [go_sem]
  have q1_2_1 : w1.cell? ⟨w.heap.size + 1 + 1, 1, none⟩ = some (.int .i64 0) := by rw [hc1 _ _ (by (try simp [go_sem]) <;> omega)]; simp [go_sem]
  have q1_2_2 : w1.cell? ⟨w.heap.size + 1 + 1, 2, none⟩ = some (.int .i64 0) := by rw [hc1 _ _ (by (try simp [go_sem]) <;> omega)]; simp [go_sem]
  have f1_2 : ∀ o, w1.frozen? ⟨w.heap.size + 1 + 1, o, none⟩ = false := fun o => by rw [hf1 _ _ (by (try simp [go_sem]) <;> omega)]; simp [go_sem]
  have HG1 := Lib.hid G1; clear G1 hb hc1 hf1 hz1
  rcases ho with ⟨n1, hn1, hz1, rfl⟩ | ⟨dx, dy, hd, idx, idy, rfl⟩
  · exact ⟨rfl, .inl ⟨n1, by unfold ballsX Bd.pos; simp only [hn1, andThen_ok, andThen_err], hz1, rfl⟩, HG1.out⟩
  have Hhd := Lib.hid hd; clear hd
  go_wp2_with fail
  (with_reducible refine ((C2.out _ _ idx idy) _).mono ?_); rintro en w2 ⟨ho, hb⟩
  have G2 : Below w.heap.size w w2 := Below.trans (by have G := HG1.out; (repeat (with_reducible refine M.Below.drewN ?_ _)); go_grown) (hb.mono (by go_size))
  have S2 := G2.size
  have hz2 := hb.size
  obtain ⟨hc2, hf2⟩ := M.bcell hb
  have L2_0 : w.heap.size < w2.heap.size := by have := hz2; (try simp only [World.size_alloc, World.size_setCell, World.size_drew, World.heap_drewN] at this); omega
  have N2_0 : w2.heap.size ≠ w.heap.size := Nat.ne_of_gt L2_0
  have M2_0 : w.heap.size ≠ w2.heap.size := Nat.ne_of_lt L2_0
  have q2_0_1 : w2.cell? ⟨w.heap.size, 1, none⟩ = some (.int .i64 a.sx) := by rw [hc2 _ _ (by (try simp [go_sem]) <;> omega)]; simp [go_sem, L1_0, f1_0, N1_0, M1_0, q1_0_1, L1_1, f1_1, N1_1, M1_1, q1_1_1, L1_2, f1_2, N1_2, M1_2, q1_2_0, q1_2_1, q1_2_2, S1]
  have f2_0 : ∀ o, w2.frozen? ⟨w.heap.size, o, none⟩ = false := fun o => by rw [hf2 _ _ (by (try simp [go_sem]) <;> omega)]; simp [go_sem, L1_0, f1_0, N1_0, M1_0, q1_0_1, L1_1, f1_1, N1_1, M1_1, q1_1_1, L1_2, f1_2, N1_2, M1_2, q1_2_0, q1_2_1, q1_2_2, S1]
  have L2_1 : w.heap.size + 1 < w2.heap.size := by have := hz2; (try simp only [World.size_alloc, World.size_setCell, World.size_drew, World.heap_drewN] at this); omega
  have N2_1 : w2.heap.size ≠ w.heap.size + 1 := Nat.ne_of_gt L2_1
  have M2_1 : w.heap.size + 1 ≠ w2.heap.size := Nat.ne_of_lt L2_1
  have q2_1_1 : w2.cell? ⟨w.heap.size + 1, 1, none⟩ = some (.int .i64 b.sx) := by rw [hc2 _ _ (by (try simp [go_sem]) <;> omega)]; simp [go_sem, L1_0, f1_0, N1_0, M1_0, q1_0_1, L1_1, f1_1, N1_1, M1_1, q1_1_1, L1_2, f1_2, N1_2, M1_2, q1_2_0, q1_2_1, q1_2_2, S1]
  have f2_1 : ∀ o, w2.frozen? ⟨w.heap.size + 1, o, none⟩ = false := fun o => by rw [hf2 _ _ (by (try simp [go_sem]) <;> omega)]; simp [go_sem, L1_0, f1_0, N1_0, M1_0, q1_0_1, L1_1, f1_1, N1_1, M1_1, q1_1_1, L1_2, f1_2, N1_2, M1_2, q1_2_0, q1_2_1, q1_2_2, S1]
  have L2_2 : w.heap.size + 1 + 1 < w2.heap.size := by have := hz2; (try simp only [World.size_alloc, World.size_setCell, World.size_drew, World.heap_drewN] at this); omega
  have N2_2 : w2.heap.size ≠ w.heap.size + 1 + 1 := Nat.ne_of_gt L2_2
  have M2_2 : w.heap.size + 1 + 1 ≠ w2.heap.size := Nat.ne_of_lt L2_2
  have q2_2_0 : w2.cell? ⟨w.heap.size + 1 + 1, 0, none⟩ = some (.int .i64 0) := by rw [hc2 _ _ (by (try simp [go_sem]) <;> omega)]; simp [go_sem, L1_0, f1_0, N1_0, M1_0, q1_0_1, L1_1, f1_1, N1_1, M1_1, q1_1_1, L1_2, f1_2, N1_2, M1_2, q1_2_0, q1_2_1, q1_2_2, S1]
  have q2_2_1 : w2.cell? ⟨w.heap.size + 1 + 1, 1, none⟩ = some (.int .i64 0) := by rw [hc2 _ _ (by (try simp [go_sem]) <;> omega)]; simp [go_sem, L1_0, f1_0, N1_0, M1_0, q1_0_1, L1_1, f1_1, N1_1, M1_1, q1_1_1, L1_2, f1_2, N1_2, M1_2, q1_2_0, q1_2_1, q1_2_2, S1]
  have q2_2_2 : w2.cell? ⟨w.heap.size + 1 + 1, 2, none⟩ = some (.int .i64 0) := by rw [hc2 _ _ (by (try simp [go_sem]) <;> omega)]; simp [go_sem, L1_0, f1_0, N1_0, M1_0, q1_0_1, L1_1, f1_1, N1_1, M1_1, q1_1_1, L1_2, f1_2, N1_2, M1_2, q1_2_0, q1_2_1, q1_2_2, S1]
  have f2_2 : ∀ o, w2.frozen? ⟨w.heap.size + 1 + 1, o, none⟩ = false := fun o => by rw [hf2 _ _ (by (try simp [go_sem]) <;> omega)]; simp [go_sem, L1_0, f1_0, N1_0, M1_0, q1_0_1, L1_1, f1_1, N1_1, M1_1, q1_1_1, L1_2, f1_2, N1_2, M1_2, q1_2_0, q1_2_1, q1_2_2, S1]
  have HG2 := Lib.hid G2; clear G2 hb hc2 hf2 hz2
  rcases ho with ⟨n2, hn2, hz2, rfl⟩ | ⟨ux, uy, l, hu, iux, iuy, il, rfl⟩
  · exact ⟨rfl, .inl ⟨n2, by unfold ballsX Bd.pos; simp only [Hhd.out, hn2, andThen_ok, andThen_err], hz2, rfl⟩, HG2.out⟩
  have Hhu := Lib.hid hu; clear hu
  go_wp2_with fail
  · obtain rfl : l = 0 := beq_iff_eq.1 (by assumption)
    (with_reducible refine (C3.out _).mono ?_); rintro en w' ⟨⟨n3, hn3, hz3, rfl⟩ | ⟨sm, hsm, ism, rfl⟩, d3, rfl⟩
    · exact ⟨rfl, .inl ⟨n3, by unfold ballsX Bd.pos; simp only [Hhd.out, Hhu.out, if_true, hn3, andThen_ok, andThen_err], hz3, rfl⟩, by have G := HG2.out; (repeat (with_reducible refine M.Below.drewN ?_ _)); go_grown⟩
    have Hhsm := Lib.hid hsm; clear hsm
    go_wp2_with fail
    go_region_held2 (fun w' => w'.cell? ⟨w2.heap.size, 0, none⟩ = some (.int .i64 4294967296) ∧ w'.cell? ⟨w2.heap.size, 1, none⟩ = some (.int .i64 uy)) (go_keep)
      (first
      | (go_at_call 70; refine ((C4.out _ _ ism il) _).mono ?_; rintro en w' ⟨⟨n4, hn4, hz4, rfl⟩ | ⟨k, hk, ik, rfl⟩, d4, rfl⟩
         · exact ⟨rfl, .inl ⟨n4, by unfold ballsX Bd.pos; simp only [Hhd.out, Hhu.out, if_true, Hhsm.out, hn4, andThen_ok, andThen_err], hz4, rfl⟩, by have G := HG2.out; (repeat (with_reducible refine M.Below.drewN ?_ _)); go_grown⟩
         have Hhk := Lib.hid hk; clear hk)
      | (go_at_call 100; refine ((C5.out _ _ _ z iuy ik) _).mono ?_; rintro en w5 ⟨⟨q, t, hq, iq, rfl⟩, hb⟩
         have G5 : Below w.heap.size w w5 := Below.trans (by have G := HG2.out; (repeat (with_reducible refine M.Below.drewN ?_ _)); go_grown) (hb.mono (by go_size))
         have S5 := G5.size
         have hz5 := hb.size
         obtain ⟨hc5, hf5⟩ := M.bcell hb
         have L5_w2_0 : w2.heap.size < w5.heap.size := by have := hz5; (try simp only [World.size_alloc, World.size_setCell, World.size_drew, World.heap_drewN] at this); omega
         have N5_w2_0 : w5.heap.size ≠ w2.heap.size := Nat.ne_of_gt L5_w2_0
         have M5_w2_0 : w2.heap.size ≠ w5.heap.size := Nat.ne_of_lt L5_w2_0
         have q5_w2_0_0 : w5.cell? ⟨w2.heap.size, 0, none⟩ = some (.int .i64 4294967296) := by rw [hc5 _ _ (by (try simp [go_sem]) <;> omega)]; simp [go_sem, L1_0, f1_0, N1_0, M1_0, q1_0_1, L1_1, f1_1, N1_1, M1_1, q1_1_1, L1_2, f1_2, N1_2, M1_2, q1_2_0, q1_2_1, q1_2_2, S1, L2_0, f2_0, N2_0, M2_0, q2_0_1, L2_1, f2_1, N2_1, M2_1, q2_1_1, L2_2, f2_2, N2_2, M2_2, q2_2_0, q2_2_1, q2_2_2, S2]
         have q5_w2_0_1 : w5.cell? ⟨w2.heap.size, 1, none⟩ = some (.int .i64 uy) := by rw [hc5 _ _ (by (try simp [go_sem]) <;> omega)]; simp [go_sem, L1_0, f1_0, N1_0, M1_0, q1_0_1, L1_1, f1_1, N1_1, M1_1, q1_1_1, L1_2, f1_2, N1_2, M1_2, q1_2_0, q1_2_1, q1_2_2, S1, L2_0, f2_0, N2_0, M2_0, q2_0_1, L2_1, f2_1, N2_1, M2_1, q2_1_1, L2_2, f2_2, N2_2, M2_2, q2_2_0, q2_2_1, q2_2_2, S2]
         have f5_w2_0 : ∀ o, w5.frozen? ⟨w2.heap.size, o, none⟩ = false := fun o => by rw [hf5 _ _ (by (try simp [go_sem]) <;> omega)]; simp [go_sem, L1_0, f1_0, N1_0, M1_0, q1_0_1, L1_1, f1_1, N1_1, M1_1, q1_1_1, L1_2, f1_2, N1_2, M1_2, q1_2_0, q1_2_1, q1_2_2, S1, L2_0, f2_0, N2_0, M2_0, q2_0_1, L2_1, f2_1, N2_1, M2_1, q2_1_1, L2_2, f2_2, N2_2, M2_2, q2_2_0, q2_2_1, q2_2_2, S2]
         have L5_2 : w.heap.size + 1 + 1 < w5.heap.size := by have := hz5; (try simp only [World.size_alloc, World.size_setCell, World.size_drew, World.heap_drewN] at this); omega
         have N5_2 : w5.heap.size ≠ w.heap.size + 1 + 1 := Nat.ne_of_gt L5_2
         have M5_2 : w.heap.size + 1 + 1 ≠ w5.heap.size := Nat.ne_of_lt L5_2
         have q5_2_0 : w5.cell? ⟨w.heap.size + 1 + 1, 0, none⟩ = some (.int .i64 0) := by rw [hc5 _ _ (by (try simp [go_sem]) <;> omega)]; simp [go_sem, L1_0, f1_0, N1_0, M1_0, q1_0_1, L1_1, f1_1, N1_1, M1_1, q1_1_1, L1_2, f1_2, N1_2, M1_2, q1_2_0, q1_2_1, q1_2_2, S1, L2_0, f2_0, N2_0, M2_0, q2_0_1, L2_1, f2_1, N2_1, M2_1, q2_1_1, L2_2, f2_2, N2_2, M2_2, q2_2_0, q2_2_1, q2_2_2, S2]
         have q5_2_1 : w5.cell? ⟨w.heap.size + 1 + 1, 1, none⟩ = some (.int .i64 0) := by rw [hc5 _ _ (by (try simp [go_sem]) <;> omega)]; simp [go_sem, L1_0, f1_0, N1_0, M1_0, q1_0_1, L1_1, f1_1, N1_1, M1_1, q1_1_1, L1_2, f1_2, N1_2, M1_2, q1_2_0, q1_2_1, q1_2_2, S1, L2_0, f2_0, N2_0, M2_0, q2_0_1, L2_1, f2_1, N2_1, M2_1, q2_1_1, L2_2, f2_2, N2_2, M2_2, q2_2_0, q2_2_1, q2_2_2, S2]
         have q5_2_2 : w5.cell? ⟨w.heap.size + 1 + 1, 2, none⟩ = some (.int .i64 0) := by rw [hc5 _ _ (by (try simp [go_sem]) <;> omega)]; simp [go_sem, L1_0, f1_0, N1_0, M1_0, q1_0_1, L1_1, f1_1, N1_1, M1_1, q1_1_1, L1_2, f1_2, N1_2, M1_2, q1_2_0, q1_2_1, q1_2_2, S1, L2_0, f2_0, N2_0, M2_0, q2_0_1, L2_1, f2_1, N2_1, M2_1, q2_1_1, L2_2, f2_2, N2_2, M2_2, q2_2_0, q2_2_1, q2_2_2, S2]
         have f5_2 : ∀ o, w5.frozen? ⟨w.heap.size + 1 + 1, o, none⟩ = false := fun o => by rw [hf5 _ _ (by (try simp [go_sem]) <;> omega)]; simp [go_sem, L1_0, f1_0, N1_0, M1_0, q1_0_1, L1_1, f1_1, N1_1, M1_1, q1_1_1, L1_2, f1_2, N1_2, M1_2, q1_2_0, q1_2_1, q1_2_2, S1, L2_0, f2_0, N2_0, M2_0, q2_0_1, L2_1, f2_1, N2_1, M2_1, q2_1_1, L2_2, f2_2, N2_2, M2_2, q2_2_0, q2_2_1, q2_2_2, S2]
         have HG5 := Lib.hid G5; clear G5 hb hc5 hf5 hz5
         have Hhq := Lib.hid hq; clear hq)
      )
    go_wp2_with fail
    refine bodyPost_ret (v := .tuple #[.agg #[.int .i64 q.nx, .int .i64 q.ny, .int .i64 q.d], .bool t]) (by simp [results, Try.results60, go_sem, L1_0, f1_0, N1_0, M1_0, q1_0_1, L1_1, f1_1, N1_1, M1_1, q1_1_1, L1_2, f1_2, N1_2, M1_2, q1_2_0, q1_2_1, q1_2_2, S1, L2_0, f2_0, N2_0, M2_0, q2_0_1, L2_1, f2_1, N2_1, M2_1, q2_1_1, L2_2, f2_2, N2_2, M2_2, q2_2_0, q2_2_1, q2_2_2, S2, L5_w2_0, f5_w2_0, N5_w2_0, M5_w2_0, q5_w2_0_0, q5_w2_0_1, L5_2, f5_2, N5_2, M5_2, q5_2_0, q5_2_1, q5_2_2, S5]) rfl ⟨.inr ⟨q, t, by unfold ballsX Bd.pos; simp only [Hhd.out, Hhu.out, if_true, Hhsm.out, Hhk.out, Hhq.out, andThen_ok, andThen_err], iq, rfl⟩, by have G := HG5.out; (repeat (with_reducible refine M.Below.drewN ?_ _)); go_grown⟩
  · have h0 : ¬ l = 0 := beq_eq_false_iff_ne.1 (by assumption)
    (with_reducible refine (C3.out _).mono ?_); rintro en w' ⟨⟨n6, hn6, hz6, rfl⟩ | ⟨sm, hsm, ism, rfl⟩, d6, rfl⟩
    · exact ⟨rfl, .inl ⟨n6, by unfold ballsX Bd.pos; simp only [Hhd.out, Hhu.out, if_neg h0, hn6, andThen_ok, andThen_err], hz6, rfl⟩, by have G := HG2.out; (repeat (with_reducible refine M.Below.drewN ?_ _)); go_grown⟩
    have Hhsm := Lib.hid hsm; clear hsm
    go_wp2_with fail
    go_region_held2 (fun w' => w'.cell? ⟨w2.heap.size, 0, none⟩ = some (.int .i64 ux) ∧ w'.cell? ⟨w2.heap.size, 1, none⟩ = some (.int .i64 uy)) (go_keep)
      (first
      | (go_at_call 70; refine ((C4.out _ _ ism il) _).mono ?_; rintro en w' ⟨⟨n7, hn7, hz7, rfl⟩ | ⟨k, hk, ik, rfl⟩, d7, rfl⟩
         · exact ⟨rfl, .inl ⟨n7, by unfold ballsX Bd.pos; simp only [Hhd.out, Hhu.out, if_neg h0, Hhsm.out, hn7, andThen_ok, andThen_err], hz7, rfl⟩, by have G := HG2.out; (repeat (with_reducible refine M.Below.drewN ?_ _)); go_grown⟩
         have Hhk := Lib.hid hk; clear hk)
      | (go_at_call 100; refine ((C5.out _ _ _ iux iuy ik) _).mono ?_; rintro en w8 ⟨⟨q, t, hq, iq, rfl⟩, hb⟩
         have G8 : Below w.heap.size w w8 := Below.trans (by have G := HG2.out; (repeat (with_reducible refine M.Below.drewN ?_ _)); go_grown) (hb.mono (by go_size))
         have S8 := G8.size
         have hz8 := hb.size
         obtain ⟨hc8, hf8⟩ := M.bcell hb
         have L8_w2_0 : w2.heap.size < w8.heap.size := by have := hz8; (try simp only [World.size_alloc, World.size_setCell, World.size_drew, World.heap_drewN] at this); omega
         have N8_w2_0 : w8.heap.size ≠ w2.heap.size := Nat.ne_of_gt L8_w2_0
         have M8_w2_0 : w2.heap.size ≠ w8.heap.size := Nat.ne_of_lt L8_w2_0
         have q8_w2_0_0 : w8.cell? ⟨w2.heap.size, 0, none⟩ = some (.int .i64 ux) := by rw [hc8 _ _ (by (try simp [go_sem]) <;> omega)]; simp [go_sem, L1_0, f1_0, N1_0, M1_0, q1_0_1, L1_1, f1_1, N1_1, M1_1, q1_1_1, L1_2, f1_2, N1_2, M1_2, q1_2_0, q1_2_1, q1_2_2, S1, L2_0, f2_0, N2_0, M2_0, q2_0_1, L2_1, f2_1, N2_1, M2_1, q2_1_1, L2_2, f2_2, N2_2, M2_2, q2_2_0, q2_2_1, q2_2_2, S2]
         have q8_w2_0_1 : w8.cell? ⟨w2.heap.size, 1, none⟩ = some (.int .i64 uy) := by rw [hc8 _ _ (by (try simp [go_sem]) <;> omega)]; simp [go_sem, L1_0, f1_0, N1_0, M1_0, q1_0_1, L1_1, f1_1, N1_1, M1_1, q1_1_1, L1_2, f1_2, N1_2, M1_2, q1_2_0, q1_2_1, q1_2_2, S1, L2_0, f2_0, N2_0, M2_0, q2_0_1, L2_1, f2_1, N2_1, M2_1, q2_1_1, L2_2, f2_2, N2_2, M2_2, q2_2_0, q2_2_1, q2_2_2, S2]
         have f8_w2_0 : ∀ o, w8.frozen? ⟨w2.heap.size, o, none⟩ = false := fun o => by rw [hf8 _ _ (by (try simp [go_sem]) <;> omega)]; simp [go_sem, L1_0, f1_0, N1_0, M1_0, q1_0_1, L1_1, f1_1, N1_1, M1_1, q1_1_1, L1_2, f1_2, N1_2, M1_2, q1_2_0, q1_2_1, q1_2_2, S1, L2_0, f2_0, N2_0, M2_0, q2_0_1, L2_1, f2_1, N2_1, M2_1, q2_1_1, L2_2, f2_2, N2_2, M2_2, q2_2_0, q2_2_1, q2_2_2, S2]
         have L8_2 : w.heap.size + 1 + 1 < w8.heap.size := by have := hz8; (try simp only [World.size_alloc, World.size_setCell, World.size_drew, World.heap_drewN] at this); omega
         have N8_2 : w8.heap.size ≠ w.heap.size + 1 + 1 := Nat.ne_of_gt L8_2
         have M8_2 : w.heap.size + 1 + 1 ≠ w8.heap.size := Nat.ne_of_lt L8_2
         have q8_2_0 : w8.cell? ⟨w.heap.size + 1 + 1, 0, none⟩ = some (.int .i64 0) := by rw [hc8 _ _ (by (try simp [go_sem]) <;> omega)]; simp [go_sem, L1_0, f1_0, N1_0, M1_0, q1_0_1, L1_1, f1_1, N1_1, M1_1, q1_1_1, L1_2, f1_2, N1_2, M1_2, q1_2_0, q1_2_1, q1_2_2, S1, L2_0, f2_0, N2_0, M2_0, q2_0_1, L2_1, f2_1, N2_1, M2_1, q2_1_1, L2_2, f2_2, N2_2, M2_2, q2_2_0, q2_2_1, q2_2_2, S2]
         have q8_2_1 : w8.cell? ⟨w.heap.size + 1 + 1, 1, none⟩ = some (.int .i64 0) := by rw [hc8 _ _ (by (try simp [go_sem]) <;> omega)]; simp [go_sem, L1_0, f1_0, N1_0, M1_0, q1_0_1, L1_1, f1_1, N1_1, M1_1, q1_1_1, L1_2, f1_2, N1_2, M1_2, q1_2_0, q1_2_1, q1_2_2, S1, L2_0, f2_0, N2_0, M2_0, q2_0_1, L2_1, f2_1, N2_1, M2_1, q2_1_1, L2_2, f2_2, N2_2, M2_2, q2_2_0, q2_2_1, q2_2_2, S2]
         have q8_2_2 : w8.cell? ⟨w.heap.size + 1 + 1, 2, none⟩ = some (.int .i64 0) := by rw [hc8 _ _ (by (try simp [go_sem]) <;> omega)]; simp [go_sem, L1_0, f1_0, N1_0, M1_0, q1_0_1, L1_1, f1_1, N1_1, M1_1, q1_1_1, L1_2, f1_2, N1_2, M1_2, q1_2_0, q1_2_1, q1_2_2, S1, L2_0, f2_0, N2_0, M2_0, q2_0_1, L2_1, f2_1, N2_1, M2_1, q2_1_1, L2_2, f2_2, N2_2, M2_2, q2_2_0, q2_2_1, q2_2_2, S2]
         have f8_2 : ∀ o, w8.frozen? ⟨w.heap.size + 1 + 1, o, none⟩ = false := fun o => by rw [hf8 _ _ (by (try simp [go_sem]) <;> omega)]; simp [go_sem, L1_0, f1_0, N1_0, M1_0, q1_0_1, L1_1, f1_1, N1_1, M1_1, q1_1_1, L1_2, f1_2, N1_2, M1_2, q1_2_0, q1_2_1, q1_2_2, S1, L2_0, f2_0, N2_0, M2_0, q2_0_1, L2_1, f2_1, N2_1, M2_1, q2_1_1, L2_2, f2_2, N2_2, M2_2, q2_2_0, q2_2_1, q2_2_2, S2]
         have HG8 := Lib.hid G8; clear G8 hb hc8 hf8 hz8
         have Hhq := Lib.hid hq; clear hq)
      )
    go_wp2_with fail
    refine bodyPost_ret (v := .tuple #[.agg #[.int .i64 q.nx, .int .i64 q.ny, .int .i64 q.d], .bool t]) (by simp [results, Try.results60, go_sem, L1_0, f1_0, N1_0, M1_0, q1_0_1, L1_1, f1_1, N1_1, M1_1, q1_1_1, L1_2, f1_2, N1_2, M1_2, q1_2_0, q1_2_1, q1_2_2, S1, L2_0, f2_0, N2_0, M2_0, q2_0_1, L2_1, f2_1, N2_1, M2_1, q2_1_1, L2_2, f2_2, N2_2, M2_2, q2_2_0, q2_2_1, q2_2_2, S2, L8_w2_0, f8_w2_0, N8_w2_0, M8_w2_0, q8_w2_0_0, q8_w2_0_1, L8_2, f8_2, N8_2, M8_2, q8_2_0, q8_2_1, q8_2_2, S8]) rfl ⟨.inr ⟨q, t, by unfold ballsX Bd.pos; simp only [Hhd.out, Hhu.out, if_neg h0, Hhsm.out, Hhk.out, Hhq.out, andThen_ok, andThen_err], iq, rfl⟩, by have G := HG8.out; (repeat (with_reducible refine M.Below.drewN ?_ _)); go_grown⟩
theorem crates_x (a b : Bd) (ha : a.ok) (hb : b.ok) (w : World) :
    Calls Try.prog 61 #[.agg #[.int .i64 a.shape, .int .i64 a.sx, .int .i64 a.sy, .int .i64 a.mass, .int .i64 a.px, .int .i64 a.py, .int .i64 a.mx, .int .i64 a.my], .agg #[.int .i64 b.shape, .int .i64 b.sx, .int .i64 b.sy, .int .i64 b.mass, .int .i64 b.px, .int .i64 b.py, .int .i64 b.mx, .int .i64 b.my]] w fun en w' => OutHb (cratesX a b) en ∧ Bw w w' := by
  have C1 := Lib.hid (vecSub_x b.px b.py a.px a.py hb.px hb.py ha.px ha.py)
  have C2 := Lib.hid (fun d hd => overlap_x a.sx b.sx d ha.sx hb.sx hd)
  have C3 := Lib.hid (fun d hd => overlap_x a.sy b.sy d ha.sy hb.sy hd)
  have C4 := Lib.hid one_x
  have C5 := Lib.hid hitR_c
  have z : I64 0 := by unfold I64; omega
  have io : ∀ d, I64 (oneI d) := fun d => by unfold oneI; split <;> unfold I64 <;> omega
  go_enter Try.func61, Try.ntmps61
  go_wp2_with fail
  (with_reducible refine (C1.out _).mono ?_); rintro en w1 ⟨ho, hb⟩
  have G1 : Below w.heap.size w w1 := Below.trans (by (repeat (with_reducible refine M.Below.drewN ?_ _)); go_grown) (hb.mono (by go_size))
  have S1 := G1.size
  have hz1 := hb.size
  obtain ⟨hc1, hf1⟩ := M.bcell hb
  have L1_0 : w.heap.size < w1.heap.size := by have := hz1; (try simp only [World.size_alloc, World.size_setCell, World.size_drew, World.heap_drewN] at this); omega
  have N1_0 : w1.heap.size ≠ w.heap.size := Nat.ne_of_gt L1_0
  have M1_0 : w.heap.size ≠ w1.heap.size := Nat.ne_of_lt L1_0
  have q1_0_1 : w1.cell? ⟨w.heap.size, 1, none⟩ = some (.int .i64 a.sx) := by rw [hc1 _ _ (by (try simp [go_sem]) <;> omega)]; simp [go_sem]
  have q1_0_2 : w1.cell? ⟨w.heap.size, 2, none⟩ = some (.int .i64 a.sy) := by rw [hc1 _ _ (by (try simp [go_sem]) <;> omega)]; simp [go_sem]
  have f1_0 : ∀ o, w1.frozen? ⟨w.heap.size, o, none⟩ = false := fun o => by rw [hf1 _ _ (by (try simp [go_sem]) <;> omega)]; simp [go_sem]
  have L1_1 : w.heap.size + 1 < w1.heap.size := by have := hz1; (try simp only [World.size_alloc, World.size_setCell, World.size_drew, World.heap_drewN] at this); omega
  have N1_1 : w1.heap.size ≠ w.heap.size + 1 := Nat.ne_of_gt L1_1
  have M1_1 : w.heap.size + 1 ≠ w1.heap.size := Nat.ne_of_lt L1_1
  have q1_1_1 : w1.cell? ⟨w.heap.size + 1, 1, none⟩ = some (.int .i64 b.sx) := by rw [hc1 _ _ (by (try simp [go_sem]) <;> omega)]; simp [go_sem]
  have q1_1_2 : w1.cell? ⟨w.heap.size + 1, 2, none⟩ = some (.int .i64 b.sy) := by rw [hc1 _ _ (by (try simp [go_sem]) <;> omega)]; simp [go_sem]
  have f1_1 : ∀ o, w1.frozen? ⟨w.heap.size + 1, o, none⟩ = false := fun o => by rw [hf1 _ _ (by (try simp [go_sem]) <;> omega)]; simp [go_sem]
  have L1_2 : w.heap.size + 1 + 1 < w1.heap.size := by have := hz1; (try simp only [World.size_alloc, World.size_setCell, World.size_drew, World.heap_drewN] at this); omega
  have N1_2 : w1.heap.size ≠ w.heap.size + 1 + 1 := Nat.ne_of_gt L1_2
  have M1_2 : w.heap.size + 1 + 1 ≠ w1.heap.size := Nat.ne_of_lt L1_2
  have q1_2_0 : w1.cell? ⟨w.heap.size + 1 + 1, 0, none⟩ = some (.int .i64 0) := by rw [hc1 _ _ (by (try simp [go_sem]) <;> omega)]; simp [go_sem]
  have q1_2_1 : w1.cell? ⟨w.heap.size + 1 + 1, 1, none⟩ = some (.int .i64 0) := by rw [hc1 _ _ (by (try simp [go_sem]) <;> omega)]; simp [go_sem]
  have q1_2_2 : w1.cell? ⟨w.heap.size + 1 + 1, 2, none⟩ = some (.int .i64 0) := by rw [hc1 _ _ (by (try simp [go_sem]) <;> omega)]; simp [go_sem]
  have f1_2 : ∀ o, w1.frozen? ⟨w.heap.size + 1 + 1, o, none⟩ = false := fun o => by rw [hf1 _ _ (by (try simp [go_sem]) <;> omega)]; simp [go_sem]
  have HG1 := Lib.hid G1; clear G1 hb hc1 hf1 hz1
  rcases ho with ⟨n1, hn1, hz1, rfl⟩ | ⟨dx, dy, hd, idx, idy, rfl⟩
  · exact ⟨rfl, .inl ⟨n1, by unfold cratesX Bd.pos; simp only [hn1, andThen_ok, andThen_err], hz1, rfl⟩, HG1.out⟩
  have Hhd := Lib.hid hd; clear hd
  go_wp2_with fail
  (with_reducible refine ((C2.out _ idx) _).mono ?_); rintro en w' ⟨⟨n2, hn2, hz2, rfl⟩ | ⟨x, hx, ix, rfl⟩, d2, rfl⟩
  · exact ⟨rfl, .inl ⟨n2, by unfold cratesX Bd.pos; simp only [Hhd.out, hn2, andThen_ok, andThen_err], hz2, rfl⟩, by have G := HG1.out; (repeat (with_reducible refine M.Below.drewN ?_ _)); go_grown⟩
  have Hhx := Lib.hid hx; clear hx
  go_wp2_with fail
  · have h0 : x ≤ 0 := by assumption
    refine bodyPost_ret (v := .tuple #[.agg #[.int .i64 0, .int .i64 0, .int .i64 0], .bool false]) (by simp [results, Try.results61, go_sem, L1_0, f1_0, N1_0, M1_0, q1_0_1, q1_0_2, L1_1, f1_1, N1_1, M1_1, q1_1_1, q1_1_2, L1_2, f1_2, N1_2, M1_2, q1_2_0, q1_2_1, q1_2_2, S1]) rfl ⟨.inr ⟨⟨0, 0, 0⟩, false, by unfold cratesX Bd.pos; simp only [Hhd.out, Hhx.out, if_pos h0, andThen_ok, andThen_err], ⟨z, z, z⟩, rfl⟩, by have G := HG1.out; (repeat (with_reducible refine M.Below.drewN ?_ _)); go_grown⟩
  · skip
    (with_reducible refine ((C3.out _ idy) _).mono ?_); rintro en w' ⟨⟨n3, hn3, hz3, rfl⟩ | ⟨y, hy, iy, rfl⟩, d3, rfl⟩
    · exact ⟨rfl, .inl ⟨n3, by unfold cratesX Bd.pos; simp only [Hhd.out, Hhx.out, if_neg (show ¬ x ≤ 0 by omega), hn3, andThen_ok, andThen_err], hz3, rfl⟩, by have G := HG1.out; (repeat (with_reducible refine M.Below.drewN ?_ _)); go_grown⟩
    have Hhy := Lib.hid hy; clear hy
    go_wp2_with fail
    · have h1 : x ≤ y := by assumption
      (with_reducible refine (C4.out _ _).mono ?_); rintro en w' ⟨rfl, d4, rfl⟩
      go_wp2_with fail
      (with_reducible refine ((C5.out _ _ _ (io _) z ix) _).mono ?_); rintro en w5 ⟨⟨q, t, hq, iq, rfl⟩, hb⟩
      have G5 : Below w.heap.size w w5 := Below.trans (by have G := HG1.out; (repeat (with_reducible refine M.Below.drewN ?_ _)); go_grown) (hb.mono (by go_size))
      have S5 := G5.size
      have hz5 := hb.size
      obtain ⟨hc5, hf5⟩ := M.bcell hb
      have L5_2 : w.heap.size + 1 + 1 < w5.heap.size := by have := hz5; (try simp only [World.size_alloc, World.size_setCell, World.size_drew, World.heap_drewN] at this); omega
      have N5_2 : w5.heap.size ≠ w.heap.size + 1 + 1 := Nat.ne_of_gt L5_2
      have M5_2 : w.heap.size + 1 + 1 ≠ w5.heap.size := Nat.ne_of_lt L5_2
      have q5_2_0 : w5.cell? ⟨w.heap.size + 1 + 1, 0, none⟩ = some (.int .i64 0) := by rw [hc5 _ _ (by (try simp [go_sem]) <;> omega)]; simp [go_sem, L1_0, f1_0, N1_0, M1_0, q1_0_1, q1_0_2, L1_1, f1_1, N1_1, M1_1, q1_1_1, q1_1_2, L1_2, f1_2, N1_2, M1_2, q1_2_0, q1_2_1, q1_2_2, S1]
      have q5_2_1 : w5.cell? ⟨w.heap.size + 1 + 1, 1, none⟩ = some (.int .i64 0) := by rw [hc5 _ _ (by (try simp [go_sem]) <;> omega)]; simp [go_sem, L1_0, f1_0, N1_0, M1_0, q1_0_1, q1_0_2, L1_1, f1_1, N1_1, M1_1, q1_1_1, q1_1_2, L1_2, f1_2, N1_2, M1_2, q1_2_0, q1_2_1, q1_2_2, S1]
      have q5_2_2 : w5.cell? ⟨w.heap.size + 1 + 1, 2, none⟩ = some (.int .i64 0) := by rw [hc5 _ _ (by (try simp [go_sem]) <;> omega)]; simp [go_sem, L1_0, f1_0, N1_0, M1_0, q1_0_1, q1_0_2, L1_1, f1_1, N1_1, M1_1, q1_1_1, q1_1_2, L1_2, f1_2, N1_2, M1_2, q1_2_0, q1_2_1, q1_2_2, S1]
      have f5_2 : ∀ o, w5.frozen? ⟨w.heap.size + 1 + 1, o, none⟩ = false := fun o => by rw [hf5 _ _ (by (try simp [go_sem]) <;> omega)]; simp [go_sem, L1_0, f1_0, N1_0, M1_0, q1_0_1, q1_0_2, L1_1, f1_1, N1_1, M1_1, q1_1_1, q1_1_2, L1_2, f1_2, N1_2, M1_2, q1_2_0, q1_2_1, q1_2_2, S1]
      have HG5 := Lib.hid G5; clear G5 hb hc5 hf5 hz5
      have Hhq := Lib.hid hq; clear hq
      go_wp2_with fail
      refine bodyPost_ret (v := .tuple #[.agg #[.int .i64 q.nx, .int .i64 q.ny, .int .i64 q.d], .bool t]) (by simp [results, Try.results61, go_sem, L1_0, f1_0, N1_0, M1_0, q1_0_1, q1_0_2, L1_1, f1_1, N1_1, M1_1, q1_1_1, q1_1_2, L1_2, f1_2, N1_2, M1_2, q1_2_0, q1_2_1, q1_2_2, S1, L5_2, f5_2, N5_2, M5_2, q5_2_0, q5_2_1, q5_2_2, S5]) rfl ⟨.inr ⟨q, t, by unfold cratesX Bd.pos; simp only [Hhd.out, Hhx.out, if_neg (show ¬ x ≤ 0 by omega), Hhy.out, if_pos h1, Hhq.out, andThen_ok, andThen_err], iq, rfl⟩, by have G := HG5.out; (repeat (with_reducible refine M.Below.drewN ?_ _)); go_grown⟩
    · skip
      (with_reducible refine (C4.out _ _).mono ?_); rintro en w' ⟨rfl, d6, rfl⟩
      go_wp2_with fail
      (with_reducible refine ((C5.out _ _ _ z (io _) iy) _).mono ?_); rintro en w7 ⟨⟨q, t, hq, iq, rfl⟩, hb⟩
      have G7 : Below w.heap.size w w7 := Below.trans (by have G := HG1.out; (repeat (with_reducible refine M.Below.drewN ?_ _)); go_grown) (hb.mono (by go_size))
      have S7 := G7.size
      have hz7 := hb.size
      obtain ⟨hc7, hf7⟩ := M.bcell hb
      have L7_2 : w.heap.size + 1 + 1 < w7.heap.size := by have := hz7; (try simp only [World.size_alloc, World.size_setCell, World.size_drew, World.heap_drewN] at this); omega
      have N7_2 : w7.heap.size ≠ w.heap.size + 1 + 1 := Nat.ne_of_gt L7_2
      have M7_2 : w.heap.size + 1 + 1 ≠ w7.heap.size := Nat.ne_of_lt L7_2
      have q7_2_0 : w7.cell? ⟨w.heap.size + 1 + 1, 0, none⟩ = some (.int .i64 0) := by rw [hc7 _ _ (by (try simp [go_sem]) <;> omega)]; simp [go_sem, L1_0, f1_0, N1_0, M1_0, q1_0_1, q1_0_2, L1_1, f1_1, N1_1, M1_1, q1_1_1, q1_1_2, L1_2, f1_2, N1_2, M1_2, q1_2_0, q1_2_1, q1_2_2, S1]
      have q7_2_1 : w7.cell? ⟨w.heap.size + 1 + 1, 1, none⟩ = some (.int .i64 0) := by rw [hc7 _ _ (by (try simp [go_sem]) <;> omega)]; simp [go_sem, L1_0, f1_0, N1_0, M1_0, q1_0_1, q1_0_2, L1_1, f1_1, N1_1, M1_1, q1_1_1, q1_1_2, L1_2, f1_2, N1_2, M1_2, q1_2_0, q1_2_1, q1_2_2, S1]
      have q7_2_2 : w7.cell? ⟨w.heap.size + 1 + 1, 2, none⟩ = some (.int .i64 0) := by rw [hc7 _ _ (by (try simp [go_sem]) <;> omega)]; simp [go_sem, L1_0, f1_0, N1_0, M1_0, q1_0_1, q1_0_2, L1_1, f1_1, N1_1, M1_1, q1_1_1, q1_1_2, L1_2, f1_2, N1_2, M1_2, q1_2_0, q1_2_1, q1_2_2, S1]
      have f7_2 : ∀ o, w7.frozen? ⟨w.heap.size + 1 + 1, o, none⟩ = false := fun o => by rw [hf7 _ _ (by (try simp [go_sem]) <;> omega)]; simp [go_sem, L1_0, f1_0, N1_0, M1_0, q1_0_1, q1_0_2, L1_1, f1_1, N1_1, M1_1, q1_1_1, q1_1_2, L1_2, f1_2, N1_2, M1_2, q1_2_0, q1_2_1, q1_2_2, S1]
      have HG7 := Lib.hid G7; clear G7 hb hc7 hf7 hz7
      have Hhq := Lib.hid hq; clear hq
      go_wp2_with fail
      refine bodyPost_ret (v := .tuple #[.agg #[.int .i64 q.nx, .int .i64 q.ny, .int .i64 q.d], .bool t]) (by simp [results, Try.results61, go_sem, L1_0, f1_0, N1_0, M1_0, q1_0_1, q1_0_2, L1_1, f1_1, N1_1, M1_1, q1_1_1, q1_1_2, L1_2, f1_2, N1_2, M1_2, q1_2_0, q1_2_1, q1_2_2, S1, L7_2, f7_2, N7_2, M7_2, q7_2_0, q7_2_1, q7_2_2, S7]) rfl ⟨.inr ⟨q, t, by unfold cratesX Bd.pos; simp only [Hhd.out, Hhx.out, if_neg (show ¬ x ≤ 0 by omega), Hhy.out, if_neg (show ¬ x ≤ y by omega), Hhq.out, andThen_ok, andThen_err], iq, rfl⟩, by have G := HG7.out; (repeat (with_reducible refine M.Below.drewN ?_ _)); go_grown⟩
end Go.Proofs.Ytcaibieaobhheaa
