/- What the functions of package bounds compute. -/
import Derived.Test.YtcaibieaobhheaaVec
import Derived.Deep.RegionWith
import Derived.Deep.RegionHeld2
import Derived.Deep.DrawnRows
namespace Go.Proofs.Ytcaibieaobhheaa
open Go.RowKit M
set_option maxRecDepth 100000
set_option maxHeartbeats 4000000
set_option linter.unusedVariables false
set_option linter.unusedSimpArgs false
attribute [local go_sem ↓] Go.wp_at_zero Go.wp_at_succ

theorem boundsOf_x (b : Bd) (h : b.ok) (w : World) :
    Calls Try.prog 92 #[.agg #[.int .i64 b.shape, .int .i64 b.sx, .int .i64 b.sy, .int .i64 b.mass, .int .i64 b.px, .int .i64 b.py, .int .i64 b.mx, .int .i64 b.my]] w fun en w' => OutBx (boxX b) en ∧ Bw w w' := by
  by_cases hs : b.shape = 1
  · have hq := beq_iff_eq.2 hs
    have HE := Lib.hid (show half b = (b.sx, b.sx) by unfold half; rw [if_pos hs])
    have C1 := Lib.hid (vecSub_x b.px b.py b.sx b.sx h.px h.py h.sx h.sx)
    have C2 := Lib.hid (vecAdd_x b.px b.py b.sx b.sx h.px h.py h.sx h.sx)
    clear hs
    go_enter Try.func92, Try.ntmps92
    go_wp2_with fail
    (with_reducible refine (C1.out _).mono ?_); rintro en w1 ⟨ho, hb⟩
    have G1 : Below w.heap.size w w1 := Below.trans (by (repeat (with_reducible refine M.Below.drewN ?_ _)); go_grown) (hb.mono (by go_size))
    have S1 := G1.size
    have hz1 := hb.size
    obtain ⟨hc1, hf1⟩ := M.bcell hb
    have L1_0 : w.heap.size < w1.heap.size := by have := hz1; (try simp only [World.size_alloc, World.size_setCell, World.size_drew, World.heap_drewN] at this); omega
    have N1_0 : w1.heap.size ≠ w.heap.size := Nat.ne_of_gt L1_0
    have M1_0 : w.heap.size ≠ w1.heap.size := Nat.ne_of_lt L1_0
    have q1_0_0 : w1.cell? ⟨w.heap.size, 0, none⟩ = some (.int .i64 b.shape) := by rw [hc1 _ _ (by (try simp [go_sem]) <;> omega)]; simp [go_sem]
    have q1_0_1 : w1.cell? ⟨w.heap.size, 1, none⟩ = some (.int .i64 b.sx) := by rw [hc1 _ _ (by (try simp [go_sem]) <;> omega)]; simp [go_sem]
    have q1_0_2 : w1.cell? ⟨w.heap.size, 2, none⟩ = some (.int .i64 b.sy) := by rw [hc1 _ _ (by (try simp [go_sem]) <;> omega)]; simp [go_sem]
    have q1_0_3 : w1.cell? ⟨w.heap.size, 3, none⟩ = some (.int .i64 b.mass) := by rw [hc1 _ _ (by (try simp [go_sem]) <;> omega)]; simp [go_sem]
    have q1_0_4 : w1.cell? ⟨w.heap.size, 4, none⟩ = some (.int .i64 b.px) := by rw [hc1 _ _ (by (try simp [go_sem]) <;> omega)]; simp [go_sem]
    have q1_0_5 : w1.cell? ⟨w.heap.size, 5, none⟩ = some (.int .i64 b.py) := by rw [hc1 _ _ (by (try simp [go_sem]) <;> omega)]; simp [go_sem]
    have q1_0_6 : w1.cell? ⟨w.heap.size, 6, none⟩ = some (.int .i64 b.mx) := by rw [hc1 _ _ (by (try simp [go_sem]) <;> omega)]; simp [go_sem]
    have q1_0_7 : w1.cell? ⟨w.heap.size, 7, none⟩ = some (.int .i64 b.my) := by rw [hc1 _ _ (by (try simp [go_sem]) <;> omega)]; simp [go_sem]
    have f1_0 : ∀ o, w1.frozen? ⟨w.heap.size, o, none⟩ = false := fun o => by rw [hf1 _ _ (by (try simp [go_sem]) <;> omega)]; simp [go_sem]
    have L1_1 : w.heap.size + 1 < w1.heap.size := by have := hz1; (try simp only [World.size_alloc, World.size_setCell, World.size_drew, World.heap_drewN] at this); omega
    have N1_1 : w1.heap.size ≠ w.heap.size + 1 := Nat.ne_of_gt L1_1
    have M1_1 : w.heap.size + 1 ≠ w1.heap.size := Nat.ne_of_lt L1_1
    have q1_1_0 : w1.cell? ⟨w.heap.size + 1, 0, none⟩ = some (.int .i64 0) := by rw [hc1 _ _ (by (try simp [go_sem]) <;> omega)]; simp [go_sem]
    have q1_1_1 : w1.cell? ⟨w.heap.size + 1, 1, none⟩ = some (.int .i64 0) := by rw [hc1 _ _ (by (try simp [go_sem]) <;> omega)]; simp [go_sem]
    have q1_1_2 : w1.cell? ⟨w.heap.size + 1, 2, none⟩ = some (.int .i64 0) := by rw [hc1 _ _ (by (try simp [go_sem]) <;> omega)]; simp [go_sem]
    have q1_1_3 : w1.cell? ⟨w.heap.size + 1, 3, none⟩ = some (.int .i64 0) := by rw [hc1 _ _ (by (try simp [go_sem]) <;> omega)]; simp [go_sem]
    have f1_1 : ∀ o, w1.frozen? ⟨w.heap.size + 1, o, none⟩ = false := fun o => by rw [hf1 _ _ (by (try simp [go_sem]) <;> omega)]; simp [go_sem]
    have L1_2 : w.heap.size + 1 + 1 < w1.heap.size := by have := hz1; (try simp only [World.size_alloc, World.size_setCell, World.size_drew, World.heap_drewN] at this); omega
    have N1_2 : w1.heap.size ≠ w.heap.size + 1 + 1 := Nat.ne_of_gt L1_2
    have M1_2 : w.heap.size + 1 + 1 ≠ w1.heap.size := Nat.ne_of_lt L1_2
    have q1_2_0 : w1.cell? ⟨w.heap.size + 1 + 1, 0, none⟩ = some (.int .i64 b.sx) := by rw [hc1 _ _ (by (try simp [go_sem]) <;> omega)]; simp [go_sem]
    have q1_2_1 : w1.cell? ⟨w.heap.size + 1 + 1, 1, none⟩ = some (.int .i64 b.sx) := by rw [hc1 _ _ (by (try simp [go_sem]) <;> omega)]; simp [go_sem]
    have f1_2 : ∀ o, w1.frozen? ⟨w.heap.size + 1 + 1, o, none⟩ = false := fun o => by rw [hf1 _ _ (by (try simp [go_sem]) <;> omega)]; simp [go_sem]
    have HG1 := Lib.hid G1; clear G1 hb hc1 hf1 hz1
    rcases ho with ⟨n1, hn1, hz1, rfl⟩ | ⟨x, y, hx, ix, iy, rfl⟩
    · exact ⟨rfl, .inl ⟨n1, by unfold boxX Bd.pos; simp only [HE.out, hn1, andThen_ok, andThen_err], hz1, rfl⟩, HG1.out⟩
    have Hhx := Lib.hid hx; clear hx
    go_wp2_with fail
    go_region_held2 (fun w' => w'.cell? ⟨w1.heap.size, 0, none⟩ = some (.int .i64 x) ∧ w'.cell? ⟨w1.heap.size, 1, none⟩ = some (.int .i64 y)
        ∧ w'.cell? ⟨w.heap.size, 4, none⟩ = some (.int .i64 b.px) ∧ w'.cell? ⟨w.heap.size, 5, none⟩ = some (.int .i64 b.py)
        ∧ w'.cell? ⟨w.heap.size + 1 + 1, 0, none⟩ = some (.int .i64 b.sx) ∧ w'.cell? ⟨w.heap.size + 1 + 1, 1, none⟩ = some (.int .i64 b.sx)) (go_keep)
      (
      (go_at_call 75; refine (C2.out _).mono ?_; rintro en w2 ⟨ho, hb⟩
       have G2 : Below w.heap.size w w2 := Below.trans (by have G := HG1.out; (repeat (with_reducible refine M.Below.drewN ?_ _)); go_grown) (hb.mono (by go_size))
       have S2 := G2.size
       have hz2 := hb.size
       obtain ⟨hc2, hf2⟩ := M.bcell hb
       have L2_0 : w.heap.size < w2.heap.size := by have := hz2; (try simp only [World.size_alloc, World.size_setCell, World.size_drew, World.heap_drewN] at this); omega
       have N2_0 : w2.heap.size ≠ w.heap.size := Nat.ne_of_gt L2_0
       have M2_0 : w.heap.size ≠ w2.heap.size := Nat.ne_of_lt L2_0
       have q2_0_0 : w2.cell? ⟨w.heap.size, 0, none⟩ = some (.int .i64 b.shape) := by rw [hc2 _ _ (by (try simp [go_sem]) <;> omega)]; simp [go_sem, L1_0, f1_0, N1_0, M1_0, q1_0_0, q1_0_1, q1_0_2, q1_0_3, q1_0_4, q1_0_5, q1_0_6, q1_0_7, L1_1, f1_1, N1_1, M1_1, q1_1_0, q1_1_1, q1_1_2, q1_1_3, L1_2, f1_2, N1_2, M1_2, q1_2_0, q1_2_1, S1]
       have q2_0_1 : w2.cell? ⟨w.heap.size, 1, none⟩ = some (.int .i64 b.sx) := by rw [hc2 _ _ (by (try simp [go_sem]) <;> omega)]; simp [go_sem, L1_0, f1_0, N1_0, M1_0, q1_0_0, q1_0_1, q1_0_2, q1_0_3, q1_0_4, q1_0_5, q1_0_6, q1_0_7, L1_1, f1_1, N1_1, M1_1, q1_1_0, q1_1_1, q1_1_2, q1_1_3, L1_2, f1_2, N1_2, M1_2, q1_2_0, q1_2_1, S1]
       have q2_0_2 : w2.cell? ⟨w.heap.size, 2, none⟩ = some (.int .i64 b.sy) := by rw [hc2 _ _ (by (try simp [go_sem]) <;> omega)]; simp [go_sem, L1_0, f1_0, N1_0, M1_0, q1_0_0, q1_0_1, q1_0_2, q1_0_3, q1_0_4, q1_0_5, q1_0_6, q1_0_7, L1_1, f1_1, N1_1, M1_1, q1_1_0, q1_1_1, q1_1_2, q1_1_3, L1_2, f1_2, N1_2, M1_2, q1_2_0, q1_2_1, S1]
       have q2_0_3 : w2.cell? ⟨w.heap.size, 3, none⟩ = some (.int .i64 b.mass) := by rw [hc2 _ _ (by (try simp [go_sem]) <;> omega)]; simp [go_sem, L1_0, f1_0, N1_0, M1_0, q1_0_0, q1_0_1, q1_0_2, q1_0_3, q1_0_4, q1_0_5, q1_0_6, q1_0_7, L1_1, f1_1, N1_1, M1_1, q1_1_0, q1_1_1, q1_1_2, q1_1_3, L1_2, f1_2, N1_2, M1_2, q1_2_0, q1_2_1, S1]
       have q2_0_4 : w2.cell? ⟨w.heap.size, 4, none⟩ = some (.int .i64 b.px) := by rw [hc2 _ _ (by (try simp [go_sem]) <;> omega)]; simp [go_sem, L1_0, f1_0, N1_0, M1_0, q1_0_0, q1_0_1, q1_0_2, q1_0_3, q1_0_4, q1_0_5, q1_0_6, q1_0_7, L1_1, f1_1, N1_1, M1_1, q1_1_0, q1_1_1, q1_1_2, q1_1_3, L1_2, f1_2, N1_2, M1_2, q1_2_0, q1_2_1, S1]
       have q2_0_5 : w2.cell? ⟨w.heap.size, 5, none⟩ = some (.int .i64 b.py) := by rw [hc2 _ _ (by (try simp [go_sem]) <;> omega)]; simp [go_sem, L1_0, f1_0, N1_0, M1_0, q1_0_0, q1_0_1, q1_0_2, q1_0_3, q1_0_4, q1_0_5, q1_0_6, q1_0_7, L1_1, f1_1, N1_1, M1_1, q1_1_0, q1_1_1, q1_1_2, q1_1_3, L1_2, f1_2, N1_2, M1_2, q1_2_0, q1_2_1, S1]
       have q2_0_6 : w2.cell? ⟨w.heap.size, 6, none⟩ = some (.int .i64 b.mx) := by rw [hc2 _ _ (by (try simp [go_sem]) <;> omega)]; simp [go_sem, L1_0, f1_0, N1_0, M1_0, q1_0_0, q1_0_1, q1_0_2, q1_0_3, q1_0_4, q1_0_5, q1_0_6, q1_0_7, L1_1, f1_1, N1_1, M1_1, q1_1_0, q1_1_1, q1_1_2, q1_1_3, L1_2, f1_2, N1_2, M1_2, q1_2_0, q1_2_1, S1]
       have q2_0_7 : w2.cell? ⟨w.heap.size, 7, none⟩ = some (.int .i64 b.my) := by rw [hc2 _ _ (by (try simp [go_sem]) <;> omega)]; simp [go_sem, L1_0, f1_0, N1_0, M1_0, q1_0_0, q1_0_1, q1_0_2, q1_0_3, q1_0_4, q1_0_5, q1_0_6, q1_0_7, L1_1, f1_1, N1_1, M1_1, q1_1_0, q1_1_1, q1_1_2, q1_1_3, L1_2, f1_2, N1_2, M1_2, q1_2_0, q1_2_1, S1]
       have f2_0 : ∀ o, w2.frozen? ⟨w.heap.size, o, none⟩ = false := fun o => by rw [hf2 _ _ (by (try simp [go_sem]) <;> omega)]; simp [go_sem, L1_0, f1_0, N1_0, M1_0, q1_0_0, q1_0_1, q1_0_2, q1_0_3, q1_0_4, q1_0_5, q1_0_6, q1_0_7, L1_1, f1_1, N1_1, M1_1, q1_1_0, q1_1_1, q1_1_2, q1_1_3, L1_2, f1_2, N1_2, M1_2, q1_2_0, q1_2_1, S1]
       have L2_1 : w.heap.size + 1 < w2.heap.size := by have := hz2; (try simp only [World.size_alloc, World.size_setCell, World.size_drew, World.heap_drewN] at this); omega
       have N2_1 : w2.heap.size ≠ w.heap.size + 1 := Nat.ne_of_gt L2_1
       have M2_1 : w.heap.size + 1 ≠ w2.heap.size := Nat.ne_of_lt L2_1
       have q2_1_0 : w2.cell? ⟨w.heap.size + 1, 0, none⟩ = some (.int .i64 0) := by rw [hc2 _ _ (by (try simp [go_sem]) <;> omega)]; simp [go_sem, L1_0, f1_0, N1_0, M1_0, q1_0_0, q1_0_1, q1_0_2, q1_0_3, q1_0_4, q1_0_5, q1_0_6, q1_0_7, L1_1, f1_1, N1_1, M1_1, q1_1_0, q1_1_1, q1_1_2, q1_1_3, L1_2, f1_2, N1_2, M1_2, q1_2_0, q1_2_1, S1]
       have q2_1_1 : w2.cell? ⟨w.heap.size + 1, 1, none⟩ = some (.int .i64 0) := by rw [hc2 _ _ (by (try simp [go_sem]) <;> omega)]; simp [go_sem, L1_0, f1_0, N1_0, M1_0, q1_0_0, q1_0_1, q1_0_2, q1_0_3, q1_0_4, q1_0_5, q1_0_6, q1_0_7, L1_1, f1_1, N1_1, M1_1, q1_1_0, q1_1_1, q1_1_2, q1_1_3, L1_2, f1_2, N1_2, M1_2, q1_2_0, q1_2_1, S1]
       have q2_1_2 : w2.cell? ⟨w.heap.size + 1, 2, none⟩ = some (.int .i64 0) := by rw [hc2 _ _ (by (try simp [go_sem]) <;> omega)]; simp [go_sem, L1_0, f1_0, N1_0, M1_0, q1_0_0, q1_0_1, q1_0_2, q1_0_3, q1_0_4, q1_0_5, q1_0_6, q1_0_7, L1_1, f1_1, N1_1, M1_1, q1_1_0, q1_1_1, q1_1_2, q1_1_3, L1_2, f1_2, N1_2, M1_2, q1_2_0, q1_2_1, S1]
       have q2_1_3 : w2.cell? ⟨w.heap.size + 1, 3, none⟩ = some (.int .i64 0) := by rw [hc2 _ _ (by (try simp [go_sem]) <;> omega)]; simp [go_sem, L1_0, f1_0, N1_0, M1_0, q1_0_0, q1_0_1, q1_0_2, q1_0_3, q1_0_4, q1_0_5, q1_0_6, q1_0_7, L1_1, f1_1, N1_1, M1_1, q1_1_0, q1_1_1, q1_1_2, q1_1_3, L1_2, f1_2, N1_2, M1_2, q1_2_0, q1_2_1, S1]
       have f2_1 : ∀ o, w2.frozen? ⟨w.heap.size + 1, o, none⟩ = false := fun o => by rw [hf2 _ _ (by (try simp [go_sem]) <;> omega)]; simp [go_sem, L1_0, f1_0, N1_0, M1_0, q1_0_0, q1_0_1, q1_0_2, q1_0_3, q1_0_4, q1_0_5, q1_0_6, q1_0_7, L1_1, f1_1, N1_1, M1_1, q1_1_0, q1_1_1, q1_1_2, q1_1_3, L1_2, f1_2, N1_2, M1_2, q1_2_0, q1_2_1, S1]
       have L2_2 : w.heap.size + 1 + 1 < w2.heap.size := by have := hz2; (try simp only [World.size_alloc, World.size_setCell, World.size_drew, World.heap_drewN] at this); omega
       have N2_2 : w2.heap.size ≠ w.heap.size + 1 + 1 := Nat.ne_of_gt L2_2
       have M2_2 : w.heap.size + 1 + 1 ≠ w2.heap.size := Nat.ne_of_lt L2_2
       have q2_2_0 : w2.cell? ⟨w.heap.size + 1 + 1, 0, none⟩ = some (.int .i64 b.sx) := by rw [hc2 _ _ (by (try simp [go_sem]) <;> omega)]; simp [go_sem, L1_0, f1_0, N1_0, M1_0, q1_0_0, q1_0_1, q1_0_2, q1_0_3, q1_0_4, q1_0_5, q1_0_6, q1_0_7, L1_1, f1_1, N1_1, M1_1, q1_1_0, q1_1_1, q1_1_2, q1_1_3, L1_2, f1_2, N1_2, M1_2, q1_2_0, q1_2_1, S1]
       have q2_2_1 : w2.cell? ⟨w.heap.size + 1 + 1, 1, none⟩ = some (.int .i64 b.sx) := by rw [hc2 _ _ (by (try simp [go_sem]) <;> omega)]; simp [go_sem, L1_0, f1_0, N1_0, M1_0, q1_0_0, q1_0_1, q1_0_2, q1_0_3, q1_0_4, q1_0_5, q1_0_6, q1_0_7, L1_1, f1_1, N1_1, M1_1, q1_1_0, q1_1_1, q1_1_2, q1_1_3, L1_2, f1_2, N1_2, M1_2, q1_2_0, q1_2_1, S1]
       have f2_2 : ∀ o, w2.frozen? ⟨w.heap.size + 1 + 1, o, none⟩ = false := fun o => by rw [hf2 _ _ (by (try simp [go_sem]) <;> omega)]; simp [go_sem, L1_0, f1_0, N1_0, M1_0, q1_0_0, q1_0_1, q1_0_2, q1_0_3, q1_0_4, q1_0_5, q1_0_6, q1_0_7, L1_1, f1_1, N1_1, M1_1, q1_1_0, q1_1_1, q1_1_2, q1_1_3, L1_2, f1_2, N1_2, M1_2, q1_2_0, q1_2_1, S1]
       have L2_w1_0 : w1.heap.size < w2.heap.size := by have := hz2; (try simp only [World.size_alloc, World.size_setCell, World.size_drew, World.heap_drewN] at this); omega
       have N2_w1_0 : w2.heap.size ≠ w1.heap.size := Nat.ne_of_gt L2_w1_0
       have M2_w1_0 : w1.heap.size ≠ w2.heap.size := Nat.ne_of_lt L2_w1_0
       have q2_w1_0_0 : w2.cell? ⟨w1.heap.size, 0, none⟩ = some (.int .i64 x) := by rw [hc2 _ _ (by (try simp [go_sem]) <;> omega)]; simp [go_sem, L1_0, f1_0, N1_0, M1_0, q1_0_0, q1_0_1, q1_0_2, q1_0_3, q1_0_4, q1_0_5, q1_0_6, q1_0_7, L1_1, f1_1, N1_1, M1_1, q1_1_0, q1_1_1, q1_1_2, q1_1_3, L1_2, f1_2, N1_2, M1_2, q1_2_0, q1_2_1, S1]
       have q2_w1_0_1 : w2.cell? ⟨w1.heap.size, 1, none⟩ = some (.int .i64 y) := by rw [hc2 _ _ (by (try simp [go_sem]) <;> omega)]; simp [go_sem, L1_0, f1_0, N1_0, M1_0, q1_0_0, q1_0_1, q1_0_2, q1_0_3, q1_0_4, q1_0_5, q1_0_6, q1_0_7, L1_1, f1_1, N1_1, M1_1, q1_1_0, q1_1_1, q1_1_2, q1_1_3, L1_2, f1_2, N1_2, M1_2, q1_2_0, q1_2_1, S1]
       have f2_w1_0 : ∀ o, w2.frozen? ⟨w1.heap.size, o, none⟩ = false := fun o => by rw [hf2 _ _ (by (try simp [go_sem]) <;> omega)]; simp [go_sem, L1_0, f1_0, N1_0, M1_0, q1_0_0, q1_0_1, q1_0_2, q1_0_3, q1_0_4, q1_0_5, q1_0_6, q1_0_7, L1_1, f1_1, N1_1, M1_1, q1_1_0, q1_1_1, q1_1_2, q1_1_3, L1_2, f1_2, N1_2, M1_2, q1_2_0, q1_2_1, S1]
       have HG2 := Lib.hid G2; clear G2 hb hc2 hf2 hz2
       rcases ho with ⟨n2, hn2, hz2, rfl⟩ | ⟨u, v, hu, iu, iv, rfl⟩
       · exact ⟨rfl, .inl ⟨n2, by unfold boxX Bd.pos; simp only [HE.out, Hhx.out, hn2, andThen_ok, andThen_err], hz2, rfl⟩, HG2.out⟩
       have Hhu := Lib.hid hu; clear hu)
      )
    go_wp2_with fail
    refine bodyPost_ret (v := .agg #[.int .i64 x, .int .i64 y, .int .i64 u, .int .i64 v]) (by simp [results, Try.results92, go_sem, L1_0, f1_0, N1_0, M1_0, q1_0_0, q1_0_1, q1_0_2, q1_0_3, q1_0_4, q1_0_5, q1_0_6, q1_0_7, L1_1, f1_1, N1_1, M1_1, q1_1_0, q1_1_1, q1_1_2, q1_1_3, L1_2, f1_2, N1_2, M1_2, q1_2_0, q1_2_1, S1, L2_0, f2_0, N2_0, M2_0, q2_0_0, q2_0_1, q2_0_2, q2_0_3, q2_0_4, q2_0_5, q2_0_6, q2_0_7, L2_1, f2_1, N2_1, M2_1, q2_1_0, q2_1_1, q2_1_2, q2_1_3, L2_2, f2_2, N2_2, M2_2, q2_2_0, q2_2_1, L2_w1_0, f2_w1_0, N2_w1_0, M2_w1_0, q2_w1_0_0, q2_w1_0_1, S2]) rfl ⟨.inr ⟨⟨x, y, u, v⟩, by unfold boxX Bd.pos; simp only [HE.out, Hhx.out, Hhu.out, andThen_ok, andThen_err], ⟨ix, iy, iu, iv⟩, rfl⟩, by have G := HG2.out; (repeat (with_reducible refine M.Below.drewN ?_ _)); go_grown⟩
  · have hq := beq_eq_false_iff_ne.2 hs
    have HE := Lib.hid (show half b = (b.sx, b.sy) by unfold half; rw [if_neg hs])
    have C1 := Lib.hid (vecSub_x b.px b.py b.sx b.sy h.px h.py h.sx h.sy)
    have C2 := Lib.hid (vecAdd_x b.px b.py b.sx b.sy h.px h.py h.sx h.sy)
    clear hs
    go_enter Try.func92, Try.ntmps92
    go_wp2_with fail
    (with_reducible refine (C1.out _).mono ?_); rintro en w1 ⟨ho, hb⟩
    have G1 : Below w.heap.size w w1 := Below.trans (by (repeat (with_reducible refine M.Below.drewN ?_ _)); go_grown) (hb.mono (by go_size))
    have S1 := G1.size
    have hz1 := hb.size
    obtain ⟨hc1, hf1⟩ := M.bcell hb
    have L1_0 : w.heap.size < w1.heap.size := by have := hz1; (try simp only [World.size_alloc, World.size_setCell, World.size_drew, World.heap_drewN] at this); omega
    have N1_0 : w1.heap.size ≠ w.heap.size := Nat.ne_of_gt L1_0
    have M1_0 : w.heap.size ≠ w1.heap.size := Nat.ne_of_lt L1_0
    have q1_0_0 : w1.cell? ⟨w.heap.size, 0, none⟩ = some (.int .i64 b.shape) := by rw [hc1 _ _ (by (try simp [go_sem]) <;> omega)]; simp [go_sem]
    have q1_0_1 : w1.cell? ⟨w.heap.size, 1, none⟩ = some (.int .i64 b.sx) := by rw [hc1 _ _ (by (try simp [go_sem]) <;> omega)]; simp [go_sem]
    have q1_0_2 : w1.cell? ⟨w.heap.size, 2, none⟩ = some (.int .i64 b.sy) := by rw [hc1 _ _ (by (try simp [go_sem]) <;> omega)]; simp [go_sem]
    have q1_0_3 : w1.cell? ⟨w.heap.size, 3, none⟩ = some (.int .i64 b.mass) := by rw [hc1 _ _ (by (try simp [go_sem]) <;> omega)]; simp [go_sem]
    have q1_0_4 : w1.cell? ⟨w.heap.size, 4, none⟩ = some (.int .i64 b.px) := by rw [hc1 _ _ (by (try simp [go_sem]) <;> omega)]; simp [go_sem]
    have q1_0_5 : w1.cell? ⟨w.heap.size, 5, none⟩ = some (.int .i64 b.py) := by rw [hc1 _ _ (by (try simp [go_sem]) <;> omega)]; simp [go_sem]
    have q1_0_6 : w1.cell? ⟨w.heap.size, 6, none⟩ = some (.int .i64 b.mx) := by rw [hc1 _ _ (by (try simp [go_sem]) <;> omega)]; simp [go_sem]
    have q1_0_7 : w1.cell? ⟨w.heap.size, 7, none⟩ = some (.int .i64 b.my) := by rw [hc1 _ _ (by (try simp [go_sem]) <;> omega)]; simp [go_sem]
    have f1_0 : ∀ o, w1.frozen? ⟨w.heap.size, o, none⟩ = false := fun o => by rw [hf1 _ _ (by (try simp [go_sem]) <;> omega)]; simp [go_sem]
    have L1_1 : w.heap.size + 1 < w1.heap.size := by have := hz1; (try simp only [World.size_alloc, World.size_setCell, World.size_drew, World.heap_drewN] at this); omega
    have N1_1 : w1.heap.size ≠ w.heap.size + 1 := Nat.ne_of_gt L1_1
    have M1_1 : w.heap.size + 1 ≠ w1.heap.size := Nat.ne_of_lt L1_1
    have q1_1_0 : w1.cell? ⟨w.heap.size + 1, 0, none⟩ = some (.int .i64 0) := by rw [hc1 _ _ (by (try simp [go_sem]) <;> omega)]; simp [go_sem]
    have q1_1_1 : w1.cell? ⟨w.heap.size + 1, 1, none⟩ = some (.int .i64 0) := by rw [hc1 _ _ (by (try simp [go_sem]) <;> omega)]; simp [go_sem]
    have q1_1_2 : w1.cell? ⟨w.heap.size + 1, 2, none⟩ = some (.int .i64 0) := by rw [hc1 _ _ (by (try simp [go_sem]) <;> omega)]; simp [go_sem]
    have q1_1_3 : w1.cell? ⟨w.heap.size + 1, 3, none⟩ = some (.int .i64 0) := by rw [hc1 _ _ (by (try simp [go_sem]) <;> omega)]; simp [go_sem]
    have f1_1 : ∀ o, w1.frozen? ⟨w.heap.size + 1, o, none⟩ = false := fun o => by rw [hf1 _ _ (by (try simp [go_sem]) <;> omega)]; simp [go_sem]
    have L1_2 : w.heap.size + 1 + 1 < w1.heap.size := by have := hz1; (try simp only [World.size_alloc, World.size_setCell, World.size_drew, World.heap_drewN] at this); omega
    have N1_2 : w1.heap.size ≠ w.heap.size + 1 + 1 := Nat.ne_of_gt L1_2
    have M1_2 : w.heap.size + 1 + 1 ≠ w1.heap.size := Nat.ne_of_lt L1_2
    have q1_2_0 : w1.cell? ⟨w.heap.size + 1 + 1, 0, none⟩ = some (.int .i64 b.sx) := by rw [hc1 _ _ (by (try simp [go_sem]) <;> omega)]; simp [go_sem]
    have q1_2_1 : w1.cell? ⟨w.heap.size + 1 + 1, 1, none⟩ = some (.int .i64 b.sy) := by rw [hc1 _ _ (by (try simp [go_sem]) <;> omega)]; simp [go_sem]
    have f1_2 : ∀ o, w1.frozen? ⟨w.heap.size + 1 + 1, o, none⟩ = false := fun o => by rw [hf1 _ _ (by (try simp [go_sem]) <;> omega)]; simp [go_sem]
    have HG1 := Lib.hid G1; clear G1 hb hc1 hf1 hz1
    rcases ho with ⟨n1, hn1, hz1, rfl⟩ | ⟨x, y, hx, ix, iy, rfl⟩
    · exact ⟨rfl, .inl ⟨n1, by unfold boxX Bd.pos; simp only [HE.out, hn1, andThen_ok, andThen_err], hz1, rfl⟩, HG1.out⟩
    have Hhx := Lib.hid hx; clear hx
    go_wp2_with fail
    go_region_held2 (fun w' => w'.cell? ⟨w1.heap.size, 0, none⟩ = some (.int .i64 x) ∧ w'.cell? ⟨w1.heap.size, 1, none⟩ = some (.int .i64 y)
        ∧ w'.cell? ⟨w.heap.size, 4, none⟩ = some (.int .i64 b.px) ∧ w'.cell? ⟨w.heap.size, 5, none⟩ = some (.int .i64 b.py)
        ∧ w'.cell? ⟨w.heap.size + 1 + 1, 0, none⟩ = some (.int .i64 b.sx) ∧ w'.cell? ⟨w.heap.size + 1 + 1, 1, none⟩ = some (.int .i64 b.sy)) (go_keep)
      (
      (go_at_call 75; refine (C2.out _).mono ?_; rintro en w2 ⟨ho, hb⟩
       have G2 : Below w.heap.size w w2 := Below.trans (by have G := HG1.out; (repeat (with_reducible refine M.Below.drewN ?_ _)); go_grown) (hb.mono (by go_size))
       have S2 := G2.size
       have hz2 := hb.size
       obtain ⟨hc2, hf2⟩ := M.bcell hb
       have L2_0 : w.heap.size < w2.heap.size := by have := hz2; (try simp only [World.size_alloc, World.size_setCell, World.size_drew, World.heap_drewN] at this); omega
       have N2_0 : w2.heap.size ≠ w.heap.size := Nat.ne_of_gt L2_0
       have M2_0 : w.heap.size ≠ w2.heap.size := Nat.ne_of_lt L2_0
       have q2_0_0 : w2.cell? ⟨w.heap.size, 0, none⟩ = some (.int .i64 b.shape) := by rw [hc2 _ _ (by (try simp [go_sem]) <;> omega)]; simp [go_sem, L1_0, f1_0, N1_0, M1_0, q1_0_0, q1_0_1, q1_0_2, q1_0_3, q1_0_4, q1_0_5, q1_0_6, q1_0_7, L1_1, f1_1, N1_1, M1_1, q1_1_0, q1_1_1, q1_1_2, q1_1_3, L1_2, f1_2, N1_2, M1_2, q1_2_0, q1_2_1, S1]
       have q2_0_1 : w2.cell? ⟨w.heap.size, 1, none⟩ = some (.int .i64 b.sx) := by rw [hc2 _ _ (by (try simp [go_sem]) <;> omega)]; simp [go_sem, L1_0, f1_0, N1_0, M1_0, q1_0_0, q1_0_1, q1_0_2, q1_0_3, q1_0_4, q1_0_5, q1_0_6, q1_0_7, L1_1, f1_1, N1_1, M1_1, q1_1_0, q1_1_1, q1_1_2, q1_1_3, L1_2, f1_2, N1_2, M1_2, q1_2_0, q1_2_1, S1]
       have q2_0_2 : w2.cell? ⟨w.heap.size, 2, none⟩ = some (.int .i64 b.sy) := by rw [hc2 _ _ (by (try simp [go_sem]) <;> omega)]; simp [go_sem, L1_0, f1_0, N1_0, M1_0, q1_0_0, q1_0_1, q1_0_2, q1_0_3, q1_0_4, q1_0_5, q1_0_6, q1_0_7, L1_1, f1_1, N1_1, M1_1, q1_1_0, q1_1_1, q1_1_2, q1_1_3, L1_2, f1_2, N1_2, M1_2, q1_2_0, q1_2_1, S1]
       have q2_0_3 : w2.cell? ⟨w.heap.size, 3, none⟩ = some (.int .i64 b.mass) := by rw [hc2 _ _ (by (try simp [go_sem]) <;> omega)]; simp [go_sem, L1_0, f1_0, N1_0, M1_0, q1_0_0, q1_0_1, q1_0_2, q1_0_3, q1_0_4, q1_0_5, q1_0_6, q1_0_7, L1_1, f1_1, N1_1, M1_1, q1_1_0, q1_1_1, q1_1_2, q1_1_3, L1_2, f1_2, N1_2, M1_2, q1_2_0, q1_2_1, S1]
       have q2_0_4 : w2.cell? ⟨w.heap.size, 4, none⟩ = some (.int .i64 b.px) := by rw [hc2 _ _ (by (try simp [go_sem]) <;> omega)]; simp [go_sem, L1_0, f1_0, N1_0, M1_0, q1_0_0, q1_0_1, q1_0_2, q1_0_3, q1_0_4, q1_0_5, q1_0_6, q1_0_7, L1_1, f1_1, N1_1, M1_1, q1_1_0, q1_1_1, q1_1_2, q1_1_3, L1_2, f1_2, N1_2, M1_2, q1_2_0, q1_2_1, S1]
       have q2_0_5 : w2.cell? ⟨w.heap.size, 5, none⟩ = some (.int .i64 b.py) := by rw [hc2 _ _ (by (try simp [go_sem]) <;> omega)]; simp [go_sem, L1_0, f1_0, N1_0, M1_0, q1_0_0, q1_0_1, q1_0_2, q1_0_3, q1_0_4, q1_0_5, q1_0_6, q1_0_7, L1_1, f1_1, N1_1, M1_1, q1_1_0, q1_1_1, q1_1_2, q1_1_3, L1_2, f1_2, N1_2, M1_2, q1_2_0, q1_2_1, S1]
       have q2_0_6 : w2.cell? ⟨w.heap.size, 6, none⟩ = some (.int .i64 b.mx) := by rw [hc2 _ _ (by (try simp [go_sem]) <;> omega)]; simp [go_sem, L1_0, f1_0, N1_0, M1_0, q1_0_0, q1_0_1, q1_0_2, q1_0_3, q1_0_4, q1_0_5, q1_0_6, q1_0_7, L1_1, f1_1, N1_1, M1_1, q1_1_0, q1_1_1, q1_1_2, q1_1_3, L1_2, f1_2, N1_2, M1_2, q1_2_0, q1_2_1, S1]
       have q2_0_7 : w2.cell? ⟨w.heap.size, 7, none⟩ = some (.int .i64 b.my) := by rw [hc2 _ _ (by (try simp [go_sem]) <;> omega)]; simp [go_sem, L1_0, f1_0, N1_0, M1_0, q1_0_0, q1_0_1, q1_0_2, q1_0_3, q1_0_4, q1_0_5, q1_0_6, q1_0_7, L1_1, f1_1, N1_1, M1_1, q1_1_0, q1_1_1, q1_1_2, q1_1_3, L1_2, f1_2, N1_2, M1_2, q1_2_0, q1_2_1, S1]
       have f2_0 : ∀ o, w2.frozen? ⟨w.heap.size, o, none⟩ = false := fun o => by rw [hf2 _ _ (by (try simp [go_sem]) <;> omega)]; simp [go_sem, L1_0, f1_0, N1_0, M1_0, q1_0_0, q1_0_1, q1_0_2, q1_0_3, q1_0_4, q1_0_5, q1_0_6, q1_0_7, L1_1, f1_1, N1_1, M1_1, q1_1_0, q1_1_1, q1_1_2, q1_1_3, L1_2, f1_2, N1_2, M1_2, q1_2_0, q1_2_1, S1]
       have L2_1 : w.heap.size + 1 < w2.heap.size := by have := hz2; (try simp only [World.size_alloc, World.size_setCell, World.size_drew, World.heap_drewN] at this); omega
       have N2_1 : w2.heap.size ≠ w.heap.size + 1 := Nat.ne_of_gt L2_1
       have M2_1 : w.heap.size + 1 ≠ w2.heap.size := Nat.ne_of_lt L2_1
       have q2_1_0 : w2.cell? ⟨w.heap.size + 1, 0, none⟩ = some (.int .i64 0) := by rw [hc2 _ _ (by (try simp [go_sem]) <;> omega)]; simp [go_sem, L1_0, f1_0, N1_0, M1_0, q1_0_0, q1_0_1, q1_0_2, q1_0_3, q1_0_4, q1_0_5, q1_0_6, q1_0_7, L1_1, f1_1, N1_1, M1_1, q1_1_0, q1_1_1, q1_1_2, q1_1_3, L1_2, f1_2, N1_2, M1_2, q1_2_0, q1_2_1, S1]
       have q2_1_1 : w2.cell? ⟨w.heap.size + 1, 1, none⟩ = some (.int .i64 0) := by rw [hc2 _ _ (by (try simp [go_sem]) <;> omega)]; simp [go_sem, L1_0, f1_0, N1_0, M1_0, q1_0_0, q1_0_1, q1_0_2, q1_0_3, q1_0_4, q1_0_5, q1_0_6, q1_0_7, L1_1, f1_1, N1_1, M1_1, q1_1_0, q1_1_1, q1_1_2, q1_1_3, L1_2, f1_2, N1_2, M1_2, q1_2_0, q1_2_1, S1]
       have q2_1_2 : w2.cell? ⟨w.heap.size + 1, 2, none⟩ = some (.int .i64 0) := by rw [hc2 _ _ (by (try simp [go_sem]) <;> omega)]; simp [go_sem, L1_0, f1_0, N1_0, M1_0, q1_0_0, q1_0_1, q1_0_2, q1_0_3, q1_0_4, q1_0_5, q1_0_6, q1_0_7, L1_1, f1_1, N1_1, M1_1, q1_1_0, q1_1_1, q1_1_2, q1_1_3, L1_2, f1_2, N1_2, M1_2, q1_2_0, q1_2_1, S1]
       have q2_1_3 : w2.cell? ⟨w.heap.size + 1, 3, none⟩ = some (.int .i64 0) := by rw [hc2 _ _ (by (try simp [go_sem]) <;> omega)]; simp [go_sem, L1_0, f1_0, N1_0, M1_0, q1_0_0, q1_0_1, q1_0_2, q1_0_3, q1_0_4, q1_0_5, q1_0_6, q1_0_7, L1_1, f1_1, N1_1, M1_1, q1_1_0, q1_1_1, q1_1_2, q1_1_3, L1_2, f1_2, N1_2, M1_2, q1_2_0, q1_2_1, S1]
       have f2_1 : ∀ o, w2.frozen? ⟨w.heap.size + 1, o, none⟩ = false := fun o => by rw [hf2 _ _ (by (try simp [go_sem]) <;> omega)]; simp [go_sem, L1_0, f1_0, N1_0, M1_0, q1_0_0, q1_0_1, q1_0_2, q1_0_3, q1_0_4, q1_0_5, q1_0_6, q1_0_7, L1_1, f1_1, N1_1, M1_1, q1_1_0, q1_1_1, q1_1_2, q1_1_3, L1_2, f1_2, N1_2, M1_2, q1_2_0, q1_2_1, S1]
       have L2_2 : w.heap.size + 1 + 1 < w2.heap.size := by have := hz2; (try simp only [World.size_alloc, World.size_setCell, World.size_drew, World.heap_drewN] at this); omega
       have N2_2 : w2.heap.size ≠ w.heap.size + 1 + 1 := Nat.ne_of_gt L2_2
       have M2_2 : w.heap.size + 1 + 1 ≠ w2.heap.size := Nat.ne_of_lt L2_2
       have q2_2_0 : w2.cell? ⟨w.heap.size + 1 + 1, 0, none⟩ = some (.int .i64 b.sx) := by rw [hc2 _ _ (by (try simp [go_sem]) <;> omega)]; simp [go_sem, L1_0, f1_0, N1_0, M1_0, q1_0_0, q1_0_1, q1_0_2, q1_0_3, q1_0_4, q1_0_5, q1_0_6, q1_0_7, L1_1, f1_1, N1_1, M1_1, q1_1_0, q1_1_1, q1_1_2, q1_1_3, L1_2, f1_2, N1_2, M1_2, q1_2_0, q1_2_1, S1]
       have q2_2_1 : w2.cell? ⟨w.heap.size + 1 + 1, 1, none⟩ = some (.int .i64 b.sy) := by rw [hc2 _ _ (by (try simp [go_sem]) <;> omega)]; simp [go_sem, L1_0, f1_0, N1_0, M1_0, q1_0_0, q1_0_1, q1_0_2, q1_0_3, q1_0_4, q1_0_5, q1_0_6, q1_0_7, L1_1, f1_1, N1_1, M1_1, q1_1_0, q1_1_1, q1_1_2, q1_1_3, L1_2, f1_2, N1_2, M1_2, q1_2_0, q1_2_1, S1]
       have f2_2 : ∀ o, w2.frozen? ⟨w.heap.size + 1 + 1, o, none⟩ = false := fun o => by rw [hf2 _ _ (by (try simp [go_sem]) <;> omega)]; simp [go_sem, L1_0, f1_0, N1_0, M1_0, q1_0_0, q1_0_1, q1_0_2, q1_0_3, q1_0_4, q1_0_5, q1_0_6, q1_0_7, L1_1, f1_1, N1_1, M1_1, q1_1_0, q1_1_1, q1_1_2, q1_1_3, L1_2, f1_2, N1_2, M1_2, q1_2_0, q1_2_1, S1]
       have L2_w1_0 : w1.heap.size < w2.heap.size := by have := hz2; (try simp only [World.size_alloc, World.size_setCell, World.size_drew, World.heap_drewN] at this); omega
       have N2_w1_0 : w2.heap.size ≠ w1.heap.size := Nat.ne_of_gt L2_w1_0
       have M2_w1_0 : w1.heap.size ≠ w2.heap.size := Nat.ne_of_lt L2_w1_0
       have q2_w1_0_0 : w2.cell? ⟨w1.heap.size, 0, none⟩ = some (.int .i64 x) := by rw [hc2 _ _ (by (try simp [go_sem]) <;> omega)]; simp [go_sem, L1_0, f1_0, N1_0, M1_0, q1_0_0, q1_0_1, q1_0_2, q1_0_3, q1_0_4, q1_0_5, q1_0_6, q1_0_7, L1_1, f1_1, N1_1, M1_1, q1_1_0, q1_1_1, q1_1_2, q1_1_3, L1_2, f1_2, N1_2, M1_2, q1_2_0, q1_2_1, S1]
       have q2_w1_0_1 : w2.cell? ⟨w1.heap.size, 1, none⟩ = some (.int .i64 y) := by rw [hc2 _ _ (by (try simp [go_sem]) <;> omega)]; simp [go_sem, L1_0, f1_0, N1_0, M1_0, q1_0_0, q1_0_1, q1_0_2, q1_0_3, q1_0_4, q1_0_5, q1_0_6, q1_0_7, L1_1, f1_1, N1_1, M1_1, q1_1_0, q1_1_1, q1_1_2, q1_1_3, L1_2, f1_2, N1_2, M1_2, q1_2_0, q1_2_1, S1]
       have f2_w1_0 : ∀ o, w2.frozen? ⟨w1.heap.size, o, none⟩ = false := fun o => by rw [hf2 _ _ (by (try simp [go_sem]) <;> omega)]; simp [go_sem, L1_0, f1_0, N1_0, M1_0, q1_0_0, q1_0_1, q1_0_2, q1_0_3, q1_0_4, q1_0_5, q1_0_6, q1_0_7, L1_1, f1_1, N1_1, M1_1, q1_1_0, q1_1_1, q1_1_2, q1_1_3, L1_2, f1_2, N1_2, M1_2, q1_2_0, q1_2_1, S1]
       have HG2 := Lib.hid G2; clear G2 hb hc2 hf2 hz2
       rcases ho with ⟨n2, hn2, hz2, rfl⟩ | ⟨u, v, hu, iu, iv, rfl⟩
       · exact ⟨rfl, .inl ⟨n2, by unfold boxX Bd.pos; simp only [HE.out, Hhx.out, hn2, andThen_ok, andThen_err], hz2, rfl⟩, HG2.out⟩
       have Hhu := Lib.hid hu; clear hu)
      )
    go_wp2_with fail
    refine bodyPost_ret (v := .agg #[.int .i64 x, .int .i64 y, .int .i64 u, .int .i64 v]) (by simp [results, Try.results92, go_sem, L1_0, f1_0, N1_0, M1_0, q1_0_0, q1_0_1, q1_0_2, q1_0_3, q1_0_4, q1_0_5, q1_0_6, q1_0_7, L1_1, f1_1, N1_1, M1_1, q1_1_0, q1_1_1, q1_1_2, q1_1_3, L1_2, f1_2, N1_2, M1_2, q1_2_0, q1_2_1, S1, L2_0, f2_0, N2_0, M2_0, q2_0_0, q2_0_1, q2_0_2, q2_0_3, q2_0_4, q2_0_5, q2_0_6, q2_0_7, L2_1, f2_1, N2_1, M2_1, q2_1_0, q2_1_1, q2_1_2, q2_1_3, L2_2, f2_2, N2_2, M2_2, q2_2_0, q2_2_1, L2_w1_0, f2_w1_0, N2_w1_0, M2_w1_0, q2_w1_0_0, q2_w1_0_1, S2]) rfl ⟨.inr ⟨⟨x, y, u, v⟩, by unfold boxX Bd.pos; simp only [HE.out, Hhx.out, Hhu.out, andThen_ok, andThen_err], ⟨ix, iy, iu, iv⟩, rfl⟩, by have G := HG2.out; (repeat (with_reducible refine M.Below.drewN ?_ _)); go_grown⟩
theorem meet_x (a b : Bx) (w : World) :
    Calls Try.prog 93 #[.agg #[.int .i64 a.lx, .int .i64 a.ly, .int .i64 a.hx, .int .i64 a.hy], .agg #[.int .i64 b.lx, .int .i64 b.ly, .int .i64 b.hx, .int .i64 b.hy]] w fun en w' => en = .returned (.bool (meetB a b)) ∧ Bw w w' := by
  go_enter Try.func93, Try.ntmps93
  go_wp2
  all_goals
    go_ret
    exact ⟨rb (by simp [meetB]; try omega), by (repeat (with_reducible refine M.Below.drewN ?_ _)); go_grown⟩
theorem in_bx_x (x y : Int) (b : Bx) (w : World) :
    Calls Try.prog 94 #[.agg #[.int .i64 x, .int .i64 y], .agg #[.int .i64 b.lx, .int .i64 b.ly, .int .i64 b.hx, .int .i64 b.hy]] w fun en w' => en = .returned (.bool (inBx (x, y) b)) ∧ Bw w w' := by
  go_enter Try.func94, Try.ntmps94
  go_wp2
  all_goals
    go_ret
    exact ⟨rb (by simp [inBx]; try omega), by (repeat (with_reducible refine M.Below.drewN ?_ _)); go_grown⟩
theorem clamp_x (a l h : Int) (w : World) :
    Calls Try.prog 95 #[.int .i64 a, .int .i64 l, .int .i64 h] w fun en w' => en = .returned (.int .i64 (clampI a l h)) ∧ Dr w w' := by
  go_enter Try.func95, Try.ntmps95
  go_wp2
  all_goals
    go_ret
    exact ⟨r1 (by unfold clampI; split <;> (try split) <;> omega), Dr.refl _⟩
theorem clampV_x (x y : Int) (b : Bx) (w : World) :
    Calls Try.prog 49 #[.agg #[.int .i64 x, .int .i64 y], .agg #[.int .i64 b.lx, .int .i64 b.ly, .int .i64 b.hx, .int .i64 b.hy]] w fun en w' => en = .returned (.agg #[.int .i64 (clampI x b.lx b.hx), .int .i64 (clampI y b.ly b.hy)]) ∧ Bw w w' := by
  have C := Lib.hid clamp_x
  go_enter Try.func49, Try.ntmps49
  go_wp2_with fail
  go_region_held2 (fun w' => w'.cell? ⟨w.heap.size, 0, none⟩ = some (.int .i64 x) ∧ w'.cell? ⟨w.heap.size, 1, none⟩ = some (.int .i64 y)
      ∧ w'.cell? ⟨w.heap.size + 1, 0, none⟩ = some (.int .i64 b.lx) ∧ w'.cell? ⟨w.heap.size + 1, 1, none⟩ = some (.int .i64 b.ly)
      ∧ w'.cell? ⟨w.heap.size + 1, 2, none⟩ = some (.int .i64 b.hx) ∧ w'.cell? ⟨w.heap.size + 1, 3, none⟩ = some (.int .i64 b.hy)) (go_keep)
    ((go_at_call 95; refine (C.out _ _ _ _).mono ?_; rintro en w' ⟨rfl, d1, rfl⟩))
  all_goals
    go_wp2_with fail
    exact bodyPost_ret (v := .agg #[.int .i64 (clampI x b.lx b.hx), .int .i64 (clampI y b.ly b.hy)]) (by simp [results, Try.results49, go_sem]) rfl ⟨rfl, by (repeat (with_reducible refine M.Below.drewN ?_ _)); go_grown⟩
end Go.Proofs.Ytcaibieaobhheaa
