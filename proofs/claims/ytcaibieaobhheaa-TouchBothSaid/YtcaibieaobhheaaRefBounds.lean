/- The reference's box around a body. -/
import Derived.Test.YtcaibieaobhheaaRefVec
import Derived.Deep.RegionHeld2
import Derived.Deep.DrawnRows
namespace Go.Proofs.Ytcaibieaobhheaa
open Go.RowKit M
set_option maxRecDepth 100000
set_option maxHeartbeats 4000000
set_option linter.unusedVariables false
set_option linter.unusedSimpArgs false
attribute [local go_sem ↓] Go.wp_at_zero Go.wp_at_succ
theorem refBounds_x (pb : Nat) (e : Int) (b : Bd) (h : b.ok) (w : World) (hp : PCell w pb e) :
    Calls Try.prog 21 #[.pointer (some ⟨pb, 0, none⟩), .agg #[.int .i64 b.shape, .int .i64 b.sx, .int .i64 b.sy, .int .i64 b.mass, .int .i64 b.px, .int .i64 b.py, .int .i64 b.mx, .int .i64 b.my]] w (RelBx pb e (boxX b) w) := by
  by_cases hs : b.shape = 1
  · have hq := beq_iff_eq.2 hs
    have HE := Lib.hid (show half b = (b.sx, b.sx) by unfold half; rw [if_pos hs])
    have C1 := Lib.hid (refLess_x pb e b.px b.py b.sx b.sx h.px h.py h.sx h.sx)
    have C2 := Lib.hid (fun e => refPlus_x pb e b.px b.py b.sx b.sx h.px h.py h.sx h.sx)
    clear hs
    have hpb : pb < w.heap.size := hp.1
    have hpc := hp.2.1
    have hpf := hp.2.2
    have pn0 : pb ≠ w.heap.size := by omega
    have pm0 : w.heap.size ≠ pb := by omega
    have pn1 : pb ≠ w.heap.size + 1 := by omega
    have pm1 : w.heap.size + 1 ≠ pb := by omega
    have pn2 : pb ≠ w.heap.size + 1 + 1 := by omega
    have pm2 : w.heap.size + 1 + 1 ≠ pb := by omega
    have HG0 := Lib.hid (M.rw_refl hp)
    have PC0 := Lib.hid hp; clear hp
    go_enter Try.func21, Try.ntmps21
    go_wp2_with fail
    (with_reducible refine (C1.out _ (M.pcell_at PC0.out ?_ ?_ ?_)).mono ?_)
    · (try simp [go_sem]) <;> omega
    · simp (disch := ((try simp [go_sem]) <;> omega)) only [World.cell?_drewN, World.cell?_alloc_lt, World.cell?_setCell_far, hpc]
    · simp only [World.frozen?_drewN, World.frozen?_setCell, Go.RowKit.frozen?_alloc_cells, hpf]
    rintro en w1 ⟨x, y, e1, rfl, ix, iy, hr, hb⟩
    have PC1 := M.pcell_behind hb (M.pcell_at (e := e) PC0.out (by (try simp [go_sem]) <;> omega) (by simp (disch := ((try simp [go_sem]) <;> omega)) only [World.cell?_drewN, World.cell?_alloc_lt, World.cell?_setCell_far, hpc]) (by simp only [World.frozen?_drewN, World.frozen?_setCell, Go.RowKit.frozen?_alloc_cells, hpf]))
    have G1 : M.RW pb e1 w w1 := M.rw_step (by have G := HG0.out; (repeat (with_reducible refine M.Below.drewN ?_ _)); go_grown) hb hpb
    have S1 : w.heap.size ≤ w1.heap.size := by have := G1.size; rwa [M.setCell_size] at this
    have hz1 := hb.size; (try simp only [M.setCell_size] at hz1)
    obtain ⟨hc1, hf1⟩ := M.rcell hb
    have L1_0 : w.heap.size < w1.heap.size := by have := hz1; (try simp only [World.size_alloc, World.size_setCell, World.size_drew, World.heap_drewN] at this); omega
    have N1_0 : w1.heap.size ≠ w.heap.size := Nat.ne_of_gt L1_0
    have M1_0 : w.heap.size ≠ w1.heap.size := Nat.ne_of_lt L1_0
    have q1_0_0 : w1.cell? ⟨w.heap.size, 0, none⟩ = some (.int .i64 b.shape) := by rw [hc1 _ _ (by (try simp [go_sem]) <;> omega) (by omega)]; simp [go_sem, hpb, hpc, hpf, pn0, pm0, pn1, pm1, pn2, pm2]
    have q1_0_1 : w1.cell? ⟨w.heap.size, 1, none⟩ = some (.int .i64 b.sx) := by rw [hc1 _ _ (by (try simp [go_sem]) <;> omega) (by omega)]; simp [go_sem, hpb, hpc, hpf, pn0, pm0, pn1, pm1, pn2, pm2]
    have q1_0_2 : w1.cell? ⟨w.heap.size, 2, none⟩ = some (.int .i64 b.sy) := by rw [hc1 _ _ (by (try simp [go_sem]) <;> omega) (by omega)]; simp [go_sem, hpb, hpc, hpf, pn0, pm0, pn1, pm1, pn2, pm2]
    have q1_0_3 : w1.cell? ⟨w.heap.size, 3, none⟩ = some (.int .i64 b.mass) := by rw [hc1 _ _ (by (try simp [go_sem]) <;> omega) (by omega)]; simp [go_sem, hpb, hpc, hpf, pn0, pm0, pn1, pm1, pn2, pm2]
    have q1_0_4 : w1.cell? ⟨w.heap.size, 4, none⟩ = some (.int .i64 b.px) := by rw [hc1 _ _ (by (try simp [go_sem]) <;> omega) (by omega)]; simp [go_sem, hpb, hpc, hpf, pn0, pm0, pn1, pm1, pn2, pm2]
    have q1_0_5 : w1.cell? ⟨w.heap.size, 5, none⟩ = some (.int .i64 b.py) := by rw [hc1 _ _ (by (try simp [go_sem]) <;> omega) (by omega)]; simp [go_sem, hpb, hpc, hpf, pn0, pm0, pn1, pm1, pn2, pm2]
    have q1_0_6 : w1.cell? ⟨w.heap.size, 6, none⟩ = some (.int .i64 b.mx) := by rw [hc1 _ _ (by (try simp [go_sem]) <;> omega) (by omega)]; simp [go_sem, hpb, hpc, hpf, pn0, pm0, pn1, pm1, pn2, pm2]
    have q1_0_7 : w1.cell? ⟨w.heap.size, 7, none⟩ = some (.int .i64 b.my) := by rw [hc1 _ _ (by (try simp [go_sem]) <;> omega) (by omega)]; simp [go_sem, hpb, hpc, hpf, pn0, pm0, pn1, pm1, pn2, pm2]
    have f1_0 : ∀ o, w1.frozen? ⟨w.heap.size, o, none⟩ = false := fun o => by rw [hf1 _ _ (by (try simp [go_sem]) <;> omega)]; simp [go_sem, hpb, hpc, hpf, pn0, pm0, pn1, pm1, pn2, pm2]
    have L1_1 : w.heap.size + 1 < w1.heap.size := by have := hz1; (try simp only [World.size_alloc, World.size_setCell, World.size_drew, World.heap_drewN] at this); omega
    have N1_1 : w1.heap.size ≠ w.heap.size + 1 := Nat.ne_of_gt L1_1
    have M1_1 : w.heap.size + 1 ≠ w1.heap.size := Nat.ne_of_lt L1_1
    have q1_1_0 : w1.cell? ⟨w.heap.size + 1, 0, none⟩ = some (.int .i64 0) := by rw [hc1 _ _ (by (try simp [go_sem]) <;> omega) (by omega)]; simp [go_sem, hpb, hpc, hpf, pn0, pm0, pn1, pm1, pn2, pm2]
    have q1_1_1 : w1.cell? ⟨w.heap.size + 1, 1, none⟩ = some (.int .i64 0) := by rw [hc1 _ _ (by (try simp [go_sem]) <;> omega) (by omega)]; simp [go_sem, hpb, hpc, hpf, pn0, pm0, pn1, pm1, pn2, pm2]
    have q1_1_2 : w1.cell? ⟨w.heap.size + 1, 2, none⟩ = some (.int .i64 0) := by rw [hc1 _ _ (by (try simp [go_sem]) <;> omega) (by omega)]; simp [go_sem, hpb, hpc, hpf, pn0, pm0, pn1, pm1, pn2, pm2]
    have q1_1_3 : w1.cell? ⟨w.heap.size + 1, 3, none⟩ = some (.int .i64 0) := by rw [hc1 _ _ (by (try simp [go_sem]) <;> omega) (by omega)]; simp [go_sem, hpb, hpc, hpf, pn0, pm0, pn1, pm1, pn2, pm2]
    have f1_1 : ∀ o, w1.frozen? ⟨w.heap.size + 1, o, none⟩ = false := fun o => by rw [hf1 _ _ (by (try simp [go_sem]) <;> omega)]; simp [go_sem, hpb, hpc, hpf, pn0, pm0, pn1, pm1, pn2, pm2]
    have L1_2 : w.heap.size + 1 + 1 < w1.heap.size := by have := hz1; (try simp only [World.size_alloc, World.size_setCell, World.size_drew, World.heap_drewN] at this); omega
    have N1_2 : w1.heap.size ≠ w.heap.size + 1 + 1 := Nat.ne_of_gt L1_2
    have M1_2 : w.heap.size + 1 + 1 ≠ w1.heap.size := Nat.ne_of_lt L1_2
    have q1_2_0 : w1.cell? ⟨w.heap.size + 1 + 1, 0, none⟩ = some (.int .i64 b.sx) := by rw [hc1 _ _ (by (try simp [go_sem]) <;> omega) (by omega)]; simp [go_sem, hpb, hpc, hpf, pn0, pm0, pn1, pm1, pn2, pm2]
    have q1_2_1 : w1.cell? ⟨w.heap.size + 1 + 1, 1, none⟩ = some (.int .i64 b.sx) := by rw [hc1 _ _ (by (try simp [go_sem]) <;> omega) (by omega)]; simp [go_sem, hpb, hpc, hpf, pn0, pm0, pn1, pm1, pn2, pm2]
    have f1_2 : ∀ o, w1.frozen? ⟨w.heap.size + 1 + 1, o, none⟩ = false := fun o => by rw [hf1 _ _ (by (try simp [go_sem]) <;> omega)]; simp [go_sem, hpb, hpc, hpf, pn0, pm0, pn1, pm1, pn2, pm2]
    have HG1 := Lib.hid G1; clear G1 hb hc1 hf1 hz1
    have HR1 := Lib.hid hr; clear hr
    have hpb1 := PC1.1; have hpc1 := PC1.2.1; have hpf1 := PC1.2.2; have PC1 := Lib.hid PC1; have pn_1 : pb ≠ w1.heap.size := Nat.ne_of_lt hpb1; have pm_1 : w1.heap.size ≠ pb := Nat.ne_of_gt hpb1
    go_wp2_with fail
    go_region_held2 (fun w' => w'.cell? ⟨w1.heap.size, 0, none⟩ = some (.int .i64 x) ∧ w'.cell? ⟨w1.heap.size, 1, none⟩ = some (.int .i64 y)
        ∧ w'.cell? ⟨w.heap.size, 4, none⟩ = some (.int .i64 b.px) ∧ w'.cell? ⟨w.heap.size, 5, none⟩ = some (.int .i64 b.py)
        ∧ w'.cell? ⟨w.heap.size + 1 + 1, 0, none⟩ = some (.int .i64 b.sx) ∧ w'.cell? ⟨w.heap.size + 1 + 1, 1, none⟩ = some (.int .i64 b.sx)) (go_keep)
      (
      (go_at_call 65
       refine (C2.out _ _ (M.pcell_at PC1.out ?_ ?_ ?_)).mono ?_
       · (try simp [go_sem]) <;> omega
       · simp (disch := ((try simp [go_sem]) <;> omega)) only [World.cell?_drew, World.cell?_drewN, World.cell?_alloc_lt, World.cell?_setCell_far, hpc1]
       · simp only [World.frozen?_drew, World.frozen?_drewN, World.frozen?_setCell, Go.RowKit.frozen?_alloc_cells, hpf1]
       rintro en w2 ⟨u, v, e2, rfl, iu, iv, hr, hb⟩
       have PC2 := M.pcell_behind hb (M.pcell_at (e := e1) PC1.out (by (try simp [go_sem]) <;> omega) (by simp (disch := ((try simp [go_sem]) <;> omega)) only [World.cell?_drew, World.cell?_drewN, World.cell?_alloc_lt, World.cell?_setCell_far, hpc1]) (by simp only [World.frozen?_drew, World.frozen?_drewN, World.frozen?_setCell, Go.RowKit.frozen?_alloc_cells, hpf1]))
       have G2 : M.RW pb e2 w w2 := M.rw_step (by have G := HG1.out; (repeat (with_reducible refine M.Below.drewN ?_ _)); go_grown) hb hpb
       have S2 : w.heap.size ≤ w2.heap.size := by have := G2.size; rwa [M.setCell_size] at this
       have hz2 := hb.size; (try simp only [M.setCell_size] at hz2)
       obtain ⟨hc2, hf2⟩ := M.rcell hb
       have L2_0 : w.heap.size < w2.heap.size := by have := hz2; (try simp only [World.size_alloc, World.size_setCell, World.size_drew, World.heap_drewN] at this); omega
       have N2_0 : w2.heap.size ≠ w.heap.size := Nat.ne_of_gt L2_0
       have M2_0 : w.heap.size ≠ w2.heap.size := Nat.ne_of_lt L2_0
       have q2_0_0 : w2.cell? ⟨w.heap.size, 0, none⟩ = some (.int .i64 b.shape) := by rw [hc2 _ _ (by (try simp [go_sem]) <;> omega) (by omega)]; simp [go_sem, hpb, hpc, hpf, pn0, pm0, pn1, pm1, pn2, pm2, L1_0, f1_0, N1_0, M1_0, q1_0_0, q1_0_1, q1_0_2, q1_0_3, q1_0_4, q1_0_5, q1_0_6, q1_0_7, L1_1, f1_1, N1_1, M1_1, q1_1_0, q1_1_1, q1_1_2, q1_1_3, L1_2, f1_2, N1_2, M1_2, q1_2_0, q1_2_1, S1, hpb1, hpc1, hpf1, pn_1, pm_1]
       have q2_0_1 : w2.cell? ⟨w.heap.size, 1, none⟩ = some (.int .i64 b.sx) := by rw [hc2 _ _ (by (try simp [go_sem]) <;> omega) (by omega)]; simp [go_sem, hpb, hpc, hpf, pn0, pm0, pn1, pm1, pn2, pm2, L1_0, f1_0, N1_0, M1_0, q1_0_0, q1_0_1, q1_0_2, q1_0_3, q1_0_4, q1_0_5, q1_0_6, q1_0_7, L1_1, f1_1, N1_1, M1_1, q1_1_0, q1_1_1, q1_1_2, q1_1_3, L1_2, f1_2, N1_2, M1_2, q1_2_0, q1_2_1, S1, hpb1, hpc1, hpf1, pn_1, pm_1]
       have q2_0_2 : w2.cell? ⟨w.heap.size, 2, none⟩ = some (.int .i64 b.sy) := by rw [hc2 _ _ (by (try simp [go_sem]) <;> omega) (by omega)]; simp [go_sem, hpb, hpc, hpf, pn0, pm0, pn1, pm1, pn2, pm2, L1_0, f1_0, N1_0, M1_0, q1_0_0, q1_0_1, q1_0_2, q1_0_3, q1_0_4, q1_0_5, q1_0_6, q1_0_7, L1_1, f1_1, N1_1, M1_1, q1_1_0, q1_1_1, q1_1_2, q1_1_3, L1_2, f1_2, N1_2, M1_2, q1_2_0, q1_2_1, S1, hpb1, hpc1, hpf1, pn_1, pm_1]
       have q2_0_3 : w2.cell? ⟨w.heap.size, 3, none⟩ = some (.int .i64 b.mass) := by rw [hc2 _ _ (by (try simp [go_sem]) <;> omega) (by omega)]; simp [go_sem, hpb, hpc, hpf, pn0, pm0, pn1, pm1, pn2, pm2, L1_0, f1_0, N1_0, M1_0, q1_0_0, q1_0_1, q1_0_2, q1_0_3, q1_0_4, q1_0_5, q1_0_6, q1_0_7, L1_1, f1_1, N1_1, M1_1, q1_1_0, q1_1_1, q1_1_2, q1_1_3, L1_2, f1_2, N1_2, M1_2, q1_2_0, q1_2_1, S1, hpb1, hpc1, hpf1, pn_1, pm_1]
       have q2_0_4 : w2.cell? ⟨w.heap.size, 4, none⟩ = some (.int .i64 b.px) := by rw [hc2 _ _ (by (try simp [go_sem]) <;> omega) (by omega)]; simp [go_sem, hpb, hpc, hpf, pn0, pm0, pn1, pm1, pn2, pm2, L1_0, f1_0, N1_0, M1_0, q1_0_0, q1_0_1, q1_0_2, q1_0_3, q1_0_4, q1_0_5, q1_0_6, q1_0_7, L1_1, f1_1, N1_1, M1_1, q1_1_0, q1_1_1, q1_1_2, q1_1_3, L1_2, f1_2, N1_2, M1_2, q1_2_0, q1_2_1, S1, hpb1, hpc1, hpf1, pn_1, pm_1]
       have q2_0_5 : w2.cell? ⟨w.heap.size, 5, none⟩ = some (.int .i64 b.py) := by rw [hc2 _ _ (by (try simp [go_sem]) <;> omega) (by omega)]; simp [go_sem, hpb, hpc, hpf, pn0, pm0, pn1, pm1, pn2, pm2, L1_0, f1_0, N1_0, M1_0, q1_0_0, q1_0_1, q1_0_2, q1_0_3, q1_0_4, q1_0_5, q1_0_6, q1_0_7, L1_1, f1_1, N1_1, M1_1, q1_1_0, q1_1_1, q1_1_2, q1_1_3, L1_2, f1_2, N1_2, M1_2, q1_2_0, q1_2_1, S1, hpb1, hpc1, hpf1, pn_1, pm_1]
       have q2_0_6 : w2.cell? ⟨w.heap.size, 6, none⟩ = some (.int .i64 b.mx) := by rw [hc2 _ _ (by (try simp [go_sem]) <;> omega) (by omega)]; simp [go_sem, hpb, hpc, hpf, pn0, pm0, pn1, pm1, pn2, pm2, L1_0, f1_0, N1_0, M1_0, q1_0_0, q1_0_1, q1_0_2, q1_0_3, q1_0_4, q1_0_5, q1_0_6, q1_0_7, L1_1, f1_1, N1_1, M1_1, q1_1_0, q1_1_1, q1_1_2, q1_1_3, L1_2, f1_2, N1_2, M1_2, q1_2_0, q1_2_1, S1, hpb1, hpc1, hpf1, pn_1, pm_1]
       have q2_0_7 : w2.cell? ⟨w.heap.size, 7, none⟩ = some (.int .i64 b.my) := by rw [hc2 _ _ (by (try simp [go_sem]) <;> omega) (by omega)]; simp [go_sem, hpb, hpc, hpf, pn0, pm0, pn1, pm1, pn2, pm2, L1_0, f1_0, N1_0, M1_0, q1_0_0, q1_0_1, q1_0_2, q1_0_3, q1_0_4, q1_0_5, q1_0_6, q1_0_7, L1_1, f1_1, N1_1, M1_1, q1_1_0, q1_1_1, q1_1_2, q1_1_3, L1_2, f1_2, N1_2, M1_2, q1_2_0, q1_2_1, S1, hpb1, hpc1, hpf1, pn_1, pm_1]
       have f2_0 : ∀ o, w2.frozen? ⟨w.heap.size, o, none⟩ = false := fun o => by rw [hf2 _ _ (by (try simp [go_sem]) <;> omega)]; simp [go_sem, hpb, hpc, hpf, pn0, pm0, pn1, pm1, pn2, pm2, L1_0, f1_0, N1_0, M1_0, q1_0_0, q1_0_1, q1_0_2, q1_0_3, q1_0_4, q1_0_5, q1_0_6, q1_0_7, L1_1, f1_1, N1_1, M1_1, q1_1_0, q1_1_1, q1_1_2, q1_1_3, L1_2, f1_2, N1_2, M1_2, q1_2_0, q1_2_1, S1, hpb1, hpc1, hpf1, pn_1, pm_1]
       have L2_1 : w.heap.size + 1 < w2.heap.size := by have := hz2; (try simp only [World.size_alloc, World.size_setCell, World.size_drew, World.heap_drewN] at this); omega
       have N2_1 : w2.heap.size ≠ w.heap.size + 1 := Nat.ne_of_gt L2_1
       have M2_1 : w.heap.size + 1 ≠ w2.heap.size := Nat.ne_of_lt L2_1
       have q2_1_0 : w2.cell? ⟨w.heap.size + 1, 0, none⟩ = some (.int .i64 0) := by rw [hc2 _ _ (by (try simp [go_sem]) <;> omega) (by omega)]; simp [go_sem, hpb, hpc, hpf, pn0, pm0, pn1, pm1, pn2, pm2, L1_0, f1_0, N1_0, M1_0, q1_0_0, q1_0_1, q1_0_2, q1_0_3, q1_0_4, q1_0_5, q1_0_6, q1_0_7, L1_1, f1_1, N1_1, M1_1, q1_1_0, q1_1_1, q1_1_2, q1_1_3, L1_2, f1_2, N1_2, M1_2, q1_2_0, q1_2_1, S1, hpb1, hpc1, hpf1, pn_1, pm_1]
       have q2_1_1 : w2.cell? ⟨w.heap.size + 1, 1, none⟩ = some (.int .i64 0) := by rw [hc2 _ _ (by (try simp [go_sem]) <;> omega) (by omega)]; simp [go_sem, hpb, hpc, hpf, pn0, pm0, pn1, pm1, pn2, pm2, L1_0, f1_0, N1_0, M1_0, q1_0_0, q1_0_1, q1_0_2, q1_0_3, q1_0_4, q1_0_5, q1_0_6, q1_0_7, L1_1, f1_1, N1_1, M1_1, q1_1_0, q1_1_1, q1_1_2, q1_1_3, L1_2, f1_2, N1_2, M1_2, q1_2_0, q1_2_1, S1, hpb1, hpc1, hpf1, pn_1, pm_1]
       have q2_1_2 : w2.cell? ⟨w.heap.size + 1, 2, none⟩ = some (.int .i64 0) := by rw [hc2 _ _ (by (try simp [go_sem]) <;> omega) (by omega)]; simp [go_sem, hpb, hpc, hpf, pn0, pm0, pn1, pm1, pn2, pm2, L1_0, f1_0, N1_0, M1_0, q1_0_0, q1_0_1, q1_0_2, q1_0_3, q1_0_4, q1_0_5, q1_0_6, q1_0_7, L1_1, f1_1, N1_1, M1_1, q1_1_0, q1_1_1, q1_1_2, q1_1_3, L1_2, f1_2, N1_2, M1_2, q1_2_0, q1_2_1, S1, hpb1, hpc1, hpf1, pn_1, pm_1]
       have q2_1_3 : w2.cell? ⟨w.heap.size + 1, 3, none⟩ = some (.int .i64 0) := by rw [hc2 _ _ (by (try simp [go_sem]) <;> omega) (by omega)]; simp [go_sem, hpb, hpc, hpf, pn0, pm0, pn1, pm1, pn2, pm2, L1_0, f1_0, N1_0, M1_0, q1_0_0, q1_0_1, q1_0_2, q1_0_3, q1_0_4, q1_0_5, q1_0_6, q1_0_7, L1_1, f1_1, N1_1, M1_1, q1_1_0, q1_1_1, q1_1_2, q1_1_3, L1_2, f1_2, N1_2, M1_2, q1_2_0, q1_2_1, S1, hpb1, hpc1, hpf1, pn_1, pm_1]
       have f2_1 : ∀ o, w2.frozen? ⟨w.heap.size + 1, o, none⟩ = false := fun o => by rw [hf2 _ _ (by (try simp [go_sem]) <;> omega)]; simp [go_sem, hpb, hpc, hpf, pn0, pm0, pn1, pm1, pn2, pm2, L1_0, f1_0, N1_0, M1_0, q1_0_0, q1_0_1, q1_0_2, q1_0_3, q1_0_4, q1_0_5, q1_0_6, q1_0_7, L1_1, f1_1, N1_1, M1_1, q1_1_0, q1_1_1, q1_1_2, q1_1_3, L1_2, f1_2, N1_2, M1_2, q1_2_0, q1_2_1, S1, hpb1, hpc1, hpf1, pn_1, pm_1]
       have L2_2 : w.heap.size + 1 + 1 < w2.heap.size := by have := hz2; (try simp only [World.size_alloc, World.size_setCell, World.size_drew, World.heap_drewN] at this); omega
       have N2_2 : w2.heap.size ≠ w.heap.size + 1 + 1 := Nat.ne_of_gt L2_2
       have M2_2 : w.heap.size + 1 + 1 ≠ w2.heap.size := Nat.ne_of_lt L2_2
       have q2_2_0 : w2.cell? ⟨w.heap.size + 1 + 1, 0, none⟩ = some (.int .i64 b.sx) := by rw [hc2 _ _ (by (try simp [go_sem]) <;> omega) (by omega)]; simp [go_sem, hpb, hpc, hpf, pn0, pm0, pn1, pm1, pn2, pm2, L1_0, f1_0, N1_0, M1_0, q1_0_0, q1_0_1, q1_0_2, q1_0_3, q1_0_4, q1_0_5, q1_0_6, q1_0_7, L1_1, f1_1, N1_1, M1_1, q1_1_0, q1_1_1, q1_1_2, q1_1_3, L1_2, f1_2, N1_2, M1_2, q1_2_0, q1_2_1, S1, hpb1, hpc1, hpf1, pn_1, pm_1]
       have q2_2_1 : w2.cell? ⟨w.heap.size + 1 + 1, 1, none⟩ = some (.int .i64 b.sx) := by rw [hc2 _ _ (by (try simp [go_sem]) <;> omega) (by omega)]; simp [go_sem, hpb, hpc, hpf, pn0, pm0, pn1, pm1, pn2, pm2, L1_0, f1_0, N1_0, M1_0, q1_0_0, q1_0_1, q1_0_2, q1_0_3, q1_0_4, q1_0_5, q1_0_6, q1_0_7, L1_1, f1_1, N1_1, M1_1, q1_1_0, q1_1_1, q1_1_2, q1_1_3, L1_2, f1_2, N1_2, M1_2, q1_2_0, q1_2_1, S1, hpb1, hpc1, hpf1, pn_1, pm_1]
       have f2_2 : ∀ o, w2.frozen? ⟨w.heap.size + 1 + 1, o, none⟩ = false := fun o => by rw [hf2 _ _ (by (try simp [go_sem]) <;> omega)]; simp [go_sem, hpb, hpc, hpf, pn0, pm0, pn1, pm1, pn2, pm2, L1_0, f1_0, N1_0, M1_0, q1_0_0, q1_0_1, q1_0_2, q1_0_3, q1_0_4, q1_0_5, q1_0_6, q1_0_7, L1_1, f1_1, N1_1, M1_1, q1_1_0, q1_1_1, q1_1_2, q1_1_3, L1_2, f1_2, N1_2, M1_2, q1_2_0, q1_2_1, S1, hpb1, hpc1, hpf1, pn_1, pm_1]
       have L2_w1_0 : w1.heap.size < w2.heap.size := by have := hz2; (try simp only [World.size_alloc, World.size_setCell, World.size_drew, World.heap_drewN] at this); omega
       have N2_w1_0 : w2.heap.size ≠ w1.heap.size := Nat.ne_of_gt L2_w1_0
       have M2_w1_0 : w1.heap.size ≠ w2.heap.size := Nat.ne_of_lt L2_w1_0
       have q2_w1_0_0 : w2.cell? ⟨w1.heap.size, 0, none⟩ = some (.int .i64 x) := by rw [hc2 _ _ (by (try simp [go_sem]) <;> omega) (by omega)]; simp [go_sem, hpb, hpc, hpf, pn0, pm0, pn1, pm1, pn2, pm2, L1_0, f1_0, N1_0, M1_0, q1_0_0, q1_0_1, q1_0_2, q1_0_3, q1_0_4, q1_0_5, q1_0_6, q1_0_7, L1_1, f1_1, N1_1, M1_1, q1_1_0, q1_1_1, q1_1_2, q1_1_3, L1_2, f1_2, N1_2, M1_2, q1_2_0, q1_2_1, S1, hpb1, hpc1, hpf1, pn_1, pm_1]
       have q2_w1_0_1 : w2.cell? ⟨w1.heap.size, 1, none⟩ = some (.int .i64 y) := by rw [hc2 _ _ (by (try simp [go_sem]) <;> omega) (by omega)]; simp [go_sem, hpb, hpc, hpf, pn0, pm0, pn1, pm1, pn2, pm2, L1_0, f1_0, N1_0, M1_0, q1_0_0, q1_0_1, q1_0_2, q1_0_3, q1_0_4, q1_0_5, q1_0_6, q1_0_7, L1_1, f1_1, N1_1, M1_1, q1_1_0, q1_1_1, q1_1_2, q1_1_3, L1_2, f1_2, N1_2, M1_2, q1_2_0, q1_2_1, S1, hpb1, hpc1, hpf1, pn_1, pm_1]
       have f2_w1_0 : ∀ o, w2.frozen? ⟨w1.heap.size, o, none⟩ = false := fun o => by rw [hf2 _ _ (by (try simp [go_sem]) <;> omega)]; simp [go_sem, hpb, hpc, hpf, pn0, pm0, pn1, pm1, pn2, pm2, L1_0, f1_0, N1_0, M1_0, q1_0_0, q1_0_1, q1_0_2, q1_0_3, q1_0_4, q1_0_5, q1_0_6, q1_0_7, L1_1, f1_1, N1_1, M1_1, q1_1_0, q1_1_1, q1_1_2, q1_1_3, L1_2, f1_2, N1_2, M1_2, q1_2_0, q1_2_1, S1, hpb1, hpc1, hpf1, pn_1, pm_1]
       have HG2 := Lib.hid G2; clear G2 hb hc2 hf2 hz2
       have HR2 := Lib.hid hr; clear hr
       have hpb2 := PC2.1; have hpc2 := PC2.2.1; have hpf2 := PC2.2.2; have PC2 := Lib.hid PC2; have pn_2 : pb ≠ w2.heap.size := Nat.ne_of_lt hpb2; have pm_2 : w2.heap.size ≠ pb := Nat.ne_of_gt hpb2)
      )
    go_wp2_with fail
    refine bodyPost_ret (v := .agg #[.int .i64 x, .int .i64 y, .int .i64 u, .int .i64 v]) (by simp [results, Try.results21, go_sem, hpb, hpc, hpf, pn0, pm0, pn1, pm1, pn2, pm2, L1_0, f1_0, N1_0, M1_0, q1_0_0, q1_0_1, q1_0_2, q1_0_3, q1_0_4, q1_0_5, q1_0_6, q1_0_7, L1_1, f1_1, N1_1, M1_1, q1_1_0, q1_1_1, q1_1_2, q1_1_3, L1_2, f1_2, N1_2, M1_2, q1_2_0, q1_2_1, S1, hpb1, hpc1, hpf1, pn_1, pm_1, L2_0, f2_0, N2_0, M2_0, q2_0_0, q2_0_1, q2_0_2, q2_0_3, q2_0_4, q2_0_5, q2_0_6, q2_0_7, L2_1, f2_1, N2_1, M2_1, q2_1_0, q2_1_1, q2_1_2, q2_1_3, L2_2, f2_2, N2_2, M2_2, q2_2_0, q2_2_1, L2_w1_0, f2_w1_0, N2_w1_0, M2_w1_0, q2_w1_0_0, q2_w1_0_1, S2, hpb2, hpc2, hpf2, pn_2, pm_2]) rfl ⟨⟨x, y, u, v⟩, e2, rfl, ⟨ix, iy, iu, iv⟩, (by unfold boxX Bd.pos; rw [HE.out]; exact rel_bind HR1.out (rel_bind HR2.out (rel_ok _ _))), by have G := HG2.out; (repeat (with_reducible refine M.Below.drewN ?_ _)); go_grown⟩
  · have hq := beq_eq_false_iff_ne.2 hs
    have HE := Lib.hid (show half b = (b.sx, b.sy) by unfold half; rw [if_neg hs])
    have C1 := Lib.hid (refLess_x pb e b.px b.py b.sx b.sy h.px h.py h.sx h.sy)
    have C2 := Lib.hid (fun e => refPlus_x pb e b.px b.py b.sx b.sy h.px h.py h.sx h.sy)
    clear hs
    have hpb : pb < w.heap.size := hp.1
    have hpc := hp.2.1
    have hpf := hp.2.2
    have pn0 : pb ≠ w.heap.size := by omega
    have pm0 : w.heap.size ≠ pb := by omega
    have pn1 : pb ≠ w.heap.size + 1 := by omega
    have pm1 : w.heap.size + 1 ≠ pb := by omega
    have pn2 : pb ≠ w.heap.size + 1 + 1 := by omega
    have pm2 : w.heap.size + 1 + 1 ≠ pb := by omega
    have HG0 := Lib.hid (M.rw_refl hp)
    have PC0 := Lib.hid hp; clear hp
    go_enter Try.func21, Try.ntmps21
    go_wp2_with fail
    (with_reducible refine (C1.out _ (M.pcell_at PC0.out ?_ ?_ ?_)).mono ?_)
    · (try simp [go_sem]) <;> omega
    · simp (disch := ((try simp [go_sem]) <;> omega)) only [World.cell?_drewN, World.cell?_alloc_lt, World.cell?_setCell_far, hpc]
    · simp only [World.frozen?_drewN, World.frozen?_setCell, Go.RowKit.frozen?_alloc_cells, hpf]
    rintro en w1 ⟨x, y, e1, rfl, ix, iy, hr, hb⟩
    have PC1 := M.pcell_behind hb (M.pcell_at (e := e) PC0.out (by (try simp [go_sem]) <;> omega) (by simp (disch := ((try simp [go_sem]) <;> omega)) only [World.cell?_drewN, World.cell?_alloc_lt, World.cell?_setCell_far, hpc]) (by simp only [World.frozen?_drewN, World.frozen?_setCell, Go.RowKit.frozen?_alloc_cells, hpf]))
    have G1 : M.RW pb e1 w w1 := M.rw_step (by have G := HG0.out; (repeat (with_reducible refine M.Below.drewN ?_ _)); go_grown) hb hpb
    have S1 : w.heap.size ≤ w1.heap.size := by have := G1.size; rwa [M.setCell_size] at this
    have hz1 := hb.size; (try simp only [M.setCell_size] at hz1)
    obtain ⟨hc1, hf1⟩ := M.rcell hb
    have L1_0 : w.heap.size < w1.heap.size := by have := hz1; (try simp only [World.size_alloc, World.size_setCell, World.size_drew, World.heap_drewN] at this); omega
    have N1_0 : w1.heap.size ≠ w.heap.size := Nat.ne_of_gt L1_0
    have M1_0 : w.heap.size ≠ w1.heap.size := Nat.ne_of_lt L1_0
    have q1_0_0 : w1.cell? ⟨w.heap.size, 0, none⟩ = some (.int .i64 b.shape) := by rw [hc1 _ _ (by (try simp [go_sem]) <;> omega) (by omega)]; simp [go_sem, hpb, hpc, hpf, pn0, pm0, pn1, pm1, pn2, pm2]
    have q1_0_1 : w1.cell? ⟨w.heap.size, 1, none⟩ = some (.int .i64 b.sx) := by rw [hc1 _ _ (by (try simp [go_sem]) <;> omega) (by omega)]; simp [go_sem, hpb, hpc, hpf, pn0, pm0, pn1, pm1, pn2, pm2]
    have q1_0_2 : w1.cell? ⟨w.heap.size, 2, none⟩ = some (.int .i64 b.sy) := by rw [hc1 _ _ (by (try simp [go_sem]) <;> omega) (by omega)]; simp [go_sem, hpb, hpc, hpf, pn0, pm0, pn1, pm1, pn2, pm2]
    have q1_0_3 : w1.cell? ⟨w.heap.size, 3, none⟩ = some (.int .i64 b.mass) := by rw [hc1 _ _ (by (try simp [go_sem]) <;> omega) (by omega)]; simp [go_sem, hpb, hpc, hpf, pn0, pm0, pn1, pm1, pn2, pm2]
    have q1_0_4 : w1.cell? ⟨w.heap.size, 4, none⟩ = some (.int .i64 b.px) := by rw [hc1 _ _ (by (try simp [go_sem]) <;> omega) (by omega)]; simp [go_sem, hpb, hpc, hpf, pn0, pm0, pn1, pm1, pn2, pm2]
    have q1_0_5 : w1.cell? ⟨w.heap.size, 5, none⟩ = some (.int .i64 b.py) := by rw [hc1 _ _ (by (try simp [go_sem]) <;> omega) (by omega)]; simp [go_sem, hpb, hpc, hpf, pn0, pm0, pn1, pm1, pn2, pm2]
    have q1_0_6 : w1.cell? ⟨w.heap.size, 6, none⟩ = some (.int .i64 b.mx) := by rw [hc1 _ _ (by (try simp [go_sem]) <;> omega) (by omega)]; simp [go_sem, hpb, hpc, hpf, pn0, pm0, pn1, pm1, pn2, pm2]
    have q1_0_7 : w1.cell? ⟨w.heap.size, 7, none⟩ = some (.int .i64 b.my) := by rw [hc1 _ _ (by (try simp [go_sem]) <;> omega) (by omega)]; simp [go_sem, hpb, hpc, hpf, pn0, pm0, pn1, pm1, pn2, pm2]
    have f1_0 : ∀ o, w1.frozen? ⟨w.heap.size, o, none⟩ = false := fun o => by rw [hf1 _ _ (by (try simp [go_sem]) <;> omega)]; simp [go_sem, hpb, hpc, hpf, pn0, pm0, pn1, pm1, pn2, pm2]
    have L1_1 : w.heap.size + 1 < w1.heap.size := by have := hz1; (try simp only [World.size_alloc, World.size_setCell, World.size_drew, World.heap_drewN] at this); omega
    have N1_1 : w1.heap.size ≠ w.heap.size + 1 := Nat.ne_of_gt L1_1
    have M1_1 : w.heap.size + 1 ≠ w1.heap.size := Nat.ne_of_lt L1_1
    have q1_1_0 : w1.cell? ⟨w.heap.size + 1, 0, none⟩ = some (.int .i64 0) := by rw [hc1 _ _ (by (try simp [go_sem]) <;> omega) (by omega)]; simp [go_sem, hpb, hpc, hpf, pn0, pm0, pn1, pm1, pn2, pm2]
    have q1_1_1 : w1.cell? ⟨w.heap.size + 1, 1, none⟩ = some (.int .i64 0) := by rw [hc1 _ _ (by (try simp [go_sem]) <;> omega) (by omega)]; simp [go_sem, hpb, hpc, hpf, pn0, pm0, pn1, pm1, pn2, pm2]
    have q1_1_2 : w1.cell? ⟨w.heap.size + 1, 2, none⟩ = some (.int .i64 0) := by rw [hc1 _ _ (by (try simp [go_sem]) <;> omega) (by omega)]; simp [go_sem, hpb, hpc, hpf, pn0, pm0, pn1, pm1, pn2, pm2]
    have q1_1_3 : w1.cell? ⟨w.heap.size + 1, 3, none⟩ = some (.int .i64 0) := by rw [hc1 _ _ (by (try simp [go_sem]) <;> omega) (by omega)]; simp [go_sem, hpb, hpc, hpf, pn0, pm0, pn1, pm1, pn2, pm2]
    have f1_1 : ∀ o, w1.frozen? ⟨w.heap.size + 1, o, none⟩ = false := fun o => by rw [hf1 _ _ (by (try simp [go_sem]) <;> omega)]; simp [go_sem, hpb, hpc, hpf, pn0, pm0, pn1, pm1, pn2, pm2]
    have L1_2 : w.heap.size + 1 + 1 < w1.heap.size := by have := hz1; (try simp only [World.size_alloc, World.size_setCell, World.size_drew, World.heap_drewN] at this); omega
    have N1_2 : w1.heap.size ≠ w.heap.size + 1 + 1 := Nat.ne_of_gt L1_2
    have M1_2 : w.heap.size + 1 + 1 ≠ w1.heap.size := Nat.ne_of_lt L1_2
    have q1_2_0 : w1.cell? ⟨w.heap.size + 1 + 1, 0, none⟩ = some (.int .i64 b.sx) := by rw [hc1 _ _ (by (try simp [go_sem]) <;> omega) (by omega)]; simp [go_sem, hpb, hpc, hpf, pn0, pm0, pn1, pm1, pn2, pm2]
    have q1_2_1 : w1.cell? ⟨w.heap.size + 1 + 1, 1, none⟩ = some (.int .i64 b.sy) := by rw [hc1 _ _ (by (try simp [go_sem]) <;> omega) (by omega)]; simp [go_sem, hpb, hpc, hpf, pn0, pm0, pn1, pm1, pn2, pm2]
    have f1_2 : ∀ o, w1.frozen? ⟨w.heap.size + 1 + 1, o, none⟩ = false := fun o => by rw [hf1 _ _ (by (try simp [go_sem]) <;> omega)]; simp [go_sem, hpb, hpc, hpf, pn0, pm0, pn1, pm1, pn2, pm2]
    have HG1 := Lib.hid G1; clear G1 hb hc1 hf1 hz1
    have HR1 := Lib.hid hr; clear hr
    have hpb1 := PC1.1; have hpc1 := PC1.2.1; have hpf1 := PC1.2.2; have PC1 := Lib.hid PC1; have pn_1 : pb ≠ w1.heap.size := Nat.ne_of_lt hpb1; have pm_1 : w1.heap.size ≠ pb := Nat.ne_of_gt hpb1
    go_wp2_with fail
    go_region_held2 (fun w' => w'.cell? ⟨w1.heap.size, 0, none⟩ = some (.int .i64 x) ∧ w'.cell? ⟨w1.heap.size, 1, none⟩ = some (.int .i64 y)
        ∧ w'.cell? ⟨w.heap.size, 4, none⟩ = some (.int .i64 b.px) ∧ w'.cell? ⟨w.heap.size, 5, none⟩ = some (.int .i64 b.py)
        ∧ w'.cell? ⟨w.heap.size + 1 + 1, 0, none⟩ = some (.int .i64 b.sx) ∧ w'.cell? ⟨w.heap.size + 1 + 1, 1, none⟩ = some (.int .i64 b.sy)) (go_keep)
      (
      (go_at_call 65
       refine (C2.out _ _ (M.pcell_at PC1.out ?_ ?_ ?_)).mono ?_
       · (try simp [go_sem]) <;> omega
       · simp (disch := ((try simp [go_sem]) <;> omega)) only [World.cell?_drew, World.cell?_drewN, World.cell?_alloc_lt, World.cell?_setCell_far, hpc1]
       · simp only [World.frozen?_drew, World.frozen?_drewN, World.frozen?_setCell, Go.RowKit.frozen?_alloc_cells, hpf1]
       rintro en w2 ⟨u, v, e2, rfl, iu, iv, hr, hb⟩
       have PC2 := M.pcell_behind hb (M.pcell_at (e := e1) PC1.out (by (try simp [go_sem]) <;> omega) (by simp (disch := ((try simp [go_sem]) <;> omega)) only [World.cell?_drew, World.cell?_drewN, World.cell?_alloc_lt, World.cell?_setCell_far, hpc1]) (by simp only [World.frozen?_drew, World.frozen?_drewN, World.frozen?_setCell, Go.RowKit.frozen?_alloc_cells, hpf1]))
       have G2 : M.RW pb e2 w w2 := M.rw_step (by have G := HG1.out; (repeat (with_reducible refine M.Below.drewN ?_ _)); go_grown) hb hpb
       have S2 : w.heap.size ≤ w2.heap.size := by have := G2.size; rwa [M.setCell_size] at this
       have hz2 := hb.size; (try simp only [M.setCell_size] at hz2)
       obtain ⟨hc2, hf2⟩ := M.rcell hb
       have L2_0 : w.heap.size < w2.heap.size := by have := hz2; (try simp only [World.size_alloc, World.size_setCell, World.size_drew, World.heap_drewN] at this); omega
       have N2_0 : w2.heap.size ≠ w.heap.size := Nat.ne_of_gt L2_0
       have M2_0 : w.heap.size ≠ w2.heap.size := Nat.ne_of_lt L2_0
       have q2_0_0 : w2.cell? ⟨w.heap.size, 0, none⟩ = some (.int .i64 b.shape) := by rw [hc2 _ _ (by (try simp [go_sem]) <;> omega) (by omega)]; simp [go_sem, hpb, hpc, hpf, pn0, pm0, pn1, pm1, pn2, pm2, L1_0, f1_0, N1_0, M1_0, q1_0_0, q1_0_1, q1_0_2, q1_0_3, q1_0_4, q1_0_5, q1_0_6, q1_0_7, L1_1, f1_1, N1_1, M1_1, q1_1_0, q1_1_1, q1_1_2, q1_1_3, L1_2, f1_2, N1_2, M1_2, q1_2_0, q1_2_1, S1, hpb1, hpc1, hpf1, pn_1, pm_1]
       have q2_0_1 : w2.cell? ⟨w.heap.size, 1, none⟩ = some (.int .i64 b.sx) := by rw [hc2 _ _ (by (try simp [go_sem]) <;> omega) (by omega)]; simp [go_sem, hpb, hpc, hpf, pn0, pm0, pn1, pm1, pn2, pm2, L1_0, f1_0, N1_0, M1_0, q1_0_0, q1_0_1, q1_0_2, q1_0_3, q1_0_4, q1_0_5, q1_0_6, q1_0_7, L1_1, f1_1, N1_1, M1_1, q1_1_0, q1_1_1, q1_1_2, q1_1_3, L1_2, f1_2, N1_2, M1_2, q1_2_0, q1_2_1, S1, hpb1, hpc1, hpf1, pn_1, pm_1]
       have q2_0_2 : w2.cell? ⟨w.heap.size, 2, none⟩ = some (.int .i64 b.sy) := by rw [hc2 _ _ (by (try simp [go_sem]) <;> omega) (by omega)]; simp [go_sem, hpb, hpc, hpf, pn0, pm0, pn1, pm1, pn2, pm2, L1_0, f1_0, N1_0, M1_0, q1_0_0, q1_0_1, q1_0_2, q1_0_3, q1_0_4, q1_0_5, q1_0_6, q1_0_7, L1_1, f1_1, N1_1, M1_1, q1_1_0, q1_1_1, q1_1_2, q1_1_3, L1_2, f1_2, N1_2, M1_2, q1_2_0, q1_2_1, S1, hpb1, hpc1, hpf1, pn_1, pm_1]
       have q2_0_3 : w2.cell? ⟨w.heap.size, 3, none⟩ = some (.int .i64 b.mass) := by rw [hc2 _ _ (by (try simp [go_sem]) <;> omega) (by omega)]; simp [go_sem, hpb, hpc, hpf, pn0, pm0, pn1, pm1, pn2, pm2, L1_0, f1_0, N1_0, M1_0, q1_0_0, q1_0_1, q1_0_2, q1_0_3, q1_0_4, q1_0_5, q1_0_6, q1_0_7, L1_1, f1_1, N1_1, M1_1, q1_1_0, q1_1_1, q1_1_2, q1_1_3, L1_2, f1_2, N1_2, M1_2, q1_2_0, q1_2_1, S1, hpb1, hpc1, hpf1, pn_1, pm_1]
       have q2_0_4 : w2.cell? ⟨w.heap.size, 4, none⟩ = some (.int .i64 b.px) := by rw [hc2 _ _ (by (try simp [go_sem]) <;> omega) (by omega)]; simp [go_sem, hpb, hpc, hpf, pn0, pm0, pn1, pm1, pn2, pm2, L1_0, f1_0, N1_0, M1_0, q1_0_0, q1_0_1, q1_0_2, q1_0_3, q1_0_4, q1_0_5, q1_0_6, q1_0_7, L1_1, f1_1, N1_1, M1_1, q1_1_0, q1_1_1, q1_1_2, q1_1_3, L1_2, f1_2, N1_2, M1_2, q1_2_0, q1_2_1, S1, hpb1, hpc1, hpf1, pn_1, pm_1]
       have q2_0_5 : w2.cell? ⟨w.heap.size, 5, none⟩ = some (.int .i64 b.py) := by rw [hc2 _ _ (by (try simp [go_sem]) <;> omega) (by omega)]; simp [go_sem, hpb, hpc, hpf, pn0, pm0, pn1, pm1, pn2, pm2, L1_0, f1_0, N1_0, M1_0, q1_0_0, q1_0_1, q1_0_2, q1_0_3, q1_0_4, q1_0_5, q1_0_6, q1_0_7, L1_1, f1_1, N1_1, M1_1, q1_1_0, q1_1_1, q1_1_2, q1_1_3, L1_2, f1_2, N1_2, M1_2, q1_2_0, q1_2_1, S1, hpb1, hpc1, hpf1, pn_1, pm_1]
       have q2_0_6 : w2.cell? ⟨w.heap.size, 6, none⟩ = some (.int .i64 b.mx) := by rw [hc2 _ _ (by (try simp [go_sem]) <;> omega) (by omega)]; simp [go_sem, hpb, hpc, hpf, pn0, pm0, pn1, pm1, pn2, pm2, L1_0, f1_0, N1_0, M1_0, q1_0_0, q1_0_1, q1_0_2, q1_0_3, q1_0_4, q1_0_5, q1_0_6, q1_0_7, L1_1, f1_1, N1_1, M1_1, q1_1_0, q1_1_1, q1_1_2, q1_1_3, L1_2, f1_2, N1_2, M1_2, q1_2_0, q1_2_1, S1, hpb1, hpc1, hpf1, pn_1, pm_1]
       have q2_0_7 : w2.cell? ⟨w.heap.size, 7, none⟩ = some (.int .i64 b.my) := by rw [hc2 _ _ (by (try simp [go_sem]) <;> omega) (by omega)]; simp [go_sem, hpb, hpc, hpf, pn0, pm0, pn1, pm1, pn2, pm2, L1_0, f1_0, N1_0, M1_0, q1_0_0, q1_0_1, q1_0_2, q1_0_3, q1_0_4, q1_0_5, q1_0_6, q1_0_7, L1_1, f1_1, N1_1, M1_1, q1_1_0, q1_1_1, q1_1_2, q1_1_3, L1_2, f1_2, N1_2, M1_2, q1_2_0, q1_2_1, S1, hpb1, hpc1, hpf1, pn_1, pm_1]
       have f2_0 : ∀ o, w2.frozen? ⟨w.heap.size, o, none⟩ = false := fun o => by rw [hf2 _ _ (by (try simp [go_sem]) <;> omega)]; simp [go_sem, hpb, hpc, hpf, pn0, pm0, pn1, pm1, pn2, pm2, L1_0, f1_0, N1_0, M1_0, q1_0_0, q1_0_1, q1_0_2, q1_0_3, q1_0_4, q1_0_5, q1_0_6, q1_0_7, L1_1, f1_1, N1_1, M1_1, q1_1_0, q1_1_1, q1_1_2, q1_1_3, L1_2, f1_2, N1_2, M1_2, q1_2_0, q1_2_1, S1, hpb1, hpc1, hpf1, pn_1, pm_1]
       have L2_1 : w.heap.size + 1 < w2.heap.size := by have := hz2; (try simp only [World.size_alloc, World.size_setCell, World.size_drew, World.heap_drewN] at this); omega
       have N2_1 : w2.heap.size ≠ w.heap.size + 1 := Nat.ne_of_gt L2_1
       have M2_1 : w.heap.size + 1 ≠ w2.heap.size := Nat.ne_of_lt L2_1
       have q2_1_0 : w2.cell? ⟨w.heap.size + 1, 0, none⟩ = some (.int .i64 0) := by rw [hc2 _ _ (by (try simp [go_sem]) <;> omega) (by omega)]; simp [go_sem, hpb, hpc, hpf, pn0, pm0, pn1, pm1, pn2, pm2, L1_0, f1_0, N1_0, M1_0, q1_0_0, q1_0_1, q1_0_2, q1_0_3, q1_0_4, q1_0_5, q1_0_6, q1_0_7, L1_1, f1_1, N1_1, M1_1, q1_1_0, q1_1_1, q1_1_2, q1_1_3, L1_2, f1_2, N1_2, M1_2, q1_2_0, q1_2_1, S1, hpb1, hpc1, hpf1, pn_1, pm_1]
       have q2_1_1 : w2.cell? ⟨w.heap.size + 1, 1, none⟩ = some (.int .i64 0) := by rw [hc2 _ _ (by (try simp [go_sem]) <;> omega) (by omega)]; simp [go_sem, hpb, hpc, hpf, pn0, pm0, pn1, pm1, pn2, pm2, L1_0, f1_0, N1_0, M1_0, q1_0_0, q1_0_1, q1_0_2, q1_0_3, q1_0_4, q1_0_5, q1_0_6, q1_0_7, L1_1, f1_1, N1_1, M1_1, q1_1_0, q1_1_1, q1_1_2, q1_1_3, L1_2, f1_2, N1_2, M1_2, q1_2_0, q1_2_1, S1, hpb1, hpc1, hpf1, pn_1, pm_1]
       have q2_1_2 : w2.cell? ⟨w.heap.size + 1, 2, none⟩ = some (.int .i64 0) := by rw [hc2 _ _ (by (try simp [go_sem]) <;> omega) (by omega)]; simp [go_sem, hpb, hpc, hpf, pn0, pm0, pn1, pm1, pn2, pm2, L1_0, f1_0, N1_0, M1_0, q1_0_0, q1_0_1, q1_0_2, q1_0_3, q1_0_4, q1_0_5, q1_0_6, q1_0_7, L1_1, f1_1, N1_1, M1_1, q1_1_0, q1_1_1, q1_1_2, q1_1_3, L1_2, f1_2, N1_2, M1_2, q1_2_0, q1_2_1, S1, hpb1, hpc1, hpf1, pn_1, pm_1]
       have q2_1_3 : w2.cell? ⟨w.heap.size + 1, 3, none⟩ = some (.int .i64 0) := by rw [hc2 _ _ (by (try simp [go_sem]) <;> omega) (by omega)]; simp [go_sem, hpb, hpc, hpf, pn0, pm0, pn1, pm1, pn2, pm2, L1_0, f1_0, N1_0, M1_0, q1_0_0, q1_0_1, q1_0_2, q1_0_3, q1_0_4, q1_0_5, q1_0_6, q1_0_7, L1_1, f1_1, N1_1, M1_1, q1_1_0, q1_1_1, q1_1_2, q1_1_3, L1_2, f1_2, N1_2, M1_2, q1_2_0, q1_2_1, S1, hpb1, hpc1, hpf1, pn_1, pm_1]
       have f2_1 : ∀ o, w2.frozen? ⟨w.heap.size + 1, o, none⟩ = false := fun o => by rw [hf2 _ _ (by (try simp [go_sem]) <;> omega)]; simp [go_sem, hpb, hpc, hpf, pn0, pm0, pn1, pm1, pn2, pm2, L1_0, f1_0, N1_0, M1_0, q1_0_0, q1_0_1, q1_0_2, q1_0_3, q1_0_4, q1_0_5, q1_0_6, q1_0_7, L1_1, f1_1, N1_1, M1_1, q1_1_0, q1_1_1, q1_1_2, q1_1_3, L1_2, f1_2, N1_2, M1_2, q1_2_0, q1_2_1, S1, hpb1, hpc1, hpf1, pn_1, pm_1]
       have L2_2 : w.heap.size + 1 + 1 < w2.heap.size := by have := hz2; (try simp only [World.size_alloc, World.size_setCell, World.size_drew, World.heap_drewN] at this); omega
       have N2_2 : w2.heap.size ≠ w.heap.size + 1 + 1 := Nat.ne_of_gt L2_2
       have M2_2 : w.heap.size + 1 + 1 ≠ w2.heap.size := Nat.ne_of_lt L2_2
       have q2_2_0 : w2.cell? ⟨w.heap.size + 1 + 1, 0, none⟩ = some (.int .i64 b.sx) := by rw [hc2 _ _ (by (try simp [go_sem]) <;> omega) (by omega)]; simp [go_sem, hpb, hpc, hpf, pn0, pm0, pn1, pm1, pn2, pm2, L1_0, f1_0, N1_0, M1_0, q1_0_0, q1_0_1, q1_0_2, q1_0_3, q1_0_4, q1_0_5, q1_0_6, q1_0_7, L1_1, f1_1, N1_1, M1_1, q1_1_0, q1_1_1, q1_1_2, q1_1_3, L1_2, f1_2, N1_2, M1_2, q1_2_0, q1_2_1, S1, hpb1, hpc1, hpf1, pn_1, pm_1]
       have q2_2_1 : w2.cell? ⟨w.heap.size + 1 + 1, 1, none⟩ = some (.int .i64 b.sy) := by rw [hc2 _ _ (by (try simp [go_sem]) <;> omega) (by omega)]; simp [go_sem, hpb, hpc, hpf, pn0, pm0, pn1, pm1, pn2, pm2, L1_0, f1_0, N1_0, M1_0, q1_0_0, q1_0_1, q1_0_2, q1_0_3, q1_0_4, q1_0_5, q1_0_6, q1_0_7, L1_1, f1_1, N1_1, M1_1, q1_1_0, q1_1_1, q1_1_2, q1_1_3, L1_2, f1_2, N1_2, M1_2, q1_2_0, q1_2_1, S1, hpb1, hpc1, hpf1, pn_1, pm_1]
       have f2_2 : ∀ o, w2.frozen? ⟨w.heap.size + 1 + 1, o, none⟩ = false := fun o => by rw [hf2 _ _ (by (try simp [go_sem]) <;> omega)]; simp [go_sem, hpb, hpc, hpf, pn0, pm0, pn1, pm1, pn2, pm2, L1_0, f1_0, N1_0, M1_0, q1_0_0, q1_0_1, q1_0_2, q1_0_3, q1_0_4, q1_0_5, q1_0_6, q1_0_7, L1_1, f1_1, N1_1, M1_1, q1_1_0, q1_1_1, q1_1_2, q1_1_3, L1_2, f1_2, N1_2, M1_2, q1_2_0, q1_2_1, S1, hpb1, hpc1, hpf1, pn_1, pm_1]
       have L2_w1_0 : w1.heap.size < w2.heap.size := by have := hz2; (try simp only [World.size_alloc, World.size_setCell, World.size_drew, World.heap_drewN] at this); omega
       have N2_w1_0 : w2.heap.size ≠ w1.heap.size := Nat.ne_of_gt L2_w1_0
       have M2_w1_0 : w1.heap.size ≠ w2.heap.size := Nat.ne_of_lt L2_w1_0
       have q2_w1_0_0 : w2.cell? ⟨w1.heap.size, 0, none⟩ = some (.int .i64 x) := by rw [hc2 _ _ (by (try simp [go_sem]) <;> omega) (by omega)]; simp [go_sem, hpb, hpc, hpf, pn0, pm0, pn1, pm1, pn2, pm2, L1_0, f1_0, N1_0, M1_0, q1_0_0, q1_0_1, q1_0_2, q1_0_3, q1_0_4, q1_0_5, q1_0_6, q1_0_7, L1_1, f1_1, N1_1, M1_1, q1_1_0, q1_1_1, q1_1_2, q1_1_3, L1_2, f1_2, N1_2, M1_2, q1_2_0, q1_2_1, S1, hpb1, hpc1, hpf1, pn_1, pm_1]
       have q2_w1_0_1 : w2.cell? ⟨w1.heap.size, 1, none⟩ = some (.int .i64 y) := by rw [hc2 _ _ (by (try simp [go_sem]) <;> omega) (by omega)]; simp [go_sem, hpb, hpc, hpf, pn0, pm0, pn1, pm1, pn2, pm2, L1_0, f1_0, N1_0, M1_0, q1_0_0, q1_0_1, q1_0_2, q1_0_3, q1_0_4, q1_0_5, q1_0_6, q1_0_7, L1_1, f1_1, N1_1, M1_1, q1_1_0, q1_1_1, q1_1_2, q1_1_3, L1_2, f1_2, N1_2, M1_2, q1_2_0, q1_2_1, S1, hpb1, hpc1, hpf1, pn_1, pm_1]
       have f2_w1_0 : ∀ o, w2.frozen? ⟨w1.heap.size, o, none⟩ = false := fun o => by rw [hf2 _ _ (by (try simp [go_sem]) <;> omega)]; simp [go_sem, hpb, hpc, hpf, pn0, pm0, pn1, pm1, pn2, pm2, L1_0, f1_0, N1_0, M1_0, q1_0_0, q1_0_1, q1_0_2, q1_0_3, q1_0_4, q1_0_5, q1_0_6, q1_0_7, L1_1, f1_1, N1_1, M1_1, q1_1_0, q1_1_1, q1_1_2, q1_1_3, L1_2, f1_2, N1_2, M1_2, q1_2_0, q1_2_1, S1, hpb1, hpc1, hpf1, pn_1, pm_1]
       have HG2 := Lib.hid G2; clear G2 hb hc2 hf2 hz2
       have HR2 := Lib.hid hr; clear hr
       have hpb2 := PC2.1; have hpc2 := PC2.2.1; have hpf2 := PC2.2.2; have PC2 := Lib.hid PC2; have pn_2 : pb ≠ w2.heap.size := Nat.ne_of_lt hpb2; have pm_2 : w2.heap.size ≠ pb := Nat.ne_of_gt hpb2)
      )
    go_wp2_with fail
    refine bodyPost_ret (v := .agg #[.int .i64 x, .int .i64 y, .int .i64 u, .int .i64 v]) (by simp [results, Try.results21, go_sem, hpb, hpc, hpf, pn0, pm0, pn1, pm1, pn2, pm2, L1_0, f1_0, N1_0, M1_0, q1_0_0, q1_0_1, q1_0_2, q1_0_3, q1_0_4, q1_0_5, q1_0_6, q1_0_7, L1_1, f1_1, N1_1, M1_1, q1_1_0, q1_1_1, q1_1_2, q1_1_3, L1_2, f1_2, N1_2, M1_2, q1_2_0, q1_2_1, S1, hpb1, hpc1, hpf1, pn_1, pm_1, L2_0, f2_0, N2_0, M2_0, q2_0_0, q2_0_1, q2_0_2, q2_0_3, q2_0_4, q2_0_5, q2_0_6, q2_0_7, L2_1, f2_1, N2_1, M2_1, q2_1_0, q2_1_1, q2_1_2, q2_1_3, L2_2, f2_2, N2_2, M2_2, q2_2_0, q2_2_1, L2_w1_0, f2_w1_0, N2_w1_0, M2_w1_0, q2_w1_0_0, q2_w1_0_1, S2, hpb2, hpc2, hpf2, pn_2, pm_2]) rfl ⟨⟨x, y, u, v⟩, e2, rfl, ⟨ix, iy, iu, iv⟩, (by unfold boxX Bd.pos; rw [HE.out]; exact rel_bind HR1.out (rel_bind HR2.out (rel_ok _ _))), by have G := HG2.out; (repeat (with_reducible refine M.Below.drewN ?_ _)); go_grown⟩
end Go.Proofs.Ytcaibieaobhheaa
