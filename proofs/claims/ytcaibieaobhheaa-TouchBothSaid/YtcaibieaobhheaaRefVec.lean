/- The reference's places and directions. -/
import Derived.Test.YtcaibieaobhheaaRefOut
namespace Go.Proofs.Ytcaibieaobhheaa
open Go.RowKit M
set_option maxRecDepth 100000
set_option maxHeartbeats 4000000
set_option linter.unusedVariables false
set_option linter.unusedSimpArgs false

theorem refPlus_x (pb : Nat) (e ax ay bx by_ : Int) (h1 : I64 ax) (h2 : I64 ay) (h3 : I64 bx) (h4 : I64 by_) (w : World) (hp : PCell w pb e) :
    Calls Try.prog 65 #[.pointer (some ⟨pb, 0, none⟩), .agg #[.int .i64 ax, .int .i64 ay], .agg #[.int .i64 bx, .int .i64 by_]] w (RelV pb e (addV (ax, ay) (bx, by_)) w) := by
  have C1 := Lib.hid (refAdd_x pb e ax bx h1 h3)
  have C2 := Lib.hid (fun e => refAdd_x pb e ay by_ h2 h4)
  unfold RelV
  have hpb : pb < w.heap.size := hp.1
  have hpc := hp.2.1
  have hpf := hp.2.2
  have pn0 : pb ≠ w.heap.size := by omega
  have pm0 : w.heap.size ≠ pb := by omega
  have pn1 : pb ≠ w.heap.size + 1 := by omega
  have pm1 : w.heap.size + 1 ≠ pb := by omega
  have pn2 : pb ≠ w.heap.size + 1 + 1 := by omega
  have pm2 : w.heap.size + 1 + 1 ≠ pb := by omega
  have HG0 := Lib.hid (M.rw_refl hp)
  have PC0 := Lib.hid hp; clear hp
  go_enter Try.func65, Try.ntmps65
  go_wp2_with fail
  (with_reducible refine (C1.out _ (M.pcell_at PC0.out ?_ ?_ ?_)).mono ?_)
  · (try simp [go_sem]) <;> omega
  · simp (disch := ((try simp [go_sem]) <;> omega)) only [World.cell?_drewN, World.cell?_alloc_lt, World.cell?_setCell_far, hpc]
  · simp only [World.frozen?_drewN, World.frozen?_setCell, Go.RowKit.frozen?_alloc_cells, hpf]
  rintro en w1 ⟨x, e1, rfl, ix, hr, hb⟩
  have PC1 := M.pcell_behind hb (M.pcell_at (e := e) PC0.out (by (try simp [go_sem]) <;> omega) (by simp (disch := ((try simp [go_sem]) <;> omega)) only [World.cell?_drewN, World.cell?_alloc_lt, World.cell?_setCell_far, hpc]) (by simp only [World.frozen?_drewN, World.frozen?_setCell, Go.RowKit.frozen?_alloc_cells, hpf]))
  have G1 : M.RW pb e1 w w1 := M.rw_step (by have G := HG0.out; (repeat (with_reducible refine M.Below.drewN ?_ _)); go_grown) hb hpb
  have S1 : w.heap.size ≤ w1.heap.size := by have := G1.size; rwa [M.setCell_size] at this
  have hz1 := hb.size; (try simp only [M.setCell_size] at hz1)
  obtain ⟨hc1, hf1⟩ := M.rcell hb
  have L1_0 : w.heap.size < w1.heap.size := by have := hz1; (try simp only [World.size_alloc, World.size_setCell, World.size_drew, World.heap_drewN] at this); omega
  have N1_0 : w1.heap.size ≠ w.heap.size := Nat.ne_of_gt L1_0
  have M1_0 : w.heap.size ≠ w1.heap.size := Nat.ne_of_lt L1_0
  have q1_0_0 : w1.cell? ⟨w.heap.size, 0, none⟩ = some (.int .i64 ax) := by rw [hc1 _ _ (by (try simp [go_sem]) <;> omega) (by omega)]; simp [go_sem, hpb, hpc, hpf, pn0, pm0, pn1, pm1, pn2, pm2]
  have q1_0_1 : w1.cell? ⟨w.heap.size, 1, none⟩ = some (.int .i64 ay) := by rw [hc1 _ _ (by (try simp [go_sem]) <;> omega) (by omega)]; simp [go_sem, hpb, hpc, hpf, pn0, pm0, pn1, pm1, pn2, pm2]
  have f1_0 : ∀ o, w1.frozen? ⟨w.heap.size, o, none⟩ = false := fun o => by rw [hf1 _ _ (by (try simp [go_sem]) <;> omega)]; simp [go_sem, hpb, hpc, hpf, pn0, pm0, pn1, pm1, pn2, pm2]
  have L1_1 : w.heap.size + 1 < w1.heap.size := by have := hz1; (try simp only [World.size_alloc, World.size_setCell, World.size_drew, World.heap_drewN] at this); omega
  have N1_1 : w1.heap.size ≠ w.heap.size + 1 := Nat.ne_of_gt L1_1
  have M1_1 : w.heap.size + 1 ≠ w1.heap.size := Nat.ne_of_lt L1_1
  have q1_1_0 : w1.cell? ⟨w.heap.size + 1, 0, none⟩ = some (.int .i64 bx) := by rw [hc1 _ _ (by (try simp [go_sem]) <;> omega) (by omega)]; simp [go_sem, hpb, hpc, hpf, pn0, pm0, pn1, pm1, pn2, pm2]
  have q1_1_1 : w1.cell? ⟨w.heap.size + 1, 1, none⟩ = some (.int .i64 by_) := by rw [hc1 _ _ (by (try simp [go_sem]) <;> omega) (by omega)]; simp [go_sem, hpb, hpc, hpf, pn0, pm0, pn1, pm1, pn2, pm2]
  have f1_1 : ∀ o, w1.frozen? ⟨w.heap.size + 1, o, none⟩ = false := fun o => by rw [hf1 _ _ (by (try simp [go_sem]) <;> omega)]; simp [go_sem, hpb, hpc, hpf, pn0, pm0, pn1, pm1, pn2, pm2]
  have L1_2 : w.heap.size + 1 + 1 < w1.heap.size := by have := hz1; (try simp only [World.size_alloc, World.size_setCell, World.size_drew, World.heap_drewN] at this); omega
  have N1_2 : w1.heap.size ≠ w.heap.size + 1 + 1 := Nat.ne_of_gt L1_2
  have M1_2 : w.heap.size + 1 + 1 ≠ w1.heap.size := Nat.ne_of_lt L1_2
  have q1_2_0 : w1.cell? ⟨w.heap.size + 1 + 1, 0, none⟩ = some (.int .i64 0) := by rw [hc1 _ _ (by (try simp [go_sem]) <;> omega) (by omega)]; simp [go_sem, hpb, hpc, hpf, pn0, pm0, pn1, pm1, pn2, pm2]
  have q1_2_1 : w1.cell? ⟨w.heap.size + 1 + 1, 1, none⟩ = some (.int .i64 0) := by rw [hc1 _ _ (by (try simp [go_sem]) <;> omega) (by omega)]; simp [go_sem, hpb, hpc, hpf, pn0, pm0, pn1, pm1, pn2, pm2]
  have f1_2 : ∀ o, w1.frozen? ⟨w.heap.size + 1 + 1, o, none⟩ = false := fun o => by rw [hf1 _ _ (by (try simp [go_sem]) <;> omega)]; simp [go_sem, hpb, hpc, hpf, pn0, pm0, pn1, pm1, pn2, pm2]
  have HG1 := Lib.hid G1; clear G1 hb hc1 hf1 hz1
  have HR1 := Lib.hid hr; clear hr
  have hpb1 := PC1.1; have hpc1 := PC1.2.1; have hpf1 := PC1.2.2; have PC1 := Lib.hid PC1; have pn_1 : pb ≠ w1.heap.size := Nat.ne_of_lt hpb1; have pm_1 : w1.heap.size ≠ pb := Nat.ne_of_gt hpb1
  go_wp2_with fail
  (with_reducible refine (C2.out _ _ (M.pcell_at PC1.out ?_ ?_ ?_)).mono ?_)
  · (try simp [go_sem]) <;> omega
  · simp (disch := ((try simp [go_sem]) <;> omega)) only [World.cell?_drewN, World.cell?_alloc_lt, World.cell?_setCell_far, hpc1]
  · simp only [World.frozen?_drewN, World.frozen?_setCell, Go.RowKit.frozen?_alloc_cells, hpf1]
  rintro en w2 ⟨y, e2, rfl, iy, hr, hb⟩
  have PC2 := M.pcell_behind hb (M.pcell_at (e := e1) PC1.out (by (try simp [go_sem]) <;> omega) (by simp (disch := ((try simp [go_sem]) <;> omega)) only [World.cell?_drewN, World.cell?_alloc_lt, World.cell?_setCell_far, hpc1]) (by simp only [World.frozen?_drewN, World.frozen?_setCell, Go.RowKit.frozen?_alloc_cells, hpf1]))
  have G2 : M.RW pb e2 w w2 := M.rw_step (by have G := HG1.out; (repeat (with_reducible refine M.Below.drewN ?_ _)); go_grown) hb hpb
  have S2 : w.heap.size ≤ w2.heap.size := by have := G2.size; rwa [M.setCell_size] at this
  have hz2 := hb.size; (try simp only [M.setCell_size] at hz2)
  obtain ⟨hc2, hf2⟩ := M.rcell hb
  have L2_2 : w.heap.size + 1 + 1 < w2.heap.size := by have := hz2; (try simp only [World.size_alloc, World.size_setCell, World.size_drew, World.heap_drewN] at this); omega
  have N2_2 : w2.heap.size ≠ w.heap.size + 1 + 1 := Nat.ne_of_gt L2_2
  have M2_2 : w.heap.size + 1 + 1 ≠ w2.heap.size := Nat.ne_of_lt L2_2
  have q2_2_0 : w2.cell? ⟨w.heap.size + 1 + 1, 0, none⟩ = some (.int .i64 0) := by rw [hc2 _ _ (by (try simp [go_sem]) <;> omega) (by omega)]; simp [go_sem, hpb, hpc, hpf, pn0, pm0, pn1, pm1, pn2, pm2, L1_0, f1_0, N1_0, M1_0, q1_0_0, q1_0_1, L1_1, f1_1, N1_1, M1_1, q1_1_0, q1_1_1, L1_2, f1_2, N1_2, M1_2, q1_2_0, q1_2_1, S1, hpb1, hpc1, hpf1, pn_1, pm_1]
  have q2_2_1 : w2.cell? ⟨w.heap.size + 1 + 1, 1, none⟩ = some (.int .i64 0) := by rw [hc2 _ _ (by (try simp [go_sem]) <;> omega) (by omega)]; simp [go_sem, hpb, hpc, hpf, pn0, pm0, pn1, pm1, pn2, pm2, L1_0, f1_0, N1_0, M1_0, q1_0_0, q1_0_1, L1_1, f1_1, N1_1, M1_1, q1_1_0, q1_1_1, L1_2, f1_2, N1_2, M1_2, q1_2_0, q1_2_1, S1, hpb1, hpc1, hpf1, pn_1, pm_1]
  have f2_2 : ∀ o, w2.frozen? ⟨w.heap.size + 1 + 1, o, none⟩ = false := fun o => by rw [hf2 _ _ (by (try simp [go_sem]) <;> omega)]; simp [go_sem, hpb, hpc, hpf, pn0, pm0, pn1, pm1, pn2, pm2, L1_0, f1_0, N1_0, M1_0, q1_0_0, q1_0_1, L1_1, f1_1, N1_1, M1_1, q1_1_0, q1_1_1, L1_2, f1_2, N1_2, M1_2, q1_2_0, q1_2_1, S1, hpb1, hpc1, hpf1, pn_1, pm_1]
  have HG2 := Lib.hid G2; clear G2 hb hc2 hf2 hz2
  have HR2 := Lib.hid hr; clear hr
  have hpb2 := PC2.1; have hpc2 := PC2.2.1; have hpf2 := PC2.2.2; have PC2 := Lib.hid PC2; have pn_2 : pb ≠ w2.heap.size := Nat.ne_of_lt hpb2; have pm_2 : w2.heap.size ≠ pb := Nat.ne_of_gt hpb2
  go_wp2_with fail
  refine bodyPost_ret (v := .agg #[.int .i64 x, .int .i64 y]) (by simp [results, Try.results65, go_sem, hpb, hpc, hpf, pn0, pm0, pn1, pm1, pn2, pm2, L1_0, f1_0, N1_0, M1_0, q1_0_0, q1_0_1, L1_1, f1_1, N1_1, M1_1, q1_1_0, q1_1_1, L1_2, f1_2, N1_2, M1_2, q1_2_0, q1_2_1, S1, hpb1, hpc1, hpf1, pn_1, pm_1, L2_2, f2_2, N2_2, M2_2, q2_2_0, q2_2_1, S2, hpb2, hpc2, hpf2, pn_2, pm_2]) rfl ⟨x, y, e2, rfl, ix, iy, rel_bind HR1.out (rel_bind HR2.out (rel_ok _ _)), by have G := HG2.out; (repeat (with_reducible refine M.Below.drewN ?_ _)); go_grown⟩
theorem refLess_x (pb : Nat) (e ax ay bx by_ : Int) (h1 : I64 ax) (h2 : I64 ay) (h3 : I64 bx) (h4 : I64 by_) (w : World) (hp : PCell w pb e) :
    Calls Try.prog 64 #[.pointer (some ⟨pb, 0, none⟩), .agg #[.int .i64 ax, .int .i64 ay], .agg #[.int .i64 bx, .int .i64 by_]] w (RelV pb e (subV (ax, ay) (bx, by_)) w) := by
  have C1 := Lib.hid (refSub_x pb e ax bx h1 h3)
  have C2 := Lib.hid (fun e => refSub_x pb e ay by_ h2 h4)
  unfold RelV
  have hpb : pb < w.heap.size := hp.1
  have hpc := hp.2.1
  have hpf := hp.2.2
  have pn0 : pb ≠ w.heap.size := by omega
  have pm0 : w.heap.size ≠ pb := by omega
  have pn1 : pb ≠ w.heap.size + 1 := by omega
  have pm1 : w.heap.size + 1 ≠ pb := by omega
  have pn2 : pb ≠ w.heap.size + 1 + 1 := by omega
  have pm2 : w.heap.size + 1 + 1 ≠ pb := by omega
  have HG0 := Lib.hid (M.rw_refl hp)
  have PC0 := Lib.hid hp; clear hp
  go_enter Try.func64, Try.ntmps64
  go_wp2_with fail
  (with_reducible refine (C1.out _ (M.pcell_at PC0.out ?_ ?_ ?_)).mono ?_)
  · (try simp [go_sem]) <;> omega
  · simp (disch := ((try simp [go_sem]) <;> omega)) only [World.cell?_drewN, World.cell?_alloc_lt, World.cell?_setCell_far, hpc]
  · simp only [World.frozen?_drewN, World.frozen?_setCell, Go.RowKit.frozen?_alloc_cells, hpf]
  rintro en w1 ⟨x, e1, rfl, ix, hr, hb⟩
  have PC1 := M.pcell_behind hb (M.pcell_at (e := e) PC0.out (by (try simp [go_sem]) <;> omega) (by simp (disch := ((try simp [go_sem]) <;> omega)) only [World.cell?_drewN, World.cell?_alloc_lt, World.cell?_setCell_far, hpc]) (by simp only [World.frozen?_drewN, World.frozen?_setCell, Go.RowKit.frozen?_alloc_cells, hpf]))
  have G1 : M.RW pb e1 w w1 := M.rw_step (by have G := HG0.out; (repeat (with_reducible refine M.Below.drewN ?_ _)); go_grown) hb hpb
  have S1 : w.heap.size ≤ w1.heap.size := by have := G1.size; rwa [M.setCell_size] at this
  have hz1 := hb.size; (try simp only [M.setCell_size] at hz1)
  obtain ⟨hc1, hf1⟩ := M.rcell hb
  have L1_0 : w.heap.size < w1.heap.size := by have := hz1; (try simp only [World.size_alloc, World.size_setCell, World.size_drew, World.heap_drewN] at this); omega
  have N1_0 : w1.heap.size ≠ w.heap.size := Nat.ne_of_gt L1_0
  have M1_0 : w.heap.size ≠ w1.heap.size := Nat.ne_of_lt L1_0
  have q1_0_0 : w1.cell? ⟨w.heap.size, 0, none⟩ = some (.int .i64 ax) := by rw [hc1 _ _ (by (try simp [go_sem]) <;> omega) (by omega)]; simp [go_sem, hpb, hpc, hpf, pn0, pm0, pn1, pm1, pn2, pm2]
  have q1_0_1 : w1.cell? ⟨w.heap.size, 1, none⟩ = some (.int .i64 ay) := by rw [hc1 _ _ (by (try simp [go_sem]) <;> omega) (by omega)]; simp [go_sem, hpb, hpc, hpf, pn0, pm0, pn1, pm1, pn2, pm2]
  have f1_0 : ∀ o, w1.frozen? ⟨w.heap.size, o, none⟩ = false := fun o => by rw [hf1 _ _ (by (try simp [go_sem]) <;> omega)]; simp [go_sem, hpb, hpc, hpf, pn0, pm0, pn1, pm1, pn2, pm2]
  have L1_1 : w.heap.size + 1 < w1.heap.size := by have := hz1; (try simp only [World.size_alloc, World.size_setCell, World.size_drew, World.heap_drewN] at this); omega
  have N1_1 : w1.heap.size ≠ w.heap.size + 1 := Nat.ne_of_gt L1_1
  have M1_1 : w.heap.size + 1 ≠ w1.heap.size := Nat.ne_of_lt L1_1
  have q1_1_0 : w1.cell? ⟨w.heap.size + 1, 0, none⟩ = some (.int .i64 bx) := by rw [hc1 _ _ (by (try simp [go_sem]) <;> omega) (by omega)]; simp [go_sem, hpb, hpc, hpf, pn0, pm0, pn1, pm1, pn2, pm2]
  have q1_1_1 : w1.cell? ⟨w.heap.size + 1, 1, none⟩ = some (.int .i64 by_) := by rw [hc1 _ _ (by (try simp [go_sem]) <;> omega) (by omega)]; simp [go_sem, hpb, hpc, hpf, pn0, pm0, pn1, pm1, pn2, pm2]
  have f1_1 : ∀ o, w1.frozen? ⟨w.heap.size + 1, o, none⟩ = false := fun o => by rw [hf1 _ _ (by (try simp [go_sem]) <;> omega)]; simp [go_sem, hpb, hpc, hpf, pn0, pm0, pn1, pm1, pn2, pm2]
  have L1_2 : w.heap.size + 1 + 1 < w1.heap.size := by have := hz1; (try simp only [World.size_alloc, World.size_setCell, World.size_drew, World.heap_drewN] at this); omega
  have N1_2 : w1.heap.size ≠ w.heap.size + 1 + 1 := Nat.ne_of_gt L1_2
  have M1_2 : w.heap.size + 1 + 1 ≠ w1.heap.size := Nat.ne_of_lt L1_2
  have q1_2_0 : w1.cell? ⟨w.heap.size + 1 + 1, 0, none⟩ = some (.int .i64 0) := by rw [hc1 _ _ (by (try simp [go_sem]) <;> omega) (by omega)]; simp [go_sem, hpb, hpc, hpf, pn0, pm0, pn1, pm1, pn2, pm2]
  have q1_2_1 : w1.cell? ⟨w.heap.size + 1 + 1, 1, none⟩ = some (.int .i64 0) := by rw [hc1 _ _ (by (try simp [go_sem]) <;> omega) (by omega)]; simp [go_sem, hpb, hpc, hpf, pn0, pm0, pn1, pm1, pn2, pm2]
  have f1_2 : ∀ o, w1.frozen? ⟨w.heap.size + 1 + 1, o, none⟩ = false := fun o => by rw [hf1 _ _ (by (try simp [go_sem]) <;> omega)]; simp [go_sem, hpb, hpc, hpf, pn0, pm0, pn1, pm1, pn2, pm2]
  have HG1 := Lib.hid G1; clear G1 hb hc1 hf1 hz1
  have HR1 := Lib.hid hr; clear hr
  have hpb1 := PC1.1; have hpc1 := PC1.2.1; have hpf1 := PC1.2.2; have PC1 := Lib.hid PC1; have pn_1 : pb ≠ w1.heap.size := Nat.ne_of_lt hpb1; have pm_1 : w1.heap.size ≠ pb := Nat.ne_of_gt hpb1
  go_wp2_with fail
  (with_reducible refine (C2.out _ _ (M.pcell_at PC1.out ?_ ?_ ?_)).mono ?_)
  · (try simp [go_sem]) <;> omega
  · simp (disch := ((try simp [go_sem]) <;> omega)) only [World.cell?_drewN, World.cell?_alloc_lt, World.cell?_setCell_far, hpc1]
  · simp only [World.frozen?_drewN, World.frozen?_setCell, Go.RowKit.frozen?_alloc_cells, hpf1]
  rintro en w2 ⟨y, e2, rfl, iy, hr, hb⟩
  have PC2 := M.pcell_behind hb (M.pcell_at (e := e1) PC1.out (by (try simp [go_sem]) <;> omega) (by simp (disch := ((try simp [go_sem]) <;> omega)) only [World.cell?_drewN, World.cell?_alloc_lt, World.cell?_setCell_far, hpc1]) (by simp only [World.frozen?_drewN, World.frozen?_setCell, Go.RowKit.frozen?_alloc_cells, hpf1]))
  have G2 : M.RW pb e2 w w2 := M.rw_step (by have G := HG1.out; (repeat (with_reducible refine M.Below.drewN ?_ _)); go_grown) hb hpb
  have S2 : w.heap.size ≤ w2.heap.size := by have := G2.size; rwa [M.setCell_size] at this
  have hz2 := hb.size; (try simp only [M.setCell_size] at hz2)
  obtain ⟨hc2, hf2⟩ := M.rcell hb
  have L2_2 : w.heap.size + 1 + 1 < w2.heap.size := by have := hz2; (try simp only [World.size_alloc, World.size_setCell, World.size_drew, World.heap_drewN] at this); omega
  have N2_2 : w2.heap.size ≠ w.heap.size + 1 + 1 := Nat.ne_of_gt L2_2
  have M2_2 : w.heap.size + 1 + 1 ≠ w2.heap.size := Nat.ne_of_lt L2_2
  have q2_2_0 : w2.cell? ⟨w.heap.size + 1 + 1, 0, none⟩ = some (.int .i64 0) := by rw [hc2 _ _ (by (try simp [go_sem]) <;> omega) (by omega)]; simp [go_sem, hpb, hpc, hpf, pn0, pm0, pn1, pm1, pn2, pm2, L1_0, f1_0, N1_0, M1_0, q1_0_0, q1_0_1, L1_1, f1_1, N1_1, M1_1, q1_1_0, q1_1_1, L1_2, f1_2, N1_2, M1_2, q1_2_0, q1_2_1, S1, hpb1, hpc1, hpf1, pn_1, pm_1]
  have q2_2_1 : w2.cell? ⟨w.heap.size + 1 + 1, 1, none⟩ = some (.int .i64 0) := by rw [hc2 _ _ (by (try simp [go_sem]) <;> omega) (by omega)]; simp [go_sem, hpb, hpc, hpf, pn0, pm0, pn1, pm1, pn2, pm2, L1_0, f1_0, N1_0, M1_0, q1_0_0, q1_0_1, L1_1, f1_1, N1_1, M1_1, q1_1_0, q1_1_1, L1_2, f1_2, N1_2, M1_2, q1_2_0, q1_2_1, S1, hpb1, hpc1, hpf1, pn_1, pm_1]
  have f2_2 : ∀ o, w2.frozen? ⟨w.heap.size + 1 + 1, o, none⟩ = false := fun o => by rw [hf2 _ _ (by (try simp [go_sem]) <;> omega)]; simp [go_sem, hpb, hpc, hpf, pn0, pm0, pn1, pm1, pn2, pm2, L1_0, f1_0, N1_0, M1_0, q1_0_0, q1_0_1, L1_1, f1_1, N1_1, M1_1, q1_1_0, q1_1_1, L1_2, f1_2, N1_2, M1_2, q1_2_0, q1_2_1, S1, hpb1, hpc1, hpf1, pn_1, pm_1]
  have HG2 := Lib.hid G2; clear G2 hb hc2 hf2 hz2
  have HR2 := Lib.hid hr; clear hr
  have hpb2 := PC2.1; have hpc2 := PC2.2.1; have hpf2 := PC2.2.2; have PC2 := Lib.hid PC2; have pn_2 : pb ≠ w2.heap.size := Nat.ne_of_lt hpb2; have pm_2 : w2.heap.size ≠ pb := Nat.ne_of_gt hpb2
  go_wp2_with fail
  refine bodyPost_ret (v := .agg #[.int .i64 x, .int .i64 y]) (by simp [results, Try.results64, go_sem, hpb, hpc, hpf, pn0, pm0, pn1, pm1, pn2, pm2, L1_0, f1_0, N1_0, M1_0, q1_0_0, q1_0_1, L1_1, f1_1, N1_1, M1_1, q1_1_0, q1_1_1, L1_2, f1_2, N1_2, M1_2, q1_2_0, q1_2_1, S1, hpb1, hpc1, hpf1, pn_1, pm_1, L2_2, f2_2, N2_2, M2_2, q2_2_0, q2_2_1, S2, hpb2, hpc2, hpf2, pn_2, pm_2]) rfl ⟨x, y, e2, rfl, ix, iy, rel_bind HR1.out (rel_bind HR2.out (rel_ok _ _)), by have G := HG2.out; (repeat (with_reducible refine M.Below.drewN ?_ _)); go_grown⟩
theorem refTimes_x (pb : Nat) (e ax ay k : Int) (h1 : I64 ax) (h2 : I64 ay) (h3 : I64 k) (w : World) (hp : PCell w pb e) :
    Calls Try.prog 84 #[.pointer (some ⟨pb, 0, none⟩), .agg #[.int .i64 ax, .int .i64 ay], .int .i64 k] w (RelV pb e (scaleV (ax, ay) k) w) := by
  have C1 := Lib.hid (refMul_x pb e ax k h1 h3)
  have C2 := Lib.hid (fun e => refMul_x pb e ay k h2 h3)
  unfold RelV
  have hpb : pb < w.heap.size := hp.1
  have hpc := hp.2.1
  have hpf := hp.2.2
  have pn0 : pb ≠ w.heap.size := by omega
  have pm0 : w.heap.size ≠ pb := by omega
  have pn1 : pb ≠ w.heap.size + 1 := by omega
  have pm1 : w.heap.size + 1 ≠ pb := by omega
  have HG0 := Lib.hid (M.rw_refl hp)
  have PC0 := Lib.hid hp; clear hp
  go_enter Try.func84, Try.ntmps84
  go_wp2_with fail
  (with_reducible refine (C1.out _ (M.pcell_at PC0.out ?_ ?_ ?_)).mono ?_)
  · (try simp [go_sem]) <;> omega
  · simp (disch := ((try simp [go_sem]) <;> omega)) only [World.cell?_drewN, World.cell?_alloc_lt, World.cell?_setCell_far, hpc]
  · simp only [World.frozen?_drewN, World.frozen?_setCell, Go.RowKit.frozen?_alloc_cells, hpf]
  rintro en w1 ⟨x, e1, rfl, ix, hr, hb⟩
  have PC1 := M.pcell_behind hb (M.pcell_at (e := e) PC0.out (by (try simp [go_sem]) <;> omega) (by simp (disch := ((try simp [go_sem]) <;> omega)) only [World.cell?_drewN, World.cell?_alloc_lt, World.cell?_setCell_far, hpc]) (by simp only [World.frozen?_drewN, World.frozen?_setCell, Go.RowKit.frozen?_alloc_cells, hpf]))
  have G1 : M.RW pb e1 w w1 := M.rw_step (by have G := HG0.out; (repeat (with_reducible refine M.Below.drewN ?_ _)); go_grown) hb hpb
  have S1 : w.heap.size ≤ w1.heap.size := by have := G1.size; rwa [M.setCell_size] at this
  have hz1 := hb.size; (try simp only [M.setCell_size] at hz1)
  obtain ⟨hc1, hf1⟩ := M.rcell hb
  have L1_0 : w.heap.size < w1.heap.size := by have := hz1; (try simp only [World.size_alloc, World.size_setCell, World.size_drew, World.heap_drewN] at this); omega
  have N1_0 : w1.heap.size ≠ w.heap.size := Nat.ne_of_gt L1_0
  have M1_0 : w.heap.size ≠ w1.heap.size := Nat.ne_of_lt L1_0
  have q1_0_0 : w1.cell? ⟨w.heap.size, 0, none⟩ = some (.int .i64 ax) := by rw [hc1 _ _ (by (try simp [go_sem]) <;> omega) (by omega)]; simp [go_sem, hpb, hpc, hpf, pn0, pm0, pn1, pm1]
  have q1_0_1 : w1.cell? ⟨w.heap.size, 1, none⟩ = some (.int .i64 ay) := by rw [hc1 _ _ (by (try simp [go_sem]) <;> omega) (by omega)]; simp [go_sem, hpb, hpc, hpf, pn0, pm0, pn1, pm1]
  have f1_0 : ∀ o, w1.frozen? ⟨w.heap.size, o, none⟩ = false := fun o => by rw [hf1 _ _ (by (try simp [go_sem]) <;> omega)]; simp [go_sem, hpb, hpc, hpf, pn0, pm0, pn1, pm1]
  have L1_1 : w.heap.size + 1 < w1.heap.size := by have := hz1; (try simp only [World.size_alloc, World.size_setCell, World.size_drew, World.heap_drewN] at this); omega
  have N1_1 : w1.heap.size ≠ w.heap.size + 1 := Nat.ne_of_gt L1_1
  have M1_1 : w.heap.size + 1 ≠ w1.heap.size := Nat.ne_of_lt L1_1
  have q1_1_0 : w1.cell? ⟨w.heap.size + 1, 0, none⟩ = some (.int .i64 0) := by rw [hc1 _ _ (by (try simp [go_sem]) <;> omega) (by omega)]; simp [go_sem, hpb, hpc, hpf, pn0, pm0, pn1, pm1]
  have q1_1_1 : w1.cell? ⟨w.heap.size + 1, 1, none⟩ = some (.int .i64 0) := by rw [hc1 _ _ (by (try simp [go_sem]) <;> omega) (by omega)]; simp [go_sem, hpb, hpc, hpf, pn0, pm0, pn1, pm1]
  have f1_1 : ∀ o, w1.frozen? ⟨w.heap.size + 1, o, none⟩ = false := fun o => by rw [hf1 _ _ (by (try simp [go_sem]) <;> omega)]; simp [go_sem, hpb, hpc, hpf, pn0, pm0, pn1, pm1]
  have HG1 := Lib.hid G1; clear G1 hb hc1 hf1 hz1
  have HR1 := Lib.hid hr; clear hr
  have hpb1 := PC1.1; have hpc1 := PC1.2.1; have hpf1 := PC1.2.2; have PC1 := Lib.hid PC1; have pn_1 : pb ≠ w1.heap.size := Nat.ne_of_lt hpb1; have pm_1 : w1.heap.size ≠ pb := Nat.ne_of_gt hpb1
  go_wp2_with fail
  (with_reducible refine (C2.out _ _ (M.pcell_at PC1.out ?_ ?_ ?_)).mono ?_)
  · (try simp [go_sem]) <;> omega
  · simp (disch := ((try simp [go_sem]) <;> omega)) only [World.cell?_drewN, World.cell?_alloc_lt, World.cell?_setCell_far, hpc1]
  · simp only [World.frozen?_drewN, World.frozen?_setCell, Go.RowKit.frozen?_alloc_cells, hpf1]
  rintro en w2 ⟨y, e2, rfl, iy, hr, hb⟩
  have PC2 := M.pcell_behind hb (M.pcell_at (e := e1) PC1.out (by (try simp [go_sem]) <;> omega) (by simp (disch := ((try simp [go_sem]) <;> omega)) only [World.cell?_drewN, World.cell?_alloc_lt, World.cell?_setCell_far, hpc1]) (by simp only [World.frozen?_drewN, World.frozen?_setCell, Go.RowKit.frozen?_alloc_cells, hpf1]))
  have G2 : M.RW pb e2 w w2 := M.rw_step (by have G := HG1.out; (repeat (with_reducible refine M.Below.drewN ?_ _)); go_grown) hb hpb
  have S2 : w.heap.size ≤ w2.heap.size := by have := G2.size; rwa [M.setCell_size] at this
  have hz2 := hb.size; (try simp only [M.setCell_size] at hz2)
  obtain ⟨hc2, hf2⟩ := M.rcell hb
  have L2_1 : w.heap.size + 1 < w2.heap.size := by have := hz2; (try simp only [World.size_alloc, World.size_setCell, World.size_drew, World.heap_drewN] at this); omega
  have N2_1 : w2.heap.size ≠ w.heap.size + 1 := Nat.ne_of_gt L2_1
  have M2_1 : w.heap.size + 1 ≠ w2.heap.size := Nat.ne_of_lt L2_1
  have q2_1_0 : w2.cell? ⟨w.heap.size + 1, 0, none⟩ = some (.int .i64 0) := by rw [hc2 _ _ (by (try simp [go_sem]) <;> omega) (by omega)]; simp [go_sem, hpb, hpc, hpf, pn0, pm0, pn1, pm1, L1_0, f1_0, N1_0, M1_0, q1_0_0, q1_0_1, L1_1, f1_1, N1_1, M1_1, q1_1_0, q1_1_1, S1, hpb1, hpc1, hpf1, pn_1, pm_1]
  have q2_1_1 : w2.cell? ⟨w.heap.size + 1, 1, none⟩ = some (.int .i64 0) := by rw [hc2 _ _ (by (try simp [go_sem]) <;> omega) (by omega)]; simp [go_sem, hpb, hpc, hpf, pn0, pm0, pn1, pm1, L1_0, f1_0, N1_0, M1_0, q1_0_0, q1_0_1, L1_1, f1_1, N1_1, M1_1, q1_1_0, q1_1_1, S1, hpb1, hpc1, hpf1, pn_1, pm_1]
  have f2_1 : ∀ o, w2.frozen? ⟨w.heap.size + 1, o, none⟩ = false := fun o => by rw [hf2 _ _ (by (try simp [go_sem]) <;> omega)]; simp [go_sem, hpb, hpc, hpf, pn0, pm0, pn1, pm1, L1_0, f1_0, N1_0, M1_0, q1_0_0, q1_0_1, L1_1, f1_1, N1_1, M1_1, q1_1_0, q1_1_1, S1, hpb1, hpc1, hpf1, pn_1, pm_1]
  have HG2 := Lib.hid G2; clear G2 hb hc2 hf2 hz2
  have HR2 := Lib.hid hr; clear hr
  have hpb2 := PC2.1; have hpc2 := PC2.2.1; have hpf2 := PC2.2.2; have PC2 := Lib.hid PC2; have pn_2 : pb ≠ w2.heap.size := Nat.ne_of_lt hpb2; have pm_2 : w2.heap.size ≠ pb := Nat.ne_of_gt hpb2
  go_wp2_with fail
  refine bodyPost_ret (v := .agg #[.int .i64 x, .int .i64 y]) (by simp [results, Try.results84, go_sem, hpb, hpc, hpf, pn0, pm0, pn1, pm1, L1_0, f1_0, N1_0, M1_0, q1_0_0, q1_0_1, L1_1, f1_1, N1_1, M1_1, q1_1_0, q1_1_1, S1, hpb1, hpc1, hpf1, pn_1, pm_1, L2_1, f2_1, N2_1, M2_1, q2_1_0, q2_1_1, S2, hpb2, hpc2, hpf2, pn_2, pm_2]) rfl ⟨x, y, e2, rfl, ix, iy, rel_bind HR1.out (rel_bind HR2.out (rel_ok _ _)), by have G := HG2.out; (repeat (with_reducible refine M.Below.drewN ?_ _)); go_grown⟩
theorem refOver_x (pb : Nat) (e ax ay k : Int) (h1 : I64 ax) (h2 : I64 ay) (h3 : I64 k) (w : World) (hp : PCell w pb e) :
    Calls Try.prog 111 #[.pointer (some ⟨pb, 0, none⟩), .agg #[.int .i64 ax, .int .i64 ay], .int .i64 k] w (RelV pb e (overV (ax, ay) k) w) := by
  have C1 := Lib.hid (refDiv_x pb e ax k h1 h3)
  have C2 := Lib.hid (fun e => refDiv_x pb e ay k h2 h3)
  unfold RelV
  have hpb : pb < w.heap.size := hp.1
  have hpc := hp.2.1
  have hpf := hp.2.2
  have pn0 : pb ≠ w.heap.size := by omega
  have pm0 : w.heap.size ≠ pb := by omega
  have pn1 : pb ≠ w.heap.size + 1 := by omega
  have pm1 : w.heap.size + 1 ≠ pb := by omega
  have HG0 := Lib.hid (M.rw_refl hp)
  have PC0 := Lib.hid hp; clear hp
  go_enter Try.func111, Try.ntmps111
  go_wp2_with fail
  (with_reducible refine (C1.out _ (M.pcell_at PC0.out ?_ ?_ ?_)).mono ?_)
  · (try simp [go_sem]) <;> omega
  · simp (disch := ((try simp [go_sem]) <;> omega)) only [World.cell?_drewN, World.cell?_alloc_lt, World.cell?_setCell_far, hpc]
  · simp only [World.frozen?_drewN, World.frozen?_setCell, Go.RowKit.frozen?_alloc_cells, hpf]
  rintro en w1 ⟨x, e1, rfl, ix, hr, hb⟩
  have PC1 := M.pcell_behind hb (M.pcell_at (e := e) PC0.out (by (try simp [go_sem]) <;> omega) (by simp (disch := ((try simp [go_sem]) <;> omega)) only [World.cell?_drewN, World.cell?_alloc_lt, World.cell?_setCell_far, hpc]) (by simp only [World.frozen?_drewN, World.frozen?_setCell, Go.RowKit.frozen?_alloc_cells, hpf]))
  have G1 : M.RW pb e1 w w1 := M.rw_step (by have G := HG0.out; (repeat (with_reducible refine M.Below.drewN ?_ _)); go_grown) hb hpb
  have S1 : w.heap.size ≤ w1.heap.size := by have := G1.size; rwa [M.setCell_size] at this
  have hz1 := hb.size; (try simp only [M.setCell_size] at hz1)
  obtain ⟨hc1, hf1⟩ := M.rcell hb
  have L1_0 : w.heap.size < w1.heap.size := by have := hz1; (try simp only [World.size_alloc, World.size_setCell, World.size_drew, World.heap_drewN] at this); omega
  have N1_0 : w1.heap.size ≠ w.heap.size := Nat.ne_of_gt L1_0
  have M1_0 : w.heap.size ≠ w1.heap.size := Nat.ne_of_lt L1_0
  have q1_0_0 : w1.cell? ⟨w.heap.size, 0, none⟩ = some (.int .i64 ax) := by rw [hc1 _ _ (by (try simp [go_sem]) <;> omega) (by omega)]; simp [go_sem, hpb, hpc, hpf, pn0, pm0, pn1, pm1]
  have q1_0_1 : w1.cell? ⟨w.heap.size, 1, none⟩ = some (.int .i64 ay) := by rw [hc1 _ _ (by (try simp [go_sem]) <;> omega) (by omega)]; simp [go_sem, hpb, hpc, hpf, pn0, pm0, pn1, pm1]
  have f1_0 : ∀ o, w1.frozen? ⟨w.heap.size, o, none⟩ = false := fun o => by rw [hf1 _ _ (by (try simp [go_sem]) <;> omega)]; simp [go_sem, hpb, hpc, hpf, pn0, pm0, pn1, pm1]
  have L1_1 : w.heap.size + 1 < w1.heap.size := by have := hz1; (try simp only [World.size_alloc, World.size_setCell, World.size_drew, World.heap_drewN] at this); omega
  have N1_1 : w1.heap.size ≠ w.heap.size + 1 := Nat.ne_of_gt L1_1
  have M1_1 : w.heap.size + 1 ≠ w1.heap.size := Nat.ne_of_lt L1_1
  have q1_1_0 : w1.cell? ⟨w.heap.size + 1, 0, none⟩ = some (.int .i64 0) := by rw [hc1 _ _ (by (try simp [go_sem]) <;> omega) (by omega)]; simp [go_sem, hpb, hpc, hpf, pn0, pm0, pn1, pm1]
  have q1_1_1 : w1.cell? ⟨w.heap.size + 1, 1, none⟩ = some (.int .i64 0) := by rw [hc1 _ _ (by (try simp [go_sem]) <;> omega) (by omega)]; simp [go_sem, hpb, hpc, hpf, pn0, pm0, pn1, pm1]
  have f1_1 : ∀ o, w1.frozen? ⟨w.heap.size + 1, o, none⟩ = false := fun o => by rw [hf1 _ _ (by (try simp [go_sem]) <;> omega)]; simp [go_sem, hpb, hpc, hpf, pn0, pm0, pn1, pm1]
  have HG1 := Lib.hid G1; clear G1 hb hc1 hf1 hz1
  have HR1 := Lib.hid hr; clear hr
  have hpb1 := PC1.1; have hpc1 := PC1.2.1; have hpf1 := PC1.2.2; have PC1 := Lib.hid PC1; have pn_1 : pb ≠ w1.heap.size := Nat.ne_of_lt hpb1; have pm_1 : w1.heap.size ≠ pb := Nat.ne_of_gt hpb1
  go_wp2_with fail
  (with_reducible refine (C2.out _ _ (M.pcell_at PC1.out ?_ ?_ ?_)).mono ?_)
  · (try simp [go_sem]) <;> omega
  · simp (disch := ((try simp [go_sem]) <;> omega)) only [World.cell?_drewN, World.cell?_alloc_lt, World.cell?_setCell_far, hpc1]
  · simp only [World.frozen?_drewN, World.frozen?_setCell, Go.RowKit.frozen?_alloc_cells, hpf1]
  rintro en w2 ⟨y, e2, rfl, iy, hr, hb⟩
  have PC2 := M.pcell_behind hb (M.pcell_at (e := e1) PC1.out (by (try simp [go_sem]) <;> omega) (by simp (disch := ((try simp [go_sem]) <;> omega)) only [World.cell?_drewN, World.cell?_alloc_lt, World.cell?_setCell_far, hpc1]) (by simp only [World.frozen?_drewN, World.frozen?_setCell, Go.RowKit.frozen?_alloc_cells, hpf1]))
  have G2 : M.RW pb e2 w w2 := M.rw_step (by have G := HG1.out; (repeat (with_reducible refine M.Below.drewN ?_ _)); go_grown) hb hpb
  have S2 : w.heap.size ≤ w2.heap.size := by have := G2.size; rwa [M.setCell_size] at this
  have hz2 := hb.size; (try simp only [M.setCell_size] at hz2)
  obtain ⟨hc2, hf2⟩ := M.rcell hb
  have L2_1 : w.heap.size + 1 < w2.heap.size := by have := hz2; (try simp only [World.size_alloc, World.size_setCell, World.size_drew, World.heap_drewN] at this); omega
  have N2_1 : w2.heap.size ≠ w.heap.size + 1 := Nat.ne_of_gt L2_1
  have M2_1 : w.heap.size + 1 ≠ w2.heap.size := Nat.ne_of_lt L2_1
  have q2_1_0 : w2.cell? ⟨w.heap.size + 1, 0, none⟩ = some (.int .i64 0) := by rw [hc2 _ _ (by (try simp [go_sem]) <;> omega) (by omega)]; simp [go_sem, hpb, hpc, hpf, pn0, pm0, pn1, pm1, L1_0, f1_0, N1_0, M1_0, q1_0_0, q1_0_1, L1_1, f1_1, N1_1, M1_1, q1_1_0, q1_1_1, S1, hpb1, hpc1, hpf1, pn_1, pm_1]
  have q2_1_1 : w2.cell? ⟨w.heap.size + 1, 1, none⟩ = some (.int .i64 0) := by rw [hc2 _ _ (by (try simp [go_sem]) <;> omega) (by omega)]; simp [go_sem, hpb, hpc, hpf, pn0, pm0, pn1, pm1, L1_0, f1_0, N1_0, M1_0, q1_0_0, q1_0_1, L1_1, f1_1, N1_1, M1_1, q1_1_0, q1_1_1, S1, hpb1, hpc1, hpf1, pn_1, pm_1]
  have f2_1 : ∀ o, w2.frozen? ⟨w.heap.size + 1, o, none⟩ = false := fun o => by rw [hf2 _ _ (by (try simp [go_sem]) <;> omega)]; simp [go_sem, hpb, hpc, hpf, pn0, pm0, pn1, pm1, L1_0, f1_0, N1_0, M1_0, q1_0_0, q1_0_1, L1_1, f1_1, N1_1, M1_1, q1_1_0, q1_1_1, S1, hpb1, hpc1, hpf1, pn_1, pm_1]
  have HG2 := Lib.hid G2; clear G2 hb hc2 hf2 hz2
  have HR2 := Lib.hid hr; clear hr
  have hpb2 := PC2.1; have hpc2 := PC2.2.1; have hpf2 := PC2.2.2; have PC2 := Lib.hid PC2; have pn_2 : pb ≠ w2.heap.size := Nat.ne_of_lt hpb2; have pm_2 : w2.heap.size ≠ pb := Nat.ne_of_gt hpb2
  go_wp2_with fail
  refine bodyPost_ret (v := .agg #[.int .i64 x, .int .i64 y]) (by simp [results, Try.results111, go_sem, hpb, hpc, hpf, pn0, pm0, pn1, pm1, L1_0, f1_0, N1_0, M1_0, q1_0_0, q1_0_1, L1_1, f1_1, N1_1, M1_1, q1_1_0, q1_1_1, S1, hpb1, hpc1, hpf1, pn_1, pm_1, L2_1, f2_1, N2_1, M2_1, q2_1_0, q2_1_1, S2, hpb2, hpc2, hpf2, pn_2, pm_2]) rfl ⟨x, y, e2, rfl, ix, iy, rel_bind HR1.out (rel_bind HR2.out (rel_ok _ _)), by have G := HG2.out; (repeat (with_reducible refine M.Below.drewN ?_ _)); go_grown⟩
theorem refDot_x (pb : Nat) (e ax ay bx by_ : Int) (h1 : I64 ax) (h2 : I64 ay) (h3 : I64 bx) (h4 : I64 by_) (w : World) (hp : PCell w pb e) :
    Calls Try.prog 80 #[.pointer (some ⟨pb, 0, none⟩), .agg #[.int .i64 ax, .int .i64 ay], .agg #[.int .i64 bx, .int .i64 by_]] w (RelI pb e (dotX (ax, ay) (bx, by_)) w) := by
  have C1 := Lib.hid (refMul_x pb e ax bx h1 h3)
  have C2 := Lib.hid (fun e => refMul_x pb e ay by_ h2 h4)
  have C3 := Lib.hid (refAdd_x pb)
  unfold RelI
  have hpb : pb < w.heap.size := hp.1
  have hpc := hp.2.1
  have hpf := hp.2.2
  have pn0 : pb ≠ w.heap.size := by omega
  have pm0 : w.heap.size ≠ pb := by omega
  have pn1 : pb ≠ w.heap.size + 1 := by omega
  have pm1 : w.heap.size + 1 ≠ pb := by omega
  have HG0 := Lib.hid (M.rw_refl hp)
  have PC0 := Lib.hid hp; clear hp
  go_enter Try.func80, Try.ntmps80
  go_wp2_with fail
  (with_reducible refine (C1.out _ (M.pcell_at PC0.out ?_ ?_ ?_)).mono ?_)
  · (try simp [go_sem]) <;> omega
  · simp (disch := ((try simp [go_sem]) <;> omega)) only [World.cell?_drewN, World.cell?_alloc_lt, World.cell?_setCell_far, hpc]
  · simp only [World.frozen?_drewN, World.frozen?_setCell, Go.RowKit.frozen?_alloc_cells, hpf]
  rintro en w1 ⟨x, e1, rfl, ix, hr, hb⟩
  have PC1 := M.pcell_behind hb (M.pcell_at (e := e) PC0.out (by (try simp [go_sem]) <;> omega) (by simp (disch := ((try simp [go_sem]) <;> omega)) only [World.cell?_drewN, World.cell?_alloc_lt, World.cell?_setCell_far, hpc]) (by simp only [World.frozen?_drewN, World.frozen?_setCell, Go.RowKit.frozen?_alloc_cells, hpf]))
  have G1 : M.RW pb e1 w w1 := M.rw_step (by have G := HG0.out; (repeat (with_reducible refine M.Below.drewN ?_ _)); go_grown) hb hpb
  have S1 : w.heap.size ≤ w1.heap.size := by have := G1.size; rwa [M.setCell_size] at this
  have hz1 := hb.size; (try simp only [M.setCell_size] at hz1)
  obtain ⟨hc1, hf1⟩ := M.rcell hb
  have L1_0 : w.heap.size < w1.heap.size := by have := hz1; (try simp only [World.size_alloc, World.size_setCell, World.size_drew, World.heap_drewN] at this); omega
  have N1_0 : w1.heap.size ≠ w.heap.size := Nat.ne_of_gt L1_0
  have M1_0 : w.heap.size ≠ w1.heap.size := Nat.ne_of_lt L1_0
  have q1_0_0 : w1.cell? ⟨w.heap.size, 0, none⟩ = some (.int .i64 ax) := by rw [hc1 _ _ (by (try simp [go_sem]) <;> omega) (by omega)]; simp [go_sem, hpb, hpc, hpf, pn0, pm0, pn1, pm1]
  have q1_0_1 : w1.cell? ⟨w.heap.size, 1, none⟩ = some (.int .i64 ay) := by rw [hc1 _ _ (by (try simp [go_sem]) <;> omega) (by omega)]; simp [go_sem, hpb, hpc, hpf, pn0, pm0, pn1, pm1]
  have f1_0 : ∀ o, w1.frozen? ⟨w.heap.size, o, none⟩ = false := fun o => by rw [hf1 _ _ (by (try simp [go_sem]) <;> omega)]; simp [go_sem, hpb, hpc, hpf, pn0, pm0, pn1, pm1]
  have L1_1 : w.heap.size + 1 < w1.heap.size := by have := hz1; (try simp only [World.size_alloc, World.size_setCell, World.size_drew, World.heap_drewN] at this); omega
  have N1_1 : w1.heap.size ≠ w.heap.size + 1 := Nat.ne_of_gt L1_1
  have M1_1 : w.heap.size + 1 ≠ w1.heap.size := Nat.ne_of_lt L1_1
  have q1_1_0 : w1.cell? ⟨w.heap.size + 1, 0, none⟩ = some (.int .i64 bx) := by rw [hc1 _ _ (by (try simp [go_sem]) <;> omega) (by omega)]; simp [go_sem, hpb, hpc, hpf, pn0, pm0, pn1, pm1]
  have q1_1_1 : w1.cell? ⟨w.heap.size + 1, 1, none⟩ = some (.int .i64 by_) := by rw [hc1 _ _ (by (try simp [go_sem]) <;> omega) (by omega)]; simp [go_sem, hpb, hpc, hpf, pn0, pm0, pn1, pm1]
  have f1_1 : ∀ o, w1.frozen? ⟨w.heap.size + 1, o, none⟩ = false := fun o => by rw [hf1 _ _ (by (try simp [go_sem]) <;> omega)]; simp [go_sem, hpb, hpc, hpf, pn0, pm0, pn1, pm1]
  have HG1 := Lib.hid G1; clear G1 hb hc1 hf1 hz1
  have HR1 := Lib.hid hr; clear hr
  have hpb1 := PC1.1; have hpc1 := PC1.2.1; have hpf1 := PC1.2.2; have PC1 := Lib.hid PC1; have pn_1 : pb ≠ w1.heap.size := Nat.ne_of_lt hpb1; have pm_1 : w1.heap.size ≠ pb := Nat.ne_of_gt hpb1
  go_wp2_with fail
  (with_reducible refine (C2.out _ _ (M.pcell_at PC1.out ?_ ?_ ?_)).mono ?_)
  · (try simp [go_sem]) <;> omega
  · simp (disch := ((try simp [go_sem]) <;> omega)) only [World.cell?_drewN, World.cell?_alloc_lt, World.cell?_setCell_far, hpc1]
  · simp only [World.frozen?_drewN, World.frozen?_setCell, Go.RowKit.frozen?_alloc_cells, hpf1]
  rintro en w2 ⟨y, e2, rfl, iy, hr, hb⟩
  have PC2 := M.pcell_behind hb (M.pcell_at (e := e1) PC1.out (by (try simp [go_sem]) <;> omega) (by simp (disch := ((try simp [go_sem]) <;> omega)) only [World.cell?_drewN, World.cell?_alloc_lt, World.cell?_setCell_far, hpc1]) (by simp only [World.frozen?_drewN, World.frozen?_setCell, Go.RowKit.frozen?_alloc_cells, hpf1]))
  have G2 : M.RW pb e2 w w2 := M.rw_step (by have G := HG1.out; (repeat (with_reducible refine M.Below.drewN ?_ _)); go_grown) hb hpb
  have S2 : w.heap.size ≤ w2.heap.size := by have := G2.size; rwa [M.setCell_size] at this
  have hz2 := hb.size; (try simp only [M.setCell_size] at hz2)
  obtain ⟨hc2, hf2⟩ := M.rcell hb
  have HG2 := Lib.hid G2; clear G2 hb hc2 hf2 hz2
  have HR2 := Lib.hid hr; clear hr
  have hpb2 := PC2.1; have hpc2 := PC2.2.1; have hpf2 := PC2.2.2; have PC2 := Lib.hid PC2; have pn_2 : pb ≠ w2.heap.size := Nat.ne_of_lt hpb2; have pm_2 : w2.heap.size ≠ pb := Nat.ne_of_gt hpb2
  go_wp2_with fail
  (with_reducible refine (C3.out _ _ _ ix iy _ (M.pcell_at PC2.out ?_ ?_ ?_)).mono ?_)
  · (try simp [go_sem]) <;> omega
  · simp (disch := ((try simp [go_sem]) <;> omega)) only [World.cell?_drewN, World.cell?_alloc_lt, World.cell?_setCell_far, hpc2]
  · simp only [World.frozen?_drewN, World.frozen?_setCell, Go.RowKit.frozen?_alloc_cells, hpf2]
  rintro en w3 ⟨z, e3, rfl, iz, hr, hb⟩
  have PC3 := M.pcell_behind hb (M.pcell_at (e := e2) PC2.out (by (try simp [go_sem]) <;> omega) (by simp (disch := ((try simp [go_sem]) <;> omega)) only [World.cell?_drewN, World.cell?_alloc_lt, World.cell?_setCell_far, hpc2]) (by simp only [World.frozen?_drewN, World.frozen?_setCell, Go.RowKit.frozen?_alloc_cells, hpf2]))
  have G3 : M.RW pb e3 w w3 := M.rw_step (by have G := HG2.out; (repeat (with_reducible refine M.Below.drewN ?_ _)); go_grown) hb hpb
  have S3 : w.heap.size ≤ w3.heap.size := by have := G3.size; rwa [M.setCell_size] at this
  have hz3 := hb.size; (try simp only [M.setCell_size] at hz3)
  obtain ⟨hc3, hf3⟩ := M.rcell hb
  have HG3 := Lib.hid G3; clear G3 hb hc3 hf3 hz3
  have HR3 := Lib.hid hr; clear hr
  have hpb3 := PC3.1; have hpc3 := PC3.2.1; have hpf3 := PC3.2.2; have PC3 := Lib.hid PC3; have pn_3 : pb ≠ w3.heap.size := Nat.ne_of_lt hpb3; have pm_3 : w3.heap.size ≠ pb := Nat.ne_of_gt hpb3
  go_wp2_with fail
  go_ret
  exact ⟨z, e3, rfl, iz, rel_bind HR1.out (rel_bind HR2.out HR3.out), by have G := HG3.out; (repeat (with_reducible refine M.Below.drewN ?_ _)); go_grown⟩
theorem refUnit_x (pb : Nat) (e x y : Int) (h1 : I64 x) (h2 : I64 y) (w : World) (hp : PCell w pb e) :
    Calls Try.prog 86 #[.pointer (some ⟨pb, 0, none⟩), .agg #[.int .i64 x, .int .i64 y]] w (RelVI pb e (unitX (x, y)) w) := by
  have C1 := Lib.hid (refLen_x pb e x y h1 h2)
  have C2 := Lib.hid (refOver_x pb)
  have z : I64 0 := by unfold I64; omega
  unfold RelVI
  have hpb : pb < w.heap.size := hp.1
  have hpc := hp.2.1
  have hpf := hp.2.2
  have pn0 : pb ≠ w.heap.size := by omega
  have pm0 : w.heap.size ≠ pb := by omega
  have pn1 : pb ≠ w.heap.size + 1 := by omega
  have pm1 : w.heap.size + 1 ≠ pb := by omega
  have HG0 := Lib.hid (M.rw_refl hp)
  have PC0 := Lib.hid hp; clear hp
  go_enter Try.func86, Try.ntmps86
  go_wp2_with fail
  (with_reducible refine (C1.out _ (M.pcell_at PC0.out ?_ ?_ ?_)).mono ?_)
  · (try simp [go_sem]) <;> omega
  · simp (disch := ((try simp [go_sem]) <;> omega)) only [World.cell?_drewN, World.cell?_alloc_lt, World.cell?_setCell_far, hpc]
  · simp only [World.frozen?_drewN, World.frozen?_setCell, Go.RowKit.frozen?_alloc_cells, hpf]
  rintro en w1 ⟨l, e1, rfl, il, hr, hb⟩
  have PC1 := M.pcell_behind hb (M.pcell_at (e := e) PC0.out (by (try simp [go_sem]) <;> omega) (by simp (disch := ((try simp [go_sem]) <;> omega)) only [World.cell?_drewN, World.cell?_alloc_lt, World.cell?_setCell_far, hpc]) (by simp only [World.frozen?_drewN, World.frozen?_setCell, Go.RowKit.frozen?_alloc_cells, hpf]))
  have G1 : M.RW pb e1 w w1 := M.rw_step (by have G := HG0.out; (repeat (with_reducible refine M.Below.drewN ?_ _)); go_grown) hb hpb
  have S1 : w.heap.size ≤ w1.heap.size := by have := G1.size; rwa [M.setCell_size] at this
  have hz1 := hb.size; (try simp only [M.setCell_size] at hz1)
  obtain ⟨hc1, hf1⟩ := M.rcell hb
  have L1_0 : w.heap.size < w1.heap.size := by have := hz1; (try simp only [World.size_alloc, World.size_setCell, World.size_drew, World.heap_drewN] at this); omega
  have N1_0 : w1.heap.size ≠ w.heap.size := Nat.ne_of_gt L1_0
  have M1_0 : w.heap.size ≠ w1.heap.size := Nat.ne_of_lt L1_0
  have q1_0_0 : w1.cell? ⟨w.heap.size, 0, none⟩ = some (.int .i64 x) := by rw [hc1 _ _ (by (try simp [go_sem]) <;> omega) (by omega)]; simp [go_sem, hpb, hpc, hpf, pn0, pm0, pn1, pm1]
  have q1_0_1 : w1.cell? ⟨w.heap.size, 1, none⟩ = some (.int .i64 y) := by rw [hc1 _ _ (by (try simp [go_sem]) <;> omega) (by omega)]; simp [go_sem, hpb, hpc, hpf, pn0, pm0, pn1, pm1]
  have f1_0 : ∀ o, w1.frozen? ⟨w.heap.size, o, none⟩ = false := fun o => by rw [hf1 _ _ (by (try simp [go_sem]) <;> omega)]; simp [go_sem, hpb, hpc, hpf, pn0, pm0, pn1, pm1]
  have L1_1 : w.heap.size + 1 < w1.heap.size := by have := hz1; (try simp only [World.size_alloc, World.size_setCell, World.size_drew, World.heap_drewN] at this); omega
  have N1_1 : w1.heap.size ≠ w.heap.size + 1 := Nat.ne_of_gt L1_1
  have M1_1 : w.heap.size + 1 ≠ w1.heap.size := Nat.ne_of_lt L1_1
  have q1_1_0 : w1.cell? ⟨w.heap.size + 1, 0, none⟩ = some (.int .i64 0) := by rw [hc1 _ _ (by (try simp [go_sem]) <;> omega) (by omega)]; simp [go_sem, hpb, hpc, hpf, pn0, pm0, pn1, pm1]
  have q1_1_1 : w1.cell? ⟨w.heap.size + 1, 1, none⟩ = some (.int .i64 0) := by rw [hc1 _ _ (by (try simp [go_sem]) <;> omega) (by omega)]; simp [go_sem, hpb, hpc, hpf, pn0, pm0, pn1, pm1]
  have f1_1 : ∀ o, w1.frozen? ⟨w.heap.size + 1, o, none⟩ = false := fun o => by rw [hf1 _ _ (by (try simp [go_sem]) <;> omega)]; simp [go_sem, hpb, hpc, hpf, pn0, pm0, pn1, pm1]
  have HG1 := Lib.hid G1; clear G1 hb hc1 hf1 hz1
  have HR1 := Lib.hid hr; clear hr
  have hpb1 := PC1.1; have hpc1 := PC1.2.1; have hpf1 := PC1.2.2; have PC1 := Lib.hid PC1; have pn_1 : pb ≠ w1.heap.size := Nat.ne_of_lt hpb1; have pm_1 : w1.heap.size ≠ pb := Nat.ne_of_gt hpb1
  go_wp2_with fail
  · have h0 : l = 0 := beq_iff_eq.1 (by assumption)
    refine bodyPost_ret (v := .tuple #[.agg #[.int .i64 0, .int .i64 0], .int .i64 0]) (by simp [results, Try.results86, go_sem, hpb, hpc, hpf, pn0, pm0, pn1, pm1, L1_0, f1_0, N1_0, M1_0, q1_0_0, q1_0_1, L1_1, f1_1, N1_1, M1_1, q1_1_0, q1_1_1, S1, hpb1, hpc1, hpf1, pn_1, pm_1]) rfl ⟨0, 0, 0, e1, rfl, z, z, z, rel_bind HR1.out (by rw [if_pos h0]; exact rel_ok _ _), by have G := HG1.out; (repeat (with_reducible refine M.Below.drewN ?_ _)); go_grown⟩
  · have h0 : ¬ l = 0 := beq_eq_false_iff_ne.1 (by assumption)
    (with_reducible refine (C2.out _ _ _ _ h1 h2 il _ (M.pcell_at PC1.out ?_ ?_ ?_)).mono ?_)
    · (try simp [go_sem]) <;> omega
    · simp (disch := ((try simp [go_sem]) <;> omega)) only [World.cell?_drewN, World.cell?_alloc_lt, World.cell?_setCell_far, hpc1]
    · simp only [World.frozen?_drewN, World.frozen?_setCell, Go.RowKit.frozen?_alloc_cells, hpf1]
    rintro en w2 ⟨u, v, e2, rfl, iu, iv, hr, hb⟩
    have PC2 := M.pcell_behind hb (M.pcell_at (e := e1) PC1.out (by (try simp [go_sem]) <;> omega) (by simp (disch := ((try simp [go_sem]) <;> omega)) only [World.cell?_drewN, World.cell?_alloc_lt, World.cell?_setCell_far, hpc1]) (by simp only [World.frozen?_drewN, World.frozen?_setCell, Go.RowKit.frozen?_alloc_cells, hpf1]))
    have G2 : M.RW pb e2 w w2 := M.rw_step (by have G := HG1.out; (repeat (with_reducible refine M.Below.drewN ?_ _)); go_grown) hb hpb
    have S2 : w.heap.size ≤ w2.heap.size := by have := G2.size; rwa [M.setCell_size] at this
    have hz2 := hb.size; (try simp only [M.setCell_size] at hz2)
    obtain ⟨hc2, hf2⟩ := M.rcell hb
    have L2_1 : w.heap.size + 1 < w2.heap.size := by have := hz2; (try simp only [World.size_alloc, World.size_setCell, World.size_drew, World.heap_drewN] at this); omega
    have N2_1 : w2.heap.size ≠ w.heap.size + 1 := Nat.ne_of_gt L2_1
    have M2_1 : w.heap.size + 1 ≠ w2.heap.size := Nat.ne_of_lt L2_1
    have q2_1_0 : w2.cell? ⟨w.heap.size + 1, 0, none⟩ = some (.int .i64 0) := by rw [hc2 _ _ (by (try simp [go_sem]) <;> omega) (by omega)]; simp [go_sem, hpb, hpc, hpf, pn0, pm0, pn1, pm1, L1_0, f1_0, N1_0, M1_0, q1_0_0, q1_0_1, L1_1, f1_1, N1_1, M1_1, q1_1_0, q1_1_1, S1, hpb1, hpc1, hpf1, pn_1, pm_1]
    have q2_1_1 : w2.cell? ⟨w.heap.size + 1, 1, none⟩ = some (.int .i64 0) := by rw [hc2 _ _ (by (try simp [go_sem]) <;> omega) (by omega)]; simp [go_sem, hpb, hpc, hpf, pn0, pm0, pn1, pm1, L1_0, f1_0, N1_0, M1_0, q1_0_0, q1_0_1, L1_1, f1_1, N1_1, M1_1, q1_1_0, q1_1_1, S1, hpb1, hpc1, hpf1, pn_1, pm_1]
    have f2_1 : ∀ o, w2.frozen? ⟨w.heap.size + 1, o, none⟩ = false := fun o => by rw [hf2 _ _ (by (try simp [go_sem]) <;> omega)]; simp [go_sem, hpb, hpc, hpf, pn0, pm0, pn1, pm1, L1_0, f1_0, N1_0, M1_0, q1_0_0, q1_0_1, L1_1, f1_1, N1_1, M1_1, q1_1_0, q1_1_1, S1, hpb1, hpc1, hpf1, pn_1, pm_1]
    have HG2 := Lib.hid G2; clear G2 hb hc2 hf2 hz2
    have HR2 := Lib.hid hr; clear hr
    have hpb2 := PC2.1; have hpc2 := PC2.2.1; have hpf2 := PC2.2.2; have PC2 := Lib.hid PC2; have pn_2 : pb ≠ w2.heap.size := Nat.ne_of_lt hpb2; have pm_2 : w2.heap.size ≠ pb := Nat.ne_of_gt hpb2
    go_wp2_with fail
    refine bodyPost_ret (v := .tuple #[.agg #[.int .i64 u, .int .i64 v], .int .i64 l]) (by simp [results, Try.results86, go_sem, hpb, hpc, hpf, pn0, pm0, pn1, pm1, L1_0, f1_0, N1_0, M1_0, q1_0_0, q1_0_1, L1_1, f1_1, N1_1, M1_1, q1_1_0, q1_1_1, S1, hpb1, hpc1, hpf1, pn_1, pm_1, L2_1, f2_1, N2_1, M2_1, q2_1_0, q2_1_1, S2, hpb2, hpc2, hpf2, pn_2, pm_2]) rfl ⟨u, v, l, e2, rfl, iu, iv, il, rel_bind HR1.out (by rw [if_neg h0]; exact rel_bind HR2.out (rel_ok _ _)), by have G := HG2.out; (repeat (with_reducible refine M.Below.drewN ?_ _)); go_grown⟩
theorem refPart_x (pb : Nat) (e a n : Int) (h1 : I64 a) (h2 : I64 n) (w : World) (hp : PCell w pb e) :
    Calls Try.prog 81 #[.pointer (some ⟨pb, 0, none⟩), .int .i64 a, .int .i64 n] w (RelI pb e (partX a n) w) := by
  have z : I64 0 := by unfold I64; omega
  have F := Lib.hid (fun x hx w hp => refFail_x pb e x hx w hp (0 : Int))
  have HP := Lib.hid hp
  have hc := hp.2.1
  have hf := hp.2.2
  have HR := Lib.hid (M.rw_refl hp)
  clear hp
  unfold RelI
  by_cases he : e = 0
  · subst he
    by_cases h0 : n = 0
    · have b := beq_iff_eq.2 h0
      subst h0
      go_enter Try.func81, Try.ntmps81
      go_wp2_with fail
      (with_reducible refine (F.out 4 (by omega) _ HP.out).mono ?_); rintro en w1 ⟨e1, rfl, hr, hb⟩
      go_wp2_with fail
      go_ret
      exact ⟨0, e1, rfl, z, by unfold partX; rw [if_pos rfl]; exact hr, hb⟩
    · have b := beq_eq_false_iff_ne.2 h0
      by_cases h3 : n = -1 ∧ a = -9223372036854775808
      · obtain ⟨rfl, rfl⟩ := h3
        go_enter Try.func81, Try.ntmps81
        go_wp2_with fail
        (with_reducible refine (F.out 3 (by omega) _ HP.out).mono ?_); rintro en w1 ⟨e1, rfl, hr, hb⟩
        go_wp2_with fail
        go_ret
        exact ⟨0, e1, rfl, z, by unfold partX; rw [if_neg (by omega), if_pos ⟨rfl, rfl⟩]; exact hr, hb⟩
      · have q : partX a n = .ok (a.tdiv n) := by unfold partX; rw [if_neg h0, if_neg h3]
        have k := partX_i64 h1 q
        have e2 := Lib.hid (wrap64_id k)
        have E := Lib.hid q
        have K := Lib.hid k
        have h4 : (a == -9223372036854775808) = false ∨ ((a == -9223372036854775808) = true ∧ (n == -1) = false) := by
          by_cases h : a = -9223372036854775808
          · exact .inr ⟨beq_iff_eq.2 h, beq_eq_false_iff_ne.2 (fun h' => h3 ⟨h', h⟩)⟩
          · exact .inl (beq_eq_false_iff_ne.2 h)
        clear q k h3
        rcases h4 with h4 | ⟨h4, h5⟩
        all_goals
          go_enter Try.func81, Try.ntmps81
          go_wp2_with fail
          go_ret
          exact ⟨_, 0, r1 e2.out, K.out, by rw [E.out]; exact rel_ok _ _, HR.out⟩
  · have b := bne_iff_ne.2 he
    go_enter Try.func81, Try.ntmps81
    go_wp2_with fail
    go_ret
    exact ⟨0, e, rfl, z, .inl ⟨he, rfl⟩, HR.out⟩
theorem refSpeed_x (pb : Nat) (e : Int) (b : Bd) (h : b.ok) (w : World) (hp : PCell w pb e) :
    Calls Try.prog 79 #[.pointer (some ⟨pb, 0, none⟩), .agg #[.int .i64 b.shape, .int .i64 b.sx, .int .i64 b.sy, .int .i64 b.mass, .int .i64 b.px, .int .i64 b.py, .int .i64 b.mx, .int .i64 b.my]] w (RelV pb e (speedX b) w) := by
  have C := Lib.hid (refOver_x pb e b.mx b.my b.mass h.mx h.my h.mass)
  have z : I64 0 := by unfold I64; omega
  unfold RelV
  have hpb : pb < w.heap.size := hp.1
  have hpc := hp.2.1
  have hpf := hp.2.2
  have pn0 : pb ≠ w.heap.size := by omega
  have pm0 : w.heap.size ≠ pb := by omega
  have pn1 : pb ≠ w.heap.size + 1 := by omega
  have pm1 : w.heap.size + 1 ≠ pb := by omega
  have HG0 := Lib.hid (M.rw_refl hp)
  have PC0 := Lib.hid hp; clear hp
  go_enter Try.func79, Try.ntmps79
  go_wp2_with fail
  · have h0 : b.mass = 0 := beq_iff_eq.1 (by assumption)
    refine bodyPost_ret (v := .agg #[.int .i64 0, .int .i64 0]) (by simp [results, Try.results79, go_sem, hpb, hpc, hpf, pn0, pm0, pn1, pm1]) rfl ⟨0, 0, e, rfl, z, z, (by unfold speedX; rw [if_pos h0]; exact rel_ok _ _), by have G := HG0.out; (repeat (with_reducible refine M.Below.drewN ?_ _)); go_grown⟩
  · have h0 : ¬ b.mass = 0 := beq_eq_false_iff_ne.1 (by assumption)
    (with_reducible refine (C.out _ (M.pcell_at PC0.out ?_ ?_ ?_)).mono ?_)
    · (try simp [go_sem]) <;> omega
    · simp (disch := ((try simp [go_sem]) <;> omega)) only [World.cell?_drewN, World.cell?_alloc_lt, World.cell?_setCell_far, hpc]
    · simp only [World.frozen?_drewN, World.frozen?_setCell, Go.RowKit.frozen?_alloc_cells, hpf]
    rintro en w1 ⟨x, y, e1, rfl, ix, iy, hr, hb⟩
    have PC1 := M.pcell_behind hb (M.pcell_at (e := e) PC0.out (by (try simp [go_sem]) <;> omega) (by simp (disch := ((try simp [go_sem]) <;> omega)) only [World.cell?_drewN, World.cell?_alloc_lt, World.cell?_setCell_far, hpc]) (by simp only [World.frozen?_drewN, World.frozen?_setCell, Go.RowKit.frozen?_alloc_cells, hpf]))
    have G1 : M.RW pb e1 w w1 := M.rw_step (by have G := HG0.out; (repeat (with_reducible refine M.Below.drewN ?_ _)); go_grown) hb hpb
    have S1 : w.heap.size ≤ w1.heap.size := by have := G1.size; rwa [M.setCell_size] at this
    have hz1 := hb.size; (try simp only [M.setCell_size] at hz1)
    obtain ⟨hc1, hf1⟩ := M.rcell hb
    have L1_1 : w.heap.size + 1 < w1.heap.size := by have := hz1; (try simp only [World.size_alloc, World.size_setCell, World.size_drew, World.heap_drewN] at this); omega
    have N1_1 : w1.heap.size ≠ w.heap.size + 1 := Nat.ne_of_gt L1_1
    have M1_1 : w.heap.size + 1 ≠ w1.heap.size := Nat.ne_of_lt L1_1
    have q1_1_0 : w1.cell? ⟨w.heap.size + 1, 0, none⟩ = some (.int .i64 0) := by rw [hc1 _ _ (by (try simp [go_sem]) <;> omega) (by omega)]; simp [go_sem, hpb, hpc, hpf, pn0, pm0, pn1, pm1]
    have q1_1_1 : w1.cell? ⟨w.heap.size + 1, 1, none⟩ = some (.int .i64 0) := by rw [hc1 _ _ (by (try simp [go_sem]) <;> omega) (by omega)]; simp [go_sem, hpb, hpc, hpf, pn0, pm0, pn1, pm1]
    have f1_1 : ∀ o, w1.frozen? ⟨w.heap.size + 1, o, none⟩ = false := fun o => by rw [hf1 _ _ (by (try simp [go_sem]) <;> omega)]; simp [go_sem, hpb, hpc, hpf, pn0, pm0, pn1, pm1]
    have HG1 := Lib.hid G1; clear G1 hb hc1 hf1 hz1
    have HR1 := Lib.hid hr; clear hr
    have hpb1 := PC1.1; have hpc1 := PC1.2.1; have hpf1 := PC1.2.2; have PC1 := Lib.hid PC1; have pn_1 : pb ≠ w1.heap.size := Nat.ne_of_lt hpb1; have pm_1 : w1.heap.size ≠ pb := Nat.ne_of_gt hpb1
    go_wp2_with fail
    refine bodyPost_ret (v := .agg #[.int .i64 x, .int .i64 y]) (by simp [results, Try.results79, go_sem, hpb, hpc, hpf, pn0, pm0, pn1, pm1, L1_1, f1_1, N1_1, M1_1, q1_1_0, q1_1_1, S1, hpb1, hpc1, hpf1, pn_1, pm_1]) rfl ⟨x, y, e1, rfl, ix, iy, (by unfold speedX; rw [if_neg h0]; exact HR1.out), by have G := HG1.out; (repeat (with_reducible refine M.Below.drewN ?_ _)); go_grown⟩
theorem refLight_x (pb : Nat) (e : Int) (b : Bd) (h : b.ok) (w : World) (hp : PCell w pb e) :
    Calls Try.prog 77 #[.pointer (some ⟨pb, 0, none⟩), .agg #[.int .i64 b.shape, .int .i64 b.sx, .int .i64 b.sy, .int .i64 b.mass, .int .i64 b.px, .int .i64 b.py, .int .i64 b.mx, .int .i64 b.my]] w (RelI pb e (lightX b) w) := by
  have C := Lib.hid (refDiv_x pb e 4294967296 b.mass (by unfold I64; omega) h.mass)
  have z : I64 0 := by unfold I64; omega
  unfold RelI
  have hpb : pb < w.heap.size := hp.1
  have hpc := hp.2.1
  have hpf := hp.2.2
  have pn0 : pb ≠ w.heap.size := by omega
  have pm0 : w.heap.size ≠ pb := by omega
  have HG0 := Lib.hid (M.rw_refl hp)
  have PC0 := Lib.hid hp; clear hp
  go_enter Try.func77, Try.ntmps77
  go_wp2_with fail
  · have h0 : b.mass = 0 := beq_iff_eq.1 (by assumption)
    go_ret
    exact ⟨0, e, rfl, z, (by unfold lightX; rw [if_pos h0]; exact rel_ok _ _), by have G := HG0.out; (repeat (with_reducible refine M.Below.drewN ?_ _)); go_grown⟩
  · have h0 : ¬ b.mass = 0 := beq_eq_false_iff_ne.1 (by assumption)
    (with_reducible refine (C.out _ (M.pcell_at PC0.out ?_ ?_ ?_)).mono ?_)
    · (try simp [go_sem]) <;> omega
    · simp (disch := ((try simp [go_sem]) <;> omega)) only [World.cell?_drewN, World.cell?_alloc_lt, World.cell?_setCell_far, hpc]
    · simp only [World.frozen?_drewN, World.frozen?_setCell, Go.RowKit.frozen?_alloc_cells, hpf]
    rintro en w1 ⟨x, e1, rfl, ix, hr, hb⟩
    have PC1 := M.pcell_behind hb (M.pcell_at (e := e) PC0.out (by (try simp [go_sem]) <;> omega) (by simp (disch := ((try simp [go_sem]) <;> omega)) only [World.cell?_drewN, World.cell?_alloc_lt, World.cell?_setCell_far, hpc]) (by simp only [World.frozen?_drewN, World.frozen?_setCell, Go.RowKit.frozen?_alloc_cells, hpf]))
    have G1 : M.RW pb e1 w w1 := M.rw_step (by have G := HG0.out; (repeat (with_reducible refine M.Below.drewN ?_ _)); go_grown) hb hpb
    have S1 : w.heap.size ≤ w1.heap.size := by have := G1.size; rwa [M.setCell_size] at this
    have hz1 := hb.size; (try simp only [M.setCell_size] at hz1)
    obtain ⟨hc1, hf1⟩ := M.rcell hb
    have HG1 := Lib.hid G1; clear G1 hb hc1 hf1 hz1
    have HR1 := Lib.hid hr; clear hr
    have hpb1 := PC1.1; have hpc1 := PC1.2.1; have hpf1 := PC1.2.2; have PC1 := Lib.hid PC1; have pn_1 : pb ≠ w1.heap.size := Nat.ne_of_lt hpb1; have pm_1 : w1.heap.size ≠ pb := Nat.ne_of_gt hpb1
    go_wp2_with fail
    go_ret
    exact ⟨x, e1, rfl, ix, (by unfold lightX; rw [if_neg h0]; exact HR1.out), by have G := HG1.out; (repeat (with_reducible refine M.Below.drewN ?_ _)); go_grown⟩
namespace M
def amountX (a : Int) : X Int := if a < 0 then subX 0 a else .ok a
end M
end Go.Proofs.Ytcaibieaobhheaa
