/- The reference's contacts: Flip. -/
import Derived.Test.YtaagpkacningdaaRefBounds
import Derived.Test.YtaagpkacningdaaRefRight
namespace Go.Proofs.Ytaagpkacningdaa
open Go.RowKit M
set_option maxRecDepth 100000
set_option maxHeartbeats 4000000
set_option linter.unusedVariables false
set_option linter.unusedSimpArgs false
attribute [local go_sem ↓] Go.wp_at_zero Go.wp_at_succ
theorem refFlip_x (pb : Nat) (e : Int) (h : Ht) (hh : h.ok) (w : World) (hp : PCell w pb e) :
    Calls Try.prog 138 #[.pointer (some ⟨pb, 0, none⟩), .agg #[.int .i64 h.nx, .int .i64 h.ny, .int .i64 h.d]] w (RelHt pb e (flipX h) w) := by
  have C1 := Lib.hid (refSub_x pb e 0 h.nx (by unfold I64; omega) hh.nx)
  have C2 := Lib.hid (fun e => refSub_x pb e 0 h.ny (by unfold I64; omega) hh.ny)
  have hpb : pb < w.heap.size := hp.1
  have hpc := hp.2.1
  have hpf := hp.2.2
  have pn0 : pb ≠ w.heap.size := by omega
  have pm0 : w.heap.size ≠ pb := by omega
  have pn1 : pb ≠ w.heap.size + 1 := by omega
  have pm1 : w.heap.size + 1 ≠ pb := by omega
  have HG0 := Lib.hid (M.rw_refl hp)
  have PC0 := Lib.hid hp; clear hp
  go_enter Try.func138, Try.ntmps138
  go_wp2_with fail
  (with_reducible refine (C1.out _ (M.pcell_at PC0.out ?_ ?_ ?_)).mono ?_)
  · (try simp [go_sem]) <;> omega
  · simp (disch := ((try simp [go_sem]) <;> omega)) only [World.cell?_drewN, World.cell?_alloc_lt, World.cell?_setCell_far, hpc]
  · simp only [World.frozen?_drewN, World.frozen?_setCell, Go.RowKit.frozen?_alloc_cells, hpf]
  rintro en w1 ⟨x, e1, rfl, ix, hr, hb⟩
  have PC1 := M.pcell_behind hb (M.pcell_at (e := e) PC0.out (by (try simp [go_sem]) <;> omega) (by simp (disch := ((try simp [go_sem]) <;> omega)) only [World.cell?_drewN, World.cell?_alloc_lt, World.cell?_setCell_far, hpc]) (by simp only [World.frozen?_drewN, World.frozen?_setCell, Go.RowKit.frozen?_alloc_cells, hpf]))
  have G1 : M.RW pb e1 w w1 := M.rw_step (by have G := HG0.out; (repeat (with_reducible refine M.Below.drewN ?_ _)); go_grown) hb hpb
  have S1 : w.heap.size ≤ w1.heap.size := by have := G1.size; rwa [M.setCell_size] at this
  have hz1 := hb.size; (try simp only [M.setCell_size] at hz1)
  obtain ⟨hc1, hf1⟩ := M.rcell hb
  have L1_0 : w.heap.size < w1.heap.size := by have := hz1; (try simp only [World.size_alloc, World.size_setCell, World.size_drew, World.heap_drewN] at this); omega
  have N1_0 : w1.heap.size ≠ w.heap.size := Nat.ne_of_gt L1_0
  have M1_0 : w.heap.size ≠ w1.heap.size := Nat.ne_of_lt L1_0
  have q1_0_0 : w1.cell? ⟨w.heap.size, 0, none⟩ = some (.int .i64 h.nx) := by rw [hc1 _ _ (by (try simp [go_sem]) <;> omega) (by omega)]; simp [go_sem, hpb, hpc, hpf, pn0, pm0, pn1, pm1]
  have q1_0_1 : w1.cell? ⟨w.heap.size, 1, none⟩ = some (.int .i64 h.ny) := by rw [hc1 _ _ (by (try simp [go_sem]) <;> omega) (by omega)]; simp [go_sem, hpb, hpc, hpf, pn0, pm0, pn1, pm1]
  have q1_0_2 : w1.cell? ⟨w.heap.size, 2, none⟩ = some (.int .i64 h.d) := by rw [hc1 _ _ (by (try simp [go_sem]) <;> omega) (by omega)]; simp [go_sem, hpb, hpc, hpf, pn0, pm0, pn1, pm1]
  have f1_0 : ∀ o, w1.frozen? ⟨w.heap.size, o, none⟩ = false := fun o => by rw [hf1 _ _ (by (try simp [go_sem]) <;> omega)]; simp [go_sem, hpb, hpc, hpf, pn0, pm0, pn1, pm1]
  have L1_1 : w.heap.size + 1 < w1.heap.size := by have := hz1; (try simp only [World.size_alloc, World.size_setCell, World.size_drew, World.heap_drewN] at this); omega
  have N1_1 : w1.heap.size ≠ w.heap.size + 1 := Nat.ne_of_gt L1_1
  have M1_1 : w.heap.size + 1 ≠ w1.heap.size := Nat.ne_of_lt L1_1
  have q1_1_0 : w1.cell? ⟨w.heap.size + 1, 0, none⟩ = some (.int .i64 0) := by rw [hc1 _ _ (by (try simp [go_sem]) <;> omega) (by omega)]; simp [go_sem, hpb, hpc, hpf, pn0, pm0, pn1, pm1]
  have q1_1_1 : w1.cell? ⟨w.heap.size + 1, 1, none⟩ = some (.int .i64 0) := by rw [hc1 _ _ (by (try simp [go_sem]) <;> omega) (by omega)]; simp [go_sem, hpb, hpc, hpf, pn0, pm0, pn1, pm1]
  have q1_1_2 : w1.cell? ⟨w.heap.size + 1, 2, none⟩ = some (.int .i64 0) := by rw [hc1 _ _ (by (try simp [go_sem]) <;> omega) (by omega)]; simp [go_sem, hpb, hpc, hpf, pn0, pm0, pn1, pm1]
  have f1_1 : ∀ o, w1.frozen? ⟨w.heap.size + 1, o, none⟩ = false := fun o => by rw [hf1 _ _ (by (try simp [go_sem]) <;> omega)]; simp [go_sem, hpb, hpc, hpf, pn0, pm0, pn1, pm1]
  have HG1 := Lib.hid G1; clear G1 hb hc1 hf1 hz1
  have HR1 := Lib.hid hr; clear hr
  have hpb1 := PC1.1; have hpc1 := PC1.2.1; have hpf1 := PC1.2.2; have PC1 := Lib.hid PC1; have pn_1 : pb ≠ w1.heap.size := Nat.ne_of_lt hpb1; have pm_1 : w1.heap.size ≠ pb := Nat.ne_of_gt hpb1
  go_wp2_with fail
  go_region_held2 (fun w' => w'.cell? ⟨w.heap.size, 1, none⟩ = some (.int .i64 h.ny) ∧ w'.cell? ⟨w.heap.size, 2, none⟩ = some (.int .i64 h.d)) (go_keep)
    (
    (go_at_call 175
     refine (C2.out _ _ (M.pcell_at PC1.out ?_ ?_ ?_)).mono ?_
     · (try simp [go_sem]) <;> omega
     · simp (disch := ((try simp [go_sem]) <;> omega)) only [World.cell?_drew, World.cell?_drewN, World.cell?_alloc_lt, World.cell?_setCell_far, hpc1]
     · simp only [World.frozen?_drew, World.frozen?_drewN, World.frozen?_setCell, Go.RowKit.frozen?_alloc_cells, hpf1]
     rintro en w2 ⟨y, e2, rfl, iy, hr, hb⟩
     have PC2 := M.pcell_behind hb (M.pcell_at (e := e1) PC1.out (by (try simp [go_sem]) <;> omega) (by simp (disch := ((try simp [go_sem]) <;> omega)) only [World.cell?_drew, World.cell?_drewN, World.cell?_alloc_lt, World.cell?_setCell_far, hpc1]) (by simp only [World.frozen?_drew, World.frozen?_drewN, World.frozen?_setCell, Go.RowKit.frozen?_alloc_cells, hpf1]))
     have G2 : M.RW pb e2 w w2 := M.rw_step (by have G := HG1.out; (repeat (with_reducible refine M.Below.drewN ?_ _)); go_grown) hb hpb
     have S2 : w.heap.size ≤ w2.heap.size := by have := G2.size; rwa [M.setCell_size] at this
     have hz2 := hb.size; (try simp only [M.setCell_size] at hz2)
     obtain ⟨hc2, hf2⟩ := M.rcell hb
     have L2_0 : w.heap.size < w2.heap.size := by have := hz2; (try simp only [World.size_alloc, World.size_setCell, World.size_drew, World.heap_drewN] at this); omega
     have N2_0 : w2.heap.size ≠ w.heap.size := Nat.ne_of_gt L2_0
     have M2_0 : w.heap.size ≠ w2.heap.size := Nat.ne_of_lt L2_0
     have q2_0_0 : w2.cell? ⟨w.heap.size, 0, none⟩ = some (.int .i64 h.nx) := by rw [hc2 _ _ (by (try simp [go_sem]) <;> omega) (by omega)]; simp [go_sem, hpb, hpc, hpf, pn0, pm0, pn1, pm1, L1_0, f1_0, N1_0, M1_0, q1_0_0, q1_0_1, q1_0_2, L1_1, f1_1, N1_1, M1_1, q1_1_0, q1_1_1, q1_1_2, S1, hpb1, hpc1, hpf1, pn_1, pm_1]
     have q2_0_1 : w2.cell? ⟨w.heap.size, 1, none⟩ = some (.int .i64 h.ny) := by rw [hc2 _ _ (by (try simp [go_sem]) <;> omega) (by omega)]; simp [go_sem, hpb, hpc, hpf, pn0, pm0, pn1, pm1, L1_0, f1_0, N1_0, M1_0, q1_0_0, q1_0_1, q1_0_2, L1_1, f1_1, N1_1, M1_1, q1_1_0, q1_1_1, q1_1_2, S1, hpb1, hpc1, hpf1, pn_1, pm_1]
     have q2_0_2 : w2.cell? ⟨w.heap.size, 2, none⟩ = some (.int .i64 h.d) := by rw [hc2 _ _ (by (try simp [go_sem]) <;> omega) (by omega)]; simp [go_sem, hpb, hpc, hpf, pn0, pm0, pn1, pm1, L1_0, f1_0, N1_0, M1_0, q1_0_0, q1_0_1, q1_0_2, L1_1, f1_1, N1_1, M1_1, q1_1_0, q1_1_1, q1_1_2, S1, hpb1, hpc1, hpf1, pn_1, pm_1]
     have f2_0 : ∀ o, w2.frozen? ⟨w.heap.size, o, none⟩ = false := fun o => by rw [hf2 _ _ (by (try simp [go_sem]) <;> omega)]; simp [go_sem, hpb, hpc, hpf, pn0, pm0, pn1, pm1, L1_0, f1_0, N1_0, M1_0, q1_0_0, q1_0_1, q1_0_2, L1_1, f1_1, N1_1, M1_1, q1_1_0, q1_1_1, q1_1_2, S1, hpb1, hpc1, hpf1, pn_1, pm_1]
     have L2_1 : w.heap.size + 1 < w2.heap.size := by have := hz2; (try simp only [World.size_alloc, World.size_setCell, World.size_drew, World.heap_drewN] at this); omega
     have N2_1 : w2.heap.size ≠ w.heap.size + 1 := Nat.ne_of_gt L2_1
     have M2_1 : w.heap.size + 1 ≠ w2.heap.size := Nat.ne_of_lt L2_1
     have q2_1_0 : w2.cell? ⟨w.heap.size + 1, 0, none⟩ = some (.int .i64 0) := by rw [hc2 _ _ (by (try simp [go_sem]) <;> omega) (by omega)]; simp [go_sem, hpb, hpc, hpf, pn0, pm0, pn1, pm1, L1_0, f1_0, N1_0, M1_0, q1_0_0, q1_0_1, q1_0_2, L1_1, f1_1, N1_1, M1_1, q1_1_0, q1_1_1, q1_1_2, S1, hpb1, hpc1, hpf1, pn_1, pm_1]
     have q2_1_1 : w2.cell? ⟨w.heap.size + 1, 1, none⟩ = some (.int .i64 0) := by rw [hc2 _ _ (by (try simp [go_sem]) <;> omega) (by omega)]; simp [go_sem, hpb, hpc, hpf, pn0, pm0, pn1, pm1, L1_0, f1_0, N1_0, M1_0, q1_0_0, q1_0_1, q1_0_2, L1_1, f1_1, N1_1, M1_1, q1_1_0, q1_1_1, q1_1_2, S1, hpb1, hpc1, hpf1, pn_1, pm_1]
     have q2_1_2 : w2.cell? ⟨w.heap.size + 1, 2, none⟩ = some (.int .i64 0) := by rw [hc2 _ _ (by (try simp [go_sem]) <;> omega) (by omega)]; simp [go_sem, hpb, hpc, hpf, pn0, pm0, pn1, pm1, L1_0, f1_0, N1_0, M1_0, q1_0_0, q1_0_1, q1_0_2, L1_1, f1_1, N1_1, M1_1, q1_1_0, q1_1_1, q1_1_2, S1, hpb1, hpc1, hpf1, pn_1, pm_1]
     have f2_1 : ∀ o, w2.frozen? ⟨w.heap.size + 1, o, none⟩ = false := fun o => by rw [hf2 _ _ (by (try simp [go_sem]) <;> omega)]; simp [go_sem, hpb, hpc, hpf, pn0, pm0, pn1, pm1, L1_0, f1_0, N1_0, M1_0, q1_0_0, q1_0_1, q1_0_2, L1_1, f1_1, N1_1, M1_1, q1_1_0, q1_1_1, q1_1_2, S1, hpb1, hpc1, hpf1, pn_1, pm_1]
     have HG2 := Lib.hid G2; clear G2 hb hc2 hf2 hz2
     have HR2 := Lib.hid hr; clear hr
     have hpb2 := PC2.1; have hpc2 := PC2.2.1; have hpf2 := PC2.2.2; have PC2 := Lib.hid PC2; have pn_2 : pb ≠ w2.heap.size := Nat.ne_of_lt hpb2; have pm_2 : w2.heap.size ≠ pb := Nat.ne_of_gt hpb2)
    )
  go_wp2_with fail
  refine bodyPost_ret (v := .agg #[.int .i64 x, .int .i64 y, .int .i64 h.d]) (by simp [results, Try.results138, go_sem, hpb, hpc, hpf, pn0, pm0, pn1, pm1, L1_0, f1_0, N1_0, M1_0, q1_0_0, q1_0_1, q1_0_2, L1_1, f1_1, N1_1, M1_1, q1_1_0, q1_1_1, q1_1_2, S1, hpb1, hpc1, hpf1, pn_1, pm_1, L2_0, f2_0, N2_0, M2_0, q2_0_0, q2_0_1, q2_0_2, L2_1, f2_1, N2_1, M2_1, q2_1_0, q2_1_1, q2_1_2, S2, hpb2, hpc2, hpf2, pn_2, pm_2]) rfl ⟨⟨x, y, h.d⟩, e2, rfl, ⟨ix, iy, hh.d⟩, (by unfold flipX; exact rel_bind (rel_bind HR1.out (rel_bind HR2.out (rel_ok _ _))) (rel_ok _ _)), by have G := HG2.out; (repeat (with_reducible refine M.Below.drewN ?_ _)); go_grown⟩
end Go.Proofs.Ytaagpkacningdaa
