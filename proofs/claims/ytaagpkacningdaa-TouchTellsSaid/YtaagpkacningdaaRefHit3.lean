/- The contact of a ball and a crate, as the reference reckons it. -/
import Derived.Test.YtaagpkacningdaaRefHit2
namespace Go.Proofs.Ytaagpkacningdaa
open Go.RowKit M
set_option maxRecDepth 100000
set_option maxHeartbeats 4000000
set_option linter.unusedVariables false
set_option linter.unusedSimpArgs false
attribute [local go_sem ↓] Go.wp_at_zero Go.wp_at_succ
theorem clampI_i64 {a l h : Int} (h1 : I64 a) (h2 : I64 l) (h3 : I64 h) : I64 (clampI a l h) := by
  unfold clampI; split
  · exact h2
  · split
    · exact h3
    · exact h1
theorem refBoth_x (pb : Nat) (e : Int) (a b : Bd) (ha : a.ok) (hb : b.ok) (h1 : a.shape = 1) (h2 : b.shape = 2) (w : World) (hp : PCell w pb e) :
    Calls Try.prog 133 #[.pointer (some ⟨pb, 0, none⟩), .agg #[.int .i64 a.shape, .int .i64 a.sx, .int .i64 a.sy, .int .i64 a.mass, .int .i64 a.px, .int .i64 a.py, .int .i64 a.mx, .int .i64 a.my], .agg #[.int .i64 b.shape, .int .i64 b.sx, .int .i64 b.sy, .int .i64 b.mass, .int .i64 b.px, .int .i64 b.py, .int .i64 b.mx, .int .i64 b.my]] w (RelHb pb e (bothX a b) w) := by
  have z2 : I64 2 := by unfold I64; omega
  have C1 := Lib.hid (fun e => refBounds_x pb e b hb)
  have C2 := Lib.hid refClamp_x
  have C3 := Lib.hid (refLess_x pb)
  have C4 := Lib.hid (refUnit_x pb)
  have C5 := Lib.hid (fun e => refCrates_x pb e ⟨2, a.sx, a.sx, a.mass, a.px, a.py, a.mx, a.my⟩ b ⟨z2, ha.sx, ha.sx, ha.mass, ha.px, ha.py, ha.mx, ha.my⟩ hb)
  have C6 := Lib.hid (refSub_x pb)
  have A1 := beq_iff_eq.2 h1
  have B1 : (b.shape == 1) = false := beq_eq_false_iff_ne.2 (by omega)
  have A2 : (a.shape == 2) = false := beq_eq_false_iff_ne.2 (by omega)
  have B2 := beq_iff_eq.2 h2
  have z : I64 0 := by unfold I64; omega
  clear h1 h2
  have hpb : pb < w.heap.size := hp.1; have c0_pb := hp.2.1; have f0_pb := hp.2.2; have PC0 := hp
  have HG0 := Lib.hid (M.rw_refl hp)
  go_enter Try.func133, Try.ntmps133
  go_wp2_with (with_reducible refine M.stopPost ?_)
  have y1 : w.heap.size + 1 + 1 + 1 ≠ w.heap.size := by omega
  have y2 : w.heap.size + 1 + 1 ≠ w.heap.size := by omega
  have y3 : w.heap.size + 1 ≠ w.heap.size := by omega
  have y4 : pb ≠ w.heap.size + 1 + 1 + 1 := by omega
  have y5 : w.heap.size + 1 + 1 + 1 ≠ pb := by omega
  go_cut [13] from 85 (fun s13 wc => ∃ (g : Nat) (qb : Bx) (ec : Int), s13 = .pointer (some ⟨g, 0, none⟩) ∧ qb.ok ∧ Hid (M.Rel e (boxX b) qb ec) ∧ w.heap.size + 1 + 1 < g ∧ Hid (M.RW pb ec w wc) ∧ M.PCell wc pb ec ∧ M.Var wc (w.heap.size) #[.int .i64 a.shape, .int .i64 a.sx, .int .i64 a.sy, .int .i64 a.mass, .int .i64 a.px, .int .i64 a.py, .int .i64 a.mx, .int .i64 a.my] ∧ M.Var wc (w.heap.size + 1) #[.int .i64 b.shape, .int .i64 b.sx, .int .i64 b.sy, .int .i64 b.mass, .int .i64 b.px, .int .i64 b.py, .int .i64 b.mx, .int .i64 b.my] ∧ M.Var wc (w.heap.size + 1 + 1) #[.int .i64 0, .int .i64 0, .int .i64 0] ∧ M.Var wc (g) #[.int .i64 (clampI a.px qb.lx qb.hx), .int .i64 (clampI a.py qb.ly qb.hy)])
  case first =>
    go_region_held2 (fun w' => w'.cell? ⟨w.heap.size, 0, none⟩ = some (.int .i64 a.shape) ∧ w'.cell? ⟨w.heap.size, 1, none⟩ = some (.int .i64 a.sx) ∧ w'.cell? ⟨w.heap.size, 2, none⟩ = some (.int .i64 a.sy) ∧ w'.cell? ⟨w.heap.size, 3, none⟩ = some (.int .i64 a.mass) ∧ w'.cell? ⟨w.heap.size, 4, none⟩ = some (.int .i64 a.px) ∧ w'.cell? ⟨w.heap.size, 5, none⟩ = some (.int .i64 a.py) ∧ w'.cell? ⟨w.heap.size, 6, none⟩ = some (.int .i64 a.mx) ∧ w'.cell? ⟨w.heap.size, 7, none⟩ = some (.int .i64 a.my) ∧ w'.cell? ⟨w.heap.size + 1, 0, none⟩ = some (.int .i64 b.shape) ∧ w'.cell? ⟨w.heap.size + 1, 1, none⟩ = some (.int .i64 b.sx) ∧ w'.cell? ⟨w.heap.size + 1, 2, none⟩ = some (.int .i64 b.sy) ∧ w'.cell? ⟨w.heap.size + 1, 3, none⟩ = some (.int .i64 b.mass) ∧ w'.cell? ⟨w.heap.size + 1, 4, none⟩ = some (.int .i64 b.px) ∧ w'.cell? ⟨w.heap.size + 1, 5, none⟩ = some (.int .i64 b.py) ∧ w'.cell? ⟨w.heap.size + 1, 6, none⟩ = some (.int .i64 b.mx) ∧ w'.cell? ⟨w.heap.size + 1, 7, none⟩ = some (.int .i64 b.my)) (first | (go_keep; done) | (simp [*, go_sem, World.cell?_alloc_some, World.cell?_setCell_far]; done))
      (first
      | (go_at_call 50; refine (C1.out e _ (by (repeat (first | (with_reducible assumption) | (with_reducible refine M.pcell_alloc ?_ _) | (with_reducible refine M.pcell_drewN ?_ _) | (with_reducible refine M.pcell_drew ?_) | (with_reducible refine M.pcell_far ?_ _ _ ?hFar; case hFar => (first | omega | ((try simp [go_sem]) <;> omega))) | fail)))).mono ?_; rintro en w1 ⟨q, e1, rfl, iq, hr, hb⟩
         have G1 : M.RW pb e1 w w1 := M.rw_step (by have G := HG0.out; (repeat (with_reducible refine M.Below.drewN ?_ _)); go_grown) hb hpb
         have S1 : w.heap.size ≤ w1.heap.size := by have := G1.size; rwa [M.setCell_size] at this
         have PC1 : M.PCell w1 pb e1 := M.pcell_behind hb (e := e) (by (repeat (first | (with_reducible assumption) | (with_reducible refine M.pcell_alloc ?_ _) | (with_reducible refine M.pcell_drewN ?_ _) | (with_reducible refine M.pcell_drew ?_) | (with_reducible refine M.pcell_far ?_ _ _ ?hFar; case hFar => (first | omega | ((try simp [go_sem]) <;> omega))) | fail)))
         have V1_a : M.Var w1 (w.heap.size) #[.int .i64 a.shape, .int .i64 a.sx, .int .i64 a.sy, .int .i64 a.mass, .int .i64 a.px, .int .i64 a.py, .int .i64 a.mx, .int .i64 a.my] := M.var_rw (by (repeat (first | (with_reducible assumption) | (with_reducible apply M.var_setV) | (with_reducible apply M.var_setI) | (with_reducible apply M.var_setB) | (with_reducible apply M.var_setHt) | (with_reducible apply M.var_setBd) | (with_reducible apply M.var_set2) | (with_reducible apply M.var_set3) | (with_reducible apply M.var_set4) | (with_reducible apply M.var_set45) | (with_reducible apply M.var_set67) | (with_reducible apply M.var_setF) | (with_reducible refine M.var_alloc' _ _ _ ?_; first | rfl | (focus (simp [go_sem]; done))) | (with_reducible refine M.Var.alloc ?_ _) | (with_reducible refine M.Var.drewN ?_ _) | (with_reducible refine M.Var.drew ?_) | (with_reducible refine M.Var.far ?_ _ _ ?hFar; case hFar => (first | omega | ((try simp [go_sem]) <;> omega))) | fail))) (by omega) hb
         have q1_a_0 : w1.cell? ⟨w.heap.size, 0, none⟩ = some (.int .i64 a.shape) := V1_a.c 0 _ rfl
         have q1_a_1 : w1.cell? ⟨w.heap.size, 1, none⟩ = some (.int .i64 a.sx) := V1_a.c 1 _ rfl
         have q1_a_2 : w1.cell? ⟨w.heap.size, 2, none⟩ = some (.int .i64 a.sy) := V1_a.c 2 _ rfl
         have q1_a_3 : w1.cell? ⟨w.heap.size, 3, none⟩ = some (.int .i64 a.mass) := V1_a.c 3 _ rfl
         have q1_a_4 : w1.cell? ⟨w.heap.size, 4, none⟩ = some (.int .i64 a.px) := V1_a.c 4 _ rfl
         have q1_a_5 : w1.cell? ⟨w.heap.size, 5, none⟩ = some (.int .i64 a.py) := V1_a.c 5 _ rfl
         have q1_a_6 : w1.cell? ⟨w.heap.size, 6, none⟩ = some (.int .i64 a.mx) := V1_a.c 6 _ rfl
         have q1_a_7 : w1.cell? ⟨w.heap.size, 7, none⟩ = some (.int .i64 a.my) := V1_a.c 7 _ rfl
         have f1_a := V1_a.2.2
         have L1_a := V1_a.lt
         have N1_a := Nat.ne_of_gt L1_a
         have M1_a := Nat.ne_of_lt L1_a
         have V1_b : M.Var w1 (w.heap.size + 1) #[.int .i64 b.shape, .int .i64 b.sx, .int .i64 b.sy, .int .i64 b.mass, .int .i64 b.px, .int .i64 b.py, .int .i64 b.mx, .int .i64 b.my] := M.var_rw (by (repeat (first | (with_reducible assumption) | (with_reducible apply M.var_setV) | (with_reducible apply M.var_setI) | (with_reducible apply M.var_setB) | (with_reducible apply M.var_setHt) | (with_reducible apply M.var_setBd) | (with_reducible apply M.var_set2) | (with_reducible apply M.var_set3) | (with_reducible apply M.var_set4) | (with_reducible apply M.var_set45) | (with_reducible apply M.var_set67) | (with_reducible apply M.var_setF) | (with_reducible refine M.var_alloc' _ _ _ ?_; first | rfl | (focus (simp [go_sem]; done))) | (with_reducible refine M.Var.alloc ?_ _) | (with_reducible refine M.Var.drewN ?_ _) | (with_reducible refine M.Var.drew ?_) | (with_reducible refine M.Var.far ?_ _ _ ?hFar; case hFar => (first | omega | ((try simp [go_sem]) <;> omega))) | fail))) (by omega) hb
         have q1_b_0 : w1.cell? ⟨w.heap.size + 1, 0, none⟩ = some (.int .i64 b.shape) := V1_b.c 0 _ rfl
         have q1_b_1 : w1.cell? ⟨w.heap.size + 1, 1, none⟩ = some (.int .i64 b.sx) := V1_b.c 1 _ rfl
         have q1_b_2 : w1.cell? ⟨w.heap.size + 1, 2, none⟩ = some (.int .i64 b.sy) := V1_b.c 2 _ rfl
         have q1_b_3 : w1.cell? ⟨w.heap.size + 1, 3, none⟩ = some (.int .i64 b.mass) := V1_b.c 3 _ rfl
         have q1_b_4 : w1.cell? ⟨w.heap.size + 1, 4, none⟩ = some (.int .i64 b.px) := V1_b.c 4 _ rfl
         have q1_b_5 : w1.cell? ⟨w.heap.size + 1, 5, none⟩ = some (.int .i64 b.py) := V1_b.c 5 _ rfl
         have q1_b_6 : w1.cell? ⟨w.heap.size + 1, 6, none⟩ = some (.int .i64 b.mx) := V1_b.c 6 _ rfl
         have q1_b_7 : w1.cell? ⟨w.heap.size + 1, 7, none⟩ = some (.int .i64 b.my) := V1_b.c 7 _ rfl
         have f1_b := V1_b.2.2
         have L1_b := V1_b.lt
         have N1_b := Nat.ne_of_gt L1_b
         have M1_b := Nat.ne_of_lt L1_b
         have V1_r : M.Var w1 (w.heap.size + 1 + 1) #[.int .i64 0, .int .i64 0, .int .i64 0] := M.var_rw (by (repeat (first | (with_reducible assumption) | (with_reducible apply M.var_setV) | (with_reducible apply M.var_setI) | (with_reducible apply M.var_setB) | (with_reducible apply M.var_setHt) | (with_reducible apply M.var_setBd) | (with_reducible apply M.var_set2) | (with_reducible apply M.var_set3) | (with_reducible apply M.var_set4) | (with_reducible apply M.var_set45) | (with_reducible apply M.var_set67) | (with_reducible apply M.var_setF) | (with_reducible refine M.var_alloc' _ _ _ ?_; first | rfl | (focus (simp [go_sem]; done))) | (with_reducible refine M.Var.alloc ?_ _) | (with_reducible refine M.Var.drewN ?_ _) | (with_reducible refine M.Var.drew ?_) | (with_reducible refine M.Var.far ?_ _ _ ?hFar; case hFar => (first | omega | ((try simp [go_sem]) <;> omega))) | fail))) (by omega) hb
         have q1_r_0 : w1.cell? ⟨w.heap.size + 1 + 1, 0, none⟩ = some (.int .i64 0) := V1_r.c 0 _ rfl
         have q1_r_1 : w1.cell? ⟨w.heap.size + 1 + 1, 1, none⟩ = some (.int .i64 0) := V1_r.c 1 _ rfl
         have q1_r_2 : w1.cell? ⟨w.heap.size + 1 + 1, 2, none⟩ = some (.int .i64 0) := V1_r.c 2 _ rfl
         have f1_r := V1_r.2.2
         have L1_r := V1_r.lt
         have N1_r := Nat.ne_of_gt L1_r
         have M1_r := Nat.ne_of_lt L1_r
         try (refine M.opt (T := M.Var w1 (w.heap.size + 1 + 1 + 1) #[.int .i64 0, .int .i64 0]) ?_ ?_; refine M.var_rw ?_ ?hPb hb; (case hPb => omega); (repeat (first | (with_reducible assumption) | (with_reducible apply M.var_setV) | (with_reducible apply M.var_setI) | (with_reducible apply M.var_setB) | (with_reducible apply M.var_setHt) | (with_reducible apply M.var_setBd) | (with_reducible apply M.var_set2) | (with_reducible apply M.var_set3) | (with_reducible apply M.var_set4) | (with_reducible apply M.var_set45) | (with_reducible apply M.var_set67) | (with_reducible apply M.var_setF) | (with_reducible refine M.var_alloc' _ _ _ ?_; first | rfl | (focus (simp [go_sem]; done))) | (with_reducible refine M.Var.alloc ?_ _) | (with_reducible refine M.Var.drewN ?_ _) | (with_reducible refine M.Var.drew ?_) | (with_reducible refine M.Var.far ?_ _ _ ?hFar; case hFar => (first | omega | ((try simp [go_sem]) <;> omega))) | fail)); intro V1_n0; have q1_n0_0 : w1.cell? ⟨w.heap.size + 1 + 1 + 1, 0, none⟩ = some (.int .i64 0) := V1_n0.c 0 _ rfl; have q1_n0_1 : w1.cell? ⟨w.heap.size + 1 + 1 + 1, 1, none⟩ = some (.int .i64 0) := V1_n0.c 1 _ rfl; have f1_n0 := V1_n0.2.2; have L1_n0 := V1_n0.lt; have N1_n0 := Nat.ne_of_gt L1_n0; have M1_n0 := Nat.ne_of_lt L1_n0)
         try (refine M.opt (T := M.Var w1 (w1.heap.size) #[.int .i64 0, .int .i64 0]) ?_ ?_; refine M.var_rw ?_ ?hPb hb; (case hPb => omega); (repeat (first | (with_reducible assumption) | (with_reducible apply M.var_setV) | (with_reducible apply M.var_setI) | (with_reducible apply M.var_setB) | (with_reducible apply M.var_setHt) | (with_reducible apply M.var_setBd) | (with_reducible apply M.var_set2) | (with_reducible apply M.var_set3) | (with_reducible apply M.var_set4) | (with_reducible apply M.var_set45) | (with_reducible apply M.var_set67) | (with_reducible apply M.var_setF) | (with_reducible refine M.var_alloc' _ _ _ ?_; first | rfl | (focus (simp [go_sem]; done))) | (with_reducible refine M.Var.alloc ?_ _) | (with_reducible refine M.Var.drewN ?_ _) | (with_reducible refine M.Var.drew ?_) | (with_reducible refine M.Var.far ?_ _ _ ?hFar; case hFar => (first | omega | ((try simp [go_sem]) <;> omega))) | fail)); intro V1_n1; have q1_n1_0 : w1.cell? ⟨w1.heap.size, 0, none⟩ = some (.int .i64 0) := V1_n1.c 0 _ rfl; have q1_n1_1 : w1.cell? ⟨w1.heap.size, 1, none⟩ = some (.int .i64 0) := V1_n1.c 1 _ rfl; have f1_n1 := V1_n1.2.2; have L1_n1 := V1_n1.lt; have N1_n1 := Nat.ne_of_gt L1_n1; have M1_n1 := Nat.ne_of_lt L1_n1)
         try (refine M.opt (T := M.Var w1 (w2.heap.size) #[.int .i64 0, .int .i64 0]) ?_ ?_; refine M.var_rw ?_ ?hPb hb; (case hPb => omega); (repeat (first | (with_reducible assumption) | (with_reducible apply M.var_setV) | (with_reducible apply M.var_setI) | (with_reducible apply M.var_setB) | (with_reducible apply M.var_setHt) | (with_reducible apply M.var_setBd) | (with_reducible apply M.var_set2) | (with_reducible apply M.var_set3) | (with_reducible apply M.var_set4) | (with_reducible apply M.var_set45) | (with_reducible apply M.var_set67) | (with_reducible apply M.var_setF) | (with_reducible refine M.var_alloc' _ _ _ ?_; first | rfl | (focus (simp [go_sem]; done))) | (with_reducible refine M.Var.alloc ?_ _) | (with_reducible refine M.Var.drewN ?_ _) | (with_reducible refine M.Var.drew ?_) | (with_reducible refine M.Var.far ?_ _ _ ?hFar; case hFar => (first | omega | ((try simp [go_sem]) <;> omega))) | fail)); intro V1_n2; have q1_n2_0 : w1.cell? ⟨w2.heap.size, 0, none⟩ = some (.int .i64 0) := V1_n2.c 0 _ rfl; have q1_n2_1 : w1.cell? ⟨w2.heap.size, 1, none⟩ = some (.int .i64 0) := V1_n2.c 1 _ rfl; have f1_n2 := V1_n2.2.2; have L1_n2 := V1_n2.lt; have N1_n2 := Nat.ne_of_gt L1_n2; have M1_n2 := Nat.ne_of_lt L1_n2)
         have HR1 := Lib.hid hr; clear hr
         have c1_pb := PC1.2.1; have f1_pb := PC1.2.2; have L1_pb := PC1.1; have N1_pb := Nat.ne_of_gt L1_pb; have M1_pb := Nat.ne_of_lt L1_pb
         have HG1 := Lib.hid G1; clear G1 hb)
      | (go_at_call 54; refine (C2.out _ _ _ _).mono ?_; rintro en w2 ⟨rfl, hb⟩
         have G2 : M.RW pb e1 w w2 := M.rw_bw (by have G := HG1.out; (repeat (with_reducible refine M.Below.drewN ?_ _)); go_grown) hb
         have S2 : w.heap.size ≤ w2.heap.size := by have := G2.size; rwa [M.setCell_size] at this
         have PC2 : M.PCell w2 pb e1 := M.pcell_below (by (repeat (first | (with_reducible assumption) | (with_reducible refine M.pcell_alloc ?_ _) | (with_reducible refine M.pcell_drewN ?_ _) | (with_reducible refine M.pcell_drew ?_) | (with_reducible refine M.pcell_far ?_ _ _ ?hFar; case hFar => (first | omega | ((try simp [go_sem]) <;> omega))) | fail))) hb
         have V2_a : M.Var w2 (w.heap.size) #[.int .i64 a.shape, .int .i64 a.sx, .int .i64 a.sy, .int .i64 a.mass, .int .i64 a.px, .int .i64 a.py, .int .i64 a.mx, .int .i64 a.my] := M.Var.mono (b := w.heap.size) (cs := #[.int .i64 a.shape, .int .i64 a.sx, .int .i64 a.sy, .int .i64 a.mass, .int .i64 a.px, .int .i64 a.py, .int .i64 a.mx, .int .i64 a.my]) (by (repeat (first | (with_reducible assumption) | (with_reducible apply M.var_setV) | (with_reducible apply M.var_setI) | (with_reducible apply M.var_setB) | (with_reducible apply M.var_setHt) | (with_reducible apply M.var_setBd) | (with_reducible apply M.var_set2) | (with_reducible apply M.var_set3) | (with_reducible apply M.var_set4) | (with_reducible apply M.var_set45) | (with_reducible apply M.var_set67) | (with_reducible apply M.var_setF) | (with_reducible refine M.var_alloc' _ _ _ ?_; first | rfl | (focus (simp [go_sem]; done))) | (with_reducible refine M.Var.alloc ?_ _) | (with_reducible refine M.Var.drewN ?_ _) | (with_reducible refine M.Var.drew ?_) | (with_reducible refine M.Var.far ?_ _ _ ?hFar; case hFar => (first | omega | ((try simp [go_sem]) <;> omega))) | fail))) hb
         have q2_a_0 : w2.cell? ⟨w.heap.size, 0, none⟩ = some (.int .i64 a.shape) := V2_a.c 0 _ rfl
         have q2_a_1 : w2.cell? ⟨w.heap.size, 1, none⟩ = some (.int .i64 a.sx) := V2_a.c 1 _ rfl
         have q2_a_2 : w2.cell? ⟨w.heap.size, 2, none⟩ = some (.int .i64 a.sy) := V2_a.c 2 _ rfl
         have q2_a_3 : w2.cell? ⟨w.heap.size, 3, none⟩ = some (.int .i64 a.mass) := V2_a.c 3 _ rfl
         have q2_a_4 : w2.cell? ⟨w.heap.size, 4, none⟩ = some (.int .i64 a.px) := V2_a.c 4 _ rfl
         have q2_a_5 : w2.cell? ⟨w.heap.size, 5, none⟩ = some (.int .i64 a.py) := V2_a.c 5 _ rfl
         have q2_a_6 : w2.cell? ⟨w.heap.size, 6, none⟩ = some (.int .i64 a.mx) := V2_a.c 6 _ rfl
         have q2_a_7 : w2.cell? ⟨w.heap.size, 7, none⟩ = some (.int .i64 a.my) := V2_a.c 7 _ rfl
         have f2_a := V2_a.2.2
         have L2_a := V2_a.lt
         have N2_a := Nat.ne_of_gt L2_a
         have M2_a := Nat.ne_of_lt L2_a
         have V2_b : M.Var w2 (w.heap.size + 1) #[.int .i64 b.shape, .int .i64 b.sx, .int .i64 b.sy, .int .i64 b.mass, .int .i64 b.px, .int .i64 b.py, .int .i64 b.mx, .int .i64 b.my] := M.Var.mono (b := w.heap.size + 1) (cs := #[.int .i64 b.shape, .int .i64 b.sx, .int .i64 b.sy, .int .i64 b.mass, .int .i64 b.px, .int .i64 b.py, .int .i64 b.mx, .int .i64 b.my]) (by (repeat (first | (with_reducible assumption) | (with_reducible apply M.var_setV) | (with_reducible apply M.var_setI) | (with_reducible apply M.var_setB) | (with_reducible apply M.var_setHt) | (with_reducible apply M.var_setBd) | (with_reducible apply M.var_set2) | (with_reducible apply M.var_set3) | (with_reducible apply M.var_set4) | (with_reducible apply M.var_set45) | (with_reducible apply M.var_set67) | (with_reducible apply M.var_setF) | (with_reducible refine M.var_alloc' _ _ _ ?_; first | rfl | (focus (simp [go_sem]; done))) | (with_reducible refine M.Var.alloc ?_ _) | (with_reducible refine M.Var.drewN ?_ _) | (with_reducible refine M.Var.drew ?_) | (with_reducible refine M.Var.far ?_ _ _ ?hFar; case hFar => (first | omega | ((try simp [go_sem]) <;> omega))) | fail))) hb
         have q2_b_0 : w2.cell? ⟨w.heap.size + 1, 0, none⟩ = some (.int .i64 b.shape) := V2_b.c 0 _ rfl
         have q2_b_1 : w2.cell? ⟨w.heap.size + 1, 1, none⟩ = some (.int .i64 b.sx) := V2_b.c 1 _ rfl
         have q2_b_2 : w2.cell? ⟨w.heap.size + 1, 2, none⟩ = some (.int .i64 b.sy) := V2_b.c 2 _ rfl
         have q2_b_3 : w2.cell? ⟨w.heap.size + 1, 3, none⟩ = some (.int .i64 b.mass) := V2_b.c 3 _ rfl
         have q2_b_4 : w2.cell? ⟨w.heap.size + 1, 4, none⟩ = some (.int .i64 b.px) := V2_b.c 4 _ rfl
         have q2_b_5 : w2.cell? ⟨w.heap.size + 1, 5, none⟩ = some (.int .i64 b.py) := V2_b.c 5 _ rfl
         have q2_b_6 : w2.cell? ⟨w.heap.size + 1, 6, none⟩ = some (.int .i64 b.mx) := V2_b.c 6 _ rfl
         have q2_b_7 : w2.cell? ⟨w.heap.size + 1, 7, none⟩ = some (.int .i64 b.my) := V2_b.c 7 _ rfl
         have f2_b := V2_b.2.2
         have L2_b := V2_b.lt
         have N2_b := Nat.ne_of_gt L2_b
         have M2_b := Nat.ne_of_lt L2_b
         have V2_r : M.Var w2 (w.heap.size + 1 + 1) #[.int .i64 0, .int .i64 0, .int .i64 0] := M.Var.mono (b := w.heap.size + 1 + 1) (cs := #[.int .i64 0, .int .i64 0, .int .i64 0]) (by (repeat (first | (with_reducible assumption) | (with_reducible apply M.var_setV) | (with_reducible apply M.var_setI) | (with_reducible apply M.var_setB) | (with_reducible apply M.var_setHt) | (with_reducible apply M.var_setBd) | (with_reducible apply M.var_set2) | (with_reducible apply M.var_set3) | (with_reducible apply M.var_set4) | (with_reducible apply M.var_set45) | (with_reducible apply M.var_set67) | (with_reducible apply M.var_setF) | (with_reducible refine M.var_alloc' _ _ _ ?_; first | rfl | (focus (simp [go_sem]; done))) | (with_reducible refine M.Var.alloc ?_ _) | (with_reducible refine M.Var.drewN ?_ _) | (with_reducible refine M.Var.drew ?_) | (with_reducible refine M.Var.far ?_ _ _ ?hFar; case hFar => (first | omega | ((try simp [go_sem]) <;> omega))) | fail))) hb
         have q2_r_0 : w2.cell? ⟨w.heap.size + 1 + 1, 0, none⟩ = some (.int .i64 0) := V2_r.c 0 _ rfl
         have q2_r_1 : w2.cell? ⟨w.heap.size + 1 + 1, 1, none⟩ = some (.int .i64 0) := V2_r.c 1 _ rfl
         have q2_r_2 : w2.cell? ⟨w.heap.size + 1 + 1, 2, none⟩ = some (.int .i64 0) := V2_r.c 2 _ rfl
         have f2_r := V2_r.2.2
         have L2_r := V2_r.lt
         have N2_r := Nat.ne_of_gt L2_r
         have M2_r := Nat.ne_of_lt L2_r
         try (refine M.opt (T := M.Var w2 (w.heap.size + 1 + 1 + 1) #[.int .i64 0, .int .i64 0]) ?_ ?_; refine M.Var.mono (b := w.heap.size + 1 + 1 + 1) (cs := #[.int .i64 0, .int .i64 0]) ?_ hb; (repeat (first | (with_reducible assumption) | (with_reducible apply M.var_setV) | (with_reducible apply M.var_setI) | (with_reducible apply M.var_setB) | (with_reducible apply M.var_setHt) | (with_reducible apply M.var_setBd) | (with_reducible apply M.var_set2) | (with_reducible apply M.var_set3) | (with_reducible apply M.var_set4) | (with_reducible apply M.var_set45) | (with_reducible apply M.var_set67) | (with_reducible apply M.var_setF) | (with_reducible refine M.var_alloc' _ _ _ ?_; first | rfl | (focus (simp [go_sem]; done))) | (with_reducible refine M.Var.alloc ?_ _) | (with_reducible refine M.Var.drewN ?_ _) | (with_reducible refine M.Var.drew ?_) | (with_reducible refine M.Var.far ?_ _ _ ?hFar; case hFar => (first | omega | ((try simp [go_sem]) <;> omega))) | fail)); intro V2_n0; have q2_n0_0 : w2.cell? ⟨w.heap.size + 1 + 1 + 1, 0, none⟩ = some (.int .i64 0) := V2_n0.c 0 _ rfl; have q2_n0_1 : w2.cell? ⟨w.heap.size + 1 + 1 + 1, 1, none⟩ = some (.int .i64 0) := V2_n0.c 1 _ rfl; have f2_n0 := V2_n0.2.2; have L2_n0 := V2_n0.lt; have N2_n0 := Nat.ne_of_gt L2_n0; have M2_n0 := Nat.ne_of_lt L2_n0)
         try (refine M.opt (T := M.Var w2 (w1.heap.size) #[.int .i64 0, .int .i64 0]) ?_ ?_; refine M.Var.mono (b := w1.heap.size) (cs := #[.int .i64 0, .int .i64 0]) ?_ hb; (repeat (first | (with_reducible assumption) | (with_reducible apply M.var_setV) | (with_reducible apply M.var_setI) | (with_reducible apply M.var_setB) | (with_reducible apply M.var_setHt) | (with_reducible apply M.var_setBd) | (with_reducible apply M.var_set2) | (with_reducible apply M.var_set3) | (with_reducible apply M.var_set4) | (with_reducible apply M.var_set45) | (with_reducible apply M.var_set67) | (with_reducible apply M.var_setF) | (with_reducible refine M.var_alloc' _ _ _ ?_; first | rfl | (focus (simp [go_sem]; done))) | (with_reducible refine M.Var.alloc ?_ _) | (with_reducible refine M.Var.drewN ?_ _) | (with_reducible refine M.Var.drew ?_) | (with_reducible refine M.Var.far ?_ _ _ ?hFar; case hFar => (first | omega | ((try simp [go_sem]) <;> omega))) | fail)); intro V2_n1; have q2_n1_0 : w2.cell? ⟨w1.heap.size, 0, none⟩ = some (.int .i64 0) := V2_n1.c 0 _ rfl; have q2_n1_1 : w2.cell? ⟨w1.heap.size, 1, none⟩ = some (.int .i64 0) := V2_n1.c 1 _ rfl; have f2_n1 := V2_n1.2.2; have L2_n1 := V2_n1.lt; have N2_n1 := Nat.ne_of_gt L2_n1; have M2_n1 := Nat.ne_of_lt L2_n1)
         try (refine M.opt (T := M.Var w2 (w2.heap.size) #[.int .i64 0, .int .i64 0]) ?_ ?_; refine M.Var.mono (b := w2.heap.size) (cs := #[.int .i64 0, .int .i64 0]) ?_ hb; (repeat (first | (with_reducible assumption) | (with_reducible apply M.var_setV) | (with_reducible apply M.var_setI) | (with_reducible apply M.var_setB) | (with_reducible apply M.var_setHt) | (with_reducible apply M.var_setBd) | (with_reducible apply M.var_set2) | (with_reducible apply M.var_set3) | (with_reducible apply M.var_set4) | (with_reducible apply M.var_set45) | (with_reducible apply M.var_set67) | (with_reducible apply M.var_setF) | (with_reducible refine M.var_alloc' _ _ _ ?_; first | rfl | (focus (simp [go_sem]; done))) | (with_reducible refine M.Var.alloc ?_ _) | (with_reducible refine M.Var.drewN ?_ _) | (with_reducible refine M.Var.drew ?_) | (with_reducible refine M.Var.far ?_ _ _ ?hFar; case hFar => (first | omega | ((try simp [go_sem]) <;> omega))) | fail)); intro V2_n2; have q2_n2_0 : w2.cell? ⟨w2.heap.size, 0, none⟩ = some (.int .i64 0) := V2_n2.c 0 _ rfl; have q2_n2_1 : w2.cell? ⟨w2.heap.size, 1, none⟩ = some (.int .i64 0) := V2_n2.c 1 _ rfl; have f2_n2 := V2_n2.2.2; have L2_n2 := V2_n2.lt; have N2_n2 := Nat.ne_of_gt L2_n2; have M2_n2 := Nat.ne_of_lt L2_n2)
         clear V1_a f1_a q1_a_0 q1_a_1 q1_a_2 q1_a_3 q1_a_4 q1_a_5 q1_a_6 q1_a_7 V1_b f1_b q1_b_0 q1_b_1 q1_b_2 q1_b_3 q1_b_4 q1_b_5 q1_b_6 q1_b_7 V1_r f1_r q1_r_0 q1_r_1 q1_r_2 PC1 c1_pb f1_pb
         try clear V1_n0
         try clear f1_n0
         try clear q1_n0_0
         try clear q1_n0_1
         try clear V1_n1
         try clear f1_n1
         try clear q1_n1_0
         try clear q1_n1_1
         try clear V1_n2
         try clear f1_n2
         try clear q1_n2_0
         try clear q1_n2_1
         have c2_pb := PC2.2.1; have f2_pb := PC2.2.2; have L2_pb := PC2.1; have N2_pb := Nat.ne_of_gt L2_pb; have M2_pb := Nat.ne_of_lt L2_pb
         have HG2 := Lib.hid G2; clear G2 hb)
      )
    all_goals
      go_wp2_with (with_reducible refine M.stopPost ?_)
      go_meet
      case rel => exact ⟨_, q, e1, rfl, iq, Lib.hid HR1.out, by omega, Lib.hid (by have G := HG2.out; (repeat (with_reducible refine M.Below.drewN ?_ _)); go_grown), by (repeat (first | (with_reducible assumption) | (with_reducible refine M.pcell_alloc ?_ _) | (with_reducible refine M.pcell_drewN ?_ _) | (with_reducible refine M.pcell_drew ?_) | (with_reducible refine M.pcell_far ?_ _ _ ?hFar; case hFar => (first | omega | ((try simp [go_sem]) <;> omega))) | fail)), by (repeat (first | (with_reducible assumption) | (with_reducible apply M.var_setV) | (with_reducible apply M.var_setI) | (with_reducible apply M.var_setB) | (with_reducible apply M.var_setHt) | (with_reducible apply M.var_setBd) | (with_reducible apply M.var_set2) | (with_reducible apply M.var_set3) | (with_reducible apply M.var_set4) | (with_reducible apply M.var_set45) | (with_reducible apply M.var_set67) | (with_reducible apply M.var_setF) | (with_reducible refine M.var_alloc' _ _ _ ?_; first | rfl | (focus (simp [go_sem]; done))) | (with_reducible refine M.Var.alloc ?_ _) | (with_reducible refine M.Var.drewN ?_ _) | (with_reducible refine M.Var.drew ?_) | (with_reducible refine M.Var.far ?_ _ _ ?hFar; case hFar => (first | omega | ((try simp [go_sem]) <;> omega))) | fail)), by (repeat (first | (with_reducible assumption) | (with_reducible apply M.var_setV) | (with_reducible apply M.var_setI) | (with_reducible apply M.var_setB) | (with_reducible apply M.var_setHt) | (with_reducible apply M.var_setBd) | (with_reducible apply M.var_set2) | (with_reducible apply M.var_set3) | (with_reducible apply M.var_set4) | (with_reducible apply M.var_set45) | (with_reducible apply M.var_set67) | (with_reducible apply M.var_setF) | (with_reducible refine M.var_alloc' _ _ _ ?_; first | rfl | (focus (simp [go_sem]; done))) | (with_reducible refine M.Var.alloc ?_ _) | (with_reducible refine M.Var.drewN ?_ _) | (with_reducible refine M.Var.drew ?_) | (with_reducible refine M.Var.far ?_ _ _ ?hFar; case hFar => (first | omega | ((try simp [go_sem]) <;> omega))) | fail)), by (repeat (first | (with_reducible assumption) | (with_reducible apply M.var_setV) | (with_reducible apply M.var_setI) | (with_reducible apply M.var_setB) | (with_reducible apply M.var_setHt) | (with_reducible apply M.var_setBd) | (with_reducible apply M.var_set2) | (with_reducible apply M.var_set3) | (with_reducible apply M.var_set4) | (with_reducible apply M.var_set45) | (with_reducible apply M.var_set67) | (with_reducible apply M.var_setF) | (with_reducible refine M.var_alloc' _ _ _ ?_; first | rfl | (focus (simp [go_sem]; done))) | (with_reducible refine M.Var.alloc ?_ _) | (with_reducible refine M.Var.drewN ?_ _) | (with_reducible refine M.Var.drew ?_) | (with_reducible refine M.Var.far ?_ _ _ ?hFar; case hFar => (first | omega | ((try simp [go_sem]) <;> omega))) | fail)), by (repeat (first | (with_reducible assumption) | (with_reducible apply M.var_setV) | (with_reducible apply M.var_setI) | (with_reducible apply M.var_setB) | (with_reducible apply M.var_setHt) | (with_reducible apply M.var_setBd) | (with_reducible apply M.var_set2) | (with_reducible apply M.var_set3) | (with_reducible apply M.var_set4) | (with_reducible apply M.var_set45) | (with_reducible apply M.var_set67) | (with_reducible apply M.var_setF) | (with_reducible refine M.var_alloc' _ _ _ ?_; first | rfl | (focus (simp [go_sem]; done))) | (with_reducible refine M.Var.alloc ?_ _) | (with_reducible refine M.Var.drewN ?_ _) | (with_reducible refine M.Var.drew ?_) | (with_reducible refine M.Var.far ?_ _ _ ?hFar; case hFar => (first | omega | ((try simp [go_sem]) <;> omega))) | fail))⟩
  case rest =>
    obtain ⟨g, qb, ec, rfl, iq, hq, hg, HGc, PCc, Vc_a, Vc_b, Vc_r, Vc_p⟩ := hcut
    have Sc : w.heap.size ≤ wc.heap.size := by have := HGc.out.size; rwa [M.setCell_size] at this
    have cc_pb := PCc.2.1; have fc_pb := PCc.2.2; have Lc_pb := PCc.1; have Nc_pb := Nat.ne_of_gt Lc_pb; have Mc_pb := Nat.ne_of_lt Lc_pb
    have qc_a_0 : wc.cell? ⟨w.heap.size, 0, none⟩ = some (.int .i64 a.shape) := Vc_a.c 0 _ rfl
    have qc_a_1 : wc.cell? ⟨w.heap.size, 1, none⟩ = some (.int .i64 a.sx) := Vc_a.c 1 _ rfl
    have qc_a_2 : wc.cell? ⟨w.heap.size, 2, none⟩ = some (.int .i64 a.sy) := Vc_a.c 2 _ rfl
    have qc_a_3 : wc.cell? ⟨w.heap.size, 3, none⟩ = some (.int .i64 a.mass) := Vc_a.c 3 _ rfl
    have qc_a_4 : wc.cell? ⟨w.heap.size, 4, none⟩ = some (.int .i64 a.px) := Vc_a.c 4 _ rfl
    have qc_a_5 : wc.cell? ⟨w.heap.size, 5, none⟩ = some (.int .i64 a.py) := Vc_a.c 5 _ rfl
    have qc_a_6 : wc.cell? ⟨w.heap.size, 6, none⟩ = some (.int .i64 a.mx) := Vc_a.c 6 _ rfl
    have qc_a_7 : wc.cell? ⟨w.heap.size, 7, none⟩ = some (.int .i64 a.my) := Vc_a.c 7 _ rfl
    have fc_a := Vc_a.2.2; have Lc_a := Vc_a.lt; have Nc_a := Nat.ne_of_gt Lc_a; have Mc_a := Nat.ne_of_lt Lc_a
    have qc_b_0 : wc.cell? ⟨w.heap.size + 1, 0, none⟩ = some (.int .i64 b.shape) := Vc_b.c 0 _ rfl
    have qc_b_1 : wc.cell? ⟨w.heap.size + 1, 1, none⟩ = some (.int .i64 b.sx) := Vc_b.c 1 _ rfl
    have qc_b_2 : wc.cell? ⟨w.heap.size + 1, 2, none⟩ = some (.int .i64 b.sy) := Vc_b.c 2 _ rfl
    have qc_b_3 : wc.cell? ⟨w.heap.size + 1, 3, none⟩ = some (.int .i64 b.mass) := Vc_b.c 3 _ rfl
    have qc_b_4 : wc.cell? ⟨w.heap.size + 1, 4, none⟩ = some (.int .i64 b.px) := Vc_b.c 4 _ rfl
    have qc_b_5 : wc.cell? ⟨w.heap.size + 1, 5, none⟩ = some (.int .i64 b.py) := Vc_b.c 5 _ rfl
    have qc_b_6 : wc.cell? ⟨w.heap.size + 1, 6, none⟩ = some (.int .i64 b.mx) := Vc_b.c 6 _ rfl
    have qc_b_7 : wc.cell? ⟨w.heap.size + 1, 7, none⟩ = some (.int .i64 b.my) := Vc_b.c 7 _ rfl
    have fc_b := Vc_b.2.2; have Lc_b := Vc_b.lt; have Nc_b := Nat.ne_of_gt Lc_b; have Mc_b := Nat.ne_of_lt Lc_b
    have qc_r_0 : wc.cell? ⟨w.heap.size + 1 + 1, 0, none⟩ = some (.int .i64 0) := Vc_r.c 0 _ rfl
    have qc_r_1 : wc.cell? ⟨w.heap.size + 1 + 1, 1, none⟩ = some (.int .i64 0) := Vc_r.c 1 _ rfl
    have qc_r_2 : wc.cell? ⟨w.heap.size + 1 + 1, 2, none⟩ = some (.int .i64 0) := Vc_r.c 2 _ rfl
    have fc_r := Vc_r.2.2; have Lc_r := Vc_r.lt; have Nc_r := Nat.ne_of_gt Lc_r; have Mc_r := Nat.ne_of_lt Lc_r
    have qc_p_0 : wc.cell? ⟨g, 0, none⟩ = some (.int .i64 (clampI a.px qb.lx qb.hx)) := Vc_p.c 0 _ rfl
    have qc_p_1 : wc.cell? ⟨g, 1, none⟩ = some (.int .i64 (clampI a.py qb.ly qb.hy)) := Vc_p.c 1 _ rfl
    have fc_p := Vc_p.2.2; have Lc_p := Vc_p.lt; have Nc_p := Nat.ne_of_gt Lc_p; have Mc_p := Nat.ne_of_lt Lc_p
    go_wp2_with (with_reducible refine M.stopPost ?_)
    have y6 : g ≠ w.heap.size := by omega
    have y7 : g ≠ w.heap.size + 1 := by omega
    have y8 : g ≠ w.heap.size + 1 + 1 := by omega
    have y9 : g ≠ pb := by omega
    have y10 := Ne.symm y6; have y11 := Ne.symm y7; have y12 := Ne.symm y8; have y13 := Ne.symm y9
    (with_reducible refine (C3.out ec _ _ _ _ (clampI_i64 ha.px iq.lx iq.hx) (clampI_i64 ha.py iq.ly iq.hy) ha.px ha.py _ (by (repeat (first | (with_reducible assumption) | (with_reducible refine M.pcell_alloc ?_ _) | (with_reducible refine M.pcell_drewN ?_ _) | (with_reducible refine M.pcell_drew ?_) | (with_reducible refine M.pcell_far ?_ _ _ ?hFar; case hFar => (first | omega | ((try simp [go_sem]) <;> omega))) | fail)))).mono ?_); rintro en w3 ⟨dx, dy, e3, rfl, idx, idy, hr, hb⟩
    have G3 : M.RW pb e3 w w3 := M.rw_step (by have G := HGc.out; (repeat (with_reducible refine M.Below.drewN ?_ _)); go_grown) hb hpb
    have S3 : w.heap.size ≤ w3.heap.size := by have := G3.size; rwa [M.setCell_size] at this
    have PC3 : M.PCell w3 pb e3 := M.pcell_behind hb (e := ec) (by (repeat (first | (with_reducible assumption) | (with_reducible refine M.pcell_alloc ?_ _) | (with_reducible refine M.pcell_drewN ?_ _) | (with_reducible refine M.pcell_drew ?_) | (with_reducible refine M.pcell_far ?_ _ _ ?hFar; case hFar => (first | omega | ((try simp [go_sem]) <;> omega))) | fail)))
    have V3_a : M.Var w3 (w.heap.size) #[.int .i64 a.shape, .int .i64 a.sx, .int .i64 a.sy, .int .i64 a.mass, .int .i64 a.px, .int .i64 a.py, .int .i64 a.mx, .int .i64 a.my] := M.var_rw (by (repeat (first | (with_reducible assumption) | (with_reducible apply M.var_setV) | (with_reducible apply M.var_setI) | (with_reducible apply M.var_setB) | (with_reducible apply M.var_setHt) | (with_reducible apply M.var_setBd) | (with_reducible apply M.var_set2) | (with_reducible apply M.var_set3) | (with_reducible apply M.var_set4) | (with_reducible apply M.var_set45) | (with_reducible apply M.var_set67) | (with_reducible apply M.var_setF) | (with_reducible refine M.var_alloc' _ _ _ ?_; first | rfl | (focus (simp [go_sem]; done))) | (with_reducible refine M.Var.alloc ?_ _) | (with_reducible refine M.Var.drewN ?_ _) | (with_reducible refine M.Var.drew ?_) | (with_reducible refine M.Var.far ?_ _ _ ?hFar; case hFar => (first | omega | ((try simp [go_sem]) <;> omega))) | fail))) (by omega) hb
    have q3_a_0 : w3.cell? ⟨w.heap.size, 0, none⟩ = some (.int .i64 a.shape) := V3_a.c 0 _ rfl
    have q3_a_1 : w3.cell? ⟨w.heap.size, 1, none⟩ = some (.int .i64 a.sx) := V3_a.c 1 _ rfl
    have q3_a_2 : w3.cell? ⟨w.heap.size, 2, none⟩ = some (.int .i64 a.sy) := V3_a.c 2 _ rfl
    have q3_a_3 : w3.cell? ⟨w.heap.size, 3, none⟩ = some (.int .i64 a.mass) := V3_a.c 3 _ rfl
    have q3_a_4 : w3.cell? ⟨w.heap.size, 4, none⟩ = some (.int .i64 a.px) := V3_a.c 4 _ rfl
    have q3_a_5 : w3.cell? ⟨w.heap.size, 5, none⟩ = some (.int .i64 a.py) := V3_a.c 5 _ rfl
    have q3_a_6 : w3.cell? ⟨w.heap.size, 6, none⟩ = some (.int .i64 a.mx) := V3_a.c 6 _ rfl
    have q3_a_7 : w3.cell? ⟨w.heap.size, 7, none⟩ = some (.int .i64 a.my) := V3_a.c 7 _ rfl
    have f3_a := V3_a.2.2
    have L3_a := V3_a.lt
    have N3_a := Nat.ne_of_gt L3_a
    have M3_a := Nat.ne_of_lt L3_a
    have V3_b : M.Var w3 (w.heap.size + 1) #[.int .i64 b.shape, .int .i64 b.sx, .int .i64 b.sy, .int .i64 b.mass, .int .i64 b.px, .int .i64 b.py, .int .i64 b.mx, .int .i64 b.my] := M.var_rw (by (repeat (first | (with_reducible assumption) | (with_reducible apply M.var_setV) | (with_reducible apply M.var_setI) | (with_reducible apply M.var_setB) | (with_reducible apply M.var_setHt) | (with_reducible apply M.var_setBd) | (with_reducible apply M.var_set2) | (with_reducible apply M.var_set3) | (with_reducible apply M.var_set4) | (with_reducible apply M.var_set45) | (with_reducible apply M.var_set67) | (with_reducible apply M.var_setF) | (with_reducible refine M.var_alloc' _ _ _ ?_; first | rfl | (focus (simp [go_sem]; done))) | (with_reducible refine M.Var.alloc ?_ _) | (with_reducible refine M.Var.drewN ?_ _) | (with_reducible refine M.Var.drew ?_) | (with_reducible refine M.Var.far ?_ _ _ ?hFar; case hFar => (first | omega | ((try simp [go_sem]) <;> omega))) | fail))) (by omega) hb
    have q3_b_0 : w3.cell? ⟨w.heap.size + 1, 0, none⟩ = some (.int .i64 b.shape) := V3_b.c 0 _ rfl
    have q3_b_1 : w3.cell? ⟨w.heap.size + 1, 1, none⟩ = some (.int .i64 b.sx) := V3_b.c 1 _ rfl
    have q3_b_2 : w3.cell? ⟨w.heap.size + 1, 2, none⟩ = some (.int .i64 b.sy) := V3_b.c 2 _ rfl
    have q3_b_3 : w3.cell? ⟨w.heap.size + 1, 3, none⟩ = some (.int .i64 b.mass) := V3_b.c 3 _ rfl
    have q3_b_4 : w3.cell? ⟨w.heap.size + 1, 4, none⟩ = some (.int .i64 b.px) := V3_b.c 4 _ rfl
    have q3_b_5 : w3.cell? ⟨w.heap.size + 1, 5, none⟩ = some (.int .i64 b.py) := V3_b.c 5 _ rfl
    have q3_b_6 : w3.cell? ⟨w.heap.size + 1, 6, none⟩ = some (.int .i64 b.mx) := V3_b.c 6 _ rfl
    have q3_b_7 : w3.cell? ⟨w.heap.size + 1, 7, none⟩ = some (.int .i64 b.my) := V3_b.c 7 _ rfl
    have f3_b := V3_b.2.2
    have L3_b := V3_b.lt
    have N3_b := Nat.ne_of_gt L3_b
    have M3_b := Nat.ne_of_lt L3_b
    have V3_r : M.Var w3 (w.heap.size + 1 + 1) #[.int .i64 0, .int .i64 0, .int .i64 0] := M.var_rw (by (repeat (first | (with_reducible assumption) | (with_reducible apply M.var_setV) | (with_reducible apply M.var_setI) | (with_reducible apply M.var_setB) | (with_reducible apply M.var_setHt) | (with_reducible apply M.var_setBd) | (with_reducible apply M.var_set2) | (with_reducible apply M.var_set3) | (with_reducible apply M.var_set4) | (with_reducible apply M.var_set45) | (with_reducible apply M.var_set67) | (with_reducible apply M.var_setF) | (with_reducible refine M.var_alloc' _ _ _ ?_; first | rfl | (focus (simp [go_sem]; done))) | (with_reducible refine M.Var.alloc ?_ _) | (with_reducible refine M.Var.drewN ?_ _) | (with_reducible refine M.Var.drew ?_) | (with_reducible refine M.Var.far ?_ _ _ ?hFar; case hFar => (first | omega | ((try simp [go_sem]) <;> omega))) | fail))) (by omega) hb
    have q3_r_0 : w3.cell? ⟨w.heap.size + 1 + 1, 0, none⟩ = some (.int .i64 0) := V3_r.c 0 _ rfl
    have q3_r_1 : w3.cell? ⟨w.heap.size + 1 + 1, 1, none⟩ = some (.int .i64 0) := V3_r.c 1 _ rfl
    have q3_r_2 : w3.cell? ⟨w.heap.size + 1 + 1, 2, none⟩ = some (.int .i64 0) := V3_r.c 2 _ rfl
    have f3_r := V3_r.2.2
    have L3_r := V3_r.lt
    have N3_r := Nat.ne_of_gt L3_r
    have M3_r := Nat.ne_of_lt L3_r
    have V3_p : M.Var w3 (g) #[.int .i64 (clampI a.px qb.lx qb.hx), .int .i64 (clampI a.py qb.ly qb.hy)] := M.var_rw (by (repeat (first | (with_reducible assumption) | (with_reducible apply M.var_setV) | (with_reducible apply M.var_setI) | (with_reducible apply M.var_setB) | (with_reducible apply M.var_setHt) | (with_reducible apply M.var_setBd) | (with_reducible apply M.var_set2) | (with_reducible apply M.var_set3) | (with_reducible apply M.var_set4) | (with_reducible apply M.var_set45) | (with_reducible apply M.var_set67) | (with_reducible apply M.var_setF) | (with_reducible refine M.var_alloc' _ _ _ ?_; first | rfl | (focus (simp [go_sem]; done))) | (with_reducible refine M.Var.alloc ?_ _) | (with_reducible refine M.Var.drewN ?_ _) | (with_reducible refine M.Var.drew ?_) | (with_reducible refine M.Var.far ?_ _ _ ?hFar; case hFar => (first | omega | ((try simp [go_sem]) <;> omega))) | fail))) (by omega) hb
    have q3_p_0 : w3.cell? ⟨g, 0, none⟩ = some (.int .i64 (clampI a.px qb.lx qb.hx)) := V3_p.c 0 _ rfl
    have q3_p_1 : w3.cell? ⟨g, 1, none⟩ = some (.int .i64 (clampI a.py qb.ly qb.hy)) := V3_p.c 1 _ rfl
    have f3_p := V3_p.2.2
    have L3_p := V3_p.lt
    have N3_p := Nat.ne_of_gt L3_p
    have M3_p := Nat.ne_of_lt L3_p
    clear Vc_a fc_a Lc_a Nc_a Mc_a qc_a_0 qc_a_1 qc_a_2 qc_a_3 qc_a_4 qc_a_5 qc_a_6 qc_a_7 Vc_b fc_b Lc_b Nc_b Mc_b qc_b_0 qc_b_1 qc_b_2 qc_b_3 qc_b_4 qc_b_5 qc_b_6 qc_b_7 Vc_r fc_r Lc_r Nc_r Mc_r qc_r_0 qc_r_1 qc_r_2 Vc_p fc_p Lc_p Nc_p Mc_p qc_p_0 qc_p_1 PCc cc_pb fc_pb Lc_pb Nc_pb Mc_pb
    have HR3 := Lib.hid hr; clear hr
    have c3_pb := PC3.2.1; have f3_pb := PC3.2.2; have L3_pb := PC3.1; have N3_pb := Nat.ne_of_gt L3_pb; have M3_pb := Nat.ne_of_lt L3_pb
    have HG3 := Lib.hid G3; clear G3 hb
    go_wp2_with (with_reducible refine M.stopPost ?_)
    (with_reducible refine (C4.out e3 _ _ idx idy _ (by (repeat (first | (with_reducible assumption) | (with_reducible refine M.pcell_alloc ?_ _) | (with_reducible refine M.pcell_drewN ?_ _) | (with_reducible refine M.pcell_drew ?_) | (with_reducible refine M.pcell_far ?_ _ _ ?hFar; case hFar => (first | omega | ((try simp [go_sem]) <;> omega))) | fail)))).mono ?_); rintro en w4 ⟨ux, uy, l, e4, rfl, iux, iuy, il, hr, hb⟩
    have G4 : M.RW pb e4 w w4 := M.rw_step (by have G := HG3.out; (repeat (with_reducible refine M.Below.drewN ?_ _)); go_grown) hb hpb
    have S4 : w.heap.size ≤ w4.heap.size := by have := G4.size; rwa [M.setCell_size] at this
    have PC4 : M.PCell w4 pb e4 := M.pcell_behind hb (e := e3) (by (repeat (first | (with_reducible assumption) | (with_reducible refine M.pcell_alloc ?_ _) | (with_reducible refine M.pcell_drewN ?_ _) | (with_reducible refine M.pcell_drew ?_) | (with_reducible refine M.pcell_far ?_ _ _ ?hFar; case hFar => (first | omega | ((try simp [go_sem]) <;> omega))) | fail)))
    have V4_a : M.Var w4 (w.heap.size) #[.int .i64 a.shape, .int .i64 a.sx, .int .i64 a.sy, .int .i64 a.mass, .int .i64 a.px, .int .i64 a.py, .int .i64 a.mx, .int .i64 a.my] := M.var_rw (by (repeat (first | (with_reducible assumption) | (with_reducible apply M.var_setV) | (with_reducible apply M.var_setI) | (with_reducible apply M.var_setB) | (with_reducible apply M.var_setHt) | (with_reducible apply M.var_setBd) | (with_reducible apply M.var_set2) | (with_reducible apply M.var_set3) | (with_reducible apply M.var_set4) | (with_reducible apply M.var_set45) | (with_reducible apply M.var_set67) | (with_reducible apply M.var_setF) | (with_reducible refine M.var_alloc' _ _ _ ?_; first | rfl | (focus (simp [go_sem]; done))) | (with_reducible refine M.Var.alloc ?_ _) | (with_reducible refine M.Var.drewN ?_ _) | (with_reducible refine M.Var.drew ?_) | (with_reducible refine M.Var.far ?_ _ _ ?hFar; case hFar => (first | omega | ((try simp [go_sem]) <;> omega))) | fail))) (by omega) hb
    have q4_a_0 : w4.cell? ⟨w.heap.size, 0, none⟩ = some (.int .i64 a.shape) := V4_a.c 0 _ rfl
    have q4_a_1 : w4.cell? ⟨w.heap.size, 1, none⟩ = some (.int .i64 a.sx) := V4_a.c 1 _ rfl
    have q4_a_2 : w4.cell? ⟨w.heap.size, 2, none⟩ = some (.int .i64 a.sy) := V4_a.c 2 _ rfl
    have q4_a_3 : w4.cell? ⟨w.heap.size, 3, none⟩ = some (.int .i64 a.mass) := V4_a.c 3 _ rfl
    have q4_a_4 : w4.cell? ⟨w.heap.size, 4, none⟩ = some (.int .i64 a.px) := V4_a.c 4 _ rfl
    have q4_a_5 : w4.cell? ⟨w.heap.size, 5, none⟩ = some (.int .i64 a.py) := V4_a.c 5 _ rfl
    have q4_a_6 : w4.cell? ⟨w.heap.size, 6, none⟩ = some (.int .i64 a.mx) := V4_a.c 6 _ rfl
    have q4_a_7 : w4.cell? ⟨w.heap.size, 7, none⟩ = some (.int .i64 a.my) := V4_a.c 7 _ rfl
    have f4_a := V4_a.2.2
    have L4_a := V4_a.lt
    have N4_a := Nat.ne_of_gt L4_a
    have M4_a := Nat.ne_of_lt L4_a
    have V4_b : M.Var w4 (w.heap.size + 1) #[.int .i64 b.shape, .int .i64 b.sx, .int .i64 b.sy, .int .i64 b.mass, .int .i64 b.px, .int .i64 b.py, .int .i64 b.mx, .int .i64 b.my] := M.var_rw (by (repeat (first | (with_reducible assumption) | (with_reducible apply M.var_setV) | (with_reducible apply M.var_setI) | (with_reducible apply M.var_setB) | (with_reducible apply M.var_setHt) | (with_reducible apply M.var_setBd) | (with_reducible apply M.var_set2) | (with_reducible apply M.var_set3) | (with_reducible apply M.var_set4) | (with_reducible apply M.var_set45) | (with_reducible apply M.var_set67) | (with_reducible apply M.var_setF) | (with_reducible refine M.var_alloc' _ _ _ ?_; first | rfl | (focus (simp [go_sem]; done))) | (with_reducible refine M.Var.alloc ?_ _) | (with_reducible refine M.Var.drewN ?_ _) | (with_reducible refine M.Var.drew ?_) | (with_reducible refine M.Var.far ?_ _ _ ?hFar; case hFar => (first | omega | ((try simp [go_sem]) <;> omega))) | fail))) (by omega) hb
    have q4_b_0 : w4.cell? ⟨w.heap.size + 1, 0, none⟩ = some (.int .i64 b.shape) := V4_b.c 0 _ rfl
    have q4_b_1 : w4.cell? ⟨w.heap.size + 1, 1, none⟩ = some (.int .i64 b.sx) := V4_b.c 1 _ rfl
    have q4_b_2 : w4.cell? ⟨w.heap.size + 1, 2, none⟩ = some (.int .i64 b.sy) := V4_b.c 2 _ rfl
    have q4_b_3 : w4.cell? ⟨w.heap.size + 1, 3, none⟩ = some (.int .i64 b.mass) := V4_b.c 3 _ rfl
    have q4_b_4 : w4.cell? ⟨w.heap.size + 1, 4, none⟩ = some (.int .i64 b.px) := V4_b.c 4 _ rfl
    have q4_b_5 : w4.cell? ⟨w.heap.size + 1, 5, none⟩ = some (.int .i64 b.py) := V4_b.c 5 _ rfl
    have q4_b_6 : w4.cell? ⟨w.heap.size + 1, 6, none⟩ = some (.int .i64 b.mx) := V4_b.c 6 _ rfl
    have q4_b_7 : w4.cell? ⟨w.heap.size + 1, 7, none⟩ = some (.int .i64 b.my) := V4_b.c 7 _ rfl
    have f4_b := V4_b.2.2
    have L4_b := V4_b.lt
    have N4_b := Nat.ne_of_gt L4_b
    have M4_b := Nat.ne_of_lt L4_b
    have V4_r : M.Var w4 (w.heap.size + 1 + 1) #[.int .i64 0, .int .i64 0, .int .i64 0] := M.var_rw (by (repeat (first | (with_reducible assumption) | (with_reducible apply M.var_setV) | (with_reducible apply M.var_setI) | (with_reducible apply M.var_setB) | (with_reducible apply M.var_setHt) | (with_reducible apply M.var_setBd) | (with_reducible apply M.var_set2) | (with_reducible apply M.var_set3) | (with_reducible apply M.var_set4) | (with_reducible apply M.var_set45) | (with_reducible apply M.var_set67) | (with_reducible apply M.var_setF) | (with_reducible refine M.var_alloc' _ _ _ ?_; first | rfl | (focus (simp [go_sem]; done))) | (with_reducible refine M.Var.alloc ?_ _) | (with_reducible refine M.Var.drewN ?_ _) | (with_reducible refine M.Var.drew ?_) | (with_reducible refine M.Var.far ?_ _ _ ?hFar; case hFar => (first | omega | ((try simp [go_sem]) <;> omega))) | fail))) (by omega) hb
    have q4_r_0 : w4.cell? ⟨w.heap.size + 1 + 1, 0, none⟩ = some (.int .i64 0) := V4_r.c 0 _ rfl
    have q4_r_1 : w4.cell? ⟨w.heap.size + 1 + 1, 1, none⟩ = some (.int .i64 0) := V4_r.c 1 _ rfl
    have q4_r_2 : w4.cell? ⟨w.heap.size + 1 + 1, 2, none⟩ = some (.int .i64 0) := V4_r.c 2 _ rfl
    have f4_r := V4_r.2.2
    have L4_r := V4_r.lt
    have N4_r := Nat.ne_of_gt L4_r
    have M4_r := Nat.ne_of_lt L4_r
    have V4_p : M.Var w4 (g) #[.int .i64 (clampI a.px qb.lx qb.hx), .int .i64 (clampI a.py qb.ly qb.hy)] := M.var_rw (by (repeat (first | (with_reducible assumption) | (with_reducible apply M.var_setV) | (with_reducible apply M.var_setI) | (with_reducible apply M.var_setB) | (with_reducible apply M.var_setHt) | (with_reducible apply M.var_setBd) | (with_reducible apply M.var_set2) | (with_reducible apply M.var_set3) | (with_reducible apply M.var_set4) | (with_reducible apply M.var_set45) | (with_reducible apply M.var_set67) | (with_reducible apply M.var_setF) | (with_reducible refine M.var_alloc' _ _ _ ?_; first | rfl | (focus (simp [go_sem]; done))) | (with_reducible refine M.Var.alloc ?_ _) | (with_reducible refine M.Var.drewN ?_ _) | (with_reducible refine M.Var.drew ?_) | (with_reducible refine M.Var.far ?_ _ _ ?hFar; case hFar => (first | omega | ((try simp [go_sem]) <;> omega))) | fail))) (by omega) hb
    have q4_p_0 : w4.cell? ⟨g, 0, none⟩ = some (.int .i64 (clampI a.px qb.lx qb.hx)) := V4_p.c 0 _ rfl
    have q4_p_1 : w4.cell? ⟨g, 1, none⟩ = some (.int .i64 (clampI a.py qb.ly qb.hy)) := V4_p.c 1 _ rfl
    have f4_p := V4_p.2.2
    have L4_p := V4_p.lt
    have N4_p := Nat.ne_of_gt L4_p
    have M4_p := Nat.ne_of_lt L4_p
    clear V3_a f3_a L3_a N3_a M3_a q3_a_0 q3_a_1 q3_a_2 q3_a_3 q3_a_4 q3_a_5 q3_a_6 q3_a_7 V3_b f3_b L3_b N3_b M3_b q3_b_0 q3_b_1 q3_b_2 q3_b_3 q3_b_4 q3_b_5 q3_b_6 q3_b_7 V3_r f3_r L3_r N3_r M3_r q3_r_0 q3_r_1 q3_r_2 V3_p f3_p L3_p N3_p M3_p q3_p_0 q3_p_1 PC3 c3_pb f3_pb L3_pb N3_pb M3_pb
    have HR4 := Lib.hid hr; clear hr
    have c4_pb := PC4.2.1; have f4_pb := PC4.2.2; have L4_pb := PC4.1; have N4_pb := Nat.ne_of_gt L4_pb; have M4_pb := Nat.ne_of_lt L4_pb
    have HG4 := Lib.hid G4; clear G4 hb
    go_wp2_with (with_reducible refine M.stopPost ?_)
    · have h4 : e4 ≠ 0 := bne_iff_ne.1 (by assumption)
      (try refine M.Stop.mk ?_)
      refine bodyPost_ret (v := .tuple #[.agg #[.int .i64 0, .int .i64 0, .int .i64 0], .bool false]) (by first | (simp [results, Try.results133, go_sem, q4_r_0, q4_r_1, q4_r_2, f4_r, L4_r, N4_r, M4_r]; done) | (simp [results, Try.results133, go_sem, *]; done)) rfl ?_
      (try unfold M.RelHb); (try unfold M.RelBB); (try unfold M.RelI); (try unfold M.RelV); exact ⟨⟨0, 0, 0⟩, false, e4, rfl, ⟨z, z, z⟩, (rel_bind hq.out (rel_bind HR3.out (rel_bind HR4.out (.inl ⟨h4, rfl⟩)))), by have G := HG4.out; (repeat (with_reducible refine M.Below.drewN ?_ _)); go_grown⟩
    · obtain rfl : l = 0 := beq_iff_eq.1 (by assumption)
      (with_reducible refine (C5.out e4 _ (by (repeat (first | (with_reducible assumption) | (with_reducible refine M.pcell_alloc ?_ _) | (with_reducible refine M.pcell_drewN ?_ _) | (with_reducible refine M.pcell_drew ?_) | (with_reducible refine M.pcell_far ?_ _ _ ?hFar; case hFar => (first | omega | ((try simp [go_sem]) <;> omega))) | fail)))).mono ?_); rintro en w5 ⟨q, t, e5, rfl, iq2, hr, hb⟩
      have G5 : M.RW pb e5 w w5 := M.rw_step (by have G := HG4.out; (repeat (with_reducible refine M.Below.drewN ?_ _)); go_grown) hb hpb
      have S5 : w.heap.size ≤ w5.heap.size := by have := G5.size; rwa [M.setCell_size] at this
      have PC5 : M.PCell w5 pb e5 := M.pcell_behind hb (e := e4) (by (repeat (first | (with_reducible assumption) | (with_reducible refine M.pcell_alloc ?_ _) | (with_reducible refine M.pcell_drewN ?_ _) | (with_reducible refine M.pcell_drew ?_) | (with_reducible refine M.pcell_far ?_ _ _ ?hFar; case hFar => (first | omega | ((try simp [go_sem]) <;> omega))) | fail)))
      have V5_r : M.Var w5 (w.heap.size + 1 + 1) #[.int .i64 0, .int .i64 0, .int .i64 0] := M.var_rw (by (repeat (first | (with_reducible assumption) | (with_reducible apply M.var_setV) | (with_reducible apply M.var_setI) | (with_reducible apply M.var_setB) | (with_reducible apply M.var_setHt) | (with_reducible apply M.var_setBd) | (with_reducible apply M.var_set2) | (with_reducible apply M.var_set3) | (with_reducible apply M.var_set4) | (with_reducible apply M.var_set45) | (with_reducible apply M.var_set67) | (with_reducible apply M.var_setF) | (with_reducible refine M.var_alloc' _ _ _ ?_; first | rfl | (focus (simp [go_sem]; done))) | (with_reducible refine M.Var.alloc ?_ _) | (with_reducible refine M.Var.drewN ?_ _) | (with_reducible refine M.Var.drew ?_) | (with_reducible refine M.Var.far ?_ _ _ ?hFar; case hFar => (first | omega | ((try simp [go_sem]) <;> omega))) | fail))) (by omega) hb
      have q5_r_0 : w5.cell? ⟨w.heap.size + 1 + 1, 0, none⟩ = some (.int .i64 0) := V5_r.c 0 _ rfl
      have q5_r_1 : w5.cell? ⟨w.heap.size + 1 + 1, 1, none⟩ = some (.int .i64 0) := V5_r.c 1 _ rfl
      have q5_r_2 : w5.cell? ⟨w.heap.size + 1 + 1, 2, none⟩ = some (.int .i64 0) := V5_r.c 2 _ rfl
      have f5_r := V5_r.2.2
      have L5_r := V5_r.lt
      have N5_r := Nat.ne_of_gt L5_r
      have M5_r := Nat.ne_of_lt L5_r
      clear V4_a f4_a q4_a_0 q4_a_1 q4_a_2 q4_a_3 q4_a_4 q4_a_5 q4_a_6 q4_a_7 V4_b f4_b q4_b_0 q4_b_1 q4_b_2 q4_b_3 q4_b_4 q4_b_5 q4_b_6 q4_b_7 V4_r f4_r q4_r_0 q4_r_1 q4_r_2 V4_p f4_p q4_p_0 q4_p_1 PC4 c4_pb f4_pb
      have HR5 := Lib.hid hr; clear hr
      have c5_pb := PC5.2.1; have f5_pb := PC5.2.2; have L5_pb := PC5.1; have N5_pb := Nat.ne_of_gt L5_pb; have M5_pb := Nat.ne_of_lt L5_pb
      have HG5 := Lib.hid G5; clear G5 hb
      go_wp2_with (with_reducible refine M.stopPost ?_)
      (try refine M.Stop.mk ?_)
      refine bodyPost_ret (v := .tuple #[.agg #[.int .i64 q.nx, .int .i64 q.ny, .int .i64 q.d], .bool t]) (by first | (simp [results, Try.results133, go_sem, q5_r_0, q5_r_1, q5_r_2, f5_r, L5_r, N5_r, M5_r]; done) | (simp [results, Try.results133, go_sem, *]; done)) rfl ?_
      (try unfold M.RelHb); (try unfold M.RelBB); (try unfold M.RelI); (try unfold M.RelV); exact ⟨q, t, e5, rfl, iq2, (rel_bind hq.out (rel_bind HR3.out (rel_bind HR4.out (by rw [if_pos rfl]; exact HR5.out)))), by have G := HG5.out; (repeat (with_reducible refine M.Below.drewN ?_ _)); go_grown⟩
    · have h0 : ¬ l = 0 := beq_eq_false_iff_ne.1 (by assumption)
      (with_reducible refine (C6.out e4 _ _ ha.sx il _ (by (repeat (first | (with_reducible assumption) | (with_reducible refine M.pcell_alloc ?_ _) | (with_reducible refine M.pcell_drewN ?_ _) | (with_reducible refine M.pcell_drew ?_) | (with_reducible refine M.pcell_far ?_ _ _ ?hFar; case hFar => (first | omega | ((try simp [go_sem]) <;> omega))) | fail)))).mono ?_); rintro en w6 ⟨k, e6, rfl, ik, hr, hb⟩
      have G6 : M.RW pb e6 w w6 := M.rw_step (by have G := HG4.out; (repeat (with_reducible refine M.Below.drewN ?_ _)); go_grown) hb hpb
      have S6 : w.heap.size ≤ w6.heap.size := by have := G6.size; rwa [M.setCell_size] at this
      have PC6 : M.PCell w6 pb e6 := M.pcell_behind hb (e := e4) (by (repeat (first | (with_reducible assumption) | (with_reducible refine M.pcell_alloc ?_ _) | (with_reducible refine M.pcell_drewN ?_ _) | (with_reducible refine M.pcell_drew ?_) | (with_reducible refine M.pcell_far ?_ _ _ ?hFar; case hFar => (first | omega | ((try simp [go_sem]) <;> omega))) | fail)))
      have V6_a : M.Var w6 (w.heap.size) #[.int .i64 a.shape, .int .i64 a.sx, .int .i64 a.sy, .int .i64 a.mass, .int .i64 a.px, .int .i64 a.py, .int .i64 a.mx, .int .i64 a.my] := M.var_rw (by (repeat (first | (with_reducible assumption) | (with_reducible apply M.var_setV) | (with_reducible apply M.var_setI) | (with_reducible apply M.var_setB) | (with_reducible apply M.var_setHt) | (with_reducible apply M.var_setBd) | (with_reducible apply M.var_set2) | (with_reducible apply M.var_set3) | (with_reducible apply M.var_set4) | (with_reducible apply M.var_set45) | (with_reducible apply M.var_set67) | (with_reducible apply M.var_setF) | (with_reducible refine M.var_alloc' _ _ _ ?_; first | rfl | (focus (simp [go_sem]; done))) | (with_reducible refine M.Var.alloc ?_ _) | (with_reducible refine M.Var.drewN ?_ _) | (with_reducible refine M.Var.drew ?_) | (with_reducible refine M.Var.far ?_ _ _ ?hFar; case hFar => (first | omega | ((try simp [go_sem]) <;> omega))) | fail))) (by omega) hb
      have q6_a_0 : w6.cell? ⟨w.heap.size, 0, none⟩ = some (.int .i64 a.shape) := V6_a.c 0 _ rfl
      have q6_a_1 : w6.cell? ⟨w.heap.size, 1, none⟩ = some (.int .i64 a.sx) := V6_a.c 1 _ rfl
      have q6_a_2 : w6.cell? ⟨w.heap.size, 2, none⟩ = some (.int .i64 a.sy) := V6_a.c 2 _ rfl
      have q6_a_3 : w6.cell? ⟨w.heap.size, 3, none⟩ = some (.int .i64 a.mass) := V6_a.c 3 _ rfl
      have q6_a_4 : w6.cell? ⟨w.heap.size, 4, none⟩ = some (.int .i64 a.px) := V6_a.c 4 _ rfl
      have q6_a_5 : w6.cell? ⟨w.heap.size, 5, none⟩ = some (.int .i64 a.py) := V6_a.c 5 _ rfl
      have q6_a_6 : w6.cell? ⟨w.heap.size, 6, none⟩ = some (.int .i64 a.mx) := V6_a.c 6 _ rfl
      have q6_a_7 : w6.cell? ⟨w.heap.size, 7, none⟩ = some (.int .i64 a.my) := V6_a.c 7 _ rfl
      have f6_a := V6_a.2.2
      have L6_a := V6_a.lt
      have N6_a := Nat.ne_of_gt L6_a
      have M6_a := Nat.ne_of_lt L6_a
      have V6_b : M.Var w6 (w.heap.size + 1) #[.int .i64 b.shape, .int .i64 b.sx, .int .i64 b.sy, .int .i64 b.mass, .int .i64 b.px, .int .i64 b.py, .int .i64 b.mx, .int .i64 b.my] := M.var_rw (by (repeat (first | (with_reducible assumption) | (with_reducible apply M.var_setV) | (with_reducible apply M.var_setI) | (with_reducible apply M.var_setB) | (with_reducible apply M.var_setHt) | (with_reducible apply M.var_setBd) | (with_reducible apply M.var_set2) | (with_reducible apply M.var_set3) | (with_reducible apply M.var_set4) | (with_reducible apply M.var_set45) | (with_reducible apply M.var_set67) | (with_reducible apply M.var_setF) | (with_reducible refine M.var_alloc' _ _ _ ?_; first | rfl | (focus (simp [go_sem]; done))) | (with_reducible refine M.Var.alloc ?_ _) | (with_reducible refine M.Var.drewN ?_ _) | (with_reducible refine M.Var.drew ?_) | (with_reducible refine M.Var.far ?_ _ _ ?hFar; case hFar => (first | omega | ((try simp [go_sem]) <;> omega))) | fail))) (by omega) hb
      have q6_b_0 : w6.cell? ⟨w.heap.size + 1, 0, none⟩ = some (.int .i64 b.shape) := V6_b.c 0 _ rfl
      have q6_b_1 : w6.cell? ⟨w.heap.size + 1, 1, none⟩ = some (.int .i64 b.sx) := V6_b.c 1 _ rfl
      have q6_b_2 : w6.cell? ⟨w.heap.size + 1, 2, none⟩ = some (.int .i64 b.sy) := V6_b.c 2 _ rfl
      have q6_b_3 : w6.cell? ⟨w.heap.size + 1, 3, none⟩ = some (.int .i64 b.mass) := V6_b.c 3 _ rfl
      have q6_b_4 : w6.cell? ⟨w.heap.size + 1, 4, none⟩ = some (.int .i64 b.px) := V6_b.c 4 _ rfl
      have q6_b_5 : w6.cell? ⟨w.heap.size + 1, 5, none⟩ = some (.int .i64 b.py) := V6_b.c 5 _ rfl
      have q6_b_6 : w6.cell? ⟨w.heap.size + 1, 6, none⟩ = some (.int .i64 b.mx) := V6_b.c 6 _ rfl
      have q6_b_7 : w6.cell? ⟨w.heap.size + 1, 7, none⟩ = some (.int .i64 b.my) := V6_b.c 7 _ rfl
      have f6_b := V6_b.2.2
      have L6_b := V6_b.lt
      have N6_b := Nat.ne_of_gt L6_b
      have M6_b := Nat.ne_of_lt L6_b
      have V6_r : M.Var w6 (w.heap.size + 1 + 1) #[.int .i64 0, .int .i64 0, .int .i64 0] := M.var_rw (by (repeat (first | (with_reducible assumption) | (with_reducible apply M.var_setV) | (with_reducible apply M.var_setI) | (with_reducible apply M.var_setB) | (with_reducible apply M.var_setHt) | (with_reducible apply M.var_setBd) | (with_reducible apply M.var_set2) | (with_reducible apply M.var_set3) | (with_reducible apply M.var_set4) | (with_reducible apply M.var_set45) | (with_reducible apply M.var_set67) | (with_reducible apply M.var_setF) | (with_reducible refine M.var_alloc' _ _ _ ?_; first | rfl | (focus (simp [go_sem]; done))) | (with_reducible refine M.Var.alloc ?_ _) | (with_reducible refine M.Var.drewN ?_ _) | (with_reducible refine M.Var.drew ?_) | (with_reducible refine M.Var.far ?_ _ _ ?hFar; case hFar => (first | omega | ((try simp [go_sem]) <;> omega))) | fail))) (by omega) hb
      have q6_r_0 : w6.cell? ⟨w.heap.size + 1 + 1, 0, none⟩ = some (.int .i64 0) := V6_r.c 0 _ rfl
      have q6_r_1 : w6.cell? ⟨w.heap.size + 1 + 1, 1, none⟩ = some (.int .i64 0) := V6_r.c 1 _ rfl
      have q6_r_2 : w6.cell? ⟨w.heap.size + 1 + 1, 2, none⟩ = some (.int .i64 0) := V6_r.c 2 _ rfl
      have f6_r := V6_r.2.2
      have L6_r := V6_r.lt
      have N6_r := Nat.ne_of_gt L6_r
      have M6_r := Nat.ne_of_lt L6_r
      have V6_p : M.Var w6 (g) #[.int .i64 (clampI a.px qb.lx qb.hx), .int .i64 (clampI a.py qb.ly qb.hy)] := M.var_rw (by (repeat (first | (with_reducible assumption) | (with_reducible apply M.var_setV) | (with_reducible apply M.var_setI) | (with_reducible apply M.var_setB) | (with_reducible apply M.var_setHt) | (with_reducible apply M.var_setBd) | (with_reducible apply M.var_set2) | (with_reducible apply M.var_set3) | (with_reducible apply M.var_set4) | (with_reducible apply M.var_set45) | (with_reducible apply M.var_set67) | (with_reducible apply M.var_setF) | (with_reducible refine M.var_alloc' _ _ _ ?_; first | rfl | (focus (simp [go_sem]; done))) | (with_reducible refine M.Var.alloc ?_ _) | (with_reducible refine M.Var.drewN ?_ _) | (with_reducible refine M.Var.drew ?_) | (with_reducible refine M.Var.far ?_ _ _ ?hFar; case hFar => (first | omega | ((try simp [go_sem]) <;> omega))) | fail))) (by omega) hb
      have q6_p_0 : w6.cell? ⟨g, 0, none⟩ = some (.int .i64 (clampI a.px qb.lx qb.hx)) := V6_p.c 0 _ rfl
      have q6_p_1 : w6.cell? ⟨g, 1, none⟩ = some (.int .i64 (clampI a.py qb.ly qb.hy)) := V6_p.c 1 _ rfl
      have f6_p := V6_p.2.2
      have L6_p := V6_p.lt
      have N6_p := Nat.ne_of_gt L6_p
      have M6_p := Nat.ne_of_lt L6_p
      have V6_n : M.Var w6 (w4.heap.size) #[.int .i64 ux, .int .i64 uy] := M.var_rw (by (repeat (first | (with_reducible assumption) | (with_reducible apply M.var_setV) | (with_reducible apply M.var_setI) | (with_reducible apply M.var_setB) | (with_reducible apply M.var_setHt) | (with_reducible apply M.var_setBd) | (with_reducible apply M.var_set2) | (with_reducible apply M.var_set3) | (with_reducible apply M.var_set4) | (with_reducible apply M.var_set45) | (with_reducible apply M.var_set67) | (with_reducible apply M.var_setF) | (with_reducible refine M.var_alloc' _ _ _ ?_; first | rfl | (focus (simp [go_sem]; done))) | (with_reducible refine M.Var.alloc ?_ _) | (with_reducible refine M.Var.drewN ?_ _) | (with_reducible refine M.Var.drew ?_) | (with_reducible refine M.Var.far ?_ _ _ ?hFar; case hFar => (first | omega | ((try simp [go_sem]) <;> omega))) | fail))) (by omega) hb
      have q6_n_0 : w6.cell? ⟨w4.heap.size, 0, none⟩ = some (.int .i64 ux) := V6_n.c 0 _ rfl
      have q6_n_1 : w6.cell? ⟨w4.heap.size, 1, none⟩ = some (.int .i64 uy) := V6_n.c 1 _ rfl
      have f6_n := V6_n.2.2
      have L6_n := V6_n.lt
      have N6_n := Nat.ne_of_gt L6_n
      have M6_n := Nat.ne_of_lt L6_n
      clear V4_a f4_a q4_a_0 q4_a_1 q4_a_2 q4_a_3 q4_a_4 q4_a_5 q4_a_6 q4_a_7 V4_b f4_b q4_b_0 q4_b_1 q4_b_2 q4_b_3 q4_b_4 q4_b_5 q4_b_6 q4_b_7 V4_r f4_r q4_r_0 q4_r_1 q4_r_2 V4_p f4_p q4_p_0 q4_p_1 PC4 c4_pb f4_pb
      have HR6 := Lib.hid hr; clear hr
      have c6_pb := PC6.2.1; have f6_pb := PC6.2.2; have L6_pb := PC6.1; have N6_pb := Nat.ne_of_gt L6_pb; have M6_pb := Nat.ne_of_lt L6_pb
      have HG6 := Lib.hid G6; clear G6 hb
      go_wp2_with (with_reducible refine M.stopPost ?_)
      · have g1 : k ≤ 0 := by assumption
        (try refine M.Stop.mk ?_)
        refine bodyPost_ret (v := .tuple #[.agg #[.int .i64 0, .int .i64 0, .int .i64 0], .bool false]) (by first | (simp [results, Try.results133, go_sem, q6_r_0, q6_r_1, q6_r_2, f6_r, L6_r, N6_r, M6_r]; done) | (simp [results, Try.results133, go_sem, *]; done)) rfl ?_
        (try unfold M.RelHb); (try unfold M.RelBB); (try unfold M.RelI); (try unfold M.RelV); exact ⟨⟨0, 0, 0⟩, false, e6, rfl, ⟨z, z, z⟩, (rel_bind hq.out (rel_bind HR3.out (rel_bind HR4.out (by rw [if_neg h0]; exact rel_bind HR6.out (by rw [hitR_no g1]; exact rel_ok _ _))))), by have G := HG6.out; (repeat (with_reducible refine M.Below.drewN ?_ _)); go_grown⟩
      · have g1 : ¬ k ≤ 0 := by omega
        (try refine M.Stop.mk ?_)
        refine bodyPost_ret (v := .tuple #[.agg #[.int .i64 ux, .int .i64 uy, .int .i64 k], .bool true]) (by first | (simp [results, Try.results133, go_sem, q6_r_0, q6_r_1, q6_r_2, f6_r, L6_r, N6_r, M6_r]; done) | (simp [results, Try.results133, go_sem, *]; done)) rfl ?_
        (try unfold M.RelHb); (try unfold M.RelBB); (try unfold M.RelI); (try unfold M.RelV); exact ⟨⟨ux, uy, k⟩, true, e6, rfl, ⟨iux, iuy, ik⟩, (rel_bind hq.out (rel_bind HR3.out (rel_bind HR4.out (by rw [if_neg h0]; exact rel_bind HR6.out (by rw [hitR_yes (by omega)]; exact rel_ok _ _))))), by have G := HG6.out; (repeat (with_reducible refine M.Below.drewN ?_ _)); go_grown⟩
end Go.Proofs.Ytaagpkacningdaa
