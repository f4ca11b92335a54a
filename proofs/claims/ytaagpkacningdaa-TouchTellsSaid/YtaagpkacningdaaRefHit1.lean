/- The contact of two crates, as the reference reckons it. -/
import Derived.Test.YtaagpkacningdaaRefTouch
import Derived.Test.YtaagpkacningdaaVar3
import Derived.Test.YtaagpkacningdaaTouchMath
import Derived.Deep.Cut
namespace Go.Proofs.Ytaagpkacningdaa
open Go.RowKit M
set_option maxRecDepth 100000
set_option maxHeartbeats 4000000
set_option linter.unusedVariables false
set_option linter.unusedSimpArgs false
attribute [local go_sem ↓] Go.wp_at_zero Go.wp_at_succ
theorem crates_tail {x y dx dy : Int} (hx : ¬ x ≤ 0) (P : X (Ht × Bool)) (hP : P = if x ≤ y then .ok (hitR (oneI dx, 0) x) else .ok (hitR (0, oneI dy) y)) :
    (y ≤ 0 → P = .ok (⟨0, 0, 0⟩, false)) ∧ (¬ y ≤ 0 → x ≤ y → P = .ok (⟨oneI dx, 0, x⟩, true)) ∧ (¬ y ≤ 0 → ¬ x ≤ y → P = .ok (⟨0, oneI dy, y⟩, true)) := by
  subst hP
  refine ⟨fun h => ?_, fun h k => ?_, fun h k => ?_⟩
  · rw [if_neg (by omega)]; unfold hitR; rw [if_pos h]
  · rw [if_pos k]; unfold hitR; rw [if_neg hx]
  · rw [if_neg k]; unfold hitR; rw [if_neg h]
theorem refCrates_x (pb : Nat) (e : Int) (a b : Bd) (ha : a.ok) (hb : b.ok) (w : World) (hp : PCell w pb e) :
    Calls Try.prog 184 #[.pointer (some ⟨pb, 0, none⟩), .agg #[.int .i64 a.shape, .int .i64 a.sx, .int .i64 a.sy, .int .i64 a.mass, .int .i64 a.px, .int .i64 a.py, .int .i64 a.mx, .int .i64 a.my], .agg #[.int .i64 b.shape, .int .i64 b.sx, .int .i64 b.sy, .int .i64 b.mass, .int .i64 b.px, .int .i64 b.py, .int .i64 b.mx, .int .i64 b.my]] w (RelHb pb e (cratesX a b) w) := by
  have C1 := Lib.hid (refLess_x pb e b.px b.py a.px a.py hb.px hb.py ha.px ha.py)
  have C2 := Lib.hid (fun e => refAdd_x pb e a.sx b.sx ha.sx hb.sx)
  have C3 := Lib.hid (refAmount_x pb)
  have C4 := Lib.hid (refSub_x pb)
  have C5 := Lib.hid (fun e => refAdd_x pb e a.sy b.sy ha.sy hb.sy)
  have z : I64 0 := by unfold I64; omega
  have z1 : I64 4294967296 := by unfold I64; omega
  have z2 : I64 (-4294967296) := by unfold I64; omega
  have hpb : pb < w.heap.size := hp.1; have c0_pb := hp.2.1; have f0_pb := hp.2.2; have PC0 := hp
  have HG0 := Lib.hid (M.rw_refl hp)
  go_enter Try.func184, Try.ntmps184
  go_wp2_with (with_reducible refine M.stopPost ?_)
  (with_reducible refine (C1.out _ (by (repeat (first | (with_reducible assumption) | (with_reducible refine M.pcell_alloc ?_ _) | (with_reducible refine M.pcell_drewN ?_ _) | (with_reducible refine M.pcell_drew ?_) | (with_reducible refine M.pcell_far ?_ _ _ ?hFar; case hFar => (first | omega | ((try simp [go_sem]) <;> omega))) | fail)))).mono ?_); rintro en w1 ⟨dx, dy, e1, rfl, idx, idy, hr, hb⟩
  have G1 : M.RW pb e1 w w1 := M.rw_step (by have G := HG0.out; (repeat (with_reducible refine M.Below.drewN ?_ _)); go_grown) hb hpb
  have S1 : w.heap.size ≤ w1.heap.size := by have := G1.size; rwa [M.setCell_size] at this
  have PC1 : M.PCell w1 pb e1 := M.pcell_behind hb (e := e) (by (repeat (first | (with_reducible assumption) | (with_reducible refine M.pcell_alloc ?_ _) | (with_reducible refine M.pcell_drewN ?_ _) | (with_reducible refine M.pcell_drew ?_) | (with_reducible refine M.pcell_far ?_ _ _ ?hFar; case hFar => (first | omega | ((try simp [go_sem]) <;> omega))) | fail)))
  have V1_a : M.Var w1 (w.heap.size) #[.int .i64 a.shape, .int .i64 a.sx, .int .i64 a.sy, .int .i64 a.mass, .int .i64 a.px, .int .i64 a.py, .int .i64 a.mx, .int .i64 a.my] := M.var_rw (by (repeat (first | (with_reducible assumption) | (with_reducible apply M.var_setV) | (with_reducible apply M.var_setI) | (with_reducible apply M.var_setB) | (with_reducible apply M.var_setHt) | (with_reducible apply M.var_setBd) | (with_reducible apply M.var_set2) | (with_reducible apply M.var_set3) | (with_reducible apply M.var_set4) | (with_reducible apply M.var_set45) | (with_reducible apply M.var_set67) | (with_reducible apply M.var_setF) | (with_reducible refine M.var_alloc' _ _ _ ?_; first | rfl | (focus (simp [go_sem]; done))) | (with_reducible refine M.Var.alloc ?_ _) | (with_reducible refine M.Var.drewN ?_ _) | (with_reducible refine M.Var.drew ?_) | (with_reducible refine M.Var.far ?_ _ _ ?hFar; case hFar => (first | omega | ((try simp [go_sem]) <;> omega))) | fail))) (by omega) hb
  have q1_a_0 : w1.cell? ⟨w.heap.size, 0, none⟩ = some (.int .i64 a.shape) := V1_a.c 0 _ rfl
  have q1_a_1 : w1.cell? ⟨w.heap.size, 1, none⟩ = some (.int .i64 a.sx) := V1_a.c 1 _ rfl
  have q1_a_2 : w1.cell? ⟨w.heap.size, 2, none⟩ = some (.int .i64 a.sy) := V1_a.c 2 _ rfl
  have q1_a_3 : w1.cell? ⟨w.heap.size, 3, none⟩ = some (.int .i64 a.mass) := V1_a.c 3 _ rfl
  have q1_a_4 : w1.cell? ⟨w.heap.size, 4, none⟩ = some (.int .i64 a.px) := V1_a.c 4 _ rfl
  have q1_a_5 : w1.cell? ⟨w.heap.size, 5, none⟩ = some (.int .i64 a.py) := V1_a.c 5 _ rfl
  have q1_a_6 : w1.cell? ⟨w.heap.size, 6, none⟩ = some (.int .i64 a.mx) := V1_a.c 6 _ rfl
  have q1_a_7 : w1.cell? ⟨w.heap.size, 7, none⟩ = some (.int .i64 a.my) := V1_a.c 7 _ rfl
  have f1_a := V1_a.2.2
  have L1_a := V1_a.lt
  have N1_a := Nat.ne_of_gt L1_a
  have M1_a := Nat.ne_of_lt L1_a
  have V1_b : M.Var w1 (w.heap.size + 1) #[.int .i64 b.shape, .int .i64 b.sx, .int .i64 b.sy, .int .i64 b.mass, .int .i64 b.px, .int .i64 b.py, .int .i64 b.mx, .int .i64 b.my] := M.var_rw (by (repeat (first | (with_reducible assumption) | (with_reducible apply M.var_setV) | (with_reducible apply M.var_setI) | (with_reducible apply M.var_setB) | (with_reducible apply M.var_setHt) | (with_reducible apply M.var_setBd) | (with_reducible apply M.var_set2) | (with_reducible apply M.var_set3) | (with_reducible apply M.var_set4) | (with_reducible apply M.var_set45) | (with_reducible apply M.var_set67) | (with_reducible apply M.var_setF) | (with_reducible refine M.var_alloc' _ _ _ ?_; first | rfl | (focus (simp [go_sem]; done))) | (with_reducible refine M.Var.alloc ?_ _) | (with_reducible refine M.Var.drewN ?_ _) | (with_reducible refine M.Var.drew ?_) | (with_reducible refine M.Var.far ?_ _ _ ?hFar; case hFar => (first | omega | ((try simp [go_sem]) <;> omega))) | fail))) (by omega) hb
  have q1_b_0 : w1.cell? ⟨w.heap.size + 1, 0, none⟩ = some (.int .i64 b.shape) := V1_b.c 0 _ rfl
  have q1_b_1 : w1.cell? ⟨w.heap.size + 1, 1, none⟩ = some (.int .i64 b.sx) := V1_b.c 1 _ rfl
  have q1_b_2 : w1.cell? ⟨w.heap.size + 1, 2, none⟩ = some (.int .i64 b.sy) := V1_b.c 2 _ rfl
  have q1_b_3 : w1.cell? ⟨w.heap.size + 1, 3, none⟩ = some (.int .i64 b.mass) := V1_b.c 3 _ rfl
  have q1_b_4 : w1.cell? ⟨w.heap.size + 1, 4, none⟩ = some (.int .i64 b.px) := V1_b.c 4 _ rfl
  have q1_b_5 : w1.cell? ⟨w.heap.size + 1, 5, none⟩ = some (.int .i64 b.py) := V1_b.c 5 _ rfl
  have q1_b_6 : w1.cell? ⟨w.heap.size + 1, 6, none⟩ = some (.int .i64 b.mx) := V1_b.c 6 _ rfl
  have q1_b_7 : w1.cell? ⟨w.heap.size + 1, 7, none⟩ = some (.int .i64 b.my) := V1_b.c 7 _ rfl
  have f1_b := V1_b.2.2
  have L1_b := V1_b.lt
  have N1_b := Nat.ne_of_gt L1_b
  have M1_b := Nat.ne_of_lt L1_b
  have V1_r : M.Var w1 (w.heap.size + 1 + 1) #[.int .i64 0, .int .i64 0, .int .i64 0] := M.var_rw (by (repeat (first | (with_reducible assumption) | (with_reducible apply M.var_setV) | (with_reducible apply M.var_setI) | (with_reducible apply M.var_setB) | (with_reducible apply M.var_setHt) | (with_reducible apply M.var_setBd) | (with_reducible apply M.var_set2) | (with_reducible apply M.var_set3) | (with_reducible apply M.var_set4) | (with_reducible apply M.var_set45) | (with_reducible apply M.var_set67) | (with_reducible apply M.var_setF) | (with_reducible refine M.var_alloc' _ _ _ ?_; first | rfl | (focus (simp [go_sem]; done))) | (with_reducible refine M.Var.alloc ?_ _) | (with_reducible refine M.Var.drewN ?_ _) | (with_reducible refine M.Var.drew ?_) | (with_reducible refine M.Var.far ?_ _ _ ?hFar; case hFar => (first | omega | ((try simp [go_sem]) <;> omega))) | fail))) (by omega) hb
  have q1_r_0 : w1.cell? ⟨w.heap.size + 1 + 1, 0, none⟩ = some (.int .i64 0) := V1_r.c 0 _ rfl
  have q1_r_1 : w1.cell? ⟨w.heap.size + 1 + 1, 1, none⟩ = some (.int .i64 0) := V1_r.c 1 _ rfl
  have q1_r_2 : w1.cell? ⟨w.heap.size + 1 + 1, 2, none⟩ = some (.int .i64 0) := V1_r.c 2 _ rfl
  have f1_r := V1_r.2.2
  have L1_r := V1_r.lt
  have N1_r := Nat.ne_of_gt L1_r
  have M1_r := Nat.ne_of_lt L1_r
  have HR1 := Lib.hid hr; clear hr
  have c1_pb := PC1.2.1; have f1_pb := PC1.2.2; have L1_pb := PC1.1; have N1_pb := Nat.ne_of_gt L1_pb; have M1_pb := Nat.ne_of_lt L1_pb
  have HG1 := Lib.hid G1; clear G1 hb
  go_wp2_with (with_reducible refine M.stopPost ?_)
  go_cut [9] from 18 (fun s9 wc => ∃ (x : Int) (ec : Int), s9 = .int .i64 x ∧ I64 x ∧ Hid (M.Rel e1 (overlapX a.sx b.sx dx) x ec) ∧ Hid (M.RW pb ec w wc) ∧ M.PCell wc pb ec ∧ M.Var wc (w.heap.size) #[.int .i64 a.shape, .int .i64 a.sx, .int .i64 a.sy, .int .i64 a.mass, .int .i64 a.px, .int .i64 a.py, .int .i64 a.mx, .int .i64 a.my] ∧ M.Var wc (w.heap.size + 1) #[.int .i64 b.shape, .int .i64 b.sx, .int .i64 b.sy, .int .i64 b.mass, .int .i64 b.px, .int .i64 b.py, .int .i64 b.mx, .int .i64 b.my] ∧ M.Var wc (w.heap.size + 1 + 1) #[.int .i64 0, .int .i64 0, .int .i64 0] ∧ M.Var wc (w1.heap.size) #[.int .i64 dx, .int .i64 dy])
  case first =>
    go_region_held2 (fun w' => w'.cell? ⟨w.heap.size, 0, none⟩ = some (.int .i64 a.shape) ∧ w'.cell? ⟨w.heap.size, 1, none⟩ = some (.int .i64 a.sx) ∧ w'.cell? ⟨w.heap.size, 2, none⟩ = some (.int .i64 a.sy) ∧ w'.cell? ⟨w.heap.size, 3, none⟩ = some (.int .i64 a.mass) ∧ w'.cell? ⟨w.heap.size, 4, none⟩ = some (.int .i64 a.px) ∧ w'.cell? ⟨w.heap.size, 5, none⟩ = some (.int .i64 a.py) ∧ w'.cell? ⟨w.heap.size, 6, none⟩ = some (.int .i64 a.mx) ∧ w'.cell? ⟨w.heap.size, 7, none⟩ = some (.int .i64 a.my) ∧ w'.cell? ⟨w.heap.size + 1, 0, none⟩ = some (.int .i64 b.shape) ∧ w'.cell? ⟨w.heap.size + 1, 1, none⟩ = some (.int .i64 b.sx) ∧ w'.cell? ⟨w.heap.size + 1, 2, none⟩ = some (.int .i64 b.sy) ∧ w'.cell? ⟨w.heap.size + 1, 3, none⟩ = some (.int .i64 b.mass) ∧ w'.cell? ⟨w.heap.size + 1, 4, none⟩ = some (.int .i64 b.px) ∧ w'.cell? ⟨w.heap.size + 1, 5, none⟩ = some (.int .i64 b.py) ∧ w'.cell? ⟨w.heap.size + 1, 6, none⟩ = some (.int .i64 b.mx) ∧ w'.cell? ⟨w.heap.size + 1, 7, none⟩ = some (.int .i64 b.my) ∧ w'.cell? ⟨w1.heap.size, 0, none⟩ = some (.int .i64 dx) ∧ w'.cell? ⟨w1.heap.size, 1, none⟩ = some (.int .i64 dy)) (first | (go_keep; done) | (simp [*, go_sem, World.cell?_alloc_some, World.cell?_setCell_far]; done))
      (first
      | (go_at_call 174; refine (C2.out e1 _ (by (repeat (first | (with_reducible assumption) | (with_reducible refine M.pcell_alloc ?_ _) | (with_reducible refine M.pcell_drewN ?_ _) | (with_reducible refine M.pcell_drew ?_) | (with_reducible refine M.pcell_far ?_ _ _ ?hFar; case hFar => (first | omega | ((try simp [go_sem]) <;> omega))) | fail)))).mono ?_; rintro en w2 ⟨s1, e2, rfl, is1, hr, hb⟩
         have G2 : M.RW pb e2 w w2 := M.rw_step (by have G := HG1.out; (repeat (with_reducible refine M.Below.drewN ?_ _)); go_grown) hb hpb
         have S2 : w.heap.size ≤ w2.heap.size := by have := G2.size; rwa [M.setCell_size] at this
         have PC2 : M.PCell w2 pb e2 := M.pcell_behind hb (e := e1) (by (repeat (first | (with_reducible assumption) | (with_reducible refine M.pcell_alloc ?_ _) | (with_reducible refine M.pcell_drewN ?_ _) | (with_reducible refine M.pcell_drew ?_) | (with_reducible refine M.pcell_far ?_ _ _ ?hFar; case hFar => (first | omega | ((try simp [go_sem]) <;> omega))) | fail)))
         have V2_a : M.Var w2 (w.heap.size) #[.int .i64 a.shape, .int .i64 a.sx, .int .i64 a.sy, .int .i64 a.mass, .int .i64 a.px, .int .i64 a.py, .int .i64 a.mx, .int .i64 a.my] := M.var_rw (by (repeat (first | (with_reducible assumption) | (with_reducible apply M.var_setV) | (with_reducible apply M.var_setI) | (with_reducible apply M.var_setB) | (with_reducible apply M.var_setHt) | (with_reducible apply M.var_setBd) | (with_reducible apply M.var_set2) | (with_reducible apply M.var_set3) | (with_reducible apply M.var_set4) | (with_reducible apply M.var_set45) | (with_reducible apply M.var_set67) | (with_reducible apply M.var_setF) | (with_reducible refine M.var_alloc' _ _ _ ?_; first | rfl | (focus (simp [go_sem]; done))) | (with_reducible refine M.Var.alloc ?_ _) | (with_reducible refine M.Var.drewN ?_ _) | (with_reducible refine M.Var.drew ?_) | (with_reducible refine M.Var.far ?_ _ _ ?hFar; case hFar => (first | omega | ((try simp [go_sem]) <;> omega))) | fail))) (by omega) hb
         have q2_a_0 : w2.cell? ⟨w.heap.size, 0, none⟩ = some (.int .i64 a.shape) := V2_a.c 0 _ rfl
         have q2_a_1 : w2.cell? ⟨w.heap.size, 1, none⟩ = some (.int .i64 a.sx) := V2_a.c 1 _ rfl
         have q2_a_2 : w2.cell? ⟨w.heap.size, 2, none⟩ = some (.int .i64 a.sy) := V2_a.c 2 _ rfl
         have q2_a_3 : w2.cell? ⟨w.heap.size, 3, none⟩ = some (.int .i64 a.mass) := V2_a.c 3 _ rfl
         have q2_a_4 : w2.cell? ⟨w.heap.size, 4, none⟩ = some (.int .i64 a.px) := V2_a.c 4 _ rfl
         have q2_a_5 : w2.cell? ⟨w.heap.size, 5, none⟩ = some (.int .i64 a.py) := V2_a.c 5 _ rfl
         have q2_a_6 : w2.cell? ⟨w.heap.size, 6, none⟩ = some (.int .i64 a.mx) := V2_a.c 6 _ rfl
         have q2_a_7 : w2.cell? ⟨w.heap.size, 7, none⟩ = some (.int .i64 a.my) := V2_a.c 7 _ rfl
         have f2_a := V2_a.2.2
         have L2_a := V2_a.lt
         have N2_a := Nat.ne_of_gt L2_a
         have M2_a := Nat.ne_of_lt L2_a
         have V2_b : M.Var w2 (w.heap.size + 1) #[.int .i64 b.shape, .int .i64 b.sx, .int .i64 b.sy, .int .i64 b.mass, .int .i64 b.px, .int .i64 b.py, .int .i64 b.mx, .int .i64 b.my] := M.var_rw (by (repeat (first | (with_reducible assumption) | (with_reducible apply M.var_setV) | (with_reducible apply M.var_setI) | (with_reducible apply M.var_setB) | (with_reducible apply M.var_setHt) | (with_reducible apply M.var_setBd) | (with_reducible apply M.var_set2) | (with_reducible apply M.var_set3) | (with_reducible apply M.var_set4) | (with_reducible apply M.var_set45) | (with_reducible apply M.var_set67) | (with_reducible apply M.var_setF) | (with_reducible refine M.var_alloc' _ _ _ ?_; first | rfl | (focus (simp [go_sem]; done))) | (with_reducible refine M.Var.alloc ?_ _) | (with_reducible refine M.Var.drewN ?_ _) | (with_reducible refine M.Var.drew ?_) | (with_reducible refine M.Var.far ?_ _ _ ?hFar; case hFar => (first | omega | ((try simp [go_sem]) <;> omega))) | fail))) (by omega) hb
         have q2_b_0 : w2.cell? ⟨w.heap.size + 1, 0, none⟩ = some (.int .i64 b.shape) := V2_b.c 0 _ rfl
         have q2_b_1 : w2.cell? ⟨w.heap.size + 1, 1, none⟩ = some (.int .i64 b.sx) := V2_b.c 1 _ rfl
         have q2_b_2 : w2.cell? ⟨w.heap.size + 1, 2, none⟩ = some (.int .i64 b.sy) := V2_b.c 2 _ rfl
         have q2_b_3 : w2.cell? ⟨w.heap.size + 1, 3, none⟩ = some (.int .i64 b.mass) := V2_b.c 3 _ rfl
         have q2_b_4 : w2.cell? ⟨w.heap.size + 1, 4, none⟩ = some (.int .i64 b.px) := V2_b.c 4 _ rfl
         have q2_b_5 : w2.cell? ⟨w.heap.size + 1, 5, none⟩ = some (.int .i64 b.py) := V2_b.c 5 _ rfl
         have q2_b_6 : w2.cell? ⟨w.heap.size + 1, 6, none⟩ = some (.int .i64 b.mx) := V2_b.c 6 _ rfl
         have q2_b_7 : w2.cell? ⟨w.heap.size + 1, 7, none⟩ = some (.int .i64 b.my) := V2_b.c 7 _ rfl
         have f2_b := V2_b.2.2
         have L2_b := V2_b.lt
         have N2_b := Nat.ne_of_gt L2_b
         have M2_b := Nat.ne_of_lt L2_b
         have V2_r : M.Var w2 (w.heap.size + 1 + 1) #[.int .i64 0, .int .i64 0, .int .i64 0] := M.var_rw (by (repeat (first | (with_reducible assumption) | (with_reducible apply M.var_setV) | (with_reducible apply M.var_setI) | (with_reducible apply M.var_setB) | (with_reducible apply M.var_setHt) | (with_reducible apply M.var_setBd) | (with_reducible apply M.var_set2) | (with_reducible apply M.var_set3) | (with_reducible apply M.var_set4) | (with_reducible apply M.var_set45) | (with_reducible apply M.var_set67) | (with_reducible apply M.var_setF) | (with_reducible refine M.var_alloc' _ _ _ ?_; first | rfl | (focus (simp [go_sem]; done))) | (with_reducible refine M.Var.alloc ?_ _) | (with_reducible refine M.Var.drewN ?_ _) | (with_reducible refine M.Var.drew ?_) | (with_reducible refine M.Var.far ?_ _ _ ?hFar; case hFar => (first | omega | ((try simp [go_sem]) <;> omega))) | fail))) (by omega) hb
         have q2_r_0 : w2.cell? ⟨w.heap.size + 1 + 1, 0, none⟩ = some (.int .i64 0) := V2_r.c 0 _ rfl
         have q2_r_1 : w2.cell? ⟨w.heap.size + 1 + 1, 1, none⟩ = some (.int .i64 0) := V2_r.c 1 _ rfl
         have q2_r_2 : w2.cell? ⟨w.heap.size + 1 + 1, 2, none⟩ = some (.int .i64 0) := V2_r.c 2 _ rfl
         have f2_r := V2_r.2.2
         have L2_r := V2_r.lt
         have N2_r := Nat.ne_of_gt L2_r
         have M2_r := Nat.ne_of_lt L2_r
         have V2_d : M.Var w2 (w1.heap.size) #[.int .i64 dx, .int .i64 dy] := M.var_rw (by (repeat (first | (with_reducible assumption) | (with_reducible apply M.var_setV) | (with_reducible apply M.var_setI) | (with_reducible apply M.var_setB) | (with_reducible apply M.var_setHt) | (with_reducible apply M.var_setBd) | (with_reducible apply M.var_set2) | (with_reducible apply M.var_set3) | (with_reducible apply M.var_set4) | (with_reducible apply M.var_set45) | (with_reducible apply M.var_set67) | (with_reducible apply M.var_setF) | (with_reducible refine M.var_alloc' _ _ _ ?_; first | rfl | (focus (simp [go_sem]; done))) | (with_reducible refine M.Var.alloc ?_ _) | (with_reducible refine M.Var.drewN ?_ _) | (with_reducible refine M.Var.drew ?_) | (with_reducible refine M.Var.far ?_ _ _ ?hFar; case hFar => (first | omega | ((try simp [go_sem]) <;> omega))) | fail))) (by omega) hb
         have q2_d_0 : w2.cell? ⟨w1.heap.size, 0, none⟩ = some (.int .i64 dx) := V2_d.c 0 _ rfl
         have q2_d_1 : w2.cell? ⟨w1.heap.size, 1, none⟩ = some (.int .i64 dy) := V2_d.c 1 _ rfl
         have f2_d := V2_d.2.2
         have L2_d := V2_d.lt
         have N2_d := Nat.ne_of_gt L2_d
         have M2_d := Nat.ne_of_lt L2_d
         clear V1_a f1_a q1_a_0 q1_a_1 q1_a_2 q1_a_3 q1_a_4 q1_a_5 q1_a_6 q1_a_7 V1_b f1_b q1_b_0 q1_b_1 q1_b_2 q1_b_3 q1_b_4 q1_b_5 q1_b_6 q1_b_7 V1_r f1_r q1_r_0 q1_r_1 q1_r_2 PC1 c1_pb f1_pb
         have HR2 := Lib.hid hr; clear hr
         have c2_pb := PC2.2.1; have f2_pb := PC2.2.2; have L2_pb := PC2.1; have N2_pb := Nat.ne_of_gt L2_pb; have M2_pb := Nat.ne_of_lt L2_pb
         have HG2 := Lib.hid G2; clear G2 hb)
      | (go_at_call 191; refine (C3.out e2 _ idx _ (by (repeat (first | (with_reducible assumption) | (with_reducible refine M.pcell_alloc ?_ _) | (with_reducible refine M.pcell_drewN ?_ _) | (with_reducible refine M.pcell_drew ?_) | (with_reducible refine M.pcell_far ?_ _ _ ?hFar; case hFar => (first | omega | ((try simp [go_sem]) <;> omega))) | fail)))).mono ?_; rintro en w3 ⟨t1, e3, rfl, it1, hr, hb⟩
         have G3 : M.RW pb e3 w w3 := M.rw_step (by have G := HG2.out; (repeat (with_reducible refine M.Below.drewN ?_ _)); go_grown) hb hpb
         have S3 : w.heap.size ≤ w3.heap.size := by have := G3.size; rwa [M.setCell_size] at this
         have PC3 : M.PCell w3 pb e3 := M.pcell_behind hb (e := e2) (by (repeat (first | (with_reducible assumption) | (with_reducible refine M.pcell_alloc ?_ _) | (with_reducible refine M.pcell_drewN ?_ _) | (with_reducible refine M.pcell_drew ?_) | (with_reducible refine M.pcell_far ?_ _ _ ?hFar; case hFar => (first | omega | ((try simp [go_sem]) <;> omega))) | fail)))
         have V3_a : M.Var w3 (w.heap.size) #[.int .i64 a.shape, .int .i64 a.sx, .int .i64 a.sy, .int .i64 a.mass, .int .i64 a.px, .int .i64 a.py, .int .i64 a.mx, .int .i64 a.my] := M.var_rw (by (repeat (first | (with_reducible assumption) | (with_reducible apply M.var_setV) | (with_reducible apply M.var_setI) | (with_reducible apply M.var_setB) | (with_reducible apply M.var_setHt) | (with_reducible apply M.var_setBd) | (with_reducible apply M.var_set2) | (with_reducible apply M.var_set3) | (with_reducible apply M.var_set4) | (with_reducible apply M.var_set45) | (with_reducible apply M.var_set67) | (with_reducible apply M.var_setF) | (with_reducible refine M.var_alloc' _ _ _ ?_; first | rfl | (focus (simp [go_sem]; done))) | (with_reducible refine M.Var.alloc ?_ _) | (with_reducible refine M.Var.drewN ?_ _) | (with_reducible refine M.Var.drew ?_) | (with_reducible refine M.Var.far ?_ _ _ ?hFar; case hFar => (first | omega | ((try simp [go_sem]) <;> omega))) | fail))) (by omega) hb
         have q3_a_0 : w3.cell? ⟨w.heap.size, 0, none⟩ = some (.int .i64 a.shape) := V3_a.c 0 _ rfl
         have q3_a_1 : w3.cell? ⟨w.heap.size, 1, none⟩ = some (.int .i64 a.sx) := V3_a.c 1 _ rfl
         have q3_a_2 : w3.cell? ⟨w.heap.size, 2, none⟩ = some (.int .i64 a.sy) := V3_a.c 2 _ rfl
         have q3_a_3 : w3.cell? ⟨w.heap.size, 3, none⟩ = some (.int .i64 a.mass) := V3_a.c 3 _ rfl
         have q3_a_4 : w3.cell? ⟨w.heap.size, 4, none⟩ = some (.int .i64 a.px) := V3_a.c 4 _ rfl
         have q3_a_5 : w3.cell? ⟨w.heap.size, 5, none⟩ = some (.int .i64 a.py) := V3_a.c 5 _ rfl
         have q3_a_6 : w3.cell? ⟨w.heap.size, 6, none⟩ = some (.int .i64 a.mx) := V3_a.c 6 _ rfl
         have q3_a_7 : w3.cell? ⟨w.heap.size, 7, none⟩ = some (.int .i64 a.my) := V3_a.c 7 _ rfl
         have f3_a := V3_a.2.2
         have L3_a := V3_a.lt
         have N3_a := Nat.ne_of_gt L3_a
         have M3_a := Nat.ne_of_lt L3_a
         have V3_b : M.Var w3 (w.heap.size + 1) #[.int .i64 b.shape, .int .i64 b.sx, .int .i64 b.sy, .int .i64 b.mass, .int .i64 b.px, .int .i64 b.py, .int .i64 b.mx, .int .i64 b.my] := M.var_rw (by (repeat (first | (with_reducible assumption) | (with_reducible apply M.var_setV) | (with_reducible apply M.var_setI) | (with_reducible apply M.var_setB) | (with_reducible apply M.var_setHt) | (with_reducible apply M.var_setBd) | (with_reducible apply M.var_set2) | (with_reducible apply M.var_set3) | (with_reducible apply M.var_set4) | (with_reducible apply M.var_set45) | (with_reducible apply M.var_set67) | (with_reducible apply M.var_setF) | (with_reducible refine M.var_alloc' _ _ _ ?_; first | rfl | (focus (simp [go_sem]; done))) | (with_reducible refine M.Var.alloc ?_ _) | (with_reducible refine M.Var.drewN ?_ _) | (with_reducible refine M.Var.drew ?_) | (with_reducible refine M.Var.far ?_ _ _ ?hFar; case hFar => (first | omega | ((try simp [go_sem]) <;> omega))) | fail))) (by omega) hb
         have q3_b_0 : w3.cell? ⟨w.heap.size + 1, 0, none⟩ = some (.int .i64 b.shape) := V3_b.c 0 _ rfl
         have q3_b_1 : w3.cell? ⟨w.heap.size + 1, 1, none⟩ = some (.int .i64 b.sx) := V3_b.c 1 _ rfl
         have q3_b_2 : w3.cell? ⟨w.heap.size + 1, 2, none⟩ = some (.int .i64 b.sy) := V3_b.c 2 _ rfl
         have q3_b_3 : w3.cell? ⟨w.heap.size + 1, 3, none⟩ = some (.int .i64 b.mass) := V3_b.c 3 _ rfl
         have q3_b_4 : w3.cell? ⟨w.heap.size + 1, 4, none⟩ = some (.int .i64 b.px) := V3_b.c 4 _ rfl
         have q3_b_5 : w3.cell? ⟨w.heap.size + 1, 5, none⟩ = some (.int .i64 b.py) := V3_b.c 5 _ rfl
         have q3_b_6 : w3.cell? ⟨w.heap.size + 1, 6, none⟩ = some (.int .i64 b.mx) := V3_b.c 6 _ rfl
         have q3_b_7 : w3.cell? ⟨w.heap.size + 1, 7, none⟩ = some (.int .i64 b.my) := V3_b.c 7 _ rfl
         have f3_b := V3_b.2.2
         have L3_b := V3_b.lt
         have N3_b := Nat.ne_of_gt L3_b
         have M3_b := Nat.ne_of_lt L3_b
         have V3_r : M.Var w3 (w.heap.size + 1 + 1) #[.int .i64 0, .int .i64 0, .int .i64 0] := M.var_rw (by (repeat (first | (with_reducible assumption) | (with_reducible apply M.var_setV) | (with_reducible apply M.var_setI) | (with_reducible apply M.var_setB) | (with_reducible apply M.var_setHt) | (with_reducible apply M.var_setBd) | (with_reducible apply M.var_set2) | (with_reducible apply M.var_set3) | (with_reducible apply M.var_set4) | (with_reducible apply M.var_set45) | (with_reducible apply M.var_set67) | (with_reducible apply M.var_setF) | (with_reducible refine M.var_alloc' _ _ _ ?_; first | rfl | (focus (simp [go_sem]; done))) | (with_reducible refine M.Var.alloc ?_ _) | (with_reducible refine M.Var.drewN ?_ _) | (with_reducible refine M.Var.drew ?_) | (with_reducible refine M.Var.far ?_ _ _ ?hFar; case hFar => (first | omega | ((try simp [go_sem]) <;> omega))) | fail))) (by omega) hb
         have q3_r_0 : w3.cell? ⟨w.heap.size + 1 + 1, 0, none⟩ = some (.int .i64 0) := V3_r.c 0 _ rfl
         have q3_r_1 : w3.cell? ⟨w.heap.size + 1 + 1, 1, none⟩ = some (.int .i64 0) := V3_r.c 1 _ rfl
         have q3_r_2 : w3.cell? ⟨w.heap.size + 1 + 1, 2, none⟩ = some (.int .i64 0) := V3_r.c 2 _ rfl
         have f3_r := V3_r.2.2
         have L3_r := V3_r.lt
         have N3_r := Nat.ne_of_gt L3_r
         have M3_r := Nat.ne_of_lt L3_r
         have V3_d : M.Var w3 (w1.heap.size) #[.int .i64 dx, .int .i64 dy] := M.var_rw (by (repeat (first | (with_reducible assumption) | (with_reducible apply M.var_setV) | (with_reducible apply M.var_setI) | (with_reducible apply M.var_setB) | (with_reducible apply M.var_setHt) | (with_reducible apply M.var_setBd) | (with_reducible apply M.var_set2) | (with_reducible apply M.var_set3) | (with_reducible apply M.var_set4) | (with_reducible apply M.var_set45) | (with_reducible apply M.var_set67) | (with_reducible apply M.var_setF) | (with_reducible refine M.var_alloc' _ _ _ ?_; first | rfl | (focus (simp [go_sem]; done))) | (with_reducible refine M.Var.alloc ?_ _) | (with_reducible refine M.Var.drewN ?_ _) | (with_reducible refine M.Var.drew ?_) | (with_reducible refine M.Var.far ?_ _ _ ?hFar; case hFar => (first | omega | ((try simp [go_sem]) <;> omega))) | fail))) (by omega) hb
         have q3_d_0 : w3.cell? ⟨w1.heap.size, 0, none⟩ = some (.int .i64 dx) := V3_d.c 0 _ rfl
         have q3_d_1 : w3.cell? ⟨w1.heap.size, 1, none⟩ = some (.int .i64 dy) := V3_d.c 1 _ rfl
         have f3_d := V3_d.2.2
         have L3_d := V3_d.lt
         have N3_d := Nat.ne_of_gt L3_d
         have M3_d := Nat.ne_of_lt L3_d
         clear V2_a f2_a L2_a N2_a M2_a q2_a_0 q2_a_1 q2_a_2 q2_a_3 q2_a_4 q2_a_5 q2_a_6 q2_a_7 V2_b f2_b L2_b N2_b M2_b q2_b_0 q2_b_1 q2_b_2 q2_b_3 q2_b_4 q2_b_5 q2_b_6 q2_b_7 V2_r f2_r L2_r N2_r M2_r q2_r_0 q2_r_1 q2_r_2 V2_d f2_d L2_d N2_d M2_d q2_d_0 q2_d_1 PC2 c2_pb f2_pb L2_pb N2_pb M2_pb
         have HR3 := Lib.hid hr; clear hr
         have c3_pb := PC3.2.1; have f3_pb := PC3.2.2; have L3_pb := PC3.1; have N3_pb := Nat.ne_of_gt L3_pb; have M3_pb := Nat.ne_of_lt L3_pb
         have HG3 := Lib.hid G3; clear G3 hb)
      | (go_at_call 175; refine (C4.out e3 _ _ is1 it1 _ (by (repeat (first | (with_reducible assumption) | (with_reducible refine M.pcell_alloc ?_ _) | (with_reducible refine M.pcell_drewN ?_ _) | (with_reducible refine M.pcell_drew ?_) | (with_reducible refine M.pcell_far ?_ _ _ ?hFar; case hFar => (first | omega | ((try simp [go_sem]) <;> omega))) | fail)))).mono ?_; rintro en w4 ⟨x, e4, rfl, ix, hr, hb⟩
         have G4 : M.RW pb e4 w w4 := M.rw_step (by have G := HG3.out; (repeat (with_reducible refine M.Below.drewN ?_ _)); go_grown) hb hpb
         have S4 : w.heap.size ≤ w4.heap.size := by have := G4.size; rwa [M.setCell_size] at this
         have PC4 : M.PCell w4 pb e4 := M.pcell_behind hb (e := e3) (by (repeat (first | (with_reducible assumption) | (with_reducible refine M.pcell_alloc ?_ _) | (with_reducible refine M.pcell_drewN ?_ _) | (with_reducible refine M.pcell_drew ?_) | (with_reducible refine M.pcell_far ?_ _ _ ?hFar; case hFar => (first | omega | ((try simp [go_sem]) <;> omega))) | fail)))
         have V4_a : M.Var w4 (w.heap.size) #[.int .i64 a.shape, .int .i64 a.sx, .int .i64 a.sy, .int .i64 a.mass, .int .i64 a.px, .int .i64 a.py, .int .i64 a.mx, .int .i64 a.my] := M.var_rw (by (repeat (first | (with_reducible assumption) | (with_reducible apply M.var_setV) | (with_reducible apply M.var_setI) | (with_reducible apply M.var_setB) | (with_reducible apply M.var_setHt) | (with_reducible apply M.var_setBd) | (with_reducible apply M.var_set2) | (with_reducible apply M.var_set3) | (with_reducible apply M.var_set4) | (with_reducible apply M.var_set45) | (with_reducible apply M.var_set67) | (with_reducible apply M.var_setF) | (with_reducible refine M.var_alloc' _ _ _ ?_; first | rfl | (focus (simp [go_sem]; done))) | (with_reducible refine M.Var.alloc ?_ _) | (with_reducible refine M.Var.drewN ?_ _) | (with_reducible refine M.Var.drew ?_) | (with_reducible refine M.Var.far ?_ _ _ ?hFar; case hFar => (first | omega | ((try simp [go_sem]) <;> omega))) | fail))) (by omega) hb
         have q4_a_0 : w4.cell? ⟨w.heap.size, 0, none⟩ = some (.int .i64 a.shape) := V4_a.c 0 _ rfl
         have q4_a_1 : w4.cell? ⟨w.heap.size, 1, none⟩ = some (.int .i64 a.sx) := V4_a.c 1 _ rfl
         have q4_a_2 : w4.cell? ⟨w.heap.size, 2, none⟩ = some (.int .i64 a.sy) := V4_a.c 2 _ rfl
         have q4_a_3 : w4.cell? ⟨w.heap.size, 3, none⟩ = some (.int .i64 a.mass) := V4_a.c 3 _ rfl
         have q4_a_4 : w4.cell? ⟨w.heap.size, 4, none⟩ = some (.int .i64 a.px) := V4_a.c 4 _ rfl
         have q4_a_5 : w4.cell? ⟨w.heap.size, 5, none⟩ = some (.int .i64 a.py) := V4_a.c 5 _ rfl
         have q4_a_6 : w4.cell? ⟨w.heap.size, 6, none⟩ = some (.int .i64 a.mx) := V4_a.c 6 _ rfl
         have q4_a_7 : w4.cell? ⟨w.heap.size, 7, none⟩ = some (.int .i64 a.my) := V4_a.c 7 _ rfl
         have f4_a := V4_a.2.2
         have L4_a := V4_a.lt
         have N4_a := Nat.ne_of_gt L4_a
         have M4_a := Nat.ne_of_lt L4_a
         have V4_b : M.Var w4 (w.heap.size + 1) #[.int .i64 b.shape, .int .i64 b.sx, .int .i64 b.sy, .int .i64 b.mass, .int .i64 b.px, .int .i64 b.py, .int .i64 b.mx, .int .i64 b.my] := M.var_rw (by (repeat (first | (with_reducible assumption) | (with_reducible apply M.var_setV) | (with_reducible apply M.var_setI) | (with_reducible apply M.var_setB) | (with_reducible apply M.var_setHt) | (with_reducible apply M.var_setBd) | (with_reducible apply M.var_set2) | (with_reducible apply M.var_set3) | (with_reducible apply M.var_set4) | (with_reducible apply M.var_set45) | (with_reducible apply M.var_set67) | (with_reducible apply M.var_setF) | (with_reducible refine M.var_alloc' _ _ _ ?_; first | rfl | (focus (simp [go_sem]; done))) | (with_reducible refine M.Var.alloc ?_ _) | (with_reducible refine M.Var.drewN ?_ _) | (with_reducible refine M.Var.drew ?_) | (with_reducible refine M.Var.far ?_ _ _ ?hFar; case hFar => (first | omega | ((try simp [go_sem]) <;> omega))) | fail))) (by omega) hb
         have q4_b_0 : w4.cell? ⟨w.heap.size + 1, 0, none⟩ = some (.int .i64 b.shape) := V4_b.c 0 _ rfl
         have q4_b_1 : w4.cell? ⟨w.heap.size + 1, 1, none⟩ = some (.int .i64 b.sx) := V4_b.c 1 _ rfl
         have q4_b_2 : w4.cell? ⟨w.heap.size + 1, 2, none⟩ = some (.int .i64 b.sy) := V4_b.c 2 _ rfl
         have q4_b_3 : w4.cell? ⟨w.heap.size + 1, 3, none⟩ = some (.int .i64 b.mass) := V4_b.c 3 _ rfl
         have q4_b_4 : w4.cell? ⟨w.heap.size + 1, 4, none⟩ = some (.int .i64 b.px) := V4_b.c 4 _ rfl
         have q4_b_5 : w4.cell? ⟨w.heap.size + 1, 5, none⟩ = some (.int .i64 b.py) := V4_b.c 5 _ rfl
         have q4_b_6 : w4.cell? ⟨w.heap.size + 1, 6, none⟩ = some (.int .i64 b.mx) := V4_b.c 6 _ rfl
         have q4_b_7 : w4.cell? ⟨w.heap.size + 1, 7, none⟩ = some (.int .i64 b.my) := V4_b.c 7 _ rfl
         have f4_b := V4_b.2.2
         have L4_b := V4_b.lt
         have N4_b := Nat.ne_of_gt L4_b
         have M4_b := Nat.ne_of_lt L4_b
         have V4_r : M.Var w4 (w.heap.size + 1 + 1) #[.int .i64 0, .int .i64 0, .int .i64 0] := M.var_rw (by (repeat (first | (with_reducible assumption) | (with_reducible apply M.var_setV) | (with_reducible apply M.var_setI) | (with_reducible apply M.var_setB) | (with_reducible apply M.var_setHt) | (with_reducible apply M.var_setBd) | (with_reducible apply M.var_set2) | (with_reducible apply M.var_set3) | (with_reducible apply M.var_set4) | (with_reducible apply M.var_set45) | (with_reducible apply M.var_set67) | (with_reducible apply M.var_setF) | (with_reducible refine M.var_alloc' _ _ _ ?_; first | rfl | (focus (simp [go_sem]; done))) | (with_reducible refine M.Var.alloc ?_ _) | (with_reducible refine M.Var.drewN ?_ _) | (with_reducible refine M.Var.drew ?_) | (with_reducible refine M.Var.far ?_ _ _ ?hFar; case hFar => (first | omega | ((try simp [go_sem]) <;> omega))) | fail))) (by omega) hb
         have q4_r_0 : w4.cell? ⟨w.heap.size + 1 + 1, 0, none⟩ = some (.int .i64 0) := V4_r.c 0 _ rfl
         have q4_r_1 : w4.cell? ⟨w.heap.size + 1 + 1, 1, none⟩ = some (.int .i64 0) := V4_r.c 1 _ rfl
         have q4_r_2 : w4.cell? ⟨w.heap.size + 1 + 1, 2, none⟩ = some (.int .i64 0) := V4_r.c 2 _ rfl
         have f4_r := V4_r.2.2
         have L4_r := V4_r.lt
         have N4_r := Nat.ne_of_gt L4_r
         have M4_r := Nat.ne_of_lt L4_r
         have V4_d : M.Var w4 (w1.heap.size) #[.int .i64 dx, .int .i64 dy] := M.var_rw (by (repeat (first | (with_reducible assumption) | (with_reducible apply M.var_setV) | (with_reducible apply M.var_setI) | (with_reducible apply M.var_setB) | (with_reducible apply M.var_setHt) | (with_reducible apply M.var_setBd) | (with_reducible apply M.var_set2) | (with_reducible apply M.var_set3) | (with_reducible apply M.var_set4) | (with_reducible apply M.var_set45) | (with_reducible apply M.var_set67) | (with_reducible apply M.var_setF) | (with_reducible refine M.var_alloc' _ _ _ ?_; first | rfl | (focus (simp [go_sem]; done))) | (with_reducible refine M.Var.alloc ?_ _) | (with_reducible refine M.Var.drewN ?_ _) | (with_reducible refine M.Var.drew ?_) | (with_reducible refine M.Var.far ?_ _ _ ?hFar; case hFar => (first | omega | ((try simp [go_sem]) <;> omega))) | fail))) (by omega) hb
         have q4_d_0 : w4.cell? ⟨w1.heap.size, 0, none⟩ = some (.int .i64 dx) := V4_d.c 0 _ rfl
         have q4_d_1 : w4.cell? ⟨w1.heap.size, 1, none⟩ = some (.int .i64 dy) := V4_d.c 1 _ rfl
         have f4_d := V4_d.2.2
         have L4_d := V4_d.lt
         have N4_d := Nat.ne_of_gt L4_d
         have M4_d := Nat.ne_of_lt L4_d
         clear V3_a f3_a L3_a N3_a M3_a q3_a_0 q3_a_1 q3_a_2 q3_a_3 q3_a_4 q3_a_5 q3_a_6 q3_a_7 V3_b f3_b L3_b N3_b M3_b q3_b_0 q3_b_1 q3_b_2 q3_b_3 q3_b_4 q3_b_5 q3_b_6 q3_b_7 V3_r f3_r L3_r N3_r M3_r q3_r_0 q3_r_1 q3_r_2 V3_d f3_d L3_d N3_d M3_d q3_d_0 q3_d_1 PC3 c3_pb f3_pb L3_pb N3_pb M3_pb
         have HR4 := Lib.hid hr; clear hr
         have c4_pb := PC4.2.1; have f4_pb := PC4.2.2; have L4_pb := PC4.1; have N4_pb := Nat.ne_of_gt L4_pb; have M4_pb := Nat.ne_of_lt L4_pb
         have HG4 := Lib.hid G4; clear G4 hb)
      )
    all_goals
      go_wp2_with (with_reducible refine M.stopPost ?_)
      go_meet
      case rel => exact ⟨x, e4, rfl, ix, Lib.hid (rel_bind HR2.out (rel_bind HR3.out HR4.out)), Lib.hid (by have G := HG4.out; (repeat (with_reducible refine M.Below.drewN ?_ _)); go_grown), by (repeat (first | (with_reducible assumption) | (with_reducible refine M.pcell_alloc ?_ _) | (with_reducible refine M.pcell_drewN ?_ _) | (with_reducible refine M.pcell_drew ?_) | (with_reducible refine M.pcell_far ?_ _ _ ?hFar; case hFar => (first | omega | ((try simp [go_sem]) <;> omega))) | fail)), by (repeat (first | (with_reducible assumption) | (with_reducible apply M.var_setV) | (with_reducible apply M.var_setI) | (with_reducible apply M.var_setB) | (with_reducible apply M.var_setHt) | (with_reducible apply M.var_setBd) | (with_reducible apply M.var_set2) | (with_reducible apply M.var_set3) | (with_reducible apply M.var_set4) | (with_reducible apply M.var_set45) | (with_reducible apply M.var_set67) | (with_reducible apply M.var_setF) | (with_reducible refine M.var_alloc' _ _ _ ?_; first | rfl | (focus (simp [go_sem]; done))) | (with_reducible refine M.Var.alloc ?_ _) | (with_reducible refine M.Var.drewN ?_ _) | (with_reducible refine M.Var.drew ?_) | (with_reducible refine M.Var.far ?_ _ _ ?hFar; case hFar => (first | omega | ((try simp [go_sem]) <;> omega))) | fail)), by (repeat (first | (with_reducible assumption) | (with_reducible apply M.var_setV) | (with_reducible apply M.var_setI) | (with_reducible apply M.var_setB) | (with_reducible apply M.var_setHt) | (with_reducible apply M.var_setBd) | (with_reducible apply M.var_set2) | (with_reducible apply M.var_set3) | (with_reducible apply M.var_set4) | (with_reducible apply M.var_set45) | (with_reducible apply M.var_set67) | (with_reducible apply M.var_setF) | (with_reducible refine M.var_alloc' _ _ _ ?_; first | rfl | (focus (simp [go_sem]; done))) | (with_reducible refine M.Var.alloc ?_ _) | (with_reducible refine M.Var.drewN ?_ _) | (with_reducible refine M.Var.drew ?_) | (with_reducible refine M.Var.far ?_ _ _ ?hFar; case hFar => (first | omega | ((try simp [go_sem]) <;> omega))) | fail)), by (repeat (first | (with_reducible assumption) | (with_reducible apply M.var_setV) | (with_reducible apply M.var_setI) | (with_reducible apply M.var_setB) | (with_reducible apply M.var_setHt) | (with_reducible apply M.var_setBd) | (with_reducible apply M.var_set2) | (with_reducible apply M.var_set3) | (with_reducible apply M.var_set4) | (with_reducible apply M.var_set45) | (with_reducible apply M.var_set67) | (with_reducible apply M.var_setF) | (with_reducible refine M.var_alloc' _ _ _ ?_; first | rfl | (focus (simp [go_sem]; done))) | (with_reducible refine M.Var.alloc ?_ _) | (with_reducible refine M.Var.drewN ?_ _) | (with_reducible refine M.Var.drew ?_) | (with_reducible refine M.Var.far ?_ _ _ ?hFar; case hFar => (first | omega | ((try simp [go_sem]) <;> omega))) | fail)), by (repeat (first | (with_reducible assumption) | (with_reducible apply M.var_setV) | (with_reducible apply M.var_setI) | (with_reducible apply M.var_setB) | (with_reducible apply M.var_setHt) | (with_reducible apply M.var_setBd) | (with_reducible apply M.var_set2) | (with_reducible apply M.var_set3) | (with_reducible apply M.var_set4) | (with_reducible apply M.var_set45) | (with_reducible apply M.var_set67) | (with_reducible apply M.var_setF) | (with_reducible refine M.var_alloc' _ _ _ ?_; first | rfl | (focus (simp [go_sem]; done))) | (with_reducible refine M.Var.alloc ?_ _) | (with_reducible refine M.Var.drewN ?_ _) | (with_reducible refine M.Var.drew ?_) | (with_reducible refine M.Var.far ?_ _ _ ?hFar; case hFar => (first | omega | ((try simp [go_sem]) <;> omega))) | fail))⟩
  case rest =>
    obtain ⟨x, ec, rfl, ix, hx, HGc, PCc, Vc_a, Vc_b, Vc_r, Vc_d⟩ := hcut
    have Sc : w.heap.size ≤ wc.heap.size := by have := HGc.out.size; rwa [M.setCell_size] at this
    have cc_pb := PCc.2.1; have fc_pb := PCc.2.2; have Lc_pb := PCc.1; have Nc_pb := Nat.ne_of_gt Lc_pb; have Mc_pb := Nat.ne_of_lt Lc_pb
    clear V1_a f1_a q1_a_0 q1_a_1 q1_a_2 q1_a_3 q1_a_4 q1_a_5 q1_a_6 q1_a_7 V1_b f1_b q1_b_0 q1_b_1 q1_b_2 q1_b_3 q1_b_4 q1_b_5 q1_b_6 q1_b_7 V1_r f1_r q1_r_0 q1_r_1 q1_r_2 PC1 c1_pb f1_pb
    have qc_a_0 : wc.cell? ⟨w.heap.size, 0, none⟩ = some (.int .i64 a.shape) := Vc_a.c 0 _ rfl
    have qc_a_1 : wc.cell? ⟨w.heap.size, 1, none⟩ = some (.int .i64 a.sx) := Vc_a.c 1 _ rfl
    have qc_a_2 : wc.cell? ⟨w.heap.size, 2, none⟩ = some (.int .i64 a.sy) := Vc_a.c 2 _ rfl
    have qc_a_3 : wc.cell? ⟨w.heap.size, 3, none⟩ = some (.int .i64 a.mass) := Vc_a.c 3 _ rfl
    have qc_a_4 : wc.cell? ⟨w.heap.size, 4, none⟩ = some (.int .i64 a.px) := Vc_a.c 4 _ rfl
    have qc_a_5 : wc.cell? ⟨w.heap.size, 5, none⟩ = some (.int .i64 a.py) := Vc_a.c 5 _ rfl
    have qc_a_6 : wc.cell? ⟨w.heap.size, 6, none⟩ = some (.int .i64 a.mx) := Vc_a.c 6 _ rfl
    have qc_a_7 : wc.cell? ⟨w.heap.size, 7, none⟩ = some (.int .i64 a.my) := Vc_a.c 7 _ rfl
    have fc_a := Vc_a.2.2; have Lc_a := Vc_a.lt; have Nc_a := Nat.ne_of_gt Lc_a; have Mc_a := Nat.ne_of_lt Lc_a
    have qc_b_0 : wc.cell? ⟨w.heap.size + 1, 0, none⟩ = some (.int .i64 b.shape) := Vc_b.c 0 _ rfl
    have qc_b_1 : wc.cell? ⟨w.heap.size + 1, 1, none⟩ = some (.int .i64 b.sx) := Vc_b.c 1 _ rfl
    have qc_b_2 : wc.cell? ⟨w.heap.size + 1, 2, none⟩ = some (.int .i64 b.sy) := Vc_b.c 2 _ rfl
    have qc_b_3 : wc.cell? ⟨w.heap.size + 1, 3, none⟩ = some (.int .i64 b.mass) := Vc_b.c 3 _ rfl
    have qc_b_4 : wc.cell? ⟨w.heap.size + 1, 4, none⟩ = some (.int .i64 b.px) := Vc_b.c 4 _ rfl
    have qc_b_5 : wc.cell? ⟨w.heap.size + 1, 5, none⟩ = some (.int .i64 b.py) := Vc_b.c 5 _ rfl
    have qc_b_6 : wc.cell? ⟨w.heap.size + 1, 6, none⟩ = some (.int .i64 b.mx) := Vc_b.c 6 _ rfl
    have qc_b_7 : wc.cell? ⟨w.heap.size + 1, 7, none⟩ = some (.int .i64 b.my) := Vc_b.c 7 _ rfl
    have fc_b := Vc_b.2.2; have Lc_b := Vc_b.lt; have Nc_b := Nat.ne_of_gt Lc_b; have Mc_b := Nat.ne_of_lt Lc_b
    have qc_r_0 : wc.cell? ⟨w.heap.size + 1 + 1, 0, none⟩ = some (.int .i64 0) := Vc_r.c 0 _ rfl
    have qc_r_1 : wc.cell? ⟨w.heap.size + 1 + 1, 1, none⟩ = some (.int .i64 0) := Vc_r.c 1 _ rfl
    have qc_r_2 : wc.cell? ⟨w.heap.size + 1 + 1, 2, none⟩ = some (.int .i64 0) := Vc_r.c 2 _ rfl
    have fc_r := Vc_r.2.2; have Lc_r := Vc_r.lt; have Nc_r := Nat.ne_of_gt Lc_r; have Mc_r := Nat.ne_of_lt Lc_r
    have qc_d_0 : wc.cell? ⟨w1.heap.size, 0, none⟩ = some (.int .i64 dx) := Vc_d.c 0 _ rfl
    have qc_d_1 : wc.cell? ⟨w1.heap.size, 1, none⟩ = some (.int .i64 dy) := Vc_d.c 1 _ rfl
    have fc_d := Vc_d.2.2; have Lc_d := Vc_d.lt; have Nc_d := Nat.ne_of_gt Lc_d; have Mc_d := Nat.ne_of_lt Lc_d
    go_wp2_with (with_reducible refine M.stopPost ?_)
    · have h0 : x ≤ 0 := by assumption
      (try refine M.Stop.mk ?_)
      refine bodyPost_ret (v := .tuple #[.agg #[.int .i64 0, .int .i64 0, .int .i64 0], .bool false]) (by first | (simp [results, Try.results184, go_sem, qc_r_0, qc_r_1, qc_r_2, fc_r, Lc_r, Nc_r, Mc_r]; done) | (simp [results, Try.results184, go_sem, *]; done)) rfl ?_
      (try unfold M.RelHb); (try unfold M.RelBB); (try unfold M.RelI); (try unfold M.RelV); exact ⟨⟨0, 0, 0⟩, false, ec, rfl, ⟨z, z, z⟩, (rel_bind HR1.out (rel_bind hx.out (by rw [if_pos h0]; exact rel_ok _ _))), by have G := HGc.out; (repeat (with_reducible refine M.Below.drewN ?_ _)); go_grown⟩
    · have h0 := Lib.hid (show ¬ x ≤ 0 by omega)
      go_cut [10] from 35 (fun s10 wc => ∃ (y : Int) (ed : Int), s10 = .int .i64 y ∧ I64 y ∧ Hid (M.Rel ec (overlapX a.sy b.sy dy) y ed) ∧ Hid (M.RW pb ed w wc) ∧ M.PCell wc pb ed ∧ M.Var wc (w.heap.size) #[.int .i64 a.shape, .int .i64 a.sx, .int .i64 a.sy, .int .i64 a.mass, .int .i64 a.px, .int .i64 a.py, .int .i64 a.mx, .int .i64 a.my] ∧ M.Var wc (w.heap.size + 1) #[.int .i64 b.shape, .int .i64 b.sx, .int .i64 b.sy, .int .i64 b.mass, .int .i64 b.px, .int .i64 b.py, .int .i64 b.mx, .int .i64 b.my] ∧ M.Var wc (w.heap.size + 1 + 1) #[.int .i64 0, .int .i64 0, .int .i64 0] ∧ M.Var wc (w1.heap.size) #[.int .i64 dx, .int .i64 dy])
      case first =>
        go_region_held2 (fun w' => w'.cell? ⟨w.heap.size, 0, none⟩ = some (.int .i64 a.shape) ∧ w'.cell? ⟨w.heap.size, 1, none⟩ = some (.int .i64 a.sx) ∧ w'.cell? ⟨w.heap.size, 2, none⟩ = some (.int .i64 a.sy) ∧ w'.cell? ⟨w.heap.size, 3, none⟩ = some (.int .i64 a.mass) ∧ w'.cell? ⟨w.heap.size, 4, none⟩ = some (.int .i64 a.px) ∧ w'.cell? ⟨w.heap.size, 5, none⟩ = some (.int .i64 a.py) ∧ w'.cell? ⟨w.heap.size, 6, none⟩ = some (.int .i64 a.mx) ∧ w'.cell? ⟨w.heap.size, 7, none⟩ = some (.int .i64 a.my) ∧ w'.cell? ⟨w.heap.size + 1, 0, none⟩ = some (.int .i64 b.shape) ∧ w'.cell? ⟨w.heap.size + 1, 1, none⟩ = some (.int .i64 b.sx) ∧ w'.cell? ⟨w.heap.size + 1, 2, none⟩ = some (.int .i64 b.sy) ∧ w'.cell? ⟨w.heap.size + 1, 3, none⟩ = some (.int .i64 b.mass) ∧ w'.cell? ⟨w.heap.size + 1, 4, none⟩ = some (.int .i64 b.px) ∧ w'.cell? ⟨w.heap.size + 1, 5, none⟩ = some (.int .i64 b.py) ∧ w'.cell? ⟨w.heap.size + 1, 6, none⟩ = some (.int .i64 b.mx) ∧ w'.cell? ⟨w.heap.size + 1, 7, none⟩ = some (.int .i64 b.my) ∧ w'.cell? ⟨w1.heap.size, 0, none⟩ = some (.int .i64 dx) ∧ w'.cell? ⟨w1.heap.size, 1, none⟩ = some (.int .i64 dy)) (first | (go_keep; done) | (simp [*, go_sem, World.cell?_alloc_some, World.cell?_setCell_far]; done))
          (first
          | (go_at_call 174; refine (C5.out ec _ (by (repeat (first | (with_reducible assumption) | (with_reducible refine M.pcell_alloc ?_ _) | (with_reducible refine M.pcell_drewN ?_ _) | (with_reducible refine M.pcell_drew ?_) | (with_reducible refine M.pcell_far ?_ _ _ ?hFar; case hFar => (first | omega | ((try simp [go_sem]) <;> omega))) | fail)))).mono ?_; rintro en w5 ⟨s1, e5, rfl, is1, hr, hb⟩
             have G5 : M.RW pb e5 w w5 := M.rw_step (by have G := HGc.out; (repeat (with_reducible refine M.Below.drewN ?_ _)); go_grown) hb hpb
             have S5 : w.heap.size ≤ w5.heap.size := by have := G5.size; rwa [M.setCell_size] at this
             have PC5 : M.PCell w5 pb e5 := M.pcell_behind hb (e := ec) (by (repeat (first | (with_reducible assumption) | (with_reducible refine M.pcell_alloc ?_ _) | (with_reducible refine M.pcell_drewN ?_ _) | (with_reducible refine M.pcell_drew ?_) | (with_reducible refine M.pcell_far ?_ _ _ ?hFar; case hFar => (first | omega | ((try simp [go_sem]) <;> omega))) | fail)))
             have V5_a : M.Var w5 (w.heap.size) #[.int .i64 a.shape, .int .i64 a.sx, .int .i64 a.sy, .int .i64 a.mass, .int .i64 a.px, .int .i64 a.py, .int .i64 a.mx, .int .i64 a.my] := M.var_rw (by (repeat (first | (with_reducible assumption) | (with_reducible apply M.var_setV) | (with_reducible apply M.var_setI) | (with_reducible apply M.var_setB) | (with_reducible apply M.var_setHt) | (with_reducible apply M.var_setBd) | (with_reducible apply M.var_set2) | (with_reducible apply M.var_set3) | (with_reducible apply M.var_set4) | (with_reducible apply M.var_set45) | (with_reducible apply M.var_set67) | (with_reducible apply M.var_setF) | (with_reducible refine M.var_alloc' _ _ _ ?_; first | rfl | (focus (simp [go_sem]; done))) | (with_reducible refine M.Var.alloc ?_ _) | (with_reducible refine M.Var.drewN ?_ _) | (with_reducible refine M.Var.drew ?_) | (with_reducible refine M.Var.far ?_ _ _ ?hFar; case hFar => (first | omega | ((try simp [go_sem]) <;> omega))) | fail))) (by omega) hb
             have q5_a_0 : w5.cell? ⟨w.heap.size, 0, none⟩ = some (.int .i64 a.shape) := V5_a.c 0 _ rfl
             have q5_a_1 : w5.cell? ⟨w.heap.size, 1, none⟩ = some (.int .i64 a.sx) := V5_a.c 1 _ rfl
             have q5_a_2 : w5.cell? ⟨w.heap.size, 2, none⟩ = some (.int .i64 a.sy) := V5_a.c 2 _ rfl
             have q5_a_3 : w5.cell? ⟨w.heap.size, 3, none⟩ = some (.int .i64 a.mass) := V5_a.c 3 _ rfl
             have q5_a_4 : w5.cell? ⟨w.heap.size, 4, none⟩ = some (.int .i64 a.px) := V5_a.c 4 _ rfl
             have q5_a_5 : w5.cell? ⟨w.heap.size, 5, none⟩ = some (.int .i64 a.py) := V5_a.c 5 _ rfl
             have q5_a_6 : w5.cell? ⟨w.heap.size, 6, none⟩ = some (.int .i64 a.mx) := V5_a.c 6 _ rfl
             have q5_a_7 : w5.cell? ⟨w.heap.size, 7, none⟩ = some (.int .i64 a.my) := V5_a.c 7 _ rfl
             have f5_a := V5_a.2.2
             have L5_a := V5_a.lt
             have N5_a := Nat.ne_of_gt L5_a
             have M5_a := Nat.ne_of_lt L5_a
             have V5_b : M.Var w5 (w.heap.size + 1) #[.int .i64 b.shape, .int .i64 b.sx, .int .i64 b.sy, .int .i64 b.mass, .int .i64 b.px, .int .i64 b.py, .int .i64 b.mx, .int .i64 b.my] := M.var_rw (by (repeat (first | (with_reducible assumption) | (with_reducible apply M.var_setV) | (with_reducible apply M.var_setI) | (with_reducible apply M.var_setB) | (with_reducible apply M.var_setHt) | (with_reducible apply M.var_setBd) | (with_reducible apply M.var_set2) | (with_reducible apply M.var_set3) | (with_reducible apply M.var_set4) | (with_reducible apply M.var_set45) | (with_reducible apply M.var_set67) | (with_reducible apply M.var_setF) | (with_reducible refine M.var_alloc' _ _ _ ?_; first | rfl | (focus (simp [go_sem]; done))) | (with_reducible refine M.Var.alloc ?_ _) | (with_reducible refine M.Var.drewN ?_ _) | (with_reducible refine M.Var.drew ?_) | (with_reducible refine M.Var.far ?_ _ _ ?hFar; case hFar => (first | omega | ((try simp [go_sem]) <;> omega))) | fail))) (by omega) hb
             have q5_b_0 : w5.cell? ⟨w.heap.size + 1, 0, none⟩ = some (.int .i64 b.shape) := V5_b.c 0 _ rfl
             have q5_b_1 : w5.cell? ⟨w.heap.size + 1, 1, none⟩ = some (.int .i64 b.sx) := V5_b.c 1 _ rfl
             have q5_b_2 : w5.cell? ⟨w.heap.size + 1, 2, none⟩ = some (.int .i64 b.sy) := V5_b.c 2 _ rfl
             have q5_b_3 : w5.cell? ⟨w.heap.size + 1, 3, none⟩ = some (.int .i64 b.mass) := V5_b.c 3 _ rfl
             have q5_b_4 : w5.cell? ⟨w.heap.size + 1, 4, none⟩ = some (.int .i64 b.px) := V5_b.c 4 _ rfl
             have q5_b_5 : w5.cell? ⟨w.heap.size + 1, 5, none⟩ = some (.int .i64 b.py) := V5_b.c 5 _ rfl
             have q5_b_6 : w5.cell? ⟨w.heap.size + 1, 6, none⟩ = some (.int .i64 b.mx) := V5_b.c 6 _ rfl
             have q5_b_7 : w5.cell? ⟨w.heap.size + 1, 7, none⟩ = some (.int .i64 b.my) := V5_b.c 7 _ rfl
             have f5_b := V5_b.2.2
             have L5_b := V5_b.lt
             have N5_b := Nat.ne_of_gt L5_b
             have M5_b := Nat.ne_of_lt L5_b
             have V5_r : M.Var w5 (w.heap.size + 1 + 1) #[.int .i64 0, .int .i64 0, .int .i64 0] := M.var_rw (by (repeat (first | (with_reducible assumption) | (with_reducible apply M.var_setV) | (with_reducible apply M.var_setI) | (with_reducible apply M.var_setB) | (with_reducible apply M.var_setHt) | (with_reducible apply M.var_setBd) | (with_reducible apply M.var_set2) | (with_reducible apply M.var_set3) | (with_reducible apply M.var_set4) | (with_reducible apply M.var_set45) | (with_reducible apply M.var_set67) | (with_reducible apply M.var_setF) | (with_reducible refine M.var_alloc' _ _ _ ?_; first | rfl | (focus (simp [go_sem]; done))) | (with_reducible refine M.Var.alloc ?_ _) | (with_reducible refine M.Var.drewN ?_ _) | (with_reducible refine M.Var.drew ?_) | (with_reducible refine M.Var.far ?_ _ _ ?hFar; case hFar => (first | omega | ((try simp [go_sem]) <;> omega))) | fail))) (by omega) hb
             have q5_r_0 : w5.cell? ⟨w.heap.size + 1 + 1, 0, none⟩ = some (.int .i64 0) := V5_r.c 0 _ rfl
             have q5_r_1 : w5.cell? ⟨w.heap.size + 1 + 1, 1, none⟩ = some (.int .i64 0) := V5_r.c 1 _ rfl
             have q5_r_2 : w5.cell? ⟨w.heap.size + 1 + 1, 2, none⟩ = some (.int .i64 0) := V5_r.c 2 _ rfl
             have f5_r := V5_r.2.2
             have L5_r := V5_r.lt
             have N5_r := Nat.ne_of_gt L5_r
             have M5_r := Nat.ne_of_lt L5_r
             have V5_d : M.Var w5 (w1.heap.size) #[.int .i64 dx, .int .i64 dy] := M.var_rw (by (repeat (first | (with_reducible assumption) | (with_reducible apply M.var_setV) | (with_reducible apply M.var_setI) | (with_reducible apply M.var_setB) | (with_reducible apply M.var_setHt) | (with_reducible apply M.var_setBd) | (with_reducible apply M.var_set2) | (with_reducible apply M.var_set3) | (with_reducible apply M.var_set4) | (with_reducible apply M.var_set45) | (with_reducible apply M.var_set67) | (with_reducible apply M.var_setF) | (with_reducible refine M.var_alloc' _ _ _ ?_; first | rfl | (focus (simp [go_sem]; done))) | (with_reducible refine M.Var.alloc ?_ _) | (with_reducible refine M.Var.drewN ?_ _) | (with_reducible refine M.Var.drew ?_) | (with_reducible refine M.Var.far ?_ _ _ ?hFar; case hFar => (first | omega | ((try simp [go_sem]) <;> omega))) | fail))) (by omega) hb
             have q5_d_0 : w5.cell? ⟨w1.heap.size, 0, none⟩ = some (.int .i64 dx) := V5_d.c 0 _ rfl
             have q5_d_1 : w5.cell? ⟨w1.heap.size, 1, none⟩ = some (.int .i64 dy) := V5_d.c 1 _ rfl
             have f5_d := V5_d.2.2
             have L5_d := V5_d.lt
             have N5_d := Nat.ne_of_gt L5_d
             have M5_d := Nat.ne_of_lt L5_d
             clear Vc_a fc_a Lc_a Nc_a Mc_a qc_a_0 qc_a_1 qc_a_2 qc_a_3 qc_a_4 qc_a_5 qc_a_6 qc_a_7 Vc_b fc_b Lc_b Nc_b Mc_b qc_b_0 qc_b_1 qc_b_2 qc_b_3 qc_b_4 qc_b_5 qc_b_6 qc_b_7 Vc_r fc_r Lc_r Nc_r Mc_r qc_r_0 qc_r_1 qc_r_2 Vc_d fc_d Lc_d Nc_d Mc_d qc_d_0 qc_d_1 PCc cc_pb fc_pb Lc_pb Nc_pb Mc_pb
             have HR5 := Lib.hid hr; clear hr
             have c5_pb := PC5.2.1; have f5_pb := PC5.2.2; have L5_pb := PC5.1; have N5_pb := Nat.ne_of_gt L5_pb; have M5_pb := Nat.ne_of_lt L5_pb
             have HG5 := Lib.hid G5; clear G5 hb)
          | (go_at_call 191; refine (C3.out e5 _ idy _ (by (repeat (first | (with_reducible assumption) | (with_reducible refine M.pcell_alloc ?_ _) | (with_reducible refine M.pcell_drewN ?_ _) | (with_reducible refine M.pcell_drew ?_) | (with_reducible refine M.pcell_far ?_ _ _ ?hFar; case hFar => (first | omega | ((try simp [go_sem]) <;> omega))) | fail)))).mono ?_; rintro en w6 ⟨t1, e6, rfl, it1, hr, hb⟩
             have G6 : M.RW pb e6 w w6 := M.rw_step (by have G := HG5.out; (repeat (with_reducible refine M.Below.drewN ?_ _)); go_grown) hb hpb
             have S6 : w.heap.size ≤ w6.heap.size := by have := G6.size; rwa [M.setCell_size] at this
             have PC6 : M.PCell w6 pb e6 := M.pcell_behind hb (e := e5) (by (repeat (first | (with_reducible assumption) | (with_reducible refine M.pcell_alloc ?_ _) | (with_reducible refine M.pcell_drewN ?_ _) | (with_reducible refine M.pcell_drew ?_) | (with_reducible refine M.pcell_far ?_ _ _ ?hFar; case hFar => (first | omega | ((try simp [go_sem]) <;> omega))) | fail)))
             have V6_a : M.Var w6 (w.heap.size) #[.int .i64 a.shape, .int .i64 a.sx, .int .i64 a.sy, .int .i64 a.mass, .int .i64 a.px, .int .i64 a.py, .int .i64 a.mx, .int .i64 a.my] := M.var_rw (by (repeat (first | (with_reducible assumption) | (with_reducible apply M.var_setV) | (with_reducible apply M.var_setI) | (with_reducible apply M.var_setB) | (with_reducible apply M.var_setHt) | (with_reducible apply M.var_setBd) | (with_reducible apply M.var_set2) | (with_reducible apply M.var_set3) | (with_reducible apply M.var_set4) | (with_reducible apply M.var_set45) | (with_reducible apply M.var_set67) | (with_reducible apply M.var_setF) | (with_reducible refine M.var_alloc' _ _ _ ?_; first | rfl | (focus (simp [go_sem]; done))) | (with_reducible refine M.Var.alloc ?_ _) | (with_reducible refine M.Var.drewN ?_ _) | (with_reducible refine M.Var.drew ?_) | (with_reducible refine M.Var.far ?_ _ _ ?hFar; case hFar => (first | omega | ((try simp [go_sem]) <;> omega))) | fail))) (by omega) hb
             have q6_a_0 : w6.cell? ⟨w.heap.size, 0, none⟩ = some (.int .i64 a.shape) := V6_a.c 0 _ rfl
             have q6_a_1 : w6.cell? ⟨w.heap.size, 1, none⟩ = some (.int .i64 a.sx) := V6_a.c 1 _ rfl
             have q6_a_2 : w6.cell? ⟨w.heap.size, 2, none⟩ = some (.int .i64 a.sy) := V6_a.c 2 _ rfl
             have q6_a_3 : w6.cell? ⟨w.heap.size, 3, none⟩ = some (.int .i64 a.mass) := V6_a.c 3 _ rfl
             have q6_a_4 : w6.cell? ⟨w.heap.size, 4, none⟩ = some (.int .i64 a.px) := V6_a.c 4 _ rfl
             have q6_a_5 : w6.cell? ⟨w.heap.size, 5, none⟩ = some (.int .i64 a.py) := V6_a.c 5 _ rfl
             have q6_a_6 : w6.cell? ⟨w.heap.size, 6, none⟩ = some (.int .i64 a.mx) := V6_a.c 6 _ rfl
             have q6_a_7 : w6.cell? ⟨w.heap.size, 7, none⟩ = some (.int .i64 a.my) := V6_a.c 7 _ rfl
             have f6_a := V6_a.2.2
             have L6_a := V6_a.lt
             have N6_a := Nat.ne_of_gt L6_a
             have M6_a := Nat.ne_of_lt L6_a
             have V6_b : M.Var w6 (w.heap.size + 1) #[.int .i64 b.shape, .int .i64 b.sx, .int .i64 b.sy, .int .i64 b.mass, .int .i64 b.px, .int .i64 b.py, .int .i64 b.mx, .int .i64 b.my] := M.var_rw (by (repeat (first | (with_reducible assumption) | (with_reducible apply M.var_setV) | (with_reducible apply M.var_setI) | (with_reducible apply M.var_setB) | (with_reducible apply M.var_setHt) | (with_reducible apply M.var_setBd) | (with_reducible apply M.var_set2) | (with_reducible apply M.var_set3) | (with_reducible apply M.var_set4) | (with_reducible apply M.var_set45) | (with_reducible apply M.var_set67) | (with_reducible apply M.var_setF) | (with_reducible refine M.var_alloc' _ _ _ ?_; first | rfl | (focus (simp [go_sem]; done))) | (with_reducible refine M.Var.alloc ?_ _) | (with_reducible refine M.Var.drewN ?_ _) | (with_reducible refine M.Var.drew ?_) | (with_reducible refine M.Var.far ?_ _ _ ?hFar; case hFar => (first | omega | ((try simp [go_sem]) <;> omega))) | fail))) (by omega) hb
             have q6_b_0 : w6.cell? ⟨w.heap.size + 1, 0, none⟩ = some (.int .i64 b.shape) := V6_b.c 0 _ rfl
             have q6_b_1 : w6.cell? ⟨w.heap.size + 1, 1, none⟩ = some (.int .i64 b.sx) := V6_b.c 1 _ rfl
             have q6_b_2 : w6.cell? ⟨w.heap.size + 1, 2, none⟩ = some (.int .i64 b.sy) := V6_b.c 2 _ rfl
             have q6_b_3 : w6.cell? ⟨w.heap.size + 1, 3, none⟩ = some (.int .i64 b.mass) := V6_b.c 3 _ rfl
             have q6_b_4 : w6.cell? ⟨w.heap.size + 1, 4, none⟩ = some (.int .i64 b.px) := V6_b.c 4 _ rfl
             have q6_b_5 : w6.cell? ⟨w.heap.size + 1, 5, none⟩ = some (.int .i64 b.py) := V6_b.c 5 _ rfl
             have q6_b_6 : w6.cell? ⟨w.heap.size + 1, 6, none⟩ = some (.int .i64 b.mx) := V6_b.c 6 _ rfl
             have q6_b_7 : w6.cell? ⟨w.heap.size + 1, 7, none⟩ = some (.int .i64 b.my) := V6_b.c 7 _ rfl
             have f6_b := V6_b.2.2
             have L6_b := V6_b.lt
             have N6_b := Nat.ne_of_gt L6_b
             have M6_b := Nat.ne_of_lt L6_b
             have V6_r : M.Var w6 (w.heap.size + 1 + 1) #[.int .i64 0, .int .i64 0, .int .i64 0] := M.var_rw (by (repeat (first | (with_reducible assumption) | (with_reducible apply M.var_setV) | (with_reducible apply M.var_setI) | (with_reducible apply M.var_setB) | (with_reducible apply M.var_setHt) | (with_reducible apply M.var_setBd) | (with_reducible apply M.var_set2) | (with_reducible apply M.var_set3) | (with_reducible apply M.var_set4) | (with_reducible apply M.var_set45) | (with_reducible apply M.var_set67) | (with_reducible apply M.var_setF) | (with_reducible refine M.var_alloc' _ _ _ ?_; first | rfl | (focus (simp [go_sem]; done))) | (with_reducible refine M.Var.alloc ?_ _) | (with_reducible refine M.Var.drewN ?_ _) | (with_reducible refine M.Var.drew ?_) | (with_reducible refine M.Var.far ?_ _ _ ?hFar; case hFar => (first | omega | ((try simp [go_sem]) <;> omega))) | fail))) (by omega) hb
             have q6_r_0 : w6.cell? ⟨w.heap.size + 1 + 1, 0, none⟩ = some (.int .i64 0) := V6_r.c 0 _ rfl
             have q6_r_1 : w6.cell? ⟨w.heap.size + 1 + 1, 1, none⟩ = some (.int .i64 0) := V6_r.c 1 _ rfl
             have q6_r_2 : w6.cell? ⟨w.heap.size + 1 + 1, 2, none⟩ = some (.int .i64 0) := V6_r.c 2 _ rfl
             have f6_r := V6_r.2.2
             have L6_r := V6_r.lt
             have N6_r := Nat.ne_of_gt L6_r
             have M6_r := Nat.ne_of_lt L6_r
             have V6_d : M.Var w6 (w1.heap.size) #[.int .i64 dx, .int .i64 dy] := M.var_rw (by (repeat (first | (with_reducible assumption) | (with_reducible apply M.var_setV) | (with_reducible apply M.var_setI) | (with_reducible apply M.var_setB) | (with_reducible apply M.var_setHt) | (with_reducible apply M.var_setBd) | (with_reducible apply M.var_set2) | (with_reducible apply M.var_set3) | (with_reducible apply M.var_set4) | (with_reducible apply M.var_set45) | (with_reducible apply M.var_set67) | (with_reducible apply M.var_setF) | (with_reducible refine M.var_alloc' _ _ _ ?_; first | rfl | (focus (simp [go_sem]; done))) | (with_reducible refine M.Var.alloc ?_ _) | (with_reducible refine M.Var.drewN ?_ _) | (with_reducible refine M.Var.drew ?_) | (with_reducible refine M.Var.far ?_ _ _ ?hFar; case hFar => (first | omega | ((try simp [go_sem]) <;> omega))) | fail))) (by omega) hb
             have q6_d_0 : w6.cell? ⟨w1.heap.size, 0, none⟩ = some (.int .i64 dx) := V6_d.c 0 _ rfl
             have q6_d_1 : w6.cell? ⟨w1.heap.size, 1, none⟩ = some (.int .i64 dy) := V6_d.c 1 _ rfl
             have f6_d := V6_d.2.2
             have L6_d := V6_d.lt
             have N6_d := Nat.ne_of_gt L6_d
             have M6_d := Nat.ne_of_lt L6_d
             clear V5_a f5_a L5_a N5_a M5_a q5_a_0 q5_a_1 q5_a_2 q5_a_3 q5_a_4 q5_a_5 q5_a_6 q5_a_7 V5_b f5_b L5_b N5_b M5_b q5_b_0 q5_b_1 q5_b_2 q5_b_3 q5_b_4 q5_b_5 q5_b_6 q5_b_7 V5_r f5_r L5_r N5_r M5_r q5_r_0 q5_r_1 q5_r_2 V5_d f5_d L5_d N5_d M5_d q5_d_0 q5_d_1 PC5 c5_pb f5_pb L5_pb N5_pb M5_pb
             have HR6 := Lib.hid hr; clear hr
             have c6_pb := PC6.2.1; have f6_pb := PC6.2.2; have L6_pb := PC6.1; have N6_pb := Nat.ne_of_gt L6_pb; have M6_pb := Nat.ne_of_lt L6_pb
             have HG6 := Lib.hid G6; clear G6 hb)
          | (go_at_call 175; refine (C4.out e6 _ _ is1 it1 _ (by (repeat (first | (with_reducible assumption) | (with_reducible refine M.pcell_alloc ?_ _) | (with_reducible refine M.pcell_drewN ?_ _) | (with_reducible refine M.pcell_drew ?_) | (with_reducible refine M.pcell_far ?_ _ _ ?hFar; case hFar => (first | omega | ((try simp [go_sem]) <;> omega))) | fail)))).mono ?_; rintro en w7 ⟨y, e7, rfl, iy, hr, hb⟩
             have G7 : M.RW pb e7 w w7 := M.rw_step (by have G := HG6.out; (repeat (with_reducible refine M.Below.drewN ?_ _)); go_grown) hb hpb
             have S7 : w.heap.size ≤ w7.heap.size := by have := G7.size; rwa [M.setCell_size] at this
             have PC7 : M.PCell w7 pb e7 := M.pcell_behind hb (e := e6) (by (repeat (first | (with_reducible assumption) | (with_reducible refine M.pcell_alloc ?_ _) | (with_reducible refine M.pcell_drewN ?_ _) | (with_reducible refine M.pcell_drew ?_) | (with_reducible refine M.pcell_far ?_ _ _ ?hFar; case hFar => (first | omega | ((try simp [go_sem]) <;> omega))) | fail)))
             have V7_a : M.Var w7 (w.heap.size) #[.int .i64 a.shape, .int .i64 a.sx, .int .i64 a.sy, .int .i64 a.mass, .int .i64 a.px, .int .i64 a.py, .int .i64 a.mx, .int .i64 a.my] := M.var_rw (by (repeat (first | (with_reducible assumption) | (with_reducible apply M.var_setV) | (with_reducible apply M.var_setI) | (with_reducible apply M.var_setB) | (with_reducible apply M.var_setHt) | (with_reducible apply M.var_setBd) | (with_reducible apply M.var_set2) | (with_reducible apply M.var_set3) | (with_reducible apply M.var_set4) | (with_reducible apply M.var_set45) | (with_reducible apply M.var_set67) | (with_reducible apply M.var_setF) | (with_reducible refine M.var_alloc' _ _ _ ?_; first | rfl | (focus (simp [go_sem]; done))) | (with_reducible refine M.Var.alloc ?_ _) | (with_reducible refine M.Var.drewN ?_ _) | (with_reducible refine M.Var.drew ?_) | (with_reducible refine M.Var.far ?_ _ _ ?hFar; case hFar => (first | omega | ((try simp [go_sem]) <;> omega))) | fail))) (by omega) hb
             have q7_a_0 : w7.cell? ⟨w.heap.size, 0, none⟩ = some (.int .i64 a.shape) := V7_a.c 0 _ rfl
             have q7_a_1 : w7.cell? ⟨w.heap.size, 1, none⟩ = some (.int .i64 a.sx) := V7_a.c 1 _ rfl
             have q7_a_2 : w7.cell? ⟨w.heap.size, 2, none⟩ = some (.int .i64 a.sy) := V7_a.c 2 _ rfl
             have q7_a_3 : w7.cell? ⟨w.heap.size, 3, none⟩ = some (.int .i64 a.mass) := V7_a.c 3 _ rfl
             have q7_a_4 : w7.cell? ⟨w.heap.size, 4, none⟩ = some (.int .i64 a.px) := V7_a.c 4 _ rfl
             have q7_a_5 : w7.cell? ⟨w.heap.size, 5, none⟩ = some (.int .i64 a.py) := V7_a.c 5 _ rfl
             have q7_a_6 : w7.cell? ⟨w.heap.size, 6, none⟩ = some (.int .i64 a.mx) := V7_a.c 6 _ rfl
             have q7_a_7 : w7.cell? ⟨w.heap.size, 7, none⟩ = some (.int .i64 a.my) := V7_a.c 7 _ rfl
             have f7_a := V7_a.2.2
             have L7_a := V7_a.lt
             have N7_a := Nat.ne_of_gt L7_a
             have M7_a := Nat.ne_of_lt L7_a
             have V7_b : M.Var w7 (w.heap.size + 1) #[.int .i64 b.shape, .int .i64 b.sx, .int .i64 b.sy, .int .i64 b.mass, .int .i64 b.px, .int .i64 b.py, .int .i64 b.mx, .int .i64 b.my] := M.var_rw (by (repeat (first | (with_reducible assumption) | (with_reducible apply M.var_setV) | (with_reducible apply M.var_setI) | (with_reducible apply M.var_setB) | (with_reducible apply M.var_setHt) | (with_reducible apply M.var_setBd) | (with_reducible apply M.var_set2) | (with_reducible apply M.var_set3) | (with_reducible apply M.var_set4) | (with_reducible apply M.var_set45) | (with_reducible apply M.var_set67) | (with_reducible apply M.var_setF) | (with_reducible refine M.var_alloc' _ _ _ ?_; first | rfl | (focus (simp [go_sem]; done))) | (with_reducible refine M.Var.alloc ?_ _) | (with_reducible refine M.Var.drewN ?_ _) | (with_reducible refine M.Var.drew ?_) | (with_reducible refine M.Var.far ?_ _ _ ?hFar; case hFar => (first | omega | ((try simp [go_sem]) <;> omega))) | fail))) (by omega) hb
             have q7_b_0 : w7.cell? ⟨w.heap.size + 1, 0, none⟩ = some (.int .i64 b.shape) := V7_b.c 0 _ rfl
             have q7_b_1 : w7.cell? ⟨w.heap.size + 1, 1, none⟩ = some (.int .i64 b.sx) := V7_b.c 1 _ rfl
             have q7_b_2 : w7.cell? ⟨w.heap.size + 1, 2, none⟩ = some (.int .i64 b.sy) := V7_b.c 2 _ rfl
             have q7_b_3 : w7.cell? ⟨w.heap.size + 1, 3, none⟩ = some (.int .i64 b.mass) := V7_b.c 3 _ rfl
             have q7_b_4 : w7.cell? ⟨w.heap.size + 1, 4, none⟩ = some (.int .i64 b.px) := V7_b.c 4 _ rfl
             have q7_b_5 : w7.cell? ⟨w.heap.size + 1, 5, none⟩ = some (.int .i64 b.py) := V7_b.c 5 _ rfl
             have q7_b_6 : w7.cell? ⟨w.heap.size + 1, 6, none⟩ = some (.int .i64 b.mx) := V7_b.c 6 _ rfl
             have q7_b_7 : w7.cell? ⟨w.heap.size + 1, 7, none⟩ = some (.int .i64 b.my) := V7_b.c 7 _ rfl
             have f7_b := V7_b.2.2
             have L7_b := V7_b.lt
             have N7_b := Nat.ne_of_gt L7_b
             have M7_b := Nat.ne_of_lt L7_b
             have V7_r : M.Var w7 (w.heap.size + 1 + 1) #[.int .i64 0, .int .i64 0, .int .i64 0] := M.var_rw (by (repeat (first | (with_reducible assumption) | (with_reducible apply M.var_setV) | (with_reducible apply M.var_setI) | (with_reducible apply M.var_setB) | (with_reducible apply M.var_setHt) | (with_reducible apply M.var_setBd) | (with_reducible apply M.var_set2) | (with_reducible apply M.var_set3) | (with_reducible apply M.var_set4) | (with_reducible apply M.var_set45) | (with_reducible apply M.var_set67) | (with_reducible apply M.var_setF) | (with_reducible refine M.var_alloc' _ _ _ ?_; first | rfl | (focus (simp [go_sem]; done))) | (with_reducible refine M.Var.alloc ?_ _) | (with_reducible refine M.Var.drewN ?_ _) | (with_reducible refine M.Var.drew ?_) | (with_reducible refine M.Var.far ?_ _ _ ?hFar; case hFar => (first | omega | ((try simp [go_sem]) <;> omega))) | fail))) (by omega) hb
             have q7_r_0 : w7.cell? ⟨w.heap.size + 1 + 1, 0, none⟩ = some (.int .i64 0) := V7_r.c 0 _ rfl
             have q7_r_1 : w7.cell? ⟨w.heap.size + 1 + 1, 1, none⟩ = some (.int .i64 0) := V7_r.c 1 _ rfl
             have q7_r_2 : w7.cell? ⟨w.heap.size + 1 + 1, 2, none⟩ = some (.int .i64 0) := V7_r.c 2 _ rfl
             have f7_r := V7_r.2.2
             have L7_r := V7_r.lt
             have N7_r := Nat.ne_of_gt L7_r
             have M7_r := Nat.ne_of_lt L7_r
             have V7_d : M.Var w7 (w1.heap.size) #[.int .i64 dx, .int .i64 dy] := M.var_rw (by (repeat (first | (with_reducible assumption) | (with_reducible apply M.var_setV) | (with_reducible apply M.var_setI) | (with_reducible apply M.var_setB) | (with_reducible apply M.var_setHt) | (with_reducible apply M.var_setBd) | (with_reducible apply M.var_set2) | (with_reducible apply M.var_set3) | (with_reducible apply M.var_set4) | (with_reducible apply M.var_set45) | (with_reducible apply M.var_set67) | (with_reducible apply M.var_setF) | (with_reducible refine M.var_alloc' _ _ _ ?_; first | rfl | (focus (simp [go_sem]; done))) | (with_reducible refine M.Var.alloc ?_ _) | (with_reducible refine M.Var.drewN ?_ _) | (with_reducible refine M.Var.drew ?_) | (with_reducible refine M.Var.far ?_ _ _ ?hFar; case hFar => (first | omega | ((try simp [go_sem]) <;> omega))) | fail))) (by omega) hb
             have q7_d_0 : w7.cell? ⟨w1.heap.size, 0, none⟩ = some (.int .i64 dx) := V7_d.c 0 _ rfl
             have q7_d_1 : w7.cell? ⟨w1.heap.size, 1, none⟩ = some (.int .i64 dy) := V7_d.c 1 _ rfl
             have f7_d := V7_d.2.2
             have L7_d := V7_d.lt
             have N7_d := Nat.ne_of_gt L7_d
             have M7_d := Nat.ne_of_lt L7_d
             clear V6_a f6_a L6_a N6_a M6_a q6_a_0 q6_a_1 q6_a_2 q6_a_3 q6_a_4 q6_a_5 q6_a_6 q6_a_7 V6_b f6_b L6_b N6_b M6_b q6_b_0 q6_b_1 q6_b_2 q6_b_3 q6_b_4 q6_b_5 q6_b_6 q6_b_7 V6_r f6_r L6_r N6_r M6_r q6_r_0 q6_r_1 q6_r_2 V6_d f6_d L6_d N6_d M6_d q6_d_0 q6_d_1 PC6 c6_pb f6_pb L6_pb N6_pb M6_pb
             have HR7 := Lib.hid hr; clear hr
             have c7_pb := PC7.2.1; have f7_pb := PC7.2.2; have L7_pb := PC7.1; have N7_pb := Nat.ne_of_gt L7_pb; have M7_pb := Nat.ne_of_lt L7_pb
             have HG7 := Lib.hid G7; clear G7 hb)
          )
        all_goals
          go_wp2_with (with_reducible refine M.stopPost ?_)
          go_meet
          case rel => exact ⟨y, e7, rfl, iy, Lib.hid (rel_bind HR5.out (rel_bind HR6.out HR7.out)), Lib.hid (by have G := HG7.out; (repeat (with_reducible refine M.Below.drewN ?_ _)); go_grown), by (repeat (first | (with_reducible assumption) | (with_reducible refine M.pcell_alloc ?_ _) | (with_reducible refine M.pcell_drewN ?_ _) | (with_reducible refine M.pcell_drew ?_) | (with_reducible refine M.pcell_far ?_ _ _ ?hFar; case hFar => (first | omega | ((try simp [go_sem]) <;> omega))) | fail)), by (repeat (first | (with_reducible assumption) | (with_reducible apply M.var_setV) | (with_reducible apply M.var_setI) | (with_reducible apply M.var_setB) | (with_reducible apply M.var_setHt) | (with_reducible apply M.var_setBd) | (with_reducible apply M.var_set2) | (with_reducible apply M.var_set3) | (with_reducible apply M.var_set4) | (with_reducible apply M.var_set45) | (with_reducible apply M.var_set67) | (with_reducible apply M.var_setF) | (with_reducible refine M.var_alloc' _ _ _ ?_; first | rfl | (focus (simp [go_sem]; done))) | (with_reducible refine M.Var.alloc ?_ _) | (with_reducible refine M.Var.drewN ?_ _) | (with_reducible refine M.Var.drew ?_) | (with_reducible refine M.Var.far ?_ _ _ ?hFar; case hFar => (first | omega | ((try simp [go_sem]) <;> omega))) | fail)), by (repeat (first | (with_reducible assumption) | (with_reducible apply M.var_setV) | (with_reducible apply M.var_setI) | (with_reducible apply M.var_setB) | (with_reducible apply M.var_setHt) | (with_reducible apply M.var_setBd) | (with_reducible apply M.var_set2) | (with_reducible apply M.var_set3) | (with_reducible apply M.var_set4) | (with_reducible apply M.var_set45) | (with_reducible apply M.var_set67) | (with_reducible apply M.var_setF) | (with_reducible refine M.var_alloc' _ _ _ ?_; first | rfl | (focus (simp [go_sem]; done))) | (with_reducible refine M.Var.alloc ?_ _) | (with_reducible refine M.Var.drewN ?_ _) | (with_reducible refine M.Var.drew ?_) | (with_reducible refine M.Var.far ?_ _ _ ?hFar; case hFar => (first | omega | ((try simp [go_sem]) <;> omega))) | fail)), by (repeat (first | (with_reducible assumption) | (with_reducible apply M.var_setV) | (with_reducible apply M.var_setI) | (with_reducible apply M.var_setB) | (with_reducible apply M.var_setHt) | (with_reducible apply M.var_setBd) | (with_reducible apply M.var_set2) | (with_reducible apply M.var_set3) | (with_reducible apply M.var_set4) | (with_reducible apply M.var_set45) | (with_reducible apply M.var_set67) | (with_reducible apply M.var_setF) | (with_reducible refine M.var_alloc' _ _ _ ?_; first | rfl | (focus (simp [go_sem]; done))) | (with_reducible refine M.Var.alloc ?_ _) | (with_reducible refine M.Var.drewN ?_ _) | (with_reducible refine M.Var.drew ?_) | (with_reducible refine M.Var.far ?_ _ _ ?hFar; case hFar => (first | omega | ((try simp [go_sem]) <;> omega))) | fail)), by (repeat (first | (with_reducible assumption) | (with_reducible apply M.var_setV) | (with_reducible apply M.var_setI) | (with_reducible apply M.var_setB) | (with_reducible apply M.var_setHt) | (with_reducible apply M.var_setBd) | (with_reducible apply M.var_set2) | (with_reducible apply M.var_set3) | (with_reducible apply M.var_set4) | (with_reducible apply M.var_set45) | (with_reducible apply M.var_set67) | (with_reducible apply M.var_setF) | (with_reducible refine M.var_alloc' _ _ _ ?_; first | rfl | (focus (simp [go_sem]; done))) | (with_reducible refine M.Var.alloc ?_ _) | (with_reducible refine M.Var.drewN ?_ _) | (with_reducible refine M.Var.drew ?_) | (with_reducible refine M.Var.far ?_ _ _ ?hFar; case hFar => (first | omega | ((try simp [go_sem]) <;> omega))) | fail))⟩
      case rest =>
        obtain ⟨y, ed, rfl, iy, hy, HGd, PCd, Vd_a, Vd_b, Vd_r, Vd_d⟩ := hcut
        have Sd : w.heap.size ≤ wc.heap.size := by have := HGd.out.size; rwa [M.setCell_size] at this
        have cd_pb := PCd.2.1; have fd_pb := PCd.2.2; have Ld_pb := PCd.1; have Nd_pb := Nat.ne_of_gt Ld_pb; have Md_pb := Nat.ne_of_lt Ld_pb
        clear Vc_a fc_a Lc_a Nc_a Mc_a qc_a_0 qc_a_1 qc_a_2 qc_a_3 qc_a_4 qc_a_5 qc_a_6 qc_a_7 Vc_b fc_b Lc_b Nc_b Mc_b qc_b_0 qc_b_1 qc_b_2 qc_b_3 qc_b_4 qc_b_5 qc_b_6 qc_b_7 Vc_r fc_r Lc_r Nc_r Mc_r qc_r_0 qc_r_1 qc_r_2 Vc_d fc_d Lc_d Nc_d Mc_d qc_d_0 qc_d_1 PCc cc_pb fc_pb Lc_pb Nc_pb Mc_pb
        have qd_a_0 : wc.cell? ⟨w.heap.size, 0, none⟩ = some (.int .i64 a.shape) := Vd_a.c 0 _ rfl
        have qd_a_1 : wc.cell? ⟨w.heap.size, 1, none⟩ = some (.int .i64 a.sx) := Vd_a.c 1 _ rfl
        have qd_a_2 : wc.cell? ⟨w.heap.size, 2, none⟩ = some (.int .i64 a.sy) := Vd_a.c 2 _ rfl
        have qd_a_3 : wc.cell? ⟨w.heap.size, 3, none⟩ = some (.int .i64 a.mass) := Vd_a.c 3 _ rfl
        have qd_a_4 : wc.cell? ⟨w.heap.size, 4, none⟩ = some (.int .i64 a.px) := Vd_a.c 4 _ rfl
        have qd_a_5 : wc.cell? ⟨w.heap.size, 5, none⟩ = some (.int .i64 a.py) := Vd_a.c 5 _ rfl
        have qd_a_6 : wc.cell? ⟨w.heap.size, 6, none⟩ = some (.int .i64 a.mx) := Vd_a.c 6 _ rfl
        have qd_a_7 : wc.cell? ⟨w.heap.size, 7, none⟩ = some (.int .i64 a.my) := Vd_a.c 7 _ rfl
        have fd_a := Vd_a.2.2; have Ld_a := Vd_a.lt; have Nd_a := Nat.ne_of_gt Ld_a; have Md_a := Nat.ne_of_lt Ld_a
        have qd_b_0 : wc.cell? ⟨w.heap.size + 1, 0, none⟩ = some (.int .i64 b.shape) := Vd_b.c 0 _ rfl
        have qd_b_1 : wc.cell? ⟨w.heap.size + 1, 1, none⟩ = some (.int .i64 b.sx) := Vd_b.c 1 _ rfl
        have qd_b_2 : wc.cell? ⟨w.heap.size + 1, 2, none⟩ = some (.int .i64 b.sy) := Vd_b.c 2 _ rfl
        have qd_b_3 : wc.cell? ⟨w.heap.size + 1, 3, none⟩ = some (.int .i64 b.mass) := Vd_b.c 3 _ rfl
        have qd_b_4 : wc.cell? ⟨w.heap.size + 1, 4, none⟩ = some (.int .i64 b.px) := Vd_b.c 4 _ rfl
        have qd_b_5 : wc.cell? ⟨w.heap.size + 1, 5, none⟩ = some (.int .i64 b.py) := Vd_b.c 5 _ rfl
        have qd_b_6 : wc.cell? ⟨w.heap.size + 1, 6, none⟩ = some (.int .i64 b.mx) := Vd_b.c 6 _ rfl
        have qd_b_7 : wc.cell? ⟨w.heap.size + 1, 7, none⟩ = some (.int .i64 b.my) := Vd_b.c 7 _ rfl
        have fd_b := Vd_b.2.2; have Ld_b := Vd_b.lt; have Nd_b := Nat.ne_of_gt Ld_b; have Md_b := Nat.ne_of_lt Ld_b
        have qd_r_0 : wc.cell? ⟨w.heap.size + 1 + 1, 0, none⟩ = some (.int .i64 0) := Vd_r.c 0 _ rfl
        have qd_r_1 : wc.cell? ⟨w.heap.size + 1 + 1, 1, none⟩ = some (.int .i64 0) := Vd_r.c 1 _ rfl
        have qd_r_2 : wc.cell? ⟨w.heap.size + 1 + 1, 2, none⟩ = some (.int .i64 0) := Vd_r.c 2 _ rfl
        have fd_r := Vd_r.2.2; have Ld_r := Vd_r.lt; have Nd_r := Nat.ne_of_gt Ld_r; have Md_r := Nat.ne_of_lt Ld_r
        have qd_d_0 : wc.cell? ⟨w1.heap.size, 0, none⟩ = some (.int .i64 dx) := Vd_d.c 0 _ rfl
        have qd_d_1 : wc.cell? ⟨w1.heap.size, 1, none⟩ = some (.int .i64 dy) := Vd_d.c 1 _ rfl
        have fd_d := Vd_d.2.2; have Ld_d := Vd_d.lt; have Nd_d := Nat.ne_of_gt Ld_d; have Md_d := Nat.ne_of_lt Ld_d
        have ct := Lib.hid (crates_tail (x := x) (y := y) (dx := dx) (dy := dy) (Int.not_le.2 (by have := h0.out; omega)) _ rfl)
        have hf := Lib.hid (fun q t (h : (if x ≤ y then (.ok (hitR (oneI dx, 0) x) : X (Ht × Bool)) else .ok (hitR (0, oneI dy) y)) = .ok (q, t)) => (rel_bind HR1.out (rel_bind hx.out (by rw [if_neg (show ¬ x ≤ 0 by have := h0.out; omega)]; exact rel_bind hy.out (by rw [h]; exact rel_ok _ _))) : M.Rel e (cratesX a b) (q, t) ed))
        rcases (show y ≤ 0 ∨ (¬ y ≤ 0 ∧ dx < 0 ∧ x ≤ y) ∨ (¬ y ≤ 0 ∧ ¬ dx < 0 ∧ x ≤ y) ∨ (¬ y ≤ 0 ∧ dx < 0 ∧ ¬ x ≤ y ∧ dy < 0) ∨ (¬ y ≤ 0 ∧ dx < 0 ∧ ¬ x ≤ y ∧ ¬ dy < 0) ∨ (¬ y ≤ 0 ∧ ¬ dx < 0 ∧ ¬ x ≤ y ∧ dy < 0) ∨ (¬ y ≤ 0 ∧ ¬ dx < 0 ∧ ¬ x ≤ y ∧ ¬ dy < 0) by omega) with g1 | ⟨g1, g2, g3⟩ | ⟨g1, g2, g3⟩ | ⟨g1, g2, g3, g4⟩ | ⟨g1, g2, g3, g4⟩ | ⟨g1, g2, g3, g4⟩ | ⟨g1, g2, g3, g4⟩
        · have fin := Lib.hid (hf.out _ _ (ct.out.1 g1))
          go_wp2_with (with_reducible refine M.stopPost ?_)
          (try refine M.Stop.mk ?_)
          refine bodyPost_ret (v := .tuple #[.agg #[.int .i64 0, .int .i64 0, .int .i64 0], .bool false]) (by first | (simp [results, Try.results184, go_sem, qd_r_0, qd_r_1, qd_r_2, fd_r, Ld_r, Nd_r, Md_r]; done) | (simp [results, Try.results184, go_sem, *]; done)) rfl ?_
          (try unfold M.RelHb); (try unfold M.RelBB); (try unfold M.RelI); (try unfold M.RelV); exact ⟨⟨0, 0, 0⟩, false, ed, rfl, ⟨z, z, z⟩, fin.out, by have G := HGd.out; (repeat (with_reducible refine M.Below.drewN ?_ _)); go_grown⟩
        · have fin := Lib.hid (hf.out _ _ (ct.out.2.1 g1 g3))
          rw [show oneI dx = -4294967296 by unfold oneI; rw [if_pos g2]] at fin
          go_wp2_with (with_reducible refine M.stopPost ?_)
          (try refine M.Stop.mk ?_)
          refine bodyPost_ret (v := .tuple #[.agg #[.int .i64 (-4294967296), .int .i64 0, .int .i64 x], .bool true]) (by first | (simp [results, Try.results184, go_sem, qd_r_0, qd_r_1, qd_r_2, fd_r, Ld_r, Nd_r, Md_r]; done) | (simp [results, Try.results184, go_sem, *]; done)) rfl ?_
          (try unfold M.RelHb); (try unfold M.RelBB); (try unfold M.RelI); (try unfold M.RelV); exact ⟨⟨-4294967296, 0, x⟩, true, ed, rfl, ⟨z2, z, ix⟩, fin.out, by have G := HGd.out; (repeat (with_reducible refine M.Below.drewN ?_ _)); go_grown⟩
        · have fin := Lib.hid (hf.out _ _ (ct.out.2.1 g1 g3))
          rw [show oneI dx = 4294967296 by unfold oneI; rw [if_neg g2]] at fin
          go_wp2_with (with_reducible refine M.stopPost ?_)
          (try refine M.Stop.mk ?_)
          refine bodyPost_ret (v := .tuple #[.agg #[.int .i64 4294967296, .int .i64 0, .int .i64 x], .bool true]) (by first | (simp [results, Try.results184, go_sem, qd_r_0, qd_r_1, qd_r_2, fd_r, Ld_r, Nd_r, Md_r]; done) | (simp [results, Try.results184, go_sem, *]; done)) rfl ?_
          (try unfold M.RelHb); (try unfold M.RelBB); (try unfold M.RelI); (try unfold M.RelV); exact ⟨⟨4294967296, 0, x⟩, true, ed, rfl, ⟨z1, z, ix⟩, fin.out, by have G := HGd.out; (repeat (with_reducible refine M.Below.drewN ?_ _)); go_grown⟩
        · have fin := Lib.hid (hf.out _ _ (ct.out.2.2 g1 g3))
          rw [show oneI dy = -4294967296 by unfold oneI; rw [if_pos g4]] at fin
          go_wp2_with (with_reducible refine M.stopPost ?_)
          (try refine M.Stop.mk ?_)
          refine bodyPost_ret (v := .tuple #[.agg #[.int .i64 0, .int .i64 (-4294967296), .int .i64 y], .bool true]) (by first | (simp [results, Try.results184, go_sem, qd_r_0, qd_r_1, qd_r_2, fd_r, Ld_r, Nd_r, Md_r]; done) | (simp [results, Try.results184, go_sem, *]; done)) rfl ?_
          (try unfold M.RelHb); (try unfold M.RelBB); (try unfold M.RelI); (try unfold M.RelV); exact ⟨⟨0, -4294967296, y⟩, true, ed, rfl, ⟨z, z2, iy⟩, fin.out, by have G := HGd.out; (repeat (with_reducible refine M.Below.drewN ?_ _)); go_grown⟩
        · have fin := Lib.hid (hf.out _ _ (ct.out.2.2 g1 g3))
          rw [show oneI dy = 4294967296 by unfold oneI; rw [if_neg g4]] at fin
          go_wp2_with (with_reducible refine M.stopPost ?_)
          (try refine M.Stop.mk ?_)
          refine bodyPost_ret (v := .tuple #[.agg #[.int .i64 0, .int .i64 4294967296, .int .i64 y], .bool true]) (by first | (simp [results, Try.results184, go_sem, qd_r_0, qd_r_1, qd_r_2, fd_r, Ld_r, Nd_r, Md_r]; done) | (simp [results, Try.results184, go_sem, *]; done)) rfl ?_
          (try unfold M.RelHb); (try unfold M.RelBB); (try unfold M.RelI); (try unfold M.RelV); exact ⟨⟨0, 4294967296, y⟩, true, ed, rfl, ⟨z, z1, iy⟩, fin.out, by have G := HGd.out; (repeat (with_reducible refine M.Below.drewN ?_ _)); go_grown⟩
        · have fin := Lib.hid (hf.out _ _ (ct.out.2.2 g1 g3))
          rw [show oneI dy = -4294967296 by unfold oneI; rw [if_pos g4]] at fin
          go_wp2_with (with_reducible refine M.stopPost ?_)
          (try refine M.Stop.mk ?_)
          refine bodyPost_ret (v := .tuple #[.agg #[.int .i64 0, .int .i64 (-4294967296), .int .i64 y], .bool true]) (by first | (simp [results, Try.results184, go_sem, qd_r_0, qd_r_1, qd_r_2, fd_r, Ld_r, Nd_r, Md_r]; done) | (simp [results, Try.results184, go_sem, *]; done)) rfl ?_
          (try unfold M.RelHb); (try unfold M.RelBB); (try unfold M.RelI); (try unfold M.RelV); exact ⟨⟨0, -4294967296, y⟩, true, ed, rfl, ⟨z, z2, iy⟩, fin.out, by have G := HGd.out; (repeat (with_reducible refine M.Below.drewN ?_ _)); go_grown⟩
        · have fin := Lib.hid (hf.out _ _ (ct.out.2.2 g1 g3))
          rw [show oneI dy = 4294967296 by unfold oneI; rw [if_neg g4]] at fin
          go_wp2_with (with_reducible refine M.stopPost ?_)
          (try refine M.Stop.mk ?_)
          refine bodyPost_ret (v := .tuple #[.agg #[.int .i64 0, .int .i64 4294967296, .int .i64 y], .bool true]) (by first | (simp [results, Try.results184, go_sem, qd_r_0, qd_r_1, qd_r_2, fd_r, Ld_r, Nd_r, Md_r]; done) | (simp [results, Try.results184, go_sem, *]; done)) rfl ?_
          (try unfold M.RelHb); (try unfold M.RelBB); (try unfold M.RelI); (try unfold M.RelV); exact ⟨⟨0, 4294967296, y⟩, true, ed, rfl, ⟨z, z1, iy⟩, fin.out, by have G := HGd.out; (repeat (with_reducible refine M.Below.drewN ?_ _)); go_grown⟩
end Go.Proofs.Ytaagpkacningdaa
