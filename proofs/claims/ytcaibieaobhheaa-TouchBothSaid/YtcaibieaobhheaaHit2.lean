/- What touch.both computes. -/
import Derived.Test.YtcaibieaobhheaaHit1
import Derived.Test.YtcaibieaobhheaaVar3
import Derived.Deep.Cut
namespace Go.Proofs.Ytcaibieaobhheaa
open Go.RowKit M
set_option maxRecDepth 100000
set_option maxHeartbeats 4000000
set_option linter.unusedVariables false
set_option linter.unusedSimpArgs false
attribute [local go_sem ↓] Go.wp_at_zero Go.wp_at_succ
theorem both_x (a b : Bd) (ha : a.ok) (hb : b.ok) (w : World) :
    Calls Try.prog 62 #[.agg #[.int .i64 a.shape, .int .i64 a.sx, .int .i64 a.sy, .int .i64 a.mass, .int .i64 a.px, .int .i64 a.py, .int .i64 a.mx, .int .i64 a.my], .agg #[.int .i64 b.shape, .int .i64 b.sx, .int .i64 b.sy, .int .i64 b.mass, .int .i64 b.px, .int .i64 b.py, .int .i64 b.mx, .int .i64 b.my]] w fun en w' => OutHb (bothX a b) en ∧ Bw w w' := by
  have C1 := Lib.hid (boundsOf_x b hb)
  have C2 := Lib.hid clampV_x
  have C3 := Lib.hid vecSub_x
  have C4 := Lib.hid vecUnit_x
  have C5 := Lib.hid (crates_x { a with sy := a.sx } b ⟨ha.shape, ha.sx, ha.sx, ha.mass, ha.px, ha.py, ha.mx, ha.my⟩ hb)
  have C6 := Lib.hid (fun l hl => calcSub_x a.sx l ha.sx hl)
  have C7 := Lib.hid hitR_c
  go_enter Try.func62, Try.ntmps62
  go_wp2_with (with_reducible refine M.stopPost ?_)
  go_cut [6, 7] from 8 (fun s t wc => ∃ (g : Nat) (e : Bx) (dx dy ux uy l : Int), s = .pointer (some ⟨g, 0, none⟩) ∧ t = .int .i64 l ∧ Hid (boxX b = .ok e ∧ subV (clampI a.px e.lx e.hx, clampI a.py e.ly e.hy) (a.px, a.py) = .ok (dx, dy) ∧ unitX (dx, dy) = .ok ((ux, uy), l))
      ∧ I64 ux ∧ I64 uy ∧ I64 l ∧ Hid (Below w.heap.size w wc) ∧ w.heap.size + 1 + 1 < g ∧ Var wc g #[.int .i64 ux, .int .i64 uy] ∧ Var wc w.heap.size #[.int .i64 a.shape, .int .i64 a.sx, .int .i64 a.sy, .int .i64 a.mass, .int .i64 a.px, .int .i64 a.py, .int .i64 a.mx, .int .i64 a.my] ∧ Var wc (w.heap.size + 1) #[.int .i64 b.shape, .int .i64 b.sx, .int .i64 b.sy, .int .i64 b.mass, .int .i64 b.px, .int .i64 b.py, .int .i64 b.mx, .int .i64 b.my] ∧ Var wc (w.heap.size + 1 + 1) #[.int .i64 0, .int .i64 0, .int .i64 0])
  case first =>
    have z1 : w.heap.size + 1 + 1 + 1 ≠ w.heap.size := by omega
    have z2 : w.heap.size + 1 + 1 ≠ w.heap.size := by omega
    have z3 : w.heap.size + 1 ≠ w.heap.size := by omega
    go_region_held2 (fun w' => w'.cell? ⟨w.heap.size, 4, none⟩ = some (.int .i64 a.px) ∧ w'.cell? ⟨w.heap.size, 5, none⟩ = some (.int .i64 a.py)
        ∧ w'.cell? ⟨w.heap.size + 1, 0, none⟩ = some (.int .i64 b.shape) ∧ w'.cell? ⟨w.heap.size + 1, 1, none⟩ = some (.int .i64 b.sx) ∧ w'.cell? ⟨w.heap.size + 1, 2, none⟩ = some (.int .i64 b.sy) ∧ w'.cell? ⟨w.heap.size + 1, 3, none⟩ = some (.int .i64 b.mass)
        ∧ w'.cell? ⟨w.heap.size + 1, 4, none⟩ = some (.int .i64 b.px) ∧ w'.cell? ⟨w.heap.size + 1, 5, none⟩ = some (.int .i64 b.py) ∧ w'.cell? ⟨w.heap.size + 1, 6, none⟩ = some (.int .i64 b.mx) ∧ w'.cell? ⟨w.heap.size + 1, 7, none⟩ = some (.int .i64 b.my)) (go_keep)
      (first
      | (go_at_call 92; refine (C1.out _).mono ?_; rintro en w1 ⟨ho, hb⟩
         have G1 : Below w.heap.size w w1 := Below.trans (by (repeat (with_reducible refine M.Below.drewN ?_ _)); go_grown) (hb.mono (by go_size))
         have V1_a : M.Var w1 (w.heap.size) #[.int .i64 a.shape, .int .i64 a.sx, .int .i64 a.sy, .int .i64 a.mass, .int .i64 a.px, .int .i64 a.py, .int .i64 a.mx, .int .i64 a.my] := M.Var.mono (b := w.heap.size) (cs := #[.int .i64 a.shape, .int .i64 a.sx, .int .i64 a.sy, .int .i64 a.mass, .int .i64 a.px, .int .i64 a.py, .int .i64 a.mx, .int .i64 a.my]) (by (repeat (first | (with_reducible assumption) | (with_reducible apply M.var_setV) | (with_reducible apply M.var_setI) | (with_reducible apply M.var_setB) | (with_reducible apply M.var_setHt) | (with_reducible apply M.var_setBd) | (with_reducible apply M.var_set2) | (with_reducible apply M.var_set3) | (with_reducible apply M.var_set4) | (with_reducible apply M.var_set45) | (with_reducible apply M.var_set67) | (with_reducible apply M.var_setF) | (with_reducible refine M.var_alloc' _ _ _ ?_; first | rfl | (focus (simp [go_sem]; done))) | (with_reducible refine M.Var.alloc ?_ _) | (with_reducible refine M.Var.drewN ?_ _) | (with_reducible refine M.Var.drew ?_) | (with_reducible refine M.Var.far ?_ _ _ ?hFar; case hFar => (first | omega | ((try simp [go_sem]) <;> omega))) | fail))) hb
         have q1_a_0 : w1.cell? ⟨w.heap.size, 0, none⟩ = some (.int .i64 a.shape) := V1_a.c 0 _ rfl
         have q1_a_1 : w1.cell? ⟨w.heap.size, 1, none⟩ = some (.int .i64 a.sx) := V1_a.c 1 _ rfl
         have q1_a_2 : w1.cell? ⟨w.heap.size, 2, none⟩ = some (.int .i64 a.sy) := V1_a.c 2 _ rfl
         have q1_a_3 : w1.cell? ⟨w.heap.size, 3, none⟩ = some (.int .i64 a.mass) := V1_a.c 3 _ rfl
         have q1_a_4 : w1.cell? ⟨w.heap.size, 4, none⟩ = some (.int .i64 a.px) := V1_a.c 4 _ rfl
         have q1_a_5 : w1.cell? ⟨w.heap.size, 5, none⟩ = some (.int .i64 a.py) := V1_a.c 5 _ rfl
         have q1_a_6 : w1.cell? ⟨w.heap.size, 6, none⟩ = some (.int .i64 a.mx) := V1_a.c 6 _ rfl
         have q1_a_7 : w1.cell? ⟨w.heap.size, 7, none⟩ = some (.int .i64 a.my) := V1_a.c 7 _ rfl
         have f1_a := V1_a.2.2
         have L1_a := V1_a.lt
         have N1_a := Nat.ne_of_gt L1_a
         have M1_a := Nat.ne_of_lt L1_a
         have V1_b : M.Var w1 (w.heap.size + 1) #[.int .i64 b.shape, .int .i64 b.sx, .int .i64 b.sy, .int .i64 b.mass, .int .i64 b.px, .int .i64 b.py, .int .i64 b.mx, .int .i64 b.my] := M.Var.mono (b := w.heap.size + 1) (cs := #[.int .i64 b.shape, .int .i64 b.sx, .int .i64 b.sy, .int .i64 b.mass, .int .i64 b.px, .int .i64 b.py, .int .i64 b.mx, .int .i64 b.my]) (by (repeat (first | (with_reducible assumption) | (with_reducible apply M.var_setV) | (with_reducible apply M.var_setI) | (with_reducible apply M.var_setB) | (with_reducible apply M.var_setHt) | (with_reducible apply M.var_setBd) | (with_reducible apply M.var_set2) | (with_reducible apply M.var_set3) | (with_reducible apply M.var_set4) | (with_reducible apply M.var_set45) | (with_reducible apply M.var_set67) | (with_reducible apply M.var_setF) | (with_reducible refine M.var_alloc' _ _ _ ?_; first | rfl | (focus (simp [go_sem]; done))) | (with_reducible refine M.Var.alloc ?_ _) | (with_reducible refine M.Var.drewN ?_ _) | (with_reducible refine M.Var.drew ?_) | (with_reducible refine M.Var.far ?_ _ _ ?hFar; case hFar => (first | omega | ((try simp [go_sem]) <;> omega))) | fail))) hb
         have q1_b_0 : w1.cell? ⟨w.heap.size + 1, 0, none⟩ = some (.int .i64 b.shape) := V1_b.c 0 _ rfl
         have q1_b_1 : w1.cell? ⟨w.heap.size + 1, 1, none⟩ = some (.int .i64 b.sx) := V1_b.c 1 _ rfl
         have q1_b_2 : w1.cell? ⟨w.heap.size + 1, 2, none⟩ = some (.int .i64 b.sy) := V1_b.c 2 _ rfl
         have q1_b_3 : w1.cell? ⟨w.heap.size + 1, 3, none⟩ = some (.int .i64 b.mass) := V1_b.c 3 _ rfl
         have q1_b_4 : w1.cell? ⟨w.heap.size + 1, 4, none⟩ = some (.int .i64 b.px) := V1_b.c 4 _ rfl
         have q1_b_5 : w1.cell? ⟨w.heap.size + 1, 5, none⟩ = some (.int .i64 b.py) := V1_b.c 5 _ rfl
         have q1_b_6 : w1.cell? ⟨w.heap.size + 1, 6, none⟩ = some (.int .i64 b.mx) := V1_b.c 6 _ rfl
         have q1_b_7 : w1.cell? ⟨w.heap.size + 1, 7, none⟩ = some (.int .i64 b.my) := V1_b.c 7 _ rfl
         have f1_b := V1_b.2.2
         have L1_b := V1_b.lt
         have N1_b := Nat.ne_of_gt L1_b
         have M1_b := Nat.ne_of_lt L1_b
         have V1_r : M.Var w1 (w.heap.size + 1 + 1) #[.int .i64 0, .int .i64 0, .int .i64 0] := M.Var.mono (b := w.heap.size + 1 + 1) (cs := #[.int .i64 0, .int .i64 0, .int .i64 0]) (by (repeat (first | (with_reducible assumption) | (with_reducible apply M.var_setV) | (with_reducible apply M.var_setI) | (with_reducible apply M.var_setB) | (with_reducible apply M.var_setHt) | (with_reducible apply M.var_setBd) | (with_reducible apply M.var_set2) | (with_reducible apply M.var_set3) | (with_reducible apply M.var_set4) | (with_reducible apply M.var_set45) | (with_reducible apply M.var_set67) | (with_reducible apply M.var_setF) | (with_reducible refine M.var_alloc' _ _ _ ?_; first | rfl | (focus (simp [go_sem]; done))) | (with_reducible refine M.Var.alloc ?_ _) | (with_reducible refine M.Var.drewN ?_ _) | (with_reducible refine M.Var.drew ?_) | (with_reducible refine M.Var.far ?_ _ _ ?hFar; case hFar => (first | omega | ((try simp [go_sem]) <;> omega))) | fail))) hb
         have q1_r_0 : w1.cell? ⟨w.heap.size + 1 + 1, 0, none⟩ = some (.int .i64 0) := V1_r.c 0 _ rfl
         have q1_r_1 : w1.cell? ⟨w.heap.size + 1 + 1, 1, none⟩ = some (.int .i64 0) := V1_r.c 1 _ rfl
         have q1_r_2 : w1.cell? ⟨w.heap.size + 1 + 1, 2, none⟩ = some (.int .i64 0) := V1_r.c 2 _ rfl
         have f1_r := V1_r.2.2
         have L1_r := V1_r.lt
         have N1_r := Nat.ne_of_gt L1_r
         have M1_r := Nat.ne_of_lt L1_r
         try (refine M.opt (T := M.Var w1 (w.heap.size + 1 + 1 + 1) #[.int .i64 0, .int .i64 0]) ?_ ?_; refine M.Var.mono (b := w.heap.size + 1 + 1 + 1) (cs := #[.int .i64 0, .int .i64 0]) ?_ hb; (repeat (first | (with_reducible assumption) | (with_reducible apply M.var_setV) | (with_reducible apply M.var_setI) | (with_reducible apply M.var_setB) | (with_reducible apply M.var_setHt) | (with_reducible apply M.var_setBd) | (with_reducible apply M.var_set2) | (with_reducible apply M.var_set3) | (with_reducible apply M.var_set4) | (with_reducible apply M.var_set45) | (with_reducible apply M.var_set67) | (with_reducible apply M.var_setF) | (with_reducible refine M.var_alloc' _ _ _ ?_; first | rfl | (focus (simp [go_sem]; done))) | (with_reducible refine M.Var.alloc ?_ _) | (with_reducible refine M.Var.drewN ?_ _) | (with_reducible refine M.Var.drew ?_) | (with_reducible refine M.Var.far ?_ _ _ ?hFar; case hFar => (first | omega | ((try simp [go_sem]) <;> omega))) | fail)); intro V1_n0; have q1_n0_0 : w1.cell? ⟨w.heap.size + 1 + 1 + 1, 0, none⟩ = some (.int .i64 0) := V1_n0.c 0 _ rfl; have q1_n0_1 : w1.cell? ⟨w.heap.size + 1 + 1 + 1, 1, none⟩ = some (.int .i64 0) := V1_n0.c 1 _ rfl; have f1_n0 := V1_n0.2.2; have L1_n0 := V1_n0.lt; have N1_n0 := Nat.ne_of_gt L1_n0; have M1_n0 := Nat.ne_of_lt L1_n0)
         try (refine M.opt (T := M.Var w1 (w1.heap.size) #[.int .i64 0, .int .i64 0]) ?_ ?_; refine M.Var.mono (b := w1.heap.size) (cs := #[.int .i64 0, .int .i64 0]) ?_ hb; (repeat (first | (with_reducible assumption) | (with_reducible apply M.var_setV) | (with_reducible apply M.var_setI) | (with_reducible apply M.var_setB) | (with_reducible apply M.var_setHt) | (with_reducible apply M.var_setBd) | (with_reducible apply M.var_set2) | (with_reducible apply M.var_set3) | (with_reducible apply M.var_set4) | (with_reducible apply M.var_set45) | (with_reducible apply M.var_set67) | (with_reducible apply M.var_setF) | (with_reducible refine M.var_alloc' _ _ _ ?_; first | rfl | (focus (simp [go_sem]; done))) | (with_reducible refine M.Var.alloc ?_ _) | (with_reducible refine M.Var.drewN ?_ _) | (with_reducible refine M.Var.drew ?_) | (with_reducible refine M.Var.far ?_ _ _ ?hFar; case hFar => (first | omega | ((try simp [go_sem]) <;> omega))) | fail)); intro V1_n1; have q1_n1_0 : w1.cell? ⟨w1.heap.size, 0, none⟩ = some (.int .i64 0) := V1_n1.c 0 _ rfl; have q1_n1_1 : w1.cell? ⟨w1.heap.size, 1, none⟩ = some (.int .i64 0) := V1_n1.c 1 _ rfl; have f1_n1 := V1_n1.2.2; have L1_n1 := V1_n1.lt; have N1_n1 := Nat.ne_of_gt L1_n1; have M1_n1 := Nat.ne_of_lt L1_n1)
         try (refine M.opt (T := M.Var w1 (w2.heap.size) #[.int .i64 0, .int .i64 0]) ?_ ?_; refine M.Var.mono (b := w2.heap.size) (cs := #[.int .i64 0, .int .i64 0]) ?_ hb; (repeat (first | (with_reducible assumption) | (with_reducible apply M.var_setV) | (with_reducible apply M.var_setI) | (with_reducible apply M.var_setB) | (with_reducible apply M.var_setHt) | (with_reducible apply M.var_setBd) | (with_reducible apply M.var_set2) | (with_reducible apply M.var_set3) | (with_reducible apply M.var_set4) | (with_reducible apply M.var_set45) | (with_reducible apply M.var_set67) | (with_reducible apply M.var_setF) | (with_reducible refine M.var_alloc' _ _ _ ?_; first | rfl | (focus (simp [go_sem]; done))) | (with_reducible refine M.Var.alloc ?_ _) | (with_reducible refine M.Var.drewN ?_ _) | (with_reducible refine M.Var.drew ?_) | (with_reducible refine M.Var.far ?_ _ _ ?hFar; case hFar => (first | omega | ((try simp [go_sem]) <;> omega))) | fail)); intro V1_n2; have q1_n2_0 : w1.cell? ⟨w2.heap.size, 0, none⟩ = some (.int .i64 0) := V1_n2.c 0 _ rfl; have q1_n2_1 : w1.cell? ⟨w2.heap.size, 1, none⟩ = some (.int .i64 0) := V1_n2.c 1 _ rfl; have f1_n2 := V1_n2.2.2; have L1_n2 := V1_n2.lt; have N1_n2 := Nat.ne_of_gt L1_n2; have M1_n2 := Nat.ne_of_lt L1_n2)
         try (refine M.opt (T := M.Var w1 (w3.heap.size) #[.int .i64 0, .int .i64 0]) ?_ ?_; refine M.Var.mono (b := w3.heap.size) (cs := #[.int .i64 0, .int .i64 0]) ?_ hb; (repeat (first | (with_reducible assumption) | (with_reducible apply M.var_setV) | (with_reducible apply M.var_setI) | (with_reducible apply M.var_setB) | (with_reducible apply M.var_setHt) | (with_reducible apply M.var_setBd) | (with_reducible apply M.var_set2) | (with_reducible apply M.var_set3) | (with_reducible apply M.var_set4) | (with_reducible apply M.var_set45) | (with_reducible apply M.var_set67) | (with_reducible apply M.var_setF) | (with_reducible refine M.var_alloc' _ _ _ ?_; first | rfl | (focus (simp [go_sem]; done))) | (with_reducible refine M.Var.alloc ?_ _) | (with_reducible refine M.Var.drewN ?_ _) | (with_reducible refine M.Var.drew ?_) | (with_reducible refine M.Var.far ?_ _ _ ?hFar; case hFar => (first | omega | ((try simp [go_sem]) <;> omega))) | fail)); intro V1_n3; have q1_n3_0 : w1.cell? ⟨w3.heap.size, 0, none⟩ = some (.int .i64 0) := V1_n3.c 0 _ rfl; have q1_n3_1 : w1.cell? ⟨w3.heap.size, 1, none⟩ = some (.int .i64 0) := V1_n3.c 1 _ rfl; have f1_n3 := V1_n3.2.2; have L1_n3 := V1_n3.lt; have N1_n3 := Nat.ne_of_gt L1_n3; have M1_n3 := Nat.ne_of_lt L1_n3)
         have S1 := G1.size
         have HG1 := Lib.hid G1; clear G1 hb
         rcases ho with ⟨n1, hn1, hz1, rfl⟩ | ⟨e, he, ie, rfl⟩
         · exact ⟨rfl, .inl ⟨n1, by unfold bothX Bd.pos clampV; simp only [hn1, andThen_ok, andThen_err], hz1, rfl⟩, HG1.out⟩
         have Hhe := Lib.hid he; clear he)
      | (go_at_call 49; refine ((C2.out _ _ _) _).mono ?_; rintro en w2 ⟨rfl, hb⟩
         have G2 : Below w.heap.size w w2 := Below.trans (by have G := HG1.out; (repeat (with_reducible refine M.Below.drewN ?_ _)); go_grown) (hb.mono (by go_size))
         have V2_a : M.Var w2 (w.heap.size) #[.int .i64 a.shape, .int .i64 a.sx, .int .i64 a.sy, .int .i64 a.mass, .int .i64 a.px, .int .i64 a.py, .int .i64 a.mx, .int .i64 a.my] := M.Var.mono (b := w.heap.size) (cs := #[.int .i64 a.shape, .int .i64 a.sx, .int .i64 a.sy, .int .i64 a.mass, .int .i64 a.px, .int .i64 a.py, .int .i64 a.mx, .int .i64 a.my]) (by (repeat (first | (with_reducible assumption) | (with_reducible apply M.var_setV) | (with_reducible apply M.var_setI) | (with_reducible apply M.var_setB) | (with_reducible apply M.var_setHt) | (with_reducible apply M.var_setBd) | (with_reducible apply M.var_set2) | (with_reducible apply M.var_set3) | (with_reducible apply M.var_set4) | (with_reducible apply M.var_set45) | (with_reducible apply M.var_set67) | (with_reducible apply M.var_setF) | (with_reducible refine M.var_alloc' _ _ _ ?_; first | rfl | (focus (simp [go_sem]; done))) | (with_reducible refine M.Var.alloc ?_ _) | (with_reducible refine M.Var.drewN ?_ _) | (with_reducible refine M.Var.drew ?_) | (with_reducible refine M.Var.far ?_ _ _ ?hFar; case hFar => (first | omega | ((try simp [go_sem]) <;> omega))) | fail))) hb
         have q2_a_0 : w2.cell? ⟨w.heap.size, 0, none⟩ = some (.int .i64 a.shape) := V2_a.c 0 _ rfl
         have q2_a_1 : w2.cell? ⟨w.heap.size, 1, none⟩ = some (.int .i64 a.sx) := V2_a.c 1 _ rfl
         have q2_a_2 : w2.cell? ⟨w.heap.size, 2, none⟩ = some (.int .i64 a.sy) := V2_a.c 2 _ rfl
         have q2_a_3 : w2.cell? ⟨w.heap.size, 3, none⟩ = some (.int .i64 a.mass) := V2_a.c 3 _ rfl
         have q2_a_4 : w2.cell? ⟨w.heap.size, 4, none⟩ = some (.int .i64 a.px) := V2_a.c 4 _ rfl
         have q2_a_5 : w2.cell? ⟨w.heap.size, 5, none⟩ = some (.int .i64 a.py) := V2_a.c 5 _ rfl
         have q2_a_6 : w2.cell? ⟨w.heap.size, 6, none⟩ = some (.int .i64 a.mx) := V2_a.c 6 _ rfl
         have q2_a_7 : w2.cell? ⟨w.heap.size, 7, none⟩ = some (.int .i64 a.my) := V2_a.c 7 _ rfl
         have f2_a := V2_a.2.2
         have L2_a := V2_a.lt
         have N2_a := Nat.ne_of_gt L2_a
         have M2_a := Nat.ne_of_lt L2_a
         have V2_b : M.Var w2 (w.heap.size + 1) #[.int .i64 b.shape, .int .i64 b.sx, .int .i64 b.sy, .int .i64 b.mass, .int .i64 b.px, .int .i64 b.py, .int .i64 b.mx, .int .i64 b.my] := M.Var.mono (b := w.heap.size + 1) (cs := #[.int .i64 b.shape, .int .i64 b.sx, .int .i64 b.sy, .int .i64 b.mass, .int .i64 b.px, .int .i64 b.py, .int .i64 b.mx, .int .i64 b.my]) (by (repeat (first | (with_reducible assumption) | (with_reducible apply M.var_setV) | (with_reducible apply M.var_setI) | (with_reducible apply M.var_setB) | (with_reducible apply M.var_setHt) | (with_reducible apply M.var_setBd) | (with_reducible apply M.var_set2) | (with_reducible apply M.var_set3) | (with_reducible apply M.var_set4) | (with_reducible apply M.var_set45) | (with_reducible apply M.var_set67) | (with_reducible apply M.var_setF) | (with_reducible refine M.var_alloc' _ _ _ ?_; first | rfl | (focus (simp [go_sem]; done))) | (with_reducible refine M.Var.alloc ?_ _) | (with_reducible refine M.Var.drewN ?_ _) | (with_reducible refine M.Var.drew ?_) | (with_reducible refine M.Var.far ?_ _ _ ?hFar; case hFar => (first | omega | ((try simp [go_sem]) <;> omega))) | fail))) hb
         have q2_b_0 : w2.cell? ⟨w.heap.size + 1, 0, none⟩ = some (.int .i64 b.shape) := V2_b.c 0 _ rfl
         have q2_b_1 : w2.cell? ⟨w.heap.size + 1, 1, none⟩ = some (.int .i64 b.sx) := V2_b.c 1 _ rfl
         have q2_b_2 : w2.cell? ⟨w.heap.size + 1, 2, none⟩ = some (.int .i64 b.sy) := V2_b.c 2 _ rfl
         have q2_b_3 : w2.cell? ⟨w.heap.size + 1, 3, none⟩ = some (.int .i64 b.mass) := V2_b.c 3 _ rfl
         have q2_b_4 : w2.cell? ⟨w.heap.size + 1, 4, none⟩ = some (.int .i64 b.px) := V2_b.c 4 _ rfl
         have q2_b_5 : w2.cell? ⟨w.heap.size + 1, 5, none⟩ = some (.int .i64 b.py) := V2_b.c 5 _ rfl
         have q2_b_6 : w2.cell? ⟨w.heap.size + 1, 6, none⟩ = some (.int .i64 b.mx) := V2_b.c 6 _ rfl
         have q2_b_7 : w2.cell? ⟨w.heap.size + 1, 7, none⟩ = some (.int .i64 b.my) := V2_b.c 7 _ rfl
         have f2_b := V2_b.2.2
         have L2_b := V2_b.lt
         have N2_b := Nat.ne_of_gt L2_b
         have M2_b := Nat.ne_of_lt L2_b
         have V2_r : M.Var w2 (w.heap.size + 1 + 1) #[.int .i64 0, .int .i64 0, .int .i64 0] := M.Var.mono (b := w.heap.size + 1 + 1) (cs := #[.int .i64 0, .int .i64 0, .int .i64 0]) (by (repeat (first | (with_reducible assumption) | (with_reducible apply M.var_setV) | (with_reducible apply M.var_setI) | (with_reducible apply M.var_setB) | (with_reducible apply M.var_setHt) | (with_reducible apply M.var_setBd) | (with_reducible apply M.var_set2) | (with_reducible apply M.var_set3) | (with_reducible apply M.var_set4) | (with_reducible apply M.var_set45) | (with_reducible apply M.var_set67) | (with_reducible apply M.var_setF) | (with_reducible refine M.var_alloc' _ _ _ ?_; first | rfl | (focus (simp [go_sem]; done))) | (with_reducible refine M.Var.alloc ?_ _) | (with_reducible refine M.Var.drewN ?_ _) | (with_reducible refine M.Var.drew ?_) | (with_reducible refine M.Var.far ?_ _ _ ?hFar; case hFar => (first | omega | ((try simp [go_sem]) <;> omega))) | fail))) hb
         have q2_r_0 : w2.cell? ⟨w.heap.size + 1 + 1, 0, none⟩ = some (.int .i64 0) := V2_r.c 0 _ rfl
         have q2_r_1 : w2.cell? ⟨w.heap.size + 1 + 1, 1, none⟩ = some (.int .i64 0) := V2_r.c 1 _ rfl
         have q2_r_2 : w2.cell? ⟨w.heap.size + 1 + 1, 2, none⟩ = some (.int .i64 0) := V2_r.c 2 _ rfl
         have f2_r := V2_r.2.2
         have L2_r := V2_r.lt
         have N2_r := Nat.ne_of_gt L2_r
         have M2_r := Nat.ne_of_lt L2_r
         try (refine M.opt (T := M.Var w2 (w.heap.size + 1 + 1 + 1) #[.int .i64 0, .int .i64 0]) ?_ ?_; refine M.Var.mono (b := w.heap.size + 1 + 1 + 1) (cs := #[.int .i64 0, .int .i64 0]) ?_ hb; (repeat (first | (with_reducible assumption) | (with_reducible apply M.var_setV) | (with_reducible apply M.var_setI) | (with_reducible apply M.var_setB) | (with_reducible apply M.var_setHt) | (with_reducible apply M.var_setBd) | (with_reducible apply M.var_set2) | (with_reducible apply M.var_set3) | (with_reducible apply M.var_set4) | (with_reducible apply M.var_set45) | (with_reducible apply M.var_set67) | (with_reducible apply M.var_setF) | (with_reducible refine M.var_alloc' _ _ _ ?_; first | rfl | (focus (simp [go_sem]; done))) | (with_reducible refine M.Var.alloc ?_ _) | (with_reducible refine M.Var.drewN ?_ _) | (with_reducible refine M.Var.drew ?_) | (with_reducible refine M.Var.far ?_ _ _ ?hFar; case hFar => (first | omega | ((try simp [go_sem]) <;> omega))) | fail)); intro V2_n0; have q2_n0_0 : w2.cell? ⟨w.heap.size + 1 + 1 + 1, 0, none⟩ = some (.int .i64 0) := V2_n0.c 0 _ rfl; have q2_n0_1 : w2.cell? ⟨w.heap.size + 1 + 1 + 1, 1, none⟩ = some (.int .i64 0) := V2_n0.c 1 _ rfl; have f2_n0 := V2_n0.2.2; have L2_n0 := V2_n0.lt; have N2_n0 := Nat.ne_of_gt L2_n0; have M2_n0 := Nat.ne_of_lt L2_n0)
         try (refine M.opt (T := M.Var w2 (w1.heap.size) #[.int .i64 0, .int .i64 0]) ?_ ?_; refine M.Var.mono (b := w1.heap.size) (cs := #[.int .i64 0, .int .i64 0]) ?_ hb; (repeat (first | (with_reducible assumption) | (with_reducible apply M.var_setV) | (with_reducible apply M.var_setI) | (with_reducible apply M.var_setB) | (with_reducible apply M.var_setHt) | (with_reducible apply M.var_setBd) | (with_reducible apply M.var_set2) | (with_reducible apply M.var_set3) | (with_reducible apply M.var_set4) | (with_reducible apply M.var_set45) | (with_reducible apply M.var_set67) | (with_reducible apply M.var_setF) | (with_reducible refine M.var_alloc' _ _ _ ?_; first | rfl | (focus (simp [go_sem]; done))) | (with_reducible refine M.Var.alloc ?_ _) | (with_reducible refine M.Var.drewN ?_ _) | (with_reducible refine M.Var.drew ?_) | (with_reducible refine M.Var.far ?_ _ _ ?hFar; case hFar => (first | omega | ((try simp [go_sem]) <;> omega))) | fail)); intro V2_n1; have q2_n1_0 : w2.cell? ⟨w1.heap.size, 0, none⟩ = some (.int .i64 0) := V2_n1.c 0 _ rfl; have q2_n1_1 : w2.cell? ⟨w1.heap.size, 1, none⟩ = some (.int .i64 0) := V2_n1.c 1 _ rfl; have f2_n1 := V2_n1.2.2; have L2_n1 := V2_n1.lt; have N2_n1 := Nat.ne_of_gt L2_n1; have M2_n1 := Nat.ne_of_lt L2_n1)
         try (refine M.opt (T := M.Var w2 (w2.heap.size) #[.int .i64 0, .int .i64 0]) ?_ ?_; refine M.Var.mono (b := w2.heap.size) (cs := #[.int .i64 0, .int .i64 0]) ?_ hb; (repeat (first | (with_reducible assumption) | (with_reducible apply M.var_setV) | (with_reducible apply M.var_setI) | (with_reducible apply M.var_setB) | (with_reducible apply M.var_setHt) | (with_reducible apply M.var_setBd) | (with_reducible apply M.var_set2) | (with_reducible apply M.var_set3) | (with_reducible apply M.var_set4) | (with_reducible apply M.var_set45) | (with_reducible apply M.var_set67) | (with_reducible apply M.var_setF) | (with_reducible refine M.var_alloc' _ _ _ ?_; first | rfl | (focus (simp [go_sem]; done))) | (with_reducible refine M.Var.alloc ?_ _) | (with_reducible refine M.Var.drewN ?_ _) | (with_reducible refine M.Var.drew ?_) | (with_reducible refine M.Var.far ?_ _ _ ?hFar; case hFar => (first | omega | ((try simp [go_sem]) <;> omega))) | fail)); intro V2_n2; have q2_n2_0 : w2.cell? ⟨w2.heap.size, 0, none⟩ = some (.int .i64 0) := V2_n2.c 0 _ rfl; have q2_n2_1 : w2.cell? ⟨w2.heap.size, 1, none⟩ = some (.int .i64 0) := V2_n2.c 1 _ rfl; have f2_n2 := V2_n2.2.2; have L2_n2 := V2_n2.lt; have N2_n2 := Nat.ne_of_gt L2_n2; have M2_n2 := Nat.ne_of_lt L2_n2)
         try (refine M.opt (T := M.Var w2 (w3.heap.size) #[.int .i64 0, .int .i64 0]) ?_ ?_; refine M.Var.mono (b := w3.heap.size) (cs := #[.int .i64 0, .int .i64 0]) ?_ hb; (repeat (first | (with_reducible assumption) | (with_reducible apply M.var_setV) | (with_reducible apply M.var_setI) | (with_reducible apply M.var_setB) | (with_reducible apply M.var_setHt) | (with_reducible apply M.var_setBd) | (with_reducible apply M.var_set2) | (with_reducible apply M.var_set3) | (with_reducible apply M.var_set4) | (with_reducible apply M.var_set45) | (with_reducible apply M.var_set67) | (with_reducible apply M.var_setF) | (with_reducible refine M.var_alloc' _ _ _ ?_; first | rfl | (focus (simp [go_sem]; done))) | (with_reducible refine M.Var.alloc ?_ _) | (with_reducible refine M.Var.drewN ?_ _) | (with_reducible refine M.Var.drew ?_) | (with_reducible refine M.Var.far ?_ _ _ ?hFar; case hFar => (first | omega | ((try simp [go_sem]) <;> omega))) | fail)); intro V2_n3; have q2_n3_0 : w2.cell? ⟨w3.heap.size, 0, none⟩ = some (.int .i64 0) := V2_n3.c 0 _ rfl; have q2_n3_1 : w2.cell? ⟨w3.heap.size, 1, none⟩ = some (.int .i64 0) := V2_n3.c 1 _ rfl; have f2_n3 := V2_n3.2.2; have L2_n3 := V2_n3.lt; have N2_n3 := Nat.ne_of_gt L2_n3; have M2_n3 := Nat.ne_of_lt L2_n3)
         clear V1_a f1_a q1_a_0 q1_a_1 q1_a_2 q1_a_3 q1_a_4 q1_a_5 q1_a_6 q1_a_7 V1_b f1_b q1_b_0 q1_b_1 q1_b_2 q1_b_3 q1_b_4 q1_b_5 q1_b_6 q1_b_7 V1_r f1_r q1_r_0 q1_r_1 q1_r_2
         try clear V1_n0
         try clear f1_n0
         try clear q1_n0_0
         try clear q1_n0_1
         try clear V1_n1
         try clear f1_n1
         try clear q1_n1_0
         try clear q1_n1_1
         try clear V1_n2
         try clear f1_n2
         try clear q1_n2_0
         try clear q1_n2_1
         try clear V1_n3
         try clear f1_n3
         try clear q1_n3_0
         try clear q1_n3_1
         have S2 := G2.size
         have HG2 := Lib.hid G2; clear G2 hb)
      | (go_at_call 73; refine ((C3.out _ _ _ _ (clamp_i64 ha.px ie.lx ie.hx) (clamp_i64 ha.py ie.ly ie.hy) ha.px ha.py) _).mono ?_; rintro en w3 ⟨ho, hb⟩
         have G3 : Below w.heap.size w w3 := Below.trans (by have G := HG2.out; (repeat (with_reducible refine M.Below.drewN ?_ _)); go_grown) (hb.mono (by go_size))
         have V3_a : M.Var w3 (w.heap.size) #[.int .i64 a.shape, .int .i64 a.sx, .int .i64 a.sy, .int .i64 a.mass, .int .i64 a.px, .int .i64 a.py, .int .i64 a.mx, .int .i64 a.my] := M.Var.mono (b := w.heap.size) (cs := #[.int .i64 a.shape, .int .i64 a.sx, .int .i64 a.sy, .int .i64 a.mass, .int .i64 a.px, .int .i64 a.py, .int .i64 a.mx, .int .i64 a.my]) (by (repeat (first | (with_reducible assumption) | (with_reducible apply M.var_setV) | (with_reducible apply M.var_setI) | (with_reducible apply M.var_setB) | (with_reducible apply M.var_setHt) | (with_reducible apply M.var_setBd) | (with_reducible apply M.var_set2) | (with_reducible apply M.var_set3) | (with_reducible apply M.var_set4) | (with_reducible apply M.var_set45) | (with_reducible apply M.var_set67) | (with_reducible apply M.var_setF) | (with_reducible refine M.var_alloc' _ _ _ ?_; first | rfl | (focus (simp [go_sem]; done))) | (with_reducible refine M.Var.alloc ?_ _) | (with_reducible refine M.Var.drewN ?_ _) | (with_reducible refine M.Var.drew ?_) | (with_reducible refine M.Var.far ?_ _ _ ?hFar; case hFar => (first | omega | ((try simp [go_sem]) <;> omega))) | fail))) hb
         have q3_a_0 : w3.cell? ⟨w.heap.size, 0, none⟩ = some (.int .i64 a.shape) := V3_a.c 0 _ rfl
         have q3_a_1 : w3.cell? ⟨w.heap.size, 1, none⟩ = some (.int .i64 a.sx) := V3_a.c 1 _ rfl
         have q3_a_2 : w3.cell? ⟨w.heap.size, 2, none⟩ = some (.int .i64 a.sy) := V3_a.c 2 _ rfl
         have q3_a_3 : w3.cell? ⟨w.heap.size, 3, none⟩ = some (.int .i64 a.mass) := V3_a.c 3 _ rfl
         have q3_a_4 : w3.cell? ⟨w.heap.size, 4, none⟩ = some (.int .i64 a.px) := V3_a.c 4 _ rfl
         have q3_a_5 : w3.cell? ⟨w.heap.size, 5, none⟩ = some (.int .i64 a.py) := V3_a.c 5 _ rfl
         have q3_a_6 : w3.cell? ⟨w.heap.size, 6, none⟩ = some (.int .i64 a.mx) := V3_a.c 6 _ rfl
         have q3_a_7 : w3.cell? ⟨w.heap.size, 7, none⟩ = some (.int .i64 a.my) := V3_a.c 7 _ rfl
         have f3_a := V3_a.2.2
         have L3_a := V3_a.lt
         have N3_a := Nat.ne_of_gt L3_a
         have M3_a := Nat.ne_of_lt L3_a
         have V3_b : M.Var w3 (w.heap.size + 1) #[.int .i64 b.shape, .int .i64 b.sx, .int .i64 b.sy, .int .i64 b.mass, .int .i64 b.px, .int .i64 b.py, .int .i64 b.mx, .int .i64 b.my] := M.Var.mono (b := w.heap.size + 1) (cs := #[.int .i64 b.shape, .int .i64 b.sx, .int .i64 b.sy, .int .i64 b.mass, .int .i64 b.px, .int .i64 b.py, .int .i64 b.mx, .int .i64 b.my]) (by (repeat (first | (with_reducible assumption) | (with_reducible apply M.var_setV) | (with_reducible apply M.var_setI) | (with_reducible apply M.var_setB) | (with_reducible apply M.var_setHt) | (with_reducible apply M.var_setBd) | (with_reducible apply M.var_set2) | (with_reducible apply M.var_set3) | (with_reducible apply M.var_set4) | (with_reducible apply M.var_set45) | (with_reducible apply M.var_set67) | (with_reducible apply M.var_setF) | (with_reducible refine M.var_alloc' _ _ _ ?_; first | rfl | (focus (simp [go_sem]; done))) | (with_reducible refine M.Var.alloc ?_ _) | (with_reducible refine M.Var.drewN ?_ _) | (with_reducible refine M.Var.drew ?_) | (with_reducible refine M.Var.far ?_ _ _ ?hFar; case hFar => (first | omega | ((try simp [go_sem]) <;> omega))) | fail))) hb
         have q3_b_0 : w3.cell? ⟨w.heap.size + 1, 0, none⟩ = some (.int .i64 b.shape) := V3_b.c 0 _ rfl
         have q3_b_1 : w3.cell? ⟨w.heap.size + 1, 1, none⟩ = some (.int .i64 b.sx) := V3_b.c 1 _ rfl
         have q3_b_2 : w3.cell? ⟨w.heap.size + 1, 2, none⟩ = some (.int .i64 b.sy) := V3_b.c 2 _ rfl
         have q3_b_3 : w3.cell? ⟨w.heap.size + 1, 3, none⟩ = some (.int .i64 b.mass) := V3_b.c 3 _ rfl
         have q3_b_4 : w3.cell? ⟨w.heap.size + 1, 4, none⟩ = some (.int .i64 b.px) := V3_b.c 4 _ rfl
         have q3_b_5 : w3.cell? ⟨w.heap.size + 1, 5, none⟩ = some (.int .i64 b.py) := V3_b.c 5 _ rfl
         have q3_b_6 : w3.cell? ⟨w.heap.size + 1, 6, none⟩ = some (.int .i64 b.mx) := V3_b.c 6 _ rfl
         have q3_b_7 : w3.cell? ⟨w.heap.size + 1, 7, none⟩ = some (.int .i64 b.my) := V3_b.c 7 _ rfl
         have f3_b := V3_b.2.2
         have L3_b := V3_b.lt
         have N3_b := Nat.ne_of_gt L3_b
         have M3_b := Nat.ne_of_lt L3_b
         have V3_r : M.Var w3 (w.heap.size + 1 + 1) #[.int .i64 0, .int .i64 0, .int .i64 0] := M.Var.mono (b := w.heap.size + 1 + 1) (cs := #[.int .i64 0, .int .i64 0, .int .i64 0]) (by (repeat (first | (with_reducible assumption) | (with_reducible apply M.var_setV) | (with_reducible apply M.var_setI) | (with_reducible apply M.var_setB) | (with_reducible apply M.var_setHt) | (with_reducible apply M.var_setBd) | (with_reducible apply M.var_set2) | (with_reducible apply M.var_set3) | (with_reducible apply M.var_set4) | (with_reducible apply M.var_set45) | (with_reducible apply M.var_set67) | (with_reducible apply M.var_setF) | (with_reducible refine M.var_alloc' _ _ _ ?_; first | rfl | (focus (simp [go_sem]; done))) | (with_reducible refine M.Var.alloc ?_ _) | (with_reducible refine M.Var.drewN ?_ _) | (with_reducible refine M.Var.drew ?_) | (with_reducible refine M.Var.far ?_ _ _ ?hFar; case hFar => (first | omega | ((try simp [go_sem]) <;> omega))) | fail))) hb
         have q3_r_0 : w3.cell? ⟨w.heap.size + 1 + 1, 0, none⟩ = some (.int .i64 0) := V3_r.c 0 _ rfl
         have q3_r_1 : w3.cell? ⟨w.heap.size + 1 + 1, 1, none⟩ = some (.int .i64 0) := V3_r.c 1 _ rfl
         have q3_r_2 : w3.cell? ⟨w.heap.size + 1 + 1, 2, none⟩ = some (.int .i64 0) := V3_r.c 2 _ rfl
         have f3_r := V3_r.2.2
         have L3_r := V3_r.lt
         have N3_r := Nat.ne_of_gt L3_r
         have M3_r := Nat.ne_of_lt L3_r
         try (refine M.opt (T := M.Var w3 (w.heap.size + 1 + 1 + 1) #[.int .i64 0, .int .i64 0]) ?_ ?_; refine M.Var.mono (b := w.heap.size + 1 + 1 + 1) (cs := #[.int .i64 0, .int .i64 0]) ?_ hb; (repeat (first | (with_reducible assumption) | (with_reducible apply M.var_setV) | (with_reducible apply M.var_setI) | (with_reducible apply M.var_setB) | (with_reducible apply M.var_setHt) | (with_reducible apply M.var_setBd) | (with_reducible apply M.var_set2) | (with_reducible apply M.var_set3) | (with_reducible apply M.var_set4) | (with_reducible apply M.var_set45) | (with_reducible apply M.var_set67) | (with_reducible apply M.var_setF) | (with_reducible refine M.var_alloc' _ _ _ ?_; first | rfl | (focus (simp [go_sem]; done))) | (with_reducible refine M.Var.alloc ?_ _) | (with_reducible refine M.Var.drewN ?_ _) | (with_reducible refine M.Var.drew ?_) | (with_reducible refine M.Var.far ?_ _ _ ?hFar; case hFar => (first | omega | ((try simp [go_sem]) <;> omega))) | fail)); intro V3_n0; have q3_n0_0 : w3.cell? ⟨w.heap.size + 1 + 1 + 1, 0, none⟩ = some (.int .i64 0) := V3_n0.c 0 _ rfl; have q3_n0_1 : w3.cell? ⟨w.heap.size + 1 + 1 + 1, 1, none⟩ = some (.int .i64 0) := V3_n0.c 1 _ rfl; have f3_n0 := V3_n0.2.2; have L3_n0 := V3_n0.lt; have N3_n0 := Nat.ne_of_gt L3_n0; have M3_n0 := Nat.ne_of_lt L3_n0)
         try (refine M.opt (T := M.Var w3 (w1.heap.size) #[.int .i64 0, .int .i64 0]) ?_ ?_; refine M.Var.mono (b := w1.heap.size) (cs := #[.int .i64 0, .int .i64 0]) ?_ hb; (repeat (first | (with_reducible assumption) | (with_reducible apply M.var_setV) | (with_reducible apply M.var_setI) | (with_reducible apply M.var_setB) | (with_reducible apply M.var_setHt) | (with_reducible apply M.var_setBd) | (with_reducible apply M.var_set2) | (with_reducible apply M.var_set3) | (with_reducible apply M.var_set4) | (with_reducible apply M.var_set45) | (with_reducible apply M.var_set67) | (with_reducible apply M.var_setF) | (with_reducible refine M.var_alloc' _ _ _ ?_; first | rfl | (focus (simp [go_sem]; done))) | (with_reducible refine M.Var.alloc ?_ _) | (with_reducible refine M.Var.drewN ?_ _) | (with_reducible refine M.Var.drew ?_) | (with_reducible refine M.Var.far ?_ _ _ ?hFar; case hFar => (first | omega | ((try simp [go_sem]) <;> omega))) | fail)); intro V3_n1; have q3_n1_0 : w3.cell? ⟨w1.heap.size, 0, none⟩ = some (.int .i64 0) := V3_n1.c 0 _ rfl; have q3_n1_1 : w3.cell? ⟨w1.heap.size, 1, none⟩ = some (.int .i64 0) := V3_n1.c 1 _ rfl; have f3_n1 := V3_n1.2.2; have L3_n1 := V3_n1.lt; have N3_n1 := Nat.ne_of_gt L3_n1; have M3_n1 := Nat.ne_of_lt L3_n1)
         try (refine M.opt (T := M.Var w3 (w2.heap.size) #[.int .i64 0, .int .i64 0]) ?_ ?_; refine M.Var.mono (b := w2.heap.size) (cs := #[.int .i64 0, .int .i64 0]) ?_ hb; (repeat (first | (with_reducible assumption) | (with_reducible apply M.var_setV) | (with_reducible apply M.var_setI) | (with_reducible apply M.var_setB) | (with_reducible apply M.var_setHt) | (with_reducible apply M.var_setBd) | (with_reducible apply M.var_set2) | (with_reducible apply M.var_set3) | (with_reducible apply M.var_set4) | (with_reducible apply M.var_set45) | (with_reducible apply M.var_set67) | (with_reducible apply M.var_setF) | (with_reducible refine M.var_alloc' _ _ _ ?_; first | rfl | (focus (simp [go_sem]; done))) | (with_reducible refine M.Var.alloc ?_ _) | (with_reducible refine M.Var.drewN ?_ _) | (with_reducible refine M.Var.drew ?_) | (with_reducible refine M.Var.far ?_ _ _ ?hFar; case hFar => (first | omega | ((try simp [go_sem]) <;> omega))) | fail)); intro V3_n2; have q3_n2_0 : w3.cell? ⟨w2.heap.size, 0, none⟩ = some (.int .i64 0) := V3_n2.c 0 _ rfl; have q3_n2_1 : w3.cell? ⟨w2.heap.size, 1, none⟩ = some (.int .i64 0) := V3_n2.c 1 _ rfl; have f3_n2 := V3_n2.2.2; have L3_n2 := V3_n2.lt; have N3_n2 := Nat.ne_of_gt L3_n2; have M3_n2 := Nat.ne_of_lt L3_n2)
         try (refine M.opt (T := M.Var w3 (w3.heap.size) #[.int .i64 0, .int .i64 0]) ?_ ?_; refine M.Var.mono (b := w3.heap.size) (cs := #[.int .i64 0, .int .i64 0]) ?_ hb; (repeat (first | (with_reducible assumption) | (with_reducible apply M.var_setV) | (with_reducible apply M.var_setI) | (with_reducible apply M.var_setB) | (with_reducible apply M.var_setHt) | (with_reducible apply M.var_setBd) | (with_reducible apply M.var_set2) | (with_reducible apply M.var_set3) | (with_reducible apply M.var_set4) | (with_reducible apply M.var_set45) | (with_reducible apply M.var_set67) | (with_reducible apply M.var_setF) | (with_reducible refine M.var_alloc' _ _ _ ?_; first | rfl | (focus (simp [go_sem]; done))) | (with_reducible refine M.Var.alloc ?_ _) | (with_reducible refine M.Var.drewN ?_ _) | (with_reducible refine M.Var.drew ?_) | (with_reducible refine M.Var.far ?_ _ _ ?hFar; case hFar => (first | omega | ((try simp [go_sem]) <;> omega))) | fail)); intro V3_n3; have q3_n3_0 : w3.cell? ⟨w3.heap.size, 0, none⟩ = some (.int .i64 0) := V3_n3.c 0 _ rfl; have q3_n3_1 : w3.cell? ⟨w3.heap.size, 1, none⟩ = some (.int .i64 0) := V3_n3.c 1 _ rfl; have f3_n3 := V3_n3.2.2; have L3_n3 := V3_n3.lt; have N3_n3 := Nat.ne_of_gt L3_n3; have M3_n3 := Nat.ne_of_lt L3_n3)
         clear V2_a f2_a q2_a_0 q2_a_1 q2_a_2 q2_a_3 q2_a_4 q2_a_5 q2_a_6 q2_a_7 V2_b f2_b q2_b_0 q2_b_1 q2_b_2 q2_b_3 q2_b_4 q2_b_5 q2_b_6 q2_b_7 V2_r f2_r q2_r_0 q2_r_1 q2_r_2
         try clear V2_n0
         try clear f2_n0
         try clear q2_n0_0
         try clear q2_n0_1
         try clear V2_n1
         try clear f2_n1
         try clear q2_n1_0
         try clear q2_n1_1
         try clear V2_n2
         try clear f2_n2
         try clear q2_n2_0
         try clear q2_n2_1
         try clear V2_n3
         try clear f2_n3
         try clear q2_n3_0
         try clear q2_n3_1
         have S3 := G3.size
         have HG3 := Lib.hid G3; clear G3 hb
         rcases ho with ⟨n3, hn3, hz3, rfl⟩ | ⟨dx, dy, hd, idx, idy, rfl⟩
         · exact ⟨rfl, .inl ⟨n3, by unfold bothX Bd.pos clampV; simp only [Hhe.out, hn3, andThen_ok, andThen_err], hz3, rfl⟩, HG3.out⟩
         have Hhd := Lib.hid hd; clear hd)
      | (go_at_call 76; refine ((C4.out _ _ idx idy) _).mono ?_; rintro en w4 ⟨ho, hb⟩
         have G4 : Below w.heap.size w w4 := Below.trans (by have G := HG3.out; (repeat (with_reducible refine M.Below.drewN ?_ _)); go_grown) (hb.mono (by go_size))
         have V4_a : M.Var w4 (w.heap.size) #[.int .i64 a.shape, .int .i64 a.sx, .int .i64 a.sy, .int .i64 a.mass, .int .i64 a.px, .int .i64 a.py, .int .i64 a.mx, .int .i64 a.my] := M.Var.mono (b := w.heap.size) (cs := #[.int .i64 a.shape, .int .i64 a.sx, .int .i64 a.sy, .int .i64 a.mass, .int .i64 a.px, .int .i64 a.py, .int .i64 a.mx, .int .i64 a.my]) (by (repeat (first | (with_reducible assumption) | (with_reducible apply M.var_setV) | (with_reducible apply M.var_setI) | (with_reducible apply M.var_setB) | (with_reducible apply M.var_setHt) | (with_reducible apply M.var_setBd) | (with_reducible apply M.var_set2) | (with_reducible apply M.var_set3) | (with_reducible apply M.var_set4) | (with_reducible apply M.var_set45) | (with_reducible apply M.var_set67) | (with_reducible apply M.var_setF) | (with_reducible refine M.var_alloc' _ _ _ ?_; first | rfl | (focus (simp [go_sem]; done))) | (with_reducible refine M.Var.alloc ?_ _) | (with_reducible refine M.Var.drewN ?_ _) | (with_reducible refine M.Var.drew ?_) | (with_reducible refine M.Var.far ?_ _ _ ?hFar; case hFar => (first | omega | ((try simp [go_sem]) <;> omega))) | fail))) hb
         have q4_a_0 : w4.cell? ⟨w.heap.size, 0, none⟩ = some (.int .i64 a.shape) := V4_a.c 0 _ rfl
         have q4_a_1 : w4.cell? ⟨w.heap.size, 1, none⟩ = some (.int .i64 a.sx) := V4_a.c 1 _ rfl
         have q4_a_2 : w4.cell? ⟨w.heap.size, 2, none⟩ = some (.int .i64 a.sy) := V4_a.c 2 _ rfl
         have q4_a_3 : w4.cell? ⟨w.heap.size, 3, none⟩ = some (.int .i64 a.mass) := V4_a.c 3 _ rfl
         have q4_a_4 : w4.cell? ⟨w.heap.size, 4, none⟩ = some (.int .i64 a.px) := V4_a.c 4 _ rfl
         have q4_a_5 : w4.cell? ⟨w.heap.size, 5, none⟩ = some (.int .i64 a.py) := V4_a.c 5 _ rfl
         have q4_a_6 : w4.cell? ⟨w.heap.size, 6, none⟩ = some (.int .i64 a.mx) := V4_a.c 6 _ rfl
         have q4_a_7 : w4.cell? ⟨w.heap.size, 7, none⟩ = some (.int .i64 a.my) := V4_a.c 7 _ rfl
         have f4_a := V4_a.2.2
         have L4_a := V4_a.lt
         have N4_a := Nat.ne_of_gt L4_a
         have M4_a := Nat.ne_of_lt L4_a
         have V4_b : M.Var w4 (w.heap.size + 1) #[.int .i64 b.shape, .int .i64 b.sx, .int .i64 b.sy, .int .i64 b.mass, .int .i64 b.px, .int .i64 b.py, .int .i64 b.mx, .int .i64 b.my] := M.Var.mono (b := w.heap.size + 1) (cs := #[.int .i64 b.shape, .int .i64 b.sx, .int .i64 b.sy, .int .i64 b.mass, .int .i64 b.px, .int .i64 b.py, .int .i64 b.mx, .int .i64 b.my]) (by (repeat (first | (with_reducible assumption) | (with_reducible apply M.var_setV) | (with_reducible apply M.var_setI) | (with_reducible apply M.var_setB) | (with_reducible apply M.var_setHt) | (with_reducible apply M.var_setBd) | (with_reducible apply M.var_set2) | (with_reducible apply M.var_set3) | (with_reducible apply M.var_set4) | (with_reducible apply M.var_set45) | (with_reducible apply M.var_set67) | (with_reducible apply M.var_setF) | (with_reducible refine M.var_alloc' _ _ _ ?_; first | rfl | (focus (simp [go_sem]; done))) | (with_reducible refine M.Var.alloc ?_ _) | (with_reducible refine M.Var.drewN ?_ _) | (with_reducible refine M.Var.drew ?_) | (with_reducible refine M.Var.far ?_ _ _ ?hFar; case hFar => (first | omega | ((try simp [go_sem]) <;> omega))) | fail))) hb
         have q4_b_0 : w4.cell? ⟨w.heap.size + 1, 0, none⟩ = some (.int .i64 b.shape) := V4_b.c 0 _ rfl
         have q4_b_1 : w4.cell? ⟨w.heap.size + 1, 1, none⟩ = some (.int .i64 b.sx) := V4_b.c 1 _ rfl
         have q4_b_2 : w4.cell? ⟨w.heap.size + 1, 2, none⟩ = some (.int .i64 b.sy) := V4_b.c 2 _ rfl
         have q4_b_3 : w4.cell? ⟨w.heap.size + 1, 3, none⟩ = some (.int .i64 b.mass) := V4_b.c 3 _ rfl
         have q4_b_4 : w4.cell? ⟨w.heap.size + 1, 4, none⟩ = some (.int .i64 b.px) := V4_b.c 4 _ rfl
         have q4_b_5 : w4.cell? ⟨w.heap.size + 1, 5, none⟩ = some (.int .i64 b.py) := V4_b.c 5 _ rfl
         have q4_b_6 : w4.cell? ⟨w.heap.size + 1, 6, none⟩ = some (.int .i64 b.mx) := V4_b.c 6 _ rfl
         have q4_b_7 : w4.cell? ⟨w.heap.size + 1, 7, none⟩ = some (.int .i64 b.my) := V4_b.c 7 _ rfl
         have f4_b := V4_b.2.2
         have L4_b := V4_b.lt
         have N4_b := Nat.ne_of_gt L4_b
         have M4_b := Nat.ne_of_lt L4_b
         have V4_r : M.Var w4 (w.heap.size + 1 + 1) #[.int .i64 0, .int .i64 0, .int .i64 0] := M.Var.mono (b := w.heap.size + 1 + 1) (cs := #[.int .i64 0, .int .i64 0, .int .i64 0]) (by (repeat (first | (with_reducible assumption) | (with_reducible apply M.var_setV) | (with_reducible apply M.var_setI) | (with_reducible apply M.var_setB) | (with_reducible apply M.var_setHt) | (with_reducible apply M.var_setBd) | (with_reducible apply M.var_set2) | (with_reducible apply M.var_set3) | (with_reducible apply M.var_set4) | (with_reducible apply M.var_set45) | (with_reducible apply M.var_set67) | (with_reducible apply M.var_setF) | (with_reducible refine M.var_alloc' _ _ _ ?_; first | rfl | (focus (simp [go_sem]; done))) | (with_reducible refine M.Var.alloc ?_ _) | (with_reducible refine M.Var.drewN ?_ _) | (with_reducible refine M.Var.drew ?_) | (with_reducible refine M.Var.far ?_ _ _ ?hFar; case hFar => (first | omega | ((try simp [go_sem]) <;> omega))) | fail))) hb
         have q4_r_0 : w4.cell? ⟨w.heap.size + 1 + 1, 0, none⟩ = some (.int .i64 0) := V4_r.c 0 _ rfl
         have q4_r_1 : w4.cell? ⟨w.heap.size + 1 + 1, 1, none⟩ = some (.int .i64 0) := V4_r.c 1 _ rfl
         have q4_r_2 : w4.cell? ⟨w.heap.size + 1 + 1, 2, none⟩ = some (.int .i64 0) := V4_r.c 2 _ rfl
         have f4_r := V4_r.2.2
         have L4_r := V4_r.lt
         have N4_r := Nat.ne_of_gt L4_r
         have M4_r := Nat.ne_of_lt L4_r
         try (refine M.opt (T := M.Var w4 (w.heap.size + 1 + 1 + 1) #[.int .i64 0, .int .i64 0]) ?_ ?_; refine M.Var.mono (b := w.heap.size + 1 + 1 + 1) (cs := #[.int .i64 0, .int .i64 0]) ?_ hb; (repeat (first | (with_reducible assumption) | (with_reducible apply M.var_setV) | (with_reducible apply M.var_setI) | (with_reducible apply M.var_setB) | (with_reducible apply M.var_setHt) | (with_reducible apply M.var_setBd) | (with_reducible apply M.var_set2) | (with_reducible apply M.var_set3) | (with_reducible apply M.var_set4) | (with_reducible apply M.var_set45) | (with_reducible apply M.var_set67) | (with_reducible apply M.var_setF) | (with_reducible refine M.var_alloc' _ _ _ ?_; first | rfl | (focus (simp [go_sem]; done))) | (with_reducible refine M.Var.alloc ?_ _) | (with_reducible refine M.Var.drewN ?_ _) | (with_reducible refine M.Var.drew ?_) | (with_reducible refine M.Var.far ?_ _ _ ?hFar; case hFar => (first | omega | ((try simp [go_sem]) <;> omega))) | fail)); intro V4_n0; have q4_n0_0 : w4.cell? ⟨w.heap.size + 1 + 1 + 1, 0, none⟩ = some (.int .i64 0) := V4_n0.c 0 _ rfl; have q4_n0_1 : w4.cell? ⟨w.heap.size + 1 + 1 + 1, 1, none⟩ = some (.int .i64 0) := V4_n0.c 1 _ rfl; have f4_n0 := V4_n0.2.2; have L4_n0 := V4_n0.lt; have N4_n0 := Nat.ne_of_gt L4_n0; have M4_n0 := Nat.ne_of_lt L4_n0)
         try (refine M.opt (T := M.Var w4 (w1.heap.size) #[.int .i64 0, .int .i64 0]) ?_ ?_; refine M.Var.mono (b := w1.heap.size) (cs := #[.int .i64 0, .int .i64 0]) ?_ hb; (repeat (first | (with_reducible assumption) | (with_reducible apply M.var_setV) | (with_reducible apply M.var_setI) | (with_reducible apply M.var_setB) | (with_reducible apply M.var_setHt) | (with_reducible apply M.var_setBd) | (with_reducible apply M.var_set2) | (with_reducible apply M.var_set3) | (with_reducible apply M.var_set4) | (with_reducible apply M.var_set45) | (with_reducible apply M.var_set67) | (with_reducible apply M.var_setF) | (with_reducible refine M.var_alloc' _ _ _ ?_; first | rfl | (focus (simp [go_sem]; done))) | (with_reducible refine M.Var.alloc ?_ _) | (with_reducible refine M.Var.drewN ?_ _) | (with_reducible refine M.Var.drew ?_) | (with_reducible refine M.Var.far ?_ _ _ ?hFar; case hFar => (first | omega | ((try simp [go_sem]) <;> omega))) | fail)); intro V4_n1; have q4_n1_0 : w4.cell? ⟨w1.heap.size, 0, none⟩ = some (.int .i64 0) := V4_n1.c 0 _ rfl; have q4_n1_1 : w4.cell? ⟨w1.heap.size, 1, none⟩ = some (.int .i64 0) := V4_n1.c 1 _ rfl; have f4_n1 := V4_n1.2.2; have L4_n1 := V4_n1.lt; have N4_n1 := Nat.ne_of_gt L4_n1; have M4_n1 := Nat.ne_of_lt L4_n1)
         try (refine M.opt (T := M.Var w4 (w2.heap.size) #[.int .i64 0, .int .i64 0]) ?_ ?_; refine M.Var.mono (b := w2.heap.size) (cs := #[.int .i64 0, .int .i64 0]) ?_ hb; (repeat (first | (with_reducible assumption) | (with_reducible apply M.var_setV) | (with_reducible apply M.var_setI) | (with_reducible apply M.var_setB) | (with_reducible apply M.var_setHt) | (with_reducible apply M.var_setBd) | (with_reducible apply M.var_set2) | (with_reducible apply M.var_set3) | (with_reducible apply M.var_set4) | (with_reducible apply M.var_set45) | (with_reducible apply M.var_set67) | (with_reducible apply M.var_setF) | (with_reducible refine M.var_alloc' _ _ _ ?_; first | rfl | (focus (simp [go_sem]; done))) | (with_reducible refine M.Var.alloc ?_ _) | (with_reducible refine M.Var.drewN ?_ _) | (with_reducible refine M.Var.drew ?_) | (with_reducible refine M.Var.far ?_ _ _ ?hFar; case hFar => (first | omega | ((try simp [go_sem]) <;> omega))) | fail)); intro V4_n2; have q4_n2_0 : w4.cell? ⟨w2.heap.size, 0, none⟩ = some (.int .i64 0) := V4_n2.c 0 _ rfl; have q4_n2_1 : w4.cell? ⟨w2.heap.size, 1, none⟩ = some (.int .i64 0) := V4_n2.c 1 _ rfl; have f4_n2 := V4_n2.2.2; have L4_n2 := V4_n2.lt; have N4_n2 := Nat.ne_of_gt L4_n2; have M4_n2 := Nat.ne_of_lt L4_n2)
         try (refine M.opt (T := M.Var w4 (w3.heap.size) #[.int .i64 0, .int .i64 0]) ?_ ?_; refine M.Var.mono (b := w3.heap.size) (cs := #[.int .i64 0, .int .i64 0]) ?_ hb; (repeat (first | (with_reducible assumption) | (with_reducible apply M.var_setV) | (with_reducible apply M.var_setI) | (with_reducible apply M.var_setB) | (with_reducible apply M.var_setHt) | (with_reducible apply M.var_setBd) | (with_reducible apply M.var_set2) | (with_reducible apply M.var_set3) | (with_reducible apply M.var_set4) | (with_reducible apply M.var_set45) | (with_reducible apply M.var_set67) | (with_reducible apply M.var_setF) | (with_reducible refine M.var_alloc' _ _ _ ?_; first | rfl | (focus (simp [go_sem]; done))) | (with_reducible refine M.Var.alloc ?_ _) | (with_reducible refine M.Var.drewN ?_ _) | (with_reducible refine M.Var.drew ?_) | (with_reducible refine M.Var.far ?_ _ _ ?hFar; case hFar => (first | omega | ((try simp [go_sem]) <;> omega))) | fail)); intro V4_n3; have q4_n3_0 : w4.cell? ⟨w3.heap.size, 0, none⟩ = some (.int .i64 0) := V4_n3.c 0 _ rfl; have q4_n3_1 : w4.cell? ⟨w3.heap.size, 1, none⟩ = some (.int .i64 0) := V4_n3.c 1 _ rfl; have f4_n3 := V4_n3.2.2; have L4_n3 := V4_n3.lt; have N4_n3 := Nat.ne_of_gt L4_n3; have M4_n3 := Nat.ne_of_lt L4_n3)
         clear V3_a f3_a q3_a_0 q3_a_1 q3_a_2 q3_a_3 q3_a_4 q3_a_5 q3_a_6 q3_a_7 V3_b f3_b q3_b_0 q3_b_1 q3_b_2 q3_b_3 q3_b_4 q3_b_5 q3_b_6 q3_b_7 V3_r f3_r q3_r_0 q3_r_1 q3_r_2
         try clear V3_n0
         try clear f3_n0
         try clear q3_n0_0
         try clear q3_n0_1
         try clear V3_n1
         try clear f3_n1
         try clear q3_n1_0
         try clear q3_n1_1
         try clear V3_n2
         try clear f3_n2
         try clear q3_n2_0
         try clear q3_n2_1
         try clear V3_n3
         try clear f3_n3
         try clear q3_n3_0
         try clear q3_n3_1
         have S4 := G4.size
         have HG4 := Lib.hid G4; clear G4 hb
         rcases ho with ⟨n4, hn4, hz4, rfl⟩ | ⟨ux, uy, l, hu, iux, iuy, il, rfl⟩
         · exact ⟨rfl, .inl ⟨n4, by unfold bothX Bd.pos clampV; simp only [Hhe.out, Hhd.out, hn4, andThen_ok, andThen_err], hz4, rfl⟩, HG4.out⟩
         have Hhu := Lib.hid hu; clear hu)
      )
    all_goals
      go_wp2_with (with_reducible refine M.stopPost ?_)
      go_meet
      case rel => exact ⟨_, e, dx, dy, ux, uy, l, rfl, rfl, Lib.hid ⟨Hhe.out, Hhd.out, Hhu.out⟩, iux, iuy, il, Lib.hid (by have G := HG4.out; (repeat (with_reducible refine M.Below.drewN ?_ _)); go_grown), by omega, by (repeat (first | (with_reducible assumption) | (with_reducible apply M.var_setV) | (with_reducible apply M.var_setI) | (with_reducible apply M.var_setB) | (with_reducible apply M.var_setHt) | (with_reducible apply M.var_setBd) | (with_reducible apply M.var_set2) | (with_reducible apply M.var_set3) | (with_reducible apply M.var_set4) | (with_reducible apply M.var_set45) | (with_reducible apply M.var_set67) | (with_reducible apply M.var_setF) | (with_reducible refine M.var_alloc' _ _ _ ?_; first | rfl | (focus (simp [go_sem]; done))) | (with_reducible refine M.Var.alloc ?_ _) | (with_reducible refine M.Var.drewN ?_ _) | (with_reducible refine M.Var.drew ?_) | (with_reducible refine M.Var.far ?_ _ _ ?hFar; case hFar => (first | omega | ((try simp [go_sem]) <;> omega))) | fail)), by (repeat (first | (with_reducible assumption) | (with_reducible apply M.var_setV) | (with_reducible apply M.var_setI) | (with_reducible apply M.var_setB) | (with_reducible apply M.var_setHt) | (with_reducible apply M.var_setBd) | (with_reducible apply M.var_set2) | (with_reducible apply M.var_set3) | (with_reducible apply M.var_set4) | (with_reducible apply M.var_set45) | (with_reducible apply M.var_set67) | (with_reducible apply M.var_setF) | (with_reducible refine M.var_alloc' _ _ _ ?_; first | rfl | (focus (simp [go_sem]; done))) | (with_reducible refine M.Var.alloc ?_ _) | (with_reducible refine M.Var.drewN ?_ _) | (with_reducible refine M.Var.drew ?_) | (with_reducible refine M.Var.far ?_ _ _ ?hFar; case hFar => (first | omega | ((try simp [go_sem]) <;> omega))) | fail)), by (repeat (first | (with_reducible assumption) | (with_reducible apply M.var_setV) | (with_reducible apply M.var_setI) | (with_reducible apply M.var_setB) | (with_reducible apply M.var_setHt) | (with_reducible apply M.var_setBd) | (with_reducible apply M.var_set2) | (with_reducible apply M.var_set3) | (with_reducible apply M.var_set4) | (with_reducible apply M.var_set45) | (with_reducible apply M.var_set67) | (with_reducible apply M.var_setF) | (with_reducible refine M.var_alloc' _ _ _ ?_; first | rfl | (focus (simp [go_sem]; done))) | (with_reducible refine M.Var.alloc ?_ _) | (with_reducible refine M.Var.drewN ?_ _) | (with_reducible refine M.Var.drew ?_) | (with_reducible refine M.Var.far ?_ _ _ ?hFar; case hFar => (first | omega | ((try simp [go_sem]) <;> omega))) | fail)), by (repeat (first | (with_reducible assumption) | (with_reducible apply M.var_setV) | (with_reducible apply M.var_setI) | (with_reducible apply M.var_setB) | (with_reducible apply M.var_setHt) | (with_reducible apply M.var_setBd) | (with_reducible apply M.var_set2) | (with_reducible apply M.var_set3) | (with_reducible apply M.var_set4) | (with_reducible apply M.var_set45) | (with_reducible apply M.var_set67) | (with_reducible apply M.var_setF) | (with_reducible refine M.var_alloc' _ _ _ ?_; first | rfl | (focus (simp [go_sem]; done))) | (with_reducible refine M.Var.alloc ?_ _) | (with_reducible refine M.Var.drewN ?_ _) | (with_reducible refine M.Var.drew ?_) | (with_reducible refine M.Var.far ?_ _ _ ?hFar; case hFar => (first | omega | ((try simp [go_sem]) <;> omega))) | fail))⟩
  case rest =>
    obtain ⟨g, e, dx, dy, ux, uy, l, rfl, rfl, hf, iux, iuy, il, HGc, hg, Vc_n, Vc_a, Vc_b, Vc_r⟩ := hcut
    obtain ⟨he, hd, hu⟩ := hf.out
    have Hhe := Lib.hid he; have Hhd := Lib.hid hd; have Hhu := Lib.hid hu
    clear he hd hu hf
    have y1 : g ≠ w.heap.size := by omega
    have y2 : g ≠ w.heap.size + 1 := by omega
    have y3 : g ≠ w.heap.size + 1 + 1 := by omega
    have y7 : w.heap.size + 1 + 1 ≠ w.heap.size := by omega
    have y8 : w.heap.size + 1 ≠ w.heap.size := by omega
    have y4 := Ne.symm y1; have y5 := Ne.symm y2; have y6 := Ne.symm y3
    have qc_n_0 : wc.cell? ⟨g, 0, none⟩ = some (.int .i64 ux) := Vc_n.c 0 _ rfl
    have qc_n_1 : wc.cell? ⟨g, 1, none⟩ = some (.int .i64 uy) := Vc_n.c 1 _ rfl
    have fc_n := Vc_n.2.2; have Lc_n := Vc_n.lt; have Nc_n := Nat.ne_of_gt Lc_n; have Mc_n := Nat.ne_of_lt Lc_n
    have qc_a_0 : wc.cell? ⟨w.heap.size, 0, none⟩ = some (.int .i64 a.shape) := Vc_a.c 0 _ rfl
    have qc_a_1 : wc.cell? ⟨w.heap.size, 1, none⟩ = some (.int .i64 a.sx) := Vc_a.c 1 _ rfl
    have qc_a_2 : wc.cell? ⟨w.heap.size, 2, none⟩ = some (.int .i64 a.sy) := Vc_a.c 2 _ rfl
    have qc_a_3 : wc.cell? ⟨w.heap.size, 3, none⟩ = some (.int .i64 a.mass) := Vc_a.c 3 _ rfl
    have qc_a_4 : wc.cell? ⟨w.heap.size, 4, none⟩ = some (.int .i64 a.px) := Vc_a.c 4 _ rfl
    have qc_a_5 : wc.cell? ⟨w.heap.size, 5, none⟩ = some (.int .i64 a.py) := Vc_a.c 5 _ rfl
    have qc_a_6 : wc.cell? ⟨w.heap.size, 6, none⟩ = some (.int .i64 a.mx) := Vc_a.c 6 _ rfl
    have qc_a_7 : wc.cell? ⟨w.heap.size, 7, none⟩ = some (.int .i64 a.my) := Vc_a.c 7 _ rfl
    have fc_a := Vc_a.2.2; have Lc_a := Vc_a.lt; have Nc_a := Nat.ne_of_gt Lc_a; have Mc_a := Nat.ne_of_lt Lc_a
    have qc_b_0 : wc.cell? ⟨w.heap.size + 1, 0, none⟩ = some (.int .i64 b.shape) := Vc_b.c 0 _ rfl
    have qc_b_1 : wc.cell? ⟨w.heap.size + 1, 1, none⟩ = some (.int .i64 b.sx) := Vc_b.c 1 _ rfl
    have qc_b_2 : wc.cell? ⟨w.heap.size + 1, 2, none⟩ = some (.int .i64 b.sy) := Vc_b.c 2 _ rfl
    have qc_b_3 : wc.cell? ⟨w.heap.size + 1, 3, none⟩ = some (.int .i64 b.mass) := Vc_b.c 3 _ rfl
    have qc_b_4 : wc.cell? ⟨w.heap.size + 1, 4, none⟩ = some (.int .i64 b.px) := Vc_b.c 4 _ rfl
    have qc_b_5 : wc.cell? ⟨w.heap.size + 1, 5, none⟩ = some (.int .i64 b.py) := Vc_b.c 5 _ rfl
    have qc_b_6 : wc.cell? ⟨w.heap.size + 1, 6, none⟩ = some (.int .i64 b.mx) := Vc_b.c 6 _ rfl
    have qc_b_7 : wc.cell? ⟨w.heap.size + 1, 7, none⟩ = some (.int .i64 b.my) := Vc_b.c 7 _ rfl
    have fc_b := Vc_b.2.2; have Lc_b := Vc_b.lt; have Nc_b := Nat.ne_of_gt Lc_b; have Mc_b := Nat.ne_of_lt Lc_b
    have qc_r_0 : wc.cell? ⟨w.heap.size + 1 + 1, 0, none⟩ = some (.int .i64 0) := Vc_r.c 0 _ rfl
    have qc_r_1 : wc.cell? ⟨w.heap.size + 1 + 1, 1, none⟩ = some (.int .i64 0) := Vc_r.c 1 _ rfl
    have qc_r_2 : wc.cell? ⟨w.heap.size + 1 + 1, 2, none⟩ = some (.int .i64 0) := Vc_r.c 2 _ rfl
    have fc_r := Vc_r.2.2; have Lc_r := Vc_r.lt; have Nc_r := Nat.ne_of_gt Lc_r; have Mc_r := Nat.ne_of_lt Lc_r
    go_wp2_with (with_reducible refine M.stopPost ?_)
    · obtain rfl : l = 0 := beq_iff_eq.1 (by assumption)
      (with_reducible refine (C5.out _).mono ?_); rintro en w5 ⟨ho, hb⟩
      have G5 : Below w.heap.size w w5 := Below.trans (by have G := HGc.out; (repeat (with_reducible refine M.Below.drewN ?_ _)); go_grown) (hb.mono (by go_size))
      have V5_a : M.Var w5 (w.heap.size) #[.int .i64 a.shape, .int .i64 a.sx, .int .i64 a.sx, .int .i64 a.mass, .int .i64 a.px, .int .i64 a.py, .int .i64 a.mx, .int .i64 a.my] := M.Var.mono (b := w.heap.size) (cs := #[.int .i64 a.shape, .int .i64 a.sx, .int .i64 a.sx, .int .i64 a.mass, .int .i64 a.px, .int .i64 a.py, .int .i64 a.mx, .int .i64 a.my]) (by (repeat (first | (with_reducible assumption) | (with_reducible apply M.var_setV) | (with_reducible apply M.var_setI) | (with_reducible apply M.var_setB) | (with_reducible apply M.var_setHt) | (with_reducible apply M.var_setBd) | (with_reducible apply M.var_set2) | (with_reducible apply M.var_set3) | (with_reducible apply M.var_set4) | (with_reducible apply M.var_set45) | (with_reducible apply M.var_set67) | (with_reducible apply M.var_setF) | (with_reducible refine M.var_alloc' _ _ _ ?_; first | rfl | (focus (simp [go_sem]; done))) | (with_reducible refine M.Var.alloc ?_ _) | (with_reducible refine M.Var.drewN ?_ _) | (with_reducible refine M.Var.drew ?_) | (with_reducible refine M.Var.far ?_ _ _ ?hFar; case hFar => (first | omega | ((try simp [go_sem]) <;> omega))) | fail))) hb
      have q5_a_0 : w5.cell? ⟨w.heap.size, 0, none⟩ = some (.int .i64 a.shape) := V5_a.c 0 _ rfl
      have q5_a_1 : w5.cell? ⟨w.heap.size, 1, none⟩ = some (.int .i64 a.sx) := V5_a.c 1 _ rfl
      have q5_a_2 : w5.cell? ⟨w.heap.size, 2, none⟩ = some (.int .i64 a.sx) := V5_a.c 2 _ rfl
      have q5_a_3 : w5.cell? ⟨w.heap.size, 3, none⟩ = some (.int .i64 a.mass) := V5_a.c 3 _ rfl
      have q5_a_4 : w5.cell? ⟨w.heap.size, 4, none⟩ = some (.int .i64 a.px) := V5_a.c 4 _ rfl
      have q5_a_5 : w5.cell? ⟨w.heap.size, 5, none⟩ = some (.int .i64 a.py) := V5_a.c 5 _ rfl
      have q5_a_6 : w5.cell? ⟨w.heap.size, 6, none⟩ = some (.int .i64 a.mx) := V5_a.c 6 _ rfl
      have q5_a_7 : w5.cell? ⟨w.heap.size, 7, none⟩ = some (.int .i64 a.my) := V5_a.c 7 _ rfl
      have f5_a := V5_a.2.2
      have L5_a := V5_a.lt
      have N5_a := Nat.ne_of_gt L5_a
      have M5_a := Nat.ne_of_lt L5_a
      have V5_b : M.Var w5 (w.heap.size + 1) #[.int .i64 b.shape, .int .i64 b.sx, .int .i64 b.sy, .int .i64 b.mass, .int .i64 b.px, .int .i64 b.py, .int .i64 b.mx, .int .i64 b.my] := M.Var.mono (b := w.heap.size + 1) (cs := #[.int .i64 b.shape, .int .i64 b.sx, .int .i64 b.sy, .int .i64 b.mass, .int .i64 b.px, .int .i64 b.py, .int .i64 b.mx, .int .i64 b.my]) (by (repeat (first | (with_reducible assumption) | (with_reducible apply M.var_setV) | (with_reducible apply M.var_setI) | (with_reducible apply M.var_setB) | (with_reducible apply M.var_setHt) | (with_reducible apply M.var_setBd) | (with_reducible apply M.var_set2) | (with_reducible apply M.var_set3) | (with_reducible apply M.var_set4) | (with_reducible apply M.var_set45) | (with_reducible apply M.var_set67) | (with_reducible apply M.var_setF) | (with_reducible refine M.var_alloc' _ _ _ ?_; first | rfl | (focus (simp [go_sem]; done))) | (with_reducible refine M.Var.alloc ?_ _) | (with_reducible refine M.Var.drewN ?_ _) | (with_reducible refine M.Var.drew ?_) | (with_reducible refine M.Var.far ?_ _ _ ?hFar; case hFar => (first | omega | ((try simp [go_sem]) <;> omega))) | fail))) hb
      have q5_b_0 : w5.cell? ⟨w.heap.size + 1, 0, none⟩ = some (.int .i64 b.shape) := V5_b.c 0 _ rfl
      have q5_b_1 : w5.cell? ⟨w.heap.size + 1, 1, none⟩ = some (.int .i64 b.sx) := V5_b.c 1 _ rfl
      have q5_b_2 : w5.cell? ⟨w.heap.size + 1, 2, none⟩ = some (.int .i64 b.sy) := V5_b.c 2 _ rfl
      have q5_b_3 : w5.cell? ⟨w.heap.size + 1, 3, none⟩ = some (.int .i64 b.mass) := V5_b.c 3 _ rfl
      have q5_b_4 : w5.cell? ⟨w.heap.size + 1, 4, none⟩ = some (.int .i64 b.px) := V5_b.c 4 _ rfl
      have q5_b_5 : w5.cell? ⟨w.heap.size + 1, 5, none⟩ = some (.int .i64 b.py) := V5_b.c 5 _ rfl
      have q5_b_6 : w5.cell? ⟨w.heap.size + 1, 6, none⟩ = some (.int .i64 b.mx) := V5_b.c 6 _ rfl
      have q5_b_7 : w5.cell? ⟨w.heap.size + 1, 7, none⟩ = some (.int .i64 b.my) := V5_b.c 7 _ rfl
      have f5_b := V5_b.2.2
      have L5_b := V5_b.lt
      have N5_b := Nat.ne_of_gt L5_b
      have M5_b := Nat.ne_of_lt L5_b
      have V5_r : M.Var w5 (w.heap.size + 1 + 1) #[.int .i64 0, .int .i64 0, .int .i64 0] := M.Var.mono (b := w.heap.size + 1 + 1) (cs := #[.int .i64 0, .int .i64 0, .int .i64 0]) (by (repeat (first | (with_reducible assumption) | (with_reducible apply M.var_setV) | (with_reducible apply M.var_setI) | (with_reducible apply M.var_setB) | (with_reducible apply M.var_setHt) | (with_reducible apply M.var_setBd) | (with_reducible apply M.var_set2) | (with_reducible apply M.var_set3) | (with_reducible apply M.var_set4) | (with_reducible apply M.var_set45) | (with_reducible apply M.var_set67) | (with_reducible apply M.var_setF) | (with_reducible refine M.var_alloc' _ _ _ ?_; first | rfl | (focus (simp [go_sem]; done))) | (with_reducible refine M.Var.alloc ?_ _) | (with_reducible refine M.Var.drewN ?_ _) | (with_reducible refine M.Var.drew ?_) | (with_reducible refine M.Var.far ?_ _ _ ?hFar; case hFar => (first | omega | ((try simp [go_sem]) <;> omega))) | fail))) hb
      have q5_r_0 : w5.cell? ⟨w.heap.size + 1 + 1, 0, none⟩ = some (.int .i64 0) := V5_r.c 0 _ rfl
      have q5_r_1 : w5.cell? ⟨w.heap.size + 1 + 1, 1, none⟩ = some (.int .i64 0) := V5_r.c 1 _ rfl
      have q5_r_2 : w5.cell? ⟨w.heap.size + 1 + 1, 2, none⟩ = some (.int .i64 0) := V5_r.c 2 _ rfl
      have f5_r := V5_r.2.2
      have L5_r := V5_r.lt
      have N5_r := Nat.ne_of_gt L5_r
      have M5_r := Nat.ne_of_lt L5_r
      have V5_n : M.Var w5 (g) #[.int .i64 ux, .int .i64 uy] := M.Var.mono (b := g) (cs := #[.int .i64 ux, .int .i64 uy]) (by (repeat (first | (with_reducible assumption) | (with_reducible apply M.var_setV) | (with_reducible apply M.var_setI) | (with_reducible apply M.var_setB) | (with_reducible apply M.var_setHt) | (with_reducible apply M.var_setBd) | (with_reducible apply M.var_set2) | (with_reducible apply M.var_set3) | (with_reducible apply M.var_set4) | (with_reducible apply M.var_set45) | (with_reducible apply M.var_set67) | (with_reducible apply M.var_setF) | (with_reducible refine M.var_alloc' _ _ _ ?_; first | rfl | (focus (simp [go_sem]; done))) | (with_reducible refine M.Var.alloc ?_ _) | (with_reducible refine M.Var.drewN ?_ _) | (with_reducible refine M.Var.drew ?_) | (with_reducible refine M.Var.far ?_ _ _ ?hFar; case hFar => (first | omega | ((try simp [go_sem]) <;> omega))) | fail))) hb
      have q5_n_0 : w5.cell? ⟨g, 0, none⟩ = some (.int .i64 ux) := V5_n.c 0 _ rfl
      have q5_n_1 : w5.cell? ⟨g, 1, none⟩ = some (.int .i64 uy) := V5_n.c 1 _ rfl
      have f5_n := V5_n.2.2
      have L5_n := V5_n.lt
      have N5_n := Nat.ne_of_gt L5_n
      have M5_n := Nat.ne_of_lt L5_n
      have S5 := G5.size
      have HG5 := Lib.hid G5; clear G5 hb
      rcases ho with ⟨n5, hn5, hz5, rfl⟩ | ⟨q, t, hq, iq, rfl⟩
      · exact ⟨rfl, .inl ⟨n5, by unfold bothX Bd.pos clampV; simp only [Hhe.out, Hhd.out, Hhu.out, if_true, hn5, andThen_ok, andThen_err], hz5, rfl⟩, HG5.out⟩
      have Hhq := Lib.hid hq; clear hq
      go_wp2_with (with_reducible refine M.stopPost ?_)
      all_goals (try refine M.Stop.mk ?_)
      all_goals refine bodyPost_ret (v := .tuple #[.agg #[.int .i64 q.nx, .int .i64 q.ny, .int .i64 q.d], .bool t]) (by first | (simp [results, Try.results62, go_sem, q5_r_0, q5_r_1, q5_r_2, f5_r, L5_r, N5_r, M5_r]; done) | (simp [results, Try.results62, go_sem, *]; done)) rfl ⟨.inr ⟨q, t, by unfold bothX Bd.pos clampV; simp only [Hhe.out, Hhd.out, Hhu.out, if_true, Hhq.out, andThen_ok, andThen_err], iq, rfl⟩, by have G := HG5.out; (repeat (with_reducible refine M.Below.drewN ?_ _)); go_grown⟩
    · have h0 : ¬ l = 0 := beq_eq_false_iff_ne.1 (by assumption)
      go_region_held2 (fun w' => w'.cell? ⟨g, 0, none⟩ = some (.int .i64 ux) ∧ w'.cell? ⟨g, 1, none⟩ = some (.int .i64 uy) ∧ w'.cell? ⟨w.heap.size, 1, none⟩ = some (.int .i64 a.sx)) (go_keep)
        (first
        | (go_at_call 70; refine ((C6.out _ il) _).mono ?_; rintro en w' ⟨⟨n6, hn6, hz6, rfl⟩ | ⟨k, hk, ik, rfl⟩, d6, rfl⟩
           · exact ⟨rfl, .inl ⟨n6, by unfold bothX Bd.pos clampV; simp only [Hhe.out, Hhd.out, Hhu.out, if_neg h0, hn6, andThen_ok, andThen_err], hz6, rfl⟩, by have G := HGc.out; (repeat (with_reducible refine M.Below.drewN ?_ _)); go_grown⟩
           have Hhk := Lib.hid hk; clear hk)
        | (go_at_call 100; refine ((C7.out _ _ _ iux iuy ik) _).mono ?_; rintro en w7 ⟨⟨q, t, hq, iq, rfl⟩, hb⟩
           have G7 : Below w.heap.size w w7 := Below.trans (by have G := HGc.out; (repeat (with_reducible refine M.Below.drewN ?_ _)); go_grown) (hb.mono (by go_size))
           have V7_a : M.Var w7 (w.heap.size) #[.int .i64 a.shape, .int .i64 a.sx, .int .i64 a.sy, .int .i64 a.mass, .int .i64 a.px, .int .i64 a.py, .int .i64 a.mx, .int .i64 a.my] := M.Var.mono (b := w.heap.size) (cs := #[.int .i64 a.shape, .int .i64 a.sx, .int .i64 a.sy, .int .i64 a.mass, .int .i64 a.px, .int .i64 a.py, .int .i64 a.mx, .int .i64 a.my]) (by (repeat (first | (with_reducible assumption) | (with_reducible apply M.var_setV) | (with_reducible apply M.var_setI) | (with_reducible apply M.var_setB) | (with_reducible apply M.var_setHt) | (with_reducible apply M.var_setBd) | (with_reducible apply M.var_set2) | (with_reducible apply M.var_set3) | (with_reducible apply M.var_set4) | (with_reducible apply M.var_set45) | (with_reducible apply M.var_set67) | (with_reducible apply M.var_setF) | (with_reducible refine M.var_alloc' _ _ _ ?_; first | rfl | (focus (simp [go_sem]; done))) | (with_reducible refine M.Var.alloc ?_ _) | (with_reducible refine M.Var.drewN ?_ _) | (with_reducible refine M.Var.drew ?_) | (with_reducible refine M.Var.far ?_ _ _ ?hFar; case hFar => (first | omega | ((try simp [go_sem]) <;> omega))) | fail))) hb
           have q7_a_0 : w7.cell? ⟨w.heap.size, 0, none⟩ = some (.int .i64 a.shape) := V7_a.c 0 _ rfl
           have q7_a_1 : w7.cell? ⟨w.heap.size, 1, none⟩ = some (.int .i64 a.sx) := V7_a.c 1 _ rfl
           have q7_a_2 : w7.cell? ⟨w.heap.size, 2, none⟩ = some (.int .i64 a.sy) := V7_a.c 2 _ rfl
           have q7_a_3 : w7.cell? ⟨w.heap.size, 3, none⟩ = some (.int .i64 a.mass) := V7_a.c 3 _ rfl
           have q7_a_4 : w7.cell? ⟨w.heap.size, 4, none⟩ = some (.int .i64 a.px) := V7_a.c 4 _ rfl
           have q7_a_5 : w7.cell? ⟨w.heap.size, 5, none⟩ = some (.int .i64 a.py) := V7_a.c 5 _ rfl
           have q7_a_6 : w7.cell? ⟨w.heap.size, 6, none⟩ = some (.int .i64 a.mx) := V7_a.c 6 _ rfl
           have q7_a_7 : w7.cell? ⟨w.heap.size, 7, none⟩ = some (.int .i64 a.my) := V7_a.c 7 _ rfl
           have f7_a := V7_a.2.2
           have L7_a := V7_a.lt
           have N7_a := Nat.ne_of_gt L7_a
           have M7_a := Nat.ne_of_lt L7_a
           have V7_b : M.Var w7 (w.heap.size + 1) #[.int .i64 b.shape, .int .i64 b.sx, .int .i64 b.sy, .int .i64 b.mass, .int .i64 b.px, .int .i64 b.py, .int .i64 b.mx, .int .i64 b.my] := M.Var.mono (b := w.heap.size + 1) (cs := #[.int .i64 b.shape, .int .i64 b.sx, .int .i64 b.sy, .int .i64 b.mass, .int .i64 b.px, .int .i64 b.py, .int .i64 b.mx, .int .i64 b.my]) (by (repeat (first | (with_reducible assumption) | (with_reducible apply M.var_setV) | (with_reducible apply M.var_setI) | (with_reducible apply M.var_setB) | (with_reducible apply M.var_setHt) | (with_reducible apply M.var_setBd) | (with_reducible apply M.var_set2) | (with_reducible apply M.var_set3) | (with_reducible apply M.var_set4) | (with_reducible apply M.var_set45) | (with_reducible apply M.var_set67) | (with_reducible apply M.var_setF) | (with_reducible refine M.var_alloc' _ _ _ ?_; first | rfl | (focus (simp [go_sem]; done))) | (with_reducible refine M.Var.alloc ?_ _) | (with_reducible refine M.Var.drewN ?_ _) | (with_reducible refine M.Var.drew ?_) | (with_reducible refine M.Var.far ?_ _ _ ?hFar; case hFar => (first | omega | ((try simp [go_sem]) <;> omega))) | fail))) hb
           have q7_b_0 : w7.cell? ⟨w.heap.size + 1, 0, none⟩ = some (.int .i64 b.shape) := V7_b.c 0 _ rfl
           have q7_b_1 : w7.cell? ⟨w.heap.size + 1, 1, none⟩ = some (.int .i64 b.sx) := V7_b.c 1 _ rfl
           have q7_b_2 : w7.cell? ⟨w.heap.size + 1, 2, none⟩ = some (.int .i64 b.sy) := V7_b.c 2 _ rfl
           have q7_b_3 : w7.cell? ⟨w.heap.size + 1, 3, none⟩ = some (.int .i64 b.mass) := V7_b.c 3 _ rfl
           have q7_b_4 : w7.cell? ⟨w.heap.size + 1, 4, none⟩ = some (.int .i64 b.px) := V7_b.c 4 _ rfl
           have q7_b_5 : w7.cell? ⟨w.heap.size + 1, 5, none⟩ = some (.int .i64 b.py) := V7_b.c 5 _ rfl
           have q7_b_6 : w7.cell? ⟨w.heap.size + 1, 6, none⟩ = some (.int .i64 b.mx) := V7_b.c 6 _ rfl
           have q7_b_7 : w7.cell? ⟨w.heap.size + 1, 7, none⟩ = some (.int .i64 b.my) := V7_b.c 7 _ rfl
           have f7_b := V7_b.2.2
           have L7_b := V7_b.lt
           have N7_b := Nat.ne_of_gt L7_b
           have M7_b := Nat.ne_of_lt L7_b
           have V7_r : M.Var w7 (w.heap.size + 1 + 1) #[.int .i64 0, .int .i64 0, .int .i64 0] := M.Var.mono (b := w.heap.size + 1 + 1) (cs := #[.int .i64 0, .int .i64 0, .int .i64 0]) (by (repeat (first | (with_reducible assumption) | (with_reducible apply M.var_setV) | (with_reducible apply M.var_setI) | (with_reducible apply M.var_setB) | (with_reducible apply M.var_setHt) | (with_reducible apply M.var_setBd) | (with_reducible apply M.var_set2) | (with_reducible apply M.var_set3) | (with_reducible apply M.var_set4) | (with_reducible apply M.var_set45) | (with_reducible apply M.var_set67) | (with_reducible apply M.var_setF) | (with_reducible refine M.var_alloc' _ _ _ ?_; first | rfl | (focus (simp [go_sem]; done))) | (with_reducible refine M.Var.alloc ?_ _) | (with_reducible refine M.Var.drewN ?_ _) | (with_reducible refine M.Var.drew ?_) | (with_reducible refine M.Var.far ?_ _ _ ?hFar; case hFar => (first | omega | ((try simp [go_sem]) <;> omega))) | fail))) hb
           have q7_r_0 : w7.cell? ⟨w.heap.size + 1 + 1, 0, none⟩ = some (.int .i64 0) := V7_r.c 0 _ rfl
           have q7_r_1 : w7.cell? ⟨w.heap.size + 1 + 1, 1, none⟩ = some (.int .i64 0) := V7_r.c 1 _ rfl
           have q7_r_2 : w7.cell? ⟨w.heap.size + 1 + 1, 2, none⟩ = some (.int .i64 0) := V7_r.c 2 _ rfl
           have f7_r := V7_r.2.2
           have L7_r := V7_r.lt
           have N7_r := Nat.ne_of_gt L7_r
           have M7_r := Nat.ne_of_lt L7_r
           have V7_n : M.Var w7 (g) #[.int .i64 ux, .int .i64 uy] := M.Var.mono (b := g) (cs := #[.int .i64 ux, .int .i64 uy]) (by (repeat (first | (with_reducible assumption) | (with_reducible apply M.var_setV) | (with_reducible apply M.var_setI) | (with_reducible apply M.var_setB) | (with_reducible apply M.var_setHt) | (with_reducible apply M.var_setBd) | (with_reducible apply M.var_set2) | (with_reducible apply M.var_set3) | (with_reducible apply M.var_set4) | (with_reducible apply M.var_set45) | (with_reducible apply M.var_set67) | (with_reducible apply M.var_setF) | (with_reducible refine M.var_alloc' _ _ _ ?_; first | rfl | (focus (simp [go_sem]; done))) | (with_reducible refine M.Var.alloc ?_ _) | (with_reducible refine M.Var.drewN ?_ _) | (with_reducible refine M.Var.drew ?_) | (with_reducible refine M.Var.far ?_ _ _ ?hFar; case hFar => (first | omega | ((try simp [go_sem]) <;> omega))) | fail))) hb
           have q7_n_0 : w7.cell? ⟨g, 0, none⟩ = some (.int .i64 ux) := V7_n.c 0 _ rfl
           have q7_n_1 : w7.cell? ⟨g, 1, none⟩ = some (.int .i64 uy) := V7_n.c 1 _ rfl
           have f7_n := V7_n.2.2
           have L7_n := V7_n.lt
           have N7_n := Nat.ne_of_gt L7_n
           have M7_n := Nat.ne_of_lt L7_n
           have S7 := G7.size
           have HG7 := Lib.hid G7; clear G7 hb
           have Hhq := Lib.hid hq; clear hq)
        )
      go_wp2_with (with_reducible refine M.stopPost ?_)
      all_goals (try refine M.Stop.mk ?_)
      all_goals refine bodyPost_ret (v := .tuple #[.agg #[.int .i64 q.nx, .int .i64 q.ny, .int .i64 q.d], .bool t]) (by first | (simp [results, Try.results62, go_sem, q7_r_0, q7_r_1, q7_r_2, f7_r, L7_r, N7_r, M7_r]; done) | (simp [results, Try.results62, go_sem, *]; done)) rfl ⟨.inr ⟨q, t, by unfold bothX Bd.pos clampV; simp only [Hhe.out, Hhd.out, Hhu.out, if_neg h0, Hhk.out, Hhq.out, andThen_ok, andThen_err], iq, rfl⟩, by have G := HG7.out; (repeat (with_reducible refine M.Below.drewN ?_ _)); go_grown⟩
end Go.Proofs.Ytcaibieaobhheaa
