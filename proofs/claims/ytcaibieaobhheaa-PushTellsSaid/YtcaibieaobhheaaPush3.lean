/- What push.Contact computes. -/
import Derived.Test.YtcaibieaobhheaaPush1
import Derived.Test.YtcaibieaobhheaaTill
namespace Go.Proofs.Ytcaibieaobhheaa
open Go.RowKit M
set_option maxRecDepth 100000
set_option maxHeartbeats 4000000
set_option linter.unusedVariables false
set_option linter.unusedSimpArgs false
attribute [local go_sem ↓] Go.wp_at_zero Go.wp_at_succ
theorem contact_x (a b : Bd) (h : Ht) (ha : a.ok) (hb : b.ok) (hh : h.ok) (w : World) :
    Calls Try.prog 28 #[.agg #[.int .i64 a.shape, .int .i64 a.sx, .int .i64 a.sy, .int .i64 a.mass, .int .i64 a.px, .int .i64 a.py, .int .i64 a.mx, .int .i64 a.my], .agg #[.int .i64 b.shape, .int .i64 b.sx, .int .i64 b.sy, .int .i64 b.mass, .int .i64 b.px, .int .i64 b.py, .int .i64 b.mx, .int .i64 b.my], .agg #[.int .i64 h.nx, .int .i64 h.ny, .int .i64 h.d]] w fun en w' => OutBB (contactX a b h) en ∧ Bw w w' := by
  have C3 := Lib.hid (bothK_x a b ha hb)
  have C4 := Lib.hid (speedK_x a b h.nx h.ny ha hb hh.nx hh.ny)
  have C5 := Lib.hid calcSub_x
  have C6 := Lib.hid calcMul_x
  have C7 := Lib.hid calcAdd_x
  have C8 := Lib.hid calcDiv_x
  have C9 := Lib.hid vecScale_x
  have CS := Lib.hid vecSub_x
  have CP := Lib.hid vecAdd_x
  have CA := Lib.hid (fun gx gy h1 h2 => apply_x a b gx gy ha hb h1 h2)
  have z : I64 0 := by unfold I64; omega
  have td : ∀ x, I64 x → I64 (x.tdiv 2) ∧ wrap64 (x.tdiv 2) = x.tdiv 2 := fun x hx => by
    have k : I64 (x.tdiv 2) := by have := Int.natAbs_tdiv_le_natAbs x 2; have h0 : x.tdiv 2 = -9223372036854775808 - 0 ∨ True := .inr trivial; have h1 := Int.mul_tdiv_add_tmod x 2; have h2 := Int.tmod_lt_of_pos x (show (0:Int) < 2 by decide); have h3 := Int.lt_tmod_of_pos x (show (0:Int) < 2 by decide); unfold I64 at *; omega
    exact ⟨k, wrap64_id k⟩
  have idd := (td _ hh.d).1
  have edd := (td _ hh.d).2
  have HA := Lib.hid ha; have HB := Lib.hid hb; have HH := Lib.hid hh; have TD := Lib.hid td
  clear td
  go_enter Try.func28, Try.ntmps28
  go_wp2_with (with_reducible refine M.stopPost ?_)
  (with_reducible refine (C3.out _).mono ?_); rintro en w1 ⟨ho, hb⟩
  have G1 : Below w.heap.size w w1 := Below.trans (by (repeat (with_reducible refine M.Below.drewN ?_ _)); go_grown) (hb.mono (by go_size))
  have V1_a : M.Var w1 (w.heap.size) #[.int .i64 a.shape, .int .i64 a.sx, .int .i64 a.sy, .int .i64 a.mass, .int .i64 a.px, .int .i64 a.py, .int .i64 a.mx, .int .i64 a.my] := M.Var.mono (b := w.heap.size) (cs := #[.int .i64 a.shape, .int .i64 a.sx, .int .i64 a.sy, .int .i64 a.mass, .int .i64 a.px, .int .i64 a.py, .int .i64 a.mx, .int .i64 a.my]) (by (repeat (first | (with_reducible assumption) | (with_reducible apply M.var_set45) | (with_reducible apply M.var_setBd) | (with_reducible apply M.var_setV) | (with_reducible refine M.var_alloc' _ _ _ ?_; first | rfl | (focus (simp [go_sem]; done))) | (with_reducible refine M.Var.alloc ?_ _) | (with_reducible refine M.Var.drewN ?_ _) | (with_reducible refine M.Var.drew ?_) | (with_reducible refine M.Var.far ?_ _ _ ?hFar; case hFar => (first | omega | ((try simp [go_sem]) <;> omega))) | fail))) hb
  have q1_a_0 : w1.cell? ⟨w.heap.size, 0, none⟩ = some (.int .i64 a.shape) := V1_a.c 0 _ rfl
  have q1_a_1 : w1.cell? ⟨w.heap.size, 1, none⟩ = some (.int .i64 a.sx) := V1_a.c 1 _ rfl
  have q1_a_2 : w1.cell? ⟨w.heap.size, 2, none⟩ = some (.int .i64 a.sy) := V1_a.c 2 _ rfl
  have q1_a_3 : w1.cell? ⟨w.heap.size, 3, none⟩ = some (.int .i64 a.mass) := V1_a.c 3 _ rfl
  have q1_a_4 : w1.cell? ⟨w.heap.size, 4, none⟩ = some (.int .i64 a.px) := V1_a.c 4 _ rfl
  have q1_a_5 : w1.cell? ⟨w.heap.size, 5, none⟩ = some (.int .i64 a.py) := V1_a.c 5 _ rfl
  have q1_a_6 : w1.cell? ⟨w.heap.size, 6, none⟩ = some (.int .i64 a.mx) := V1_a.c 6 _ rfl
  have q1_a_7 : w1.cell? ⟨w.heap.size, 7, none⟩ = some (.int .i64 a.my) := V1_a.c 7 _ rfl
  have f1_a := V1_a.2.2
  have L1_a := V1_a.lt
  have N1_a := Nat.ne_of_gt L1_a
  have M1_a := Nat.ne_of_lt L1_a
  have V1_b : M.Var w1 (w.heap.size + 1) #[.int .i64 b.shape, .int .i64 b.sx, .int .i64 b.sy, .int .i64 b.mass, .int .i64 b.px, .int .i64 b.py, .int .i64 b.mx, .int .i64 b.my] := M.Var.mono (b := w.heap.size + 1) (cs := #[.int .i64 b.shape, .int .i64 b.sx, .int .i64 b.sy, .int .i64 b.mass, .int .i64 b.px, .int .i64 b.py, .int .i64 b.mx, .int .i64 b.my]) (by (repeat (first | (with_reducible assumption) | (with_reducible apply M.var_set45) | (with_reducible apply M.var_setBd) | (with_reducible apply M.var_setV) | (with_reducible refine M.var_alloc' _ _ _ ?_; first | rfl | (focus (simp [go_sem]; done))) | (with_reducible refine M.Var.alloc ?_ _) | (with_reducible refine M.Var.drewN ?_ _) | (with_reducible refine M.Var.drew ?_) | (with_reducible refine M.Var.far ?_ _ _ ?hFar; case hFar => (first | omega | ((try simp [go_sem]) <;> omega))) | fail))) hb
  have q1_b_0 : w1.cell? ⟨w.heap.size + 1, 0, none⟩ = some (.int .i64 b.shape) := V1_b.c 0 _ rfl
  have q1_b_1 : w1.cell? ⟨w.heap.size + 1, 1, none⟩ = some (.int .i64 b.sx) := V1_b.c 1 _ rfl
  have q1_b_2 : w1.cell? ⟨w.heap.size + 1, 2, none⟩ = some (.int .i64 b.sy) := V1_b.c 2 _ rfl
  have q1_b_3 : w1.cell? ⟨w.heap.size + 1, 3, none⟩ = some (.int .i64 b.mass) := V1_b.c 3 _ rfl
  have q1_b_4 : w1.cell? ⟨w.heap.size + 1, 4, none⟩ = some (.int .i64 b.px) := V1_b.c 4 _ rfl
  have q1_b_5 : w1.cell? ⟨w.heap.size + 1, 5, none⟩ = some (.int .i64 b.py) := V1_b.c 5 _ rfl
  have q1_b_6 : w1.cell? ⟨w.heap.size + 1, 6, none⟩ = some (.int .i64 b.mx) := V1_b.c 6 _ rfl
  have q1_b_7 : w1.cell? ⟨w.heap.size + 1, 7, none⟩ = some (.int .i64 b.my) := V1_b.c 7 _ rfl
  have f1_b := V1_b.2.2
  have L1_b := V1_b.lt
  have N1_b := Nat.ne_of_gt L1_b
  have M1_b := Nat.ne_of_lt L1_b
  have V1_h : M.Var w1 (w.heap.size + 1 + 1) #[.int .i64 h.nx, .int .i64 h.ny, .int .i64 h.d] := M.Var.mono (b := w.heap.size + 1 + 1) (cs := #[.int .i64 h.nx, .int .i64 h.ny, .int .i64 h.d]) (by (repeat (first | (with_reducible assumption) | (with_reducible apply M.var_set45) | (with_reducible apply M.var_setBd) | (with_reducible apply M.var_setV) | (with_reducible refine M.var_alloc' _ _ _ ?_; first | rfl | (focus (simp [go_sem]; done))) | (with_reducible refine M.Var.alloc ?_ _) | (with_reducible refine M.Var.drewN ?_ _) | (with_reducible refine M.Var.drew ?_) | (with_reducible refine M.Var.far ?_ _ _ ?hFar; case hFar => (first | omega | ((try simp [go_sem]) <;> omega))) | fail))) hb
  have q1_h_0 : w1.cell? ⟨w.heap.size + 1 + 1, 0, none⟩ = some (.int .i64 h.nx) := V1_h.c 0 _ rfl
  have q1_h_1 : w1.cell? ⟨w.heap.size + 1 + 1, 1, none⟩ = some (.int .i64 h.ny) := V1_h.c 1 _ rfl
  have q1_h_2 : w1.cell? ⟨w.heap.size + 1 + 1, 2, none⟩ = some (.int .i64 h.d) := V1_h.c 2 _ rfl
  have f1_h := V1_h.2.2
  have L1_h := V1_h.lt
  have N1_h := Nat.ne_of_gt L1_h
  have M1_h := Nat.ne_of_lt L1_h
  have V1_r : M.Var w1 (w.heap.size + 1 + 1 + 1) #[.int .i64 0, .int .i64 0, .int .i64 0, .int .i64 0, .int .i64 0, .int .i64 0, .int .i64 0, .int .i64 0] := M.Var.mono (b := w.heap.size + 1 + 1 + 1) (cs := #[.int .i64 0, .int .i64 0, .int .i64 0, .int .i64 0, .int .i64 0, .int .i64 0, .int .i64 0, .int .i64 0]) (by (repeat (first | (with_reducible assumption) | (with_reducible apply M.var_set45) | (with_reducible apply M.var_setBd) | (with_reducible apply M.var_setV) | (with_reducible refine M.var_alloc' _ _ _ ?_; first | rfl | (focus (simp [go_sem]; done))) | (with_reducible refine M.Var.alloc ?_ _) | (with_reducible refine M.Var.drewN ?_ _) | (with_reducible refine M.Var.drew ?_) | (with_reducible refine M.Var.far ?_ _ _ ?hFar; case hFar => (first | omega | ((try simp [go_sem]) <;> omega))) | fail))) hb
  have q1_r_0 : w1.cell? ⟨w.heap.size + 1 + 1 + 1, 0, none⟩ = some (.int .i64 0) := V1_r.c 0 _ rfl
  have q1_r_1 : w1.cell? ⟨w.heap.size + 1 + 1 + 1, 1, none⟩ = some (.int .i64 0) := V1_r.c 1 _ rfl
  have q1_r_2 : w1.cell? ⟨w.heap.size + 1 + 1 + 1, 2, none⟩ = some (.int .i64 0) := V1_r.c 2 _ rfl
  have q1_r_3 : w1.cell? ⟨w.heap.size + 1 + 1 + 1, 3, none⟩ = some (.int .i64 0) := V1_r.c 3 _ rfl
  have q1_r_4 : w1.cell? ⟨w.heap.size + 1 + 1 + 1, 4, none⟩ = some (.int .i64 0) := V1_r.c 4 _ rfl
  have q1_r_5 : w1.cell? ⟨w.heap.size + 1 + 1 + 1, 5, none⟩ = some (.int .i64 0) := V1_r.c 5 _ rfl
  have q1_r_6 : w1.cell? ⟨w.heap.size + 1 + 1 + 1, 6, none⟩ = some (.int .i64 0) := V1_r.c 6 _ rfl
  have q1_r_7 : w1.cell? ⟨w.heap.size + 1 + 1 + 1, 7, none⟩ = some (.int .i64 0) := V1_r.c 7 _ rfl
  have f1_r := V1_r.2.2
  have L1_r := V1_r.lt
  have N1_r := Nat.ne_of_gt L1_r
  have M1_r := Nat.ne_of_lt L1_r
  have V1_s : M.Var w1 (w.heap.size + 1 + 1 + 1 + 1) #[.int .i64 0, .int .i64 0, .int .i64 0, .int .i64 0, .int .i64 0, .int .i64 0, .int .i64 0, .int .i64 0] := M.Var.mono (b := w.heap.size + 1 + 1 + 1 + 1) (cs := #[.int .i64 0, .int .i64 0, .int .i64 0, .int .i64 0, .int .i64 0, .int .i64 0, .int .i64 0, .int .i64 0]) (by (repeat (first | (with_reducible assumption) | (with_reducible apply M.var_set45) | (with_reducible apply M.var_setBd) | (with_reducible apply M.var_setV) | (with_reducible refine M.var_alloc' _ _ _ ?_; first | rfl | (focus (simp [go_sem]; done))) | (with_reducible refine M.Var.alloc ?_ _) | (with_reducible refine M.Var.drewN ?_ _) | (with_reducible refine M.Var.drew ?_) | (with_reducible refine M.Var.far ?_ _ _ ?hFar; case hFar => (first | omega | ((try simp [go_sem]) <;> omega))) | fail))) hb
  have q1_s_0 : w1.cell? ⟨w.heap.size + 1 + 1 + 1 + 1, 0, none⟩ = some (.int .i64 0) := V1_s.c 0 _ rfl
  have q1_s_1 : w1.cell? ⟨w.heap.size + 1 + 1 + 1 + 1, 1, none⟩ = some (.int .i64 0) := V1_s.c 1 _ rfl
  have q1_s_2 : w1.cell? ⟨w.heap.size + 1 + 1 + 1 + 1, 2, none⟩ = some (.int .i64 0) := V1_s.c 2 _ rfl
  have q1_s_3 : w1.cell? ⟨w.heap.size + 1 + 1 + 1 + 1, 3, none⟩ = some (.int .i64 0) := V1_s.c 3 _ rfl
  have q1_s_4 : w1.cell? ⟨w.heap.size + 1 + 1 + 1 + 1, 4, none⟩ = some (.int .i64 0) := V1_s.c 4 _ rfl
  have q1_s_5 : w1.cell? ⟨w.heap.size + 1 + 1 + 1 + 1, 5, none⟩ = some (.int .i64 0) := V1_s.c 5 _ rfl
  have q1_s_6 : w1.cell? ⟨w.heap.size + 1 + 1 + 1 + 1, 6, none⟩ = some (.int .i64 0) := V1_s.c 6 _ rfl
  have q1_s_7 : w1.cell? ⟨w.heap.size + 1 + 1 + 1 + 1, 7, none⟩ = some (.int .i64 0) := V1_s.c 7 _ rfl
  have f1_s := V1_s.2.2
  have L1_s := V1_s.lt
  have N1_s := Nat.ne_of_gt L1_s
  have M1_s := Nat.ne_of_lt L1_s
  have S1 := G1.size
  have HG1 := Lib.hid G1; clear G1 hb
  rcases ho with ⟨n1, hn1, hz1, rfl⟩ | ⟨k, hk, ik, rfl⟩
  · exact ⟨rfl, .inl ⟨n1, by unfold contactX bounceX partsX Bd.pos; simp only [hn1, andThen_ok, andThen_err], hz1, rfl⟩, HG1.out⟩
  have Hhk := Lib.hid hk; clear hk
  go_wp2_with (with_reducible refine M.stopPost ?_)
  · have h3 : k = 0 := beq_iff_eq.1 (by assumption)
    go_region_held2 (fun w' => w'.cell? ⟨w.heap.size, 0, none⟩ = some (.int .i64 a.shape) ∧ w'.cell? ⟨w.heap.size, 1, none⟩ = some (.int .i64 a.sx) ∧ w'.cell? ⟨w.heap.size, 2, none⟩ = some (.int .i64 a.sy) ∧ w'.cell? ⟨w.heap.size, 3, none⟩ = some (.int .i64 a.mass) ∧ w'.cell? ⟨w.heap.size, 4, none⟩ = some (.int .i64 a.px) ∧ w'.cell? ⟨w.heap.size, 5, none⟩ = some (.int .i64 a.py) ∧ w'.cell? ⟨w.heap.size, 6, none⟩ = some (.int .i64 a.mx) ∧ w'.cell? ⟨w.heap.size, 7, none⟩ = some (.int .i64 a.my) ∧ w'.cell? ⟨w.heap.size + 1, 0, none⟩ = some (.int .i64 b.shape) ∧ w'.cell? ⟨w.heap.size + 1, 1, none⟩ = some (.int .i64 b.sx) ∧ w'.cell? ⟨w.heap.size + 1, 2, none⟩ = some (.int .i64 b.sy) ∧ w'.cell? ⟨w.heap.size + 1, 3, none⟩ = some (.int .i64 b.mass) ∧ w'.cell? ⟨w.heap.size + 1, 4, none⟩ = some (.int .i64 b.px) ∧ w'.cell? ⟨w.heap.size + 1, 5, none⟩ = some (.int .i64 b.py) ∧ w'.cell? ⟨w.heap.size + 1, 6, none⟩ = some (.int .i64 b.mx) ∧ w'.cell? ⟨w.heap.size + 1, 7, none⟩ = some (.int .i64 b.my)) (first | (go_keep; done) | (simp [*, go_sem, World.cell?_alloc_some, World.cell?_setCell_far]; done))
      (fail)
    all_goals go_wp2_with (with_reducible refine M.stopPost ?_)
    all_goals (try refine M.Stop.mk ?_)
    all_goals refine bodyPost_ret (v := .tuple #[.agg #[.int .i64 a.shape, .int .i64 a.sx, .int .i64 a.sy, .int .i64 a.mass, .int .i64 a.px, .int .i64 a.py, .int .i64 a.mx, .int .i64 a.my], .agg #[.int .i64 b.shape, .int .i64 b.sx, .int .i64 b.sy, .int .i64 b.mass, .int .i64 b.px, .int .i64 b.py, .int .i64 b.mx, .int .i64 b.my]]) (by first | (simp [results, Try.results28, go_sem, q1_r_0, q1_r_1, q1_r_2, q1_r_3, q1_r_4, q1_r_5, q1_r_6, q1_r_7, f1_r, L1_r, N1_r, M1_r, q1_s_0, q1_s_1, q1_s_2, q1_s_3, q1_s_4, q1_s_5, q1_s_6, q1_s_7, f1_s, L1_s, N1_s, M1_s]; done) | (simp [results, Try.results28, go_sem, *]; done)) rfl ⟨.inr ⟨a, b, by unfold contactX bounceX partsX Bd.pos; simp only [Hhk.out, if_pos h3, andThen_ok, andThen_err], HA.out, HB.out, rfl⟩, by have G := HG1.out; (repeat (with_reducible refine M.Below.drewN ?_ _)); go_grown⟩
  · have h3 : ¬ k = 0 := beq_eq_false_iff_ne.1 (by assumption)
    (with_reducible refine (C4.out _).mono ?_); rintro en w2 ⟨ho, hb⟩
    have G2 : Below w.heap.size w w2 := Below.trans (by have G := HG1.out; (repeat (with_reducible refine M.Below.drewN ?_ _)); go_grown) (hb.mono (by go_size))
    have V2_a : M.Var w2 (w.heap.size) #[.int .i64 a.shape, .int .i64 a.sx, .int .i64 a.sy, .int .i64 a.mass, .int .i64 a.px, .int .i64 a.py, .int .i64 a.mx, .int .i64 a.my] := M.Var.mono (b := w.heap.size) (cs := #[.int .i64 a.shape, .int .i64 a.sx, .int .i64 a.sy, .int .i64 a.mass, .int .i64 a.px, .int .i64 a.py, .int .i64 a.mx, .int .i64 a.my]) (by (repeat (first | (with_reducible assumption) | (with_reducible apply M.var_set45) | (with_reducible apply M.var_setBd) | (with_reducible apply M.var_setV) | (with_reducible refine M.var_alloc' _ _ _ ?_; first | rfl | (focus (simp [go_sem]; done))) | (with_reducible refine M.Var.alloc ?_ _) | (with_reducible refine M.Var.drewN ?_ _) | (with_reducible refine M.Var.drew ?_) | (with_reducible refine M.Var.far ?_ _ _ ?hFar; case hFar => (first | omega | ((try simp [go_sem]) <;> omega))) | fail))) hb
    have q2_a_0 : w2.cell? ⟨w.heap.size, 0, none⟩ = some (.int .i64 a.shape) := V2_a.c 0 _ rfl
    have q2_a_1 : w2.cell? ⟨w.heap.size, 1, none⟩ = some (.int .i64 a.sx) := V2_a.c 1 _ rfl
    have q2_a_2 : w2.cell? ⟨w.heap.size, 2, none⟩ = some (.int .i64 a.sy) := V2_a.c 2 _ rfl
    have q2_a_3 : w2.cell? ⟨w.heap.size, 3, none⟩ = some (.int .i64 a.mass) := V2_a.c 3 _ rfl
    have q2_a_4 : w2.cell? ⟨w.heap.size, 4, none⟩ = some (.int .i64 a.px) := V2_a.c 4 _ rfl
    have q2_a_5 : w2.cell? ⟨w.heap.size, 5, none⟩ = some (.int .i64 a.py) := V2_a.c 5 _ rfl
    have q2_a_6 : w2.cell? ⟨w.heap.size, 6, none⟩ = some (.int .i64 a.mx) := V2_a.c 6 _ rfl
    have q2_a_7 : w2.cell? ⟨w.heap.size, 7, none⟩ = some (.int .i64 a.my) := V2_a.c 7 _ rfl
    have f2_a := V2_a.2.2
    have L2_a := V2_a.lt
    have N2_a := Nat.ne_of_gt L2_a
    have M2_a := Nat.ne_of_lt L2_a
    have V2_b : M.Var w2 (w.heap.size + 1) #[.int .i64 b.shape, .int .i64 b.sx, .int .i64 b.sy, .int .i64 b.mass, .int .i64 b.px, .int .i64 b.py, .int .i64 b.mx, .int .i64 b.my] := M.Var.mono (b := w.heap.size + 1) (cs := #[.int .i64 b.shape, .int .i64 b.sx, .int .i64 b.sy, .int .i64 b.mass, .int .i64 b.px, .int .i64 b.py, .int .i64 b.mx, .int .i64 b.my]) (by (repeat (first | (with_reducible assumption) | (with_reducible apply M.var_set45) | (with_reducible apply M.var_setBd) | (with_reducible apply M.var_setV) | (with_reducible refine M.var_alloc' _ _ _ ?_; first | rfl | (focus (simp [go_sem]; done))) | (with_reducible refine M.Var.alloc ?_ _) | (with_reducible refine M.Var.drewN ?_ _) | (with_reducible refine M.Var.drew ?_) | (with_reducible refine M.Var.far ?_ _ _ ?hFar; case hFar => (first | omega | ((try simp [go_sem]) <;> omega))) | fail))) hb
    have q2_b_0 : w2.cell? ⟨w.heap.size + 1, 0, none⟩ = some (.int .i64 b.shape) := V2_b.c 0 _ rfl
    have q2_b_1 : w2.cell? ⟨w.heap.size + 1, 1, none⟩ = some (.int .i64 b.sx) := V2_b.c 1 _ rfl
    have q2_b_2 : w2.cell? ⟨w.heap.size + 1, 2, none⟩ = some (.int .i64 b.sy) := V2_b.c 2 _ rfl
    have q2_b_3 : w2.cell? ⟨w.heap.size + 1, 3, none⟩ = some (.int .i64 b.mass) := V2_b.c 3 _ rfl
    have q2_b_4 : w2.cell? ⟨w.heap.size + 1, 4, none⟩ = some (.int .i64 b.px) := V2_b.c 4 _ rfl
    have q2_b_5 : w2.cell? ⟨w.heap.size + 1, 5, none⟩ = some (.int .i64 b.py) := V2_b.c 5 _ rfl
    have q2_b_6 : w2.cell? ⟨w.heap.size + 1, 6, none⟩ = some (.int .i64 b.mx) := V2_b.c 6 _ rfl
    have q2_b_7 : w2.cell? ⟨w.heap.size + 1, 7, none⟩ = some (.int .i64 b.my) := V2_b.c 7 _ rfl
    have f2_b := V2_b.2.2
    have L2_b := V2_b.lt
    have N2_b := Nat.ne_of_gt L2_b
    have M2_b := Nat.ne_of_lt L2_b
    have V2_h : M.Var w2 (w.heap.size + 1 + 1) #[.int .i64 h.nx, .int .i64 h.ny, .int .i64 h.d] := M.Var.mono (b := w.heap.size + 1 + 1) (cs := #[.int .i64 h.nx, .int .i64 h.ny, .int .i64 h.d]) (by (repeat (first | (with_reducible assumption) | (with_reducible apply M.var_set45) | (with_reducible apply M.var_setBd) | (with_reducible apply M.var_setV) | (with_reducible refine M.var_alloc' _ _ _ ?_; first | rfl | (focus (simp [go_sem]; done))) | (with_reducible refine M.Var.alloc ?_ _) | (with_reducible refine M.Var.drewN ?_ _) | (with_reducible refine M.Var.drew ?_) | (with_reducible refine M.Var.far ?_ _ _ ?hFar; case hFar => (first | omega | ((try simp [go_sem]) <;> omega))) | fail))) hb
    have q2_h_0 : w2.cell? ⟨w.heap.size + 1 + 1, 0, none⟩ = some (.int .i64 h.nx) := V2_h.c 0 _ rfl
    have q2_h_1 : w2.cell? ⟨w.heap.size + 1 + 1, 1, none⟩ = some (.int .i64 h.ny) := V2_h.c 1 _ rfl
    have q2_h_2 : w2.cell? ⟨w.heap.size + 1 + 1, 2, none⟩ = some (.int .i64 h.d) := V2_h.c 2 _ rfl
    have f2_h := V2_h.2.2
    have L2_h := V2_h.lt
    have N2_h := Nat.ne_of_gt L2_h
    have M2_h := Nat.ne_of_lt L2_h
    have V2_r : M.Var w2 (w.heap.size + 1 + 1 + 1) #[.int .i64 0, .int .i64 0, .int .i64 0, .int .i64 0, .int .i64 0, .int .i64 0, .int .i64 0, .int .i64 0] := M.Var.mono (b := w.heap.size + 1 + 1 + 1) (cs := #[.int .i64 0, .int .i64 0, .int .i64 0, .int .i64 0, .int .i64 0, .int .i64 0, .int .i64 0, .int .i64 0]) (by (repeat (first | (with_reducible assumption) | (with_reducible apply M.var_set45) | (with_reducible apply M.var_setBd) | (with_reducible apply M.var_setV) | (with_reducible refine M.var_alloc' _ _ _ ?_; first | rfl | (focus (simp [go_sem]; done))) | (with_reducible refine M.Var.alloc ?_ _) | (with_reducible refine M.Var.drewN ?_ _) | (with_reducible refine M.Var.drew ?_) | (with_reducible refine M.Var.far ?_ _ _ ?hFar; case hFar => (first | omega | ((try simp [go_sem]) <;> omega))) | fail))) hb
    have q2_r_0 : w2.cell? ⟨w.heap.size + 1 + 1 + 1, 0, none⟩ = some (.int .i64 0) := V2_r.c 0 _ rfl
    have q2_r_1 : w2.cell? ⟨w.heap.size + 1 + 1 + 1, 1, none⟩ = some (.int .i64 0) := V2_r.c 1 _ rfl
    have q2_r_2 : w2.cell? ⟨w.heap.size + 1 + 1 + 1, 2, none⟩ = some (.int .i64 0) := V2_r.c 2 _ rfl
    have q2_r_3 : w2.cell? ⟨w.heap.size + 1 + 1 + 1, 3, none⟩ = some (.int .i64 0) := V2_r.c 3 _ rfl
    have q2_r_4 : w2.cell? ⟨w.heap.size + 1 + 1 + 1, 4, none⟩ = some (.int .i64 0) := V2_r.c 4 _ rfl
    have q2_r_5 : w2.cell? ⟨w.heap.size + 1 + 1 + 1, 5, none⟩ = some (.int .i64 0) := V2_r.c 5 _ rfl
    have q2_r_6 : w2.cell? ⟨w.heap.size + 1 + 1 + 1, 6, none⟩ = some (.int .i64 0) := V2_r.c 6 _ rfl
    have q2_r_7 : w2.cell? ⟨w.heap.size + 1 + 1 + 1, 7, none⟩ = some (.int .i64 0) := V2_r.c 7 _ rfl
    have f2_r := V2_r.2.2
    have L2_r := V2_r.lt
    have N2_r := Nat.ne_of_gt L2_r
    have M2_r := Nat.ne_of_lt L2_r
    have V2_s : M.Var w2 (w.heap.size + 1 + 1 + 1 + 1) #[.int .i64 0, .int .i64 0, .int .i64 0, .int .i64 0, .int .i64 0, .int .i64 0, .int .i64 0, .int .i64 0] := M.Var.mono (b := w.heap.size + 1 + 1 + 1 + 1) (cs := #[.int .i64 0, .int .i64 0, .int .i64 0, .int .i64 0, .int .i64 0, .int .i64 0, .int .i64 0, .int .i64 0]) (by (repeat (first | (with_reducible assumption) | (with_reducible apply M.var_set45) | (with_reducible apply M.var_setBd) | (with_reducible apply M.var_setV) | (with_reducible refine M.var_alloc' _ _ _ ?_; first | rfl | (focus (simp [go_sem]; done))) | (with_reducible refine M.Var.alloc ?_ _) | (with_reducible refine M.Var.drewN ?_ _) | (with_reducible refine M.Var.drew ?_) | (with_reducible refine M.Var.far ?_ _ _ ?hFar; case hFar => (first | omega | ((try simp [go_sem]) <;> omega))) | fail))) hb
    have q2_s_0 : w2.cell? ⟨w.heap.size + 1 + 1 + 1 + 1, 0, none⟩ = some (.int .i64 0) := V2_s.c 0 _ rfl
    have q2_s_1 : w2.cell? ⟨w.heap.size + 1 + 1 + 1 + 1, 1, none⟩ = some (.int .i64 0) := V2_s.c 1 _ rfl
    have q2_s_2 : w2.cell? ⟨w.heap.size + 1 + 1 + 1 + 1, 2, none⟩ = some (.int .i64 0) := V2_s.c 2 _ rfl
    have q2_s_3 : w2.cell? ⟨w.heap.size + 1 + 1 + 1 + 1, 3, none⟩ = some (.int .i64 0) := V2_s.c 3 _ rfl
    have q2_s_4 : w2.cell? ⟨w.heap.size + 1 + 1 + 1 + 1, 4, none⟩ = some (.int .i64 0) := V2_s.c 4 _ rfl
    have q2_s_5 : w2.cell? ⟨w.heap.size + 1 + 1 + 1 + 1, 5, none⟩ = some (.int .i64 0) := V2_s.c 5 _ rfl
    have q2_s_6 : w2.cell? ⟨w.heap.size + 1 + 1 + 1 + 1, 6, none⟩ = some (.int .i64 0) := V2_s.c 6 _ rfl
    have q2_s_7 : w2.cell? ⟨w.heap.size + 1 + 1 + 1 + 1, 7, none⟩ = some (.int .i64 0) := V2_s.c 7 _ rfl
    have f2_s := V2_s.2.2
    have L2_s := V2_s.lt
    have N2_s := Nat.ne_of_gt L2_s
    have M2_s := Nat.ne_of_lt L2_s
    clear V1_a f1_a L1_a N1_a M1_a q1_a_0 q1_a_1 q1_a_2 q1_a_3 q1_a_4 q1_a_5 q1_a_6 q1_a_7 V1_b f1_b L1_b N1_b M1_b q1_b_0 q1_b_1 q1_b_2 q1_b_3 q1_b_4 q1_b_5 q1_b_6 q1_b_7 V1_h f1_h L1_h N1_h M1_h q1_h_0 q1_h_1 q1_h_2 V1_r f1_r L1_r N1_r M1_r q1_r_0 q1_r_1 q1_r_2 q1_r_3 q1_r_4 q1_r_5 q1_r_6 q1_r_7 V1_s f1_s L1_s N1_s M1_s q1_s_0 q1_s_1 q1_s_2 q1_s_3 q1_s_4 q1_s_5 q1_s_6 q1_s_7
    have S2 := G2.size
    have HG2 := Lib.hid G2; clear G2 hb
    rcases ho with ⟨n2, hn2, hz2, rfl⟩ | ⟨v, hv, iv, rfl⟩
    · exact ⟨rfl, .inl ⟨n2, by unfold contactX bounceX partsX Bd.pos; simp only [Hhk.out, if_neg h3, hn2, andThen_ok, andThen_err], hz2, rfl⟩, HG2.out⟩
    have Hhv := Lib.hid hv; clear hv
    go_upto_if 25 with (with_reducible refine M.stopPost ?_)
    have ev := (TD.out v iv).2
    have iv2 := (TD.out v iv).1
    go_cut [10] from 25 (fun s10 wc => ∃ (c1 : Bd) (c2 : Bd), c1.ok ∧ c2.ok ∧ Hid (bounceX a b (h.nx, h.ny) k v = .ok (c1, c2)) ∧ Hid (Below w.heap.size w wc) ∧ M.Var wc (w.heap.size) #[.int .i64 c1.shape, .int .i64 c1.sx, .int .i64 c1.sy, .int .i64 c1.mass, .int .i64 c1.px, .int .i64 c1.py, .int .i64 c1.mx, .int .i64 c1.my] ∧ M.Var wc (w.heap.size + 1) #[.int .i64 c2.shape, .int .i64 c2.sx, .int .i64 c2.sy, .int .i64 c2.mass, .int .i64 c2.px, .int .i64 c2.py, .int .i64 c2.mx, .int .i64 c2.my] ∧ M.Var wc (w.heap.size + 1 + 1) #[.int .i64 h.nx, .int .i64 h.ny, .int .i64 h.d] ∧ M.Var wc (w.heap.size + 1 + 1 + 1) #[.int .i64 0, .int .i64 0, .int .i64 0, .int .i64 0, .int .i64 0, .int .i64 0, .int .i64 0, .int .i64 0] ∧ M.Var wc (w.heap.size + 1 + 1 + 1 + 1) #[.int .i64 0, .int .i64 0, .int .i64 0, .int .i64 0, .int .i64 0, .int .i64 0, .int .i64 0, .int .i64 0])
    case first =>
      go_wp2_with (with_reducible refine M.stopPost ?_)
      · have hv0 : v < 0 := by assumption
        (with_reducible refine ((C7.out _ _ iv iv2) _).mono ?_); rintro en w' ⟨⟨n3, hn3, hz3, rfl⟩ | ⟨xt, hxt, ixt, rfl⟩, d3, rfl⟩
        · exact ⟨rfl, .inl ⟨n3, by unfold contactX bounceX; simp only [Hhk.out, if_neg h3, Hhv.out, if_pos hv0, hn3, andThen_ok, andThen_err], hz3, rfl⟩, by have G := HG2.out; (repeat (with_reducible refine M.Below.drewN ?_ _)); go_grown⟩
        have Hhxt := Lib.hid hxt; clear hxt
        go_wp2_with (with_reducible refine M.stopPost ?_)
        (with_reducible refine ((C5.out _ _ z ixt) _).mono ?_); rintro en w' ⟨⟨n4, hn4, hz4, rfl⟩ | ⟨xs, hxs, ixs, rfl⟩, d4, rfl⟩
        · exact ⟨rfl, .inl ⟨n4, by unfold contactX bounceX; simp only [Hhk.out, if_neg h3, Hhv.out, if_pos hv0, Hhxt.out, hn4, andThen_ok, andThen_err], hz4, rfl⟩, by have G := HG2.out; (repeat (with_reducible refine M.Below.drewN ?_ _)); go_grown⟩
        have Hhxs := Lib.hid hxs; clear hxs
        go_wp2_with (with_reducible refine M.stopPost ?_)
        (with_reducible refine ((C8.out _ _ ixs ik) _).mono ?_); rintro en w' ⟨⟨n5, hn5, hz5, rfl⟩ | ⟨xj, hxj, ixj, rfl⟩, d5, rfl⟩
        · exact ⟨rfl, .inl ⟨n5, by unfold contactX bounceX; simp only [Hhk.out, if_neg h3, Hhv.out, if_pos hv0, Hhxt.out, Hhxs.out, hn5, andThen_ok, andThen_err], hz5, rfl⟩, by have G := HG2.out; (repeat (with_reducible refine M.Below.drewN ?_ _)); go_grown⟩
        have Hhxj := Lib.hid hxj; clear hxj
        go_wp2_with (with_reducible refine M.stopPost ?_)
        refine wp_region_till (S := fun sT wT' => Hid ((sT.getD 10 false = false → M.Var wT' (w.heap.size) #[.int .i64 a.shape, .int .i64 a.sx, .int .i64 a.sy, .int .i64 a.mass, .int .i64 a.px, .int .i64 a.py, .int .i64 a.mx, .int .i64 a.my]) ∧ (sT.getD 11 false = false → M.Var wT' (w.heap.size + 1) #[.int .i64 b.shape, .int .i64 b.sx, .int .i64 b.sy, .int .i64 b.mass, .int .i64 b.px, .int .i64 b.py, .int .i64 b.mx, .int .i64 b.my]) ∧ M.Var wT' (w.heap.size + 1 + 1) #[.int .i64 h.nx, .int .i64 h.ny, .int .i64 h.d] ∧ True)) (by kernel_rfl) (Lib.hid ⟨(fun _ => by (repeat (first | (with_reducible assumption) | (with_reducible apply M.var_set45) | (with_reducible apply M.var_setBd) | (with_reducible apply M.var_setV) | (with_reducible refine M.var_alloc' _ _ _ ?_; first | rfl | (focus (simp [go_sem]; done))) | (with_reducible refine M.Var.alloc ?_ _) | (with_reducible refine M.Var.drewN ?_ _) | (with_reducible refine M.Var.drew ?_) | (with_reducible refine M.Var.far ?_ _ _ ?hFar; case hFar => (first | omega | ((try simp [go_sem]) <;> omega))) | fail))), (fun _ => by (repeat (first | (with_reducible assumption) | (with_reducible apply M.var_set45) | (with_reducible apply M.var_setBd) | (with_reducible apply M.var_setV) | (with_reducible refine M.var_alloc' _ _ _ ?_; first | rfl | (focus (simp [go_sem]; done))) | (with_reducible refine M.Var.alloc ?_ _) | (with_reducible refine M.Var.drewN ?_ _) | (with_reducible refine M.Var.drew ?_) | (with_reducible refine M.Var.far ?_ _ _ ?hFar; case hFar => (first | omega | ((try simp [go_sem]) <;> omega))) | fail))), (by (repeat (first | (with_reducible assumption) | (with_reducible apply M.var_set45) | (with_reducible apply M.var_setBd) | (with_reducible apply M.var_setV) | (with_reducible refine M.var_alloc' _ _ _ ?_; first | rfl | (focus (simp [go_sem]; done))) | (with_reducible refine M.Var.alloc ?_ _) | (with_reducible refine M.Var.drewN ?_ _) | (with_reducible refine M.Var.drew ?_) | (with_reducible refine M.Var.far ?_ _ _ ?hFar; case hFar => (first | omega | ((try simp [go_sem]) <;> omega))) | fail))), trivial⟩) ?_
        intro hTb hTS
        refine wpTill_take (i := 0) (v := ?_) rfl (by kernel_rfl) (by kernel_rfl) (by kernel_rfl) hTb (fun _ _ _ h => h) (fun _ _ => by simp only [getD_set_ne false (show 0 ≠ 10 by decide), getD_set_ne false (show 0 ≠ 11 by decide)]) (Or.inl ⟨by rfl, ?_⟩) hTS ?_
        rotate_left
        · rintro wT ⟨sT, hbT, huT, hST⟩
          have zT_a_0 := (hST.out.1 (till_flag (k := 10) (by kernel_rfl) hbT huT)).c 0 _ rfl
          have zT_a_1 := (hST.out.1 (till_flag (k := 10) (by kernel_rfl) hbT huT)).c 1 _ rfl
          have zT_a_2 := (hST.out.1 (till_flag (k := 10) (by kernel_rfl) hbT huT)).c 2 _ rfl
          have zT_a_3 := (hST.out.1 (till_flag (k := 10) (by kernel_rfl) hbT huT)).c 3 _ rfl
          have zT_a_4 := (hST.out.1 (till_flag (k := 10) (by kernel_rfl) hbT huT)).c 4 _ rfl
          have zT_a_5 := (hST.out.1 (till_flag (k := 10) (by kernel_rfl) hbT huT)).c 5 _ rfl
          have zT_a_6 := (hST.out.1 (till_flag (k := 10) (by kernel_rfl) hbT huT)).c 6 _ rfl
          have zT_a_7 := (hST.out.1 (till_flag (k := 10) (by kernel_rfl) hbT huT)).c 7 _ rfl
          have zT_b_0 := (hST.out.2.1 (till_flag (k := 11) (by kernel_rfl) hbT huT)).c 0 _ rfl
          have zT_b_1 := (hST.out.2.1 (till_flag (k := 11) (by kernel_rfl) hbT huT)).c 1 _ rfl
          have zT_b_2 := (hST.out.2.1 (till_flag (k := 11) (by kernel_rfl) hbT huT)).c 2 _ rfl
          have zT_b_3 := (hST.out.2.1 (till_flag (k := 11) (by kernel_rfl) hbT huT)).c 3 _ rfl
          have zT_b_4 := (hST.out.2.1 (till_flag (k := 11) (by kernel_rfl) hbT huT)).c 4 _ rfl
          have zT_b_5 := (hST.out.2.1 (till_flag (k := 11) (by kernel_rfl) hbT huT)).c 5 _ rfl
          have zT_b_6 := (hST.out.2.1 (till_flag (k := 11) (by kernel_rfl) hbT huT)).c 6 _ rfl
          have zT_b_7 := (hST.out.2.1 (till_flag (k := 11) (by kernel_rfl) hbT huT)).c 7 _ rfl
          have zT_h_0 := hST.out.2.2.1.c 0 _ rfl
          have zT_h_1 := hST.out.2.2.1.c 1 _ rfl
          have zT_h_2 := hST.out.2.2.1.c 2 _ rfl
          clear hST hbT huT
          go_simp
          all_goals with_reducible rfl
        clear hTb hTS; intro hTb hTS
        try simp only [Act.put, List.setIfInBounds_toArray, List.set_cons_zero, List.set_cons_succ]
        refine wpTill_take (i := 1) (v := ?_) rfl (by kernel_rfl) (by kernel_rfl) (by kernel_rfl) hTb (fun _ _ _ h => h) (fun _ _ => by simp only [getD_set_ne false (show 1 ≠ 10 by decide), getD_set_ne false (show 1 ≠ 11 by decide)]) (Or.inl ⟨by rfl, ?_⟩) hTS ?_
        rotate_left
        · rintro wT ⟨sT, hbT, huT, hST⟩
          have zT_a_0 := (hST.out.1 (till_flag (k := 10) (by kernel_rfl) hbT huT)).c 0 _ rfl
          have zT_a_1 := (hST.out.1 (till_flag (k := 10) (by kernel_rfl) hbT huT)).c 1 _ rfl
          have zT_a_2 := (hST.out.1 (till_flag (k := 10) (by kernel_rfl) hbT huT)).c 2 _ rfl
          have zT_a_3 := (hST.out.1 (till_flag (k := 10) (by kernel_rfl) hbT huT)).c 3 _ rfl
          have zT_a_4 := (hST.out.1 (till_flag (k := 10) (by kernel_rfl) hbT huT)).c 4 _ rfl
          have zT_a_5 := (hST.out.1 (till_flag (k := 10) (by kernel_rfl) hbT huT)).c 5 _ rfl
          have zT_a_6 := (hST.out.1 (till_flag (k := 10) (by kernel_rfl) hbT huT)).c 6 _ rfl
          have zT_a_7 := (hST.out.1 (till_flag (k := 10) (by kernel_rfl) hbT huT)).c 7 _ rfl
          have zT_b_0 := (hST.out.2.1 (till_flag (k := 11) (by kernel_rfl) hbT huT)).c 0 _ rfl
          have zT_b_1 := (hST.out.2.1 (till_flag (k := 11) (by kernel_rfl) hbT huT)).c 1 _ rfl
          have zT_b_2 := (hST.out.2.1 (till_flag (k := 11) (by kernel_rfl) hbT huT)).c 2 _ rfl
          have zT_b_3 := (hST.out.2.1 (till_flag (k := 11) (by kernel_rfl) hbT huT)).c 3 _ rfl
          have zT_b_4 := (hST.out.2.1 (till_flag (k := 11) (by kernel_rfl) hbT huT)).c 4 _ rfl
          have zT_b_5 := (hST.out.2.1 (till_flag (k := 11) (by kernel_rfl) hbT huT)).c 5 _ rfl
          have zT_b_6 := (hST.out.2.1 (till_flag (k := 11) (by kernel_rfl) hbT huT)).c 6 _ rfl
          have zT_b_7 := (hST.out.2.1 (till_flag (k := 11) (by kernel_rfl) hbT huT)).c 7 _ rfl
          have zT_h_0 := hST.out.2.2.1.c 0 _ rfl
          have zT_h_1 := hST.out.2.2.1.c 1 _ rfl
          have zT_h_2 := hST.out.2.2.1.c 2 _ rfl
          clear hST hbT huT
          go_simp
          all_goals with_reducible rfl
        clear hTb hTS; intro hTb hTS
        try simp only [Act.put, List.setIfInBounds_toArray, List.set_cons_zero, List.set_cons_succ]
        refine wpTill_take (i := 2) (v := ?_) rfl (by kernel_rfl) (by kernel_rfl) (by kernel_rfl) hTb (fun _ _ _ h => h) (fun _ _ => by simp only [getD_set_ne false (show 2 ≠ 10 by decide), getD_set_ne false (show 2 ≠ 11 by decide)]) (Or.inl ⟨by rfl, ?_⟩) hTS ?_
        rotate_left
        · intro wT hT; clear hT
          go_simp
          all_goals with_reducible rfl
        clear hTb hTS; intro hTb hTS
        try simp only [Act.put, List.setIfInBounds_toArray, List.set_cons_zero, List.set_cons_succ]
        refine wpTill_take (i := 3) (v := ?_) rfl (by kernel_rfl) (by kernel_rfl) (by kernel_rfl) hTb (fun _ _ _ h => h) (fun _ _ => by simp only [getD_set_ne false (show 3 ≠ 10 by decide), getD_set_ne false (show 3 ≠ 11 by decide)]) (Or.inl ⟨by rfl, ?_⟩) hTS ?_
        rotate_left
        · rintro wT ⟨sT, hbT, huT, hST⟩
          have zT_a_0 := (hST.out.1 (till_flag (k := 10) (by kernel_rfl) hbT huT)).c 0 _ rfl
          have zT_a_1 := (hST.out.1 (till_flag (k := 10) (by kernel_rfl) hbT huT)).c 1 _ rfl
          have zT_a_2 := (hST.out.1 (till_flag (k := 10) (by kernel_rfl) hbT huT)).c 2 _ rfl
          have zT_a_3 := (hST.out.1 (till_flag (k := 10) (by kernel_rfl) hbT huT)).c 3 _ rfl
          have zT_a_4 := (hST.out.1 (till_flag (k := 10) (by kernel_rfl) hbT huT)).c 4 _ rfl
          have zT_a_5 := (hST.out.1 (till_flag (k := 10) (by kernel_rfl) hbT huT)).c 5 _ rfl
          have zT_a_6 := (hST.out.1 (till_flag (k := 10) (by kernel_rfl) hbT huT)).c 6 _ rfl
          have zT_a_7 := (hST.out.1 (till_flag (k := 10) (by kernel_rfl) hbT huT)).c 7 _ rfl
          have zT_b_0 := (hST.out.2.1 (till_flag (k := 11) (by kernel_rfl) hbT huT)).c 0 _ rfl
          have zT_b_1 := (hST.out.2.1 (till_flag (k := 11) (by kernel_rfl) hbT huT)).c 1 _ rfl
          have zT_b_2 := (hST.out.2.1 (till_flag (k := 11) (by kernel_rfl) hbT huT)).c 2 _ rfl
          have zT_b_3 := (hST.out.2.1 (till_flag (k := 11) (by kernel_rfl) hbT huT)).c 3 _ rfl
          have zT_b_4 := (hST.out.2.1 (till_flag (k := 11) (by kernel_rfl) hbT huT)).c 4 _ rfl
          have zT_b_5 := (hST.out.2.1 (till_flag (k := 11) (by kernel_rfl) hbT huT)).c 5 _ rfl
          have zT_b_6 := (hST.out.2.1 (till_flag (k := 11) (by kernel_rfl) hbT huT)).c 6 _ rfl
          have zT_b_7 := (hST.out.2.1 (till_flag (k := 11) (by kernel_rfl) hbT huT)).c 7 _ rfl
          have zT_h_0 := hST.out.2.2.1.c 0 _ rfl
          have zT_h_1 := hST.out.2.2.1.c 1 _ rfl
          have zT_h_2 := hST.out.2.2.1.c 2 _ rfl
          clear hST hbT huT
          go_simp
          all_goals with_reducible rfl
        clear hTb hTS; intro hTb hTS
        try simp only [Act.put, List.setIfInBounds_toArray, List.set_cons_zero, List.set_cons_succ]
        refine wpTill_take (i := 4) (v := ?_) rfl (by kernel_rfl) (by kernel_rfl) (by kernel_rfl) hTb (fun _ _ _ h => h) (fun _ _ => by simp only [getD_set_ne false (show 4 ≠ 10 by decide), getD_set_ne false (show 4 ≠ 11 by decide)]) (Or.inl ⟨by rfl, ?_⟩) hTS ?_
        rotate_left
        · intro wT hT; clear hT
          go_simp
          all_goals with_reducible rfl
        clear hTb hTS; intro hTb hTS
        try simp only [Act.put, List.setIfInBounds_toArray, List.set_cons_zero, List.set_cons_succ]
        refine wpTill_one (i := 5) (by kernel_rfl) rfl hTb (fun K hK => ?_)
        go_simp
        (with_reducible refine ((C9.out _ _ _ HH.out.nx HH.out.ny ixj) _).mono ?_); rintro en w6 ⟨ho, hb⟩
        have G6 : Below w.heap.size w w6 := Below.trans (by have G := HG2.out; (repeat (with_reducible refine M.Below.drewN ?_ _)); go_grown) (hb.mono (by go_size))
        have V6_a : M.Var w6 (w.heap.size) #[.int .i64 a.shape, .int .i64 a.sx, .int .i64 a.sy, .int .i64 a.mass, .int .i64 a.px, .int .i64 a.py, .int .i64 a.mx, .int .i64 a.my] := M.Var.mono (b := w.heap.size) (cs := #[.int .i64 a.shape, .int .i64 a.sx, .int .i64 a.sy, .int .i64 a.mass, .int .i64 a.px, .int .i64 a.py, .int .i64 a.mx, .int .i64 a.my]) (by (repeat (first | (with_reducible assumption) | (with_reducible apply M.var_set45) | (with_reducible apply M.var_setBd) | (with_reducible apply M.var_setV) | (with_reducible refine M.var_alloc' _ _ _ ?_; first | rfl | (focus (simp [go_sem]; done))) | (with_reducible refine M.Var.alloc ?_ _) | (with_reducible refine M.Var.drewN ?_ _) | (with_reducible refine M.Var.drew ?_) | (with_reducible refine M.Var.far ?_ _ _ ?hFar; case hFar => (first | omega | ((try simp [go_sem]) <;> omega))) | fail))) hb
        have q6_a_0 : w6.cell? ⟨w.heap.size, 0, none⟩ = some (.int .i64 a.shape) := V6_a.c 0 _ rfl
        have q6_a_1 : w6.cell? ⟨w.heap.size, 1, none⟩ = some (.int .i64 a.sx) := V6_a.c 1 _ rfl
        have q6_a_2 : w6.cell? ⟨w.heap.size, 2, none⟩ = some (.int .i64 a.sy) := V6_a.c 2 _ rfl
        have q6_a_3 : w6.cell? ⟨w.heap.size, 3, none⟩ = some (.int .i64 a.mass) := V6_a.c 3 _ rfl
        have q6_a_4 : w6.cell? ⟨w.heap.size, 4, none⟩ = some (.int .i64 a.px) := V6_a.c 4 _ rfl
        have q6_a_5 : w6.cell? ⟨w.heap.size, 5, none⟩ = some (.int .i64 a.py) := V6_a.c 5 _ rfl
        have q6_a_6 : w6.cell? ⟨w.heap.size, 6, none⟩ = some (.int .i64 a.mx) := V6_a.c 6 _ rfl
        have q6_a_7 : w6.cell? ⟨w.heap.size, 7, none⟩ = some (.int .i64 a.my) := V6_a.c 7 _ rfl
        have f6_a := V6_a.2.2
        have L6_a := V6_a.lt
        have N6_a := Nat.ne_of_gt L6_a
        have M6_a := Nat.ne_of_lt L6_a
        have V6_b : M.Var w6 (w.heap.size + 1) #[.int .i64 b.shape, .int .i64 b.sx, .int .i64 b.sy, .int .i64 b.mass, .int .i64 b.px, .int .i64 b.py, .int .i64 b.mx, .int .i64 b.my] := M.Var.mono (b := w.heap.size + 1) (cs := #[.int .i64 b.shape, .int .i64 b.sx, .int .i64 b.sy, .int .i64 b.mass, .int .i64 b.px, .int .i64 b.py, .int .i64 b.mx, .int .i64 b.my]) (by (repeat (first | (with_reducible assumption) | (with_reducible apply M.var_set45) | (with_reducible apply M.var_setBd) | (with_reducible apply M.var_setV) | (with_reducible refine M.var_alloc' _ _ _ ?_; first | rfl | (focus (simp [go_sem]; done))) | (with_reducible refine M.Var.alloc ?_ _) | (with_reducible refine M.Var.drewN ?_ _) | (with_reducible refine M.Var.drew ?_) | (with_reducible refine M.Var.far ?_ _ _ ?hFar; case hFar => (first | omega | ((try simp [go_sem]) <;> omega))) | fail))) hb
        have q6_b_0 : w6.cell? ⟨w.heap.size + 1, 0, none⟩ = some (.int .i64 b.shape) := V6_b.c 0 _ rfl
        have q6_b_1 : w6.cell? ⟨w.heap.size + 1, 1, none⟩ = some (.int .i64 b.sx) := V6_b.c 1 _ rfl
        have q6_b_2 : w6.cell? ⟨w.heap.size + 1, 2, none⟩ = some (.int .i64 b.sy) := V6_b.c 2 _ rfl
        have q6_b_3 : w6.cell? ⟨w.heap.size + 1, 3, none⟩ = some (.int .i64 b.mass) := V6_b.c 3 _ rfl
        have q6_b_4 : w6.cell? ⟨w.heap.size + 1, 4, none⟩ = some (.int .i64 b.px) := V6_b.c 4 _ rfl
        have q6_b_5 : w6.cell? ⟨w.heap.size + 1, 5, none⟩ = some (.int .i64 b.py) := V6_b.c 5 _ rfl
        have q6_b_6 : w6.cell? ⟨w.heap.size + 1, 6, none⟩ = some (.int .i64 b.mx) := V6_b.c 6 _ rfl
        have q6_b_7 : w6.cell? ⟨w.heap.size + 1, 7, none⟩ = some (.int .i64 b.my) := V6_b.c 7 _ rfl
        have f6_b := V6_b.2.2
        have L6_b := V6_b.lt
        have N6_b := Nat.ne_of_gt L6_b
        have M6_b := Nat.ne_of_lt L6_b
        have V6_h : M.Var w6 (w.heap.size + 1 + 1) #[.int .i64 h.nx, .int .i64 h.ny, .int .i64 h.d] := M.Var.mono (b := w.heap.size + 1 + 1) (cs := #[.int .i64 h.nx, .int .i64 h.ny, .int .i64 h.d]) (by (repeat (first | (with_reducible assumption) | (with_reducible apply M.var_set45) | (with_reducible apply M.var_setBd) | (with_reducible apply M.var_setV) | (with_reducible refine M.var_alloc' _ _ _ ?_; first | rfl | (focus (simp [go_sem]; done))) | (with_reducible refine M.Var.alloc ?_ _) | (with_reducible refine M.Var.drewN ?_ _) | (with_reducible refine M.Var.drew ?_) | (with_reducible refine M.Var.far ?_ _ _ ?hFar; case hFar => (first | omega | ((try simp [go_sem]) <;> omega))) | fail))) hb
        have q6_h_0 : w6.cell? ⟨w.heap.size + 1 + 1, 0, none⟩ = some (.int .i64 h.nx) := V6_h.c 0 _ rfl
        have q6_h_1 : w6.cell? ⟨w.heap.size + 1 + 1, 1, none⟩ = some (.int .i64 h.ny) := V6_h.c 1 _ rfl
        have q6_h_2 : w6.cell? ⟨w.heap.size + 1 + 1, 2, none⟩ = some (.int .i64 h.d) := V6_h.c 2 _ rfl
        have f6_h := V6_h.2.2
        have L6_h := V6_h.lt
        have N6_h := Nat.ne_of_gt L6_h
        have M6_h := Nat.ne_of_lt L6_h
        have V6_r : M.Var w6 (w.heap.size + 1 + 1 + 1) #[.int .i64 0, .int .i64 0, .int .i64 0, .int .i64 0, .int .i64 0, .int .i64 0, .int .i64 0, .int .i64 0] := M.Var.mono (b := w.heap.size + 1 + 1 + 1) (cs := #[.int .i64 0, .int .i64 0, .int .i64 0, .int .i64 0, .int .i64 0, .int .i64 0, .int .i64 0, .int .i64 0]) (by (repeat (first | (with_reducible assumption) | (with_reducible apply M.var_set45) | (with_reducible apply M.var_setBd) | (with_reducible apply M.var_setV) | (with_reducible refine M.var_alloc' _ _ _ ?_; first | rfl | (focus (simp [go_sem]; done))) | (with_reducible refine M.Var.alloc ?_ _) | (with_reducible refine M.Var.drewN ?_ _) | (with_reducible refine M.Var.drew ?_) | (with_reducible refine M.Var.far ?_ _ _ ?hFar; case hFar => (first | omega | ((try simp [go_sem]) <;> omega))) | fail))) hb
        have q6_r_0 : w6.cell? ⟨w.heap.size + 1 + 1 + 1, 0, none⟩ = some (.int .i64 0) := V6_r.c 0 _ rfl
        have q6_r_1 : w6.cell? ⟨w.heap.size + 1 + 1 + 1, 1, none⟩ = some (.int .i64 0) := V6_r.c 1 _ rfl
        have q6_r_2 : w6.cell? ⟨w.heap.size + 1 + 1 + 1, 2, none⟩ = some (.int .i64 0) := V6_r.c 2 _ rfl
        have q6_r_3 : w6.cell? ⟨w.heap.size + 1 + 1 + 1, 3, none⟩ = some (.int .i64 0) := V6_r.c 3 _ rfl
        have q6_r_4 : w6.cell? ⟨w.heap.size + 1 + 1 + 1, 4, none⟩ = some (.int .i64 0) := V6_r.c 4 _ rfl
        have q6_r_5 : w6.cell? ⟨w.heap.size + 1 + 1 + 1, 5, none⟩ = some (.int .i64 0) := V6_r.c 5 _ rfl
        have q6_r_6 : w6.cell? ⟨w.heap.size + 1 + 1 + 1, 6, none⟩ = some (.int .i64 0) := V6_r.c 6 _ rfl
        have q6_r_7 : w6.cell? ⟨w.heap.size + 1 + 1 + 1, 7, none⟩ = some (.int .i64 0) := V6_r.c 7 _ rfl
        have f6_r := V6_r.2.2
        have L6_r := V6_r.lt
        have N6_r := Nat.ne_of_gt L6_r
        have M6_r := Nat.ne_of_lt L6_r
        have V6_s : M.Var w6 (w.heap.size + 1 + 1 + 1 + 1) #[.int .i64 0, .int .i64 0, .int .i64 0, .int .i64 0, .int .i64 0, .int .i64 0, .int .i64 0, .int .i64 0] := M.Var.mono (b := w.heap.size + 1 + 1 + 1 + 1) (cs := #[.int .i64 0, .int .i64 0, .int .i64 0, .int .i64 0, .int .i64 0, .int .i64 0, .int .i64 0, .int .i64 0]) (by (repeat (first | (with_reducible assumption) | (with_reducible apply M.var_set45) | (with_reducible apply M.var_setBd) | (with_reducible apply M.var_setV) | (with_reducible refine M.var_alloc' _ _ _ ?_; first | rfl | (focus (simp [go_sem]; done))) | (with_reducible refine M.Var.alloc ?_ _) | (with_reducible refine M.Var.drewN ?_ _) | (with_reducible refine M.Var.drew ?_) | (with_reducible refine M.Var.far ?_ _ _ ?hFar; case hFar => (first | omega | ((try simp [go_sem]) <;> omega))) | fail))) hb
        have q6_s_0 : w6.cell? ⟨w.heap.size + 1 + 1 + 1 + 1, 0, none⟩ = some (.int .i64 0) := V6_s.c 0 _ rfl
        have q6_s_1 : w6.cell? ⟨w.heap.size + 1 + 1 + 1 + 1, 1, none⟩ = some (.int .i64 0) := V6_s.c 1 _ rfl
        have q6_s_2 : w6.cell? ⟨w.heap.size + 1 + 1 + 1 + 1, 2, none⟩ = some (.int .i64 0) := V6_s.c 2 _ rfl
        have q6_s_3 : w6.cell? ⟨w.heap.size + 1 + 1 + 1 + 1, 3, none⟩ = some (.int .i64 0) := V6_s.c 3 _ rfl
        have q6_s_4 : w6.cell? ⟨w.heap.size + 1 + 1 + 1 + 1, 4, none⟩ = some (.int .i64 0) := V6_s.c 4 _ rfl
        have q6_s_5 : w6.cell? ⟨w.heap.size + 1 + 1 + 1 + 1, 5, none⟩ = some (.int .i64 0) := V6_s.c 5 _ rfl
        have q6_s_6 : w6.cell? ⟨w.heap.size + 1 + 1 + 1 + 1, 6, none⟩ = some (.int .i64 0) := V6_s.c 6 _ rfl
        have q6_s_7 : w6.cell? ⟨w.heap.size + 1 + 1 + 1 + 1, 7, none⟩ = some (.int .i64 0) := V6_s.c 7 _ rfl
        have f6_s := V6_s.2.2
        have L6_s := V6_s.lt
        have N6_s := Nat.ne_of_gt L6_s
        have M6_s := Nat.ne_of_lt L6_s
        clear V2_a f2_a L2_a N2_a M2_a q2_a_0 q2_a_1 q2_a_2 q2_a_3 q2_a_4 q2_a_5 q2_a_6 q2_a_7 V2_b f2_b L2_b N2_b M2_b q2_b_0 q2_b_1 q2_b_2 q2_b_3 q2_b_4 q2_b_5 q2_b_6 q2_b_7 V2_h f2_h L2_h N2_h M2_h q2_h_0 q2_h_1 q2_h_2 V2_r f2_r L2_r N2_r M2_r q2_r_0 q2_r_1 q2_r_2 q2_r_3 q2_r_4 q2_r_5 q2_r_6 q2_r_7 V2_s f2_s L2_s N2_s M2_s q2_s_0 q2_s_1 q2_s_2 q2_s_3 q2_s_4 q2_s_5 q2_s_6 q2_s_7
        have S6 := G6.size
        have HG6 := Lib.hid G6; clear G6 hb
        rcases ho with ⟨n6, hn6, hz6, rfl⟩ | ⟨gx, gy, hg, igx, igy, rfl⟩
        · exact ⟨rfl, .inl ⟨n6, by unfold contactX bounceX; simp only [Hhk.out, if_neg h3, Hhv.out, if_pos hv0, Hhxt.out, Hhxs.out, Hhxj.out, hn6, andThen_ok, andThen_err], hz6, rfl⟩, HG6.out⟩
        have Hhg := Lib.hid hg; clear hg
        (try go_simp)
        refine hK.out _ _ (Lib.hid ⟨(fun _ => by (repeat (first | (with_reducible assumption) | (with_reducible apply M.var_set45) | (with_reducible apply M.var_setBd) | (with_reducible apply M.var_setV) | (with_reducible refine M.var_alloc' _ _ _ ?_; first | rfl | (focus (simp [go_sem]; done))) | (with_reducible refine M.Var.alloc ?_ _) | (with_reducible refine M.Var.drewN ?_ _) | (with_reducible refine M.Var.drew ?_) | (with_reducible refine M.Var.far ?_ _ _ ?hFar; case hFar => (first | omega | ((try simp [go_sem]) <;> omega))) | fail))), (fun _ => by (repeat (first | (with_reducible assumption) | (with_reducible apply M.var_set45) | (with_reducible apply M.var_setBd) | (with_reducible apply M.var_setV) | (with_reducible refine M.var_alloc' _ _ _ ?_; first | rfl | (focus (simp [go_sem]; done))) | (with_reducible refine M.Var.alloc ?_ _) | (with_reducible refine M.Var.drewN ?_ _) | (with_reducible refine M.Var.drew ?_) | (with_reducible refine M.Var.far ?_ _ _ ?hFar; case hFar => (first | omega | ((try simp [go_sem]) <;> omega))) | fail))), (by (repeat (first | (with_reducible assumption) | (with_reducible apply M.var_set45) | (with_reducible apply M.var_setBd) | (with_reducible apply M.var_setV) | (with_reducible refine M.var_alloc' _ _ _ ?_; first | rfl | (focus (simp [go_sem]; done))) | (with_reducible refine M.Var.alloc ?_ _) | (with_reducible refine M.Var.drewN ?_ _) | (with_reducible refine M.Var.drew ?_) | (with_reducible refine M.Var.far ?_ _ _ ?hFar; case hFar => (first | omega | ((try simp [go_sem]) <;> omega))) | fail))), trivial⟩) ?_
        clear hK K hTb hTS; intro hTb hTS
        try simp only [Act.put, List.setIfInBounds_toArray, List.set_cons_zero, List.set_cons_succ]
        refine wpTill_one (i := 6) (by kernel_rfl) rfl hTb (fun K hK => ?_)
        go_simp
        (with_reducible refine ((CA.out _ _ igx igy) _).mono ?_); rintro en w7 ⟨ho, hb⟩
        have G7 : Below w.heap.size w w7 := Below.trans (by have G := HG6.out; (repeat (with_reducible refine M.Below.drewN ?_ _)); go_grown) (hb.mono (by go_size))
        have V7_a : M.Var w7 (w.heap.size) #[.int .i64 a.shape, .int .i64 a.sx, .int .i64 a.sy, .int .i64 a.mass, .int .i64 a.px, .int .i64 a.py, .int .i64 a.mx, .int .i64 a.my] := M.Var.mono (b := w.heap.size) (cs := #[.int .i64 a.shape, .int .i64 a.sx, .int .i64 a.sy, .int .i64 a.mass, .int .i64 a.px, .int .i64 a.py, .int .i64 a.mx, .int .i64 a.my]) (by (repeat (first | (with_reducible assumption) | (with_reducible apply M.var_set45) | (with_reducible apply M.var_setBd) | (with_reducible apply M.var_setV) | (with_reducible refine M.var_alloc' _ _ _ ?_; first | rfl | (focus (simp [go_sem]; done))) | (with_reducible refine M.Var.alloc ?_ _) | (with_reducible refine M.Var.drewN ?_ _) | (with_reducible refine M.Var.drew ?_) | (with_reducible refine M.Var.far ?_ _ _ ?hFar; case hFar => (first | omega | ((try simp [go_sem]) <;> omega))) | fail))) hb
        have q7_a_0 : w7.cell? ⟨w.heap.size, 0, none⟩ = some (.int .i64 a.shape) := V7_a.c 0 _ rfl
        have q7_a_1 : w7.cell? ⟨w.heap.size, 1, none⟩ = some (.int .i64 a.sx) := V7_a.c 1 _ rfl
        have q7_a_2 : w7.cell? ⟨w.heap.size, 2, none⟩ = some (.int .i64 a.sy) := V7_a.c 2 _ rfl
        have q7_a_3 : w7.cell? ⟨w.heap.size, 3, none⟩ = some (.int .i64 a.mass) := V7_a.c 3 _ rfl
        have q7_a_4 : w7.cell? ⟨w.heap.size, 4, none⟩ = some (.int .i64 a.px) := V7_a.c 4 _ rfl
        have q7_a_5 : w7.cell? ⟨w.heap.size, 5, none⟩ = some (.int .i64 a.py) := V7_a.c 5 _ rfl
        have q7_a_6 : w7.cell? ⟨w.heap.size, 6, none⟩ = some (.int .i64 a.mx) := V7_a.c 6 _ rfl
        have q7_a_7 : w7.cell? ⟨w.heap.size, 7, none⟩ = some (.int .i64 a.my) := V7_a.c 7 _ rfl
        have f7_a := V7_a.2.2
        have L7_a := V7_a.lt
        have N7_a := Nat.ne_of_gt L7_a
        have M7_a := Nat.ne_of_lt L7_a
        have V7_b : M.Var w7 (w.heap.size + 1) #[.int .i64 b.shape, .int .i64 b.sx, .int .i64 b.sy, .int .i64 b.mass, .int .i64 b.px, .int .i64 b.py, .int .i64 b.mx, .int .i64 b.my] := M.Var.mono (b := w.heap.size + 1) (cs := #[.int .i64 b.shape, .int .i64 b.sx, .int .i64 b.sy, .int .i64 b.mass, .int .i64 b.px, .int .i64 b.py, .int .i64 b.mx, .int .i64 b.my]) (by (repeat (first | (with_reducible assumption) | (with_reducible apply M.var_set45) | (with_reducible apply M.var_setBd) | (with_reducible apply M.var_setV) | (with_reducible refine M.var_alloc' _ _ _ ?_; first | rfl | (focus (simp [go_sem]; done))) | (with_reducible refine M.Var.alloc ?_ _) | (with_reducible refine M.Var.drewN ?_ _) | (with_reducible refine M.Var.drew ?_) | (with_reducible refine M.Var.far ?_ _ _ ?hFar; case hFar => (first | omega | ((try simp [go_sem]) <;> omega))) | fail))) hb
        have q7_b_0 : w7.cell? ⟨w.heap.size + 1, 0, none⟩ = some (.int .i64 b.shape) := V7_b.c 0 _ rfl
        have q7_b_1 : w7.cell? ⟨w.heap.size + 1, 1, none⟩ = some (.int .i64 b.sx) := V7_b.c 1 _ rfl
        have q7_b_2 : w7.cell? ⟨w.heap.size + 1, 2, none⟩ = some (.int .i64 b.sy) := V7_b.c 2 _ rfl
        have q7_b_3 : w7.cell? ⟨w.heap.size + 1, 3, none⟩ = some (.int .i64 b.mass) := V7_b.c 3 _ rfl
        have q7_b_4 : w7.cell? ⟨w.heap.size + 1, 4, none⟩ = some (.int .i64 b.px) := V7_b.c 4 _ rfl
        have q7_b_5 : w7.cell? ⟨w.heap.size + 1, 5, none⟩ = some (.int .i64 b.py) := V7_b.c 5 _ rfl
        have q7_b_6 : w7.cell? ⟨w.heap.size + 1, 6, none⟩ = some (.int .i64 b.mx) := V7_b.c 6 _ rfl
        have q7_b_7 : w7.cell? ⟨w.heap.size + 1, 7, none⟩ = some (.int .i64 b.my) := V7_b.c 7 _ rfl
        have f7_b := V7_b.2.2
        have L7_b := V7_b.lt
        have N7_b := Nat.ne_of_gt L7_b
        have M7_b := Nat.ne_of_lt L7_b
        have V7_h : M.Var w7 (w.heap.size + 1 + 1) #[.int .i64 h.nx, .int .i64 h.ny, .int .i64 h.d] := M.Var.mono (b := w.heap.size + 1 + 1) (cs := #[.int .i64 h.nx, .int .i64 h.ny, .int .i64 h.d]) (by (repeat (first | (with_reducible assumption) | (with_reducible apply M.var_set45) | (with_reducible apply M.var_setBd) | (with_reducible apply M.var_setV) | (with_reducible refine M.var_alloc' _ _ _ ?_; first | rfl | (focus (simp [go_sem]; done))) | (with_reducible refine M.Var.alloc ?_ _) | (with_reducible refine M.Var.drewN ?_ _) | (with_reducible refine M.Var.drew ?_) | (with_reducible refine M.Var.far ?_ _ _ ?hFar; case hFar => (first | omega | ((try simp [go_sem]) <;> omega))) | fail))) hb
        have q7_h_0 : w7.cell? ⟨w.heap.size + 1 + 1, 0, none⟩ = some (.int .i64 h.nx) := V7_h.c 0 _ rfl
        have q7_h_1 : w7.cell? ⟨w.heap.size + 1 + 1, 1, none⟩ = some (.int .i64 h.ny) := V7_h.c 1 _ rfl
        have q7_h_2 : w7.cell? ⟨w.heap.size + 1 + 1, 2, none⟩ = some (.int .i64 h.d) := V7_h.c 2 _ rfl
        have f7_h := V7_h.2.2
        have L7_h := V7_h.lt
        have N7_h := Nat.ne_of_gt L7_h
        have M7_h := Nat.ne_of_lt L7_h
        have V7_r : M.Var w7 (w.heap.size + 1 + 1 + 1) #[.int .i64 0, .int .i64 0, .int .i64 0, .int .i64 0, .int .i64 0, .int .i64 0, .int .i64 0, .int .i64 0] := M.Var.mono (b := w.heap.size + 1 + 1 + 1) (cs := #[.int .i64 0, .int .i64 0, .int .i64 0, .int .i64 0, .int .i64 0, .int .i64 0, .int .i64 0, .int .i64 0]) (by (repeat (first | (with_reducible assumption) | (with_reducible apply M.var_set45) | (with_reducible apply M.var_setBd) | (with_reducible apply M.var_setV) | (with_reducible refine M.var_alloc' _ _ _ ?_; first | rfl | (focus (simp [go_sem]; done))) | (with_reducible refine M.Var.alloc ?_ _) | (with_reducible refine M.Var.drewN ?_ _) | (with_reducible refine M.Var.drew ?_) | (with_reducible refine M.Var.far ?_ _ _ ?hFar; case hFar => (first | omega | ((try simp [go_sem]) <;> omega))) | fail))) hb
        have q7_r_0 : w7.cell? ⟨w.heap.size + 1 + 1 + 1, 0, none⟩ = some (.int .i64 0) := V7_r.c 0 _ rfl
        have q7_r_1 : w7.cell? ⟨w.heap.size + 1 + 1 + 1, 1, none⟩ = some (.int .i64 0) := V7_r.c 1 _ rfl
        have q7_r_2 : w7.cell? ⟨w.heap.size + 1 + 1 + 1, 2, none⟩ = some (.int .i64 0) := V7_r.c 2 _ rfl
        have q7_r_3 : w7.cell? ⟨w.heap.size + 1 + 1 + 1, 3, none⟩ = some (.int .i64 0) := V7_r.c 3 _ rfl
        have q7_r_4 : w7.cell? ⟨w.heap.size + 1 + 1 + 1, 4, none⟩ = some (.int .i64 0) := V7_r.c 4 _ rfl
        have q7_r_5 : w7.cell? ⟨w.heap.size + 1 + 1 + 1, 5, none⟩ = some (.int .i64 0) := V7_r.c 5 _ rfl
        have q7_r_6 : w7.cell? ⟨w.heap.size + 1 + 1 + 1, 6, none⟩ = some (.int .i64 0) := V7_r.c 6 _ rfl
        have q7_r_7 : w7.cell? ⟨w.heap.size + 1 + 1 + 1, 7, none⟩ = some (.int .i64 0) := V7_r.c 7 _ rfl
        have f7_r := V7_r.2.2
        have L7_r := V7_r.lt
        have N7_r := Nat.ne_of_gt L7_r
        have M7_r := Nat.ne_of_lt L7_r
        have V7_s : M.Var w7 (w.heap.size + 1 + 1 + 1 + 1) #[.int .i64 0, .int .i64 0, .int .i64 0, .int .i64 0, .int .i64 0, .int .i64 0, .int .i64 0, .int .i64 0] := M.Var.mono (b := w.heap.size + 1 + 1 + 1 + 1) (cs := #[.int .i64 0, .int .i64 0, .int .i64 0, .int .i64 0, .int .i64 0, .int .i64 0, .int .i64 0, .int .i64 0]) (by (repeat (first | (with_reducible assumption) | (with_reducible apply M.var_set45) | (with_reducible apply M.var_setBd) | (with_reducible apply M.var_setV) | (with_reducible refine M.var_alloc' _ _ _ ?_; first | rfl | (focus (simp [go_sem]; done))) | (with_reducible refine M.Var.alloc ?_ _) | (with_reducible refine M.Var.drewN ?_ _) | (with_reducible refine M.Var.drew ?_) | (with_reducible refine M.Var.far ?_ _ _ ?hFar; case hFar => (first | omega | ((try simp [go_sem]) <;> omega))) | fail))) hb
        have q7_s_0 : w7.cell? ⟨w.heap.size + 1 + 1 + 1 + 1, 0, none⟩ = some (.int .i64 0) := V7_s.c 0 _ rfl
        have q7_s_1 : w7.cell? ⟨w.heap.size + 1 + 1 + 1 + 1, 1, none⟩ = some (.int .i64 0) := V7_s.c 1 _ rfl
        have q7_s_2 : w7.cell? ⟨w.heap.size + 1 + 1 + 1 + 1, 2, none⟩ = some (.int .i64 0) := V7_s.c 2 _ rfl
        have q7_s_3 : w7.cell? ⟨w.heap.size + 1 + 1 + 1 + 1, 3, none⟩ = some (.int .i64 0) := V7_s.c 3 _ rfl
        have q7_s_4 : w7.cell? ⟨w.heap.size + 1 + 1 + 1 + 1, 4, none⟩ = some (.int .i64 0) := V7_s.c 4 _ rfl
        have q7_s_5 : w7.cell? ⟨w.heap.size + 1 + 1 + 1 + 1, 5, none⟩ = some (.int .i64 0) := V7_s.c 5 _ rfl
        have q7_s_6 : w7.cell? ⟨w.heap.size + 1 + 1 + 1 + 1, 6, none⟩ = some (.int .i64 0) := V7_s.c 6 _ rfl
        have q7_s_7 : w7.cell? ⟨w.heap.size + 1 + 1 + 1 + 1, 7, none⟩ = some (.int .i64 0) := V7_s.c 7 _ rfl
        have f7_s := V7_s.2.2
        have L7_s := V7_s.lt
        have N7_s := Nat.ne_of_gt L7_s
        have M7_s := Nat.ne_of_lt L7_s
        clear V6_a f6_a L6_a N6_a M6_a q6_a_0 q6_a_1 q6_a_2 q6_a_3 q6_a_4 q6_a_5 q6_a_6 q6_a_7 V6_b f6_b L6_b N6_b M6_b q6_b_0 q6_b_1 q6_b_2 q6_b_3 q6_b_4 q6_b_5 q6_b_6 q6_b_7 V6_h f6_h L6_h N6_h M6_h q6_h_0 q6_h_1 q6_h_2 V6_r f6_r L6_r N6_r M6_r q6_r_0 q6_r_1 q6_r_2 q6_r_3 q6_r_4 q6_r_5 q6_r_6 q6_r_7 V6_s f6_s L6_s N6_s M6_s q6_s_0 q6_s_1 q6_s_2 q6_s_3 q6_s_4 q6_s_5 q6_s_6 q6_s_7
        have S7 := G7.size
        have HG7 := Lib.hid G7; clear G7 hb
        rcases ho with ⟨n7, hn7, hz7, rfl⟩ | ⟨u1, u2, hr, iu1, iu2, rfl⟩
        · exact ⟨rfl, .inl ⟨n7, by unfold contactX bounceX; simp only [Hhk.out, if_neg h3, Hhv.out, if_pos hv0, Hhxt.out, Hhxs.out, Hhxj.out, Hhg.out, hn7, andThen_ok, andThen_err], hz7, rfl⟩, HG7.out⟩
        have Hhr := Lib.hid hr; clear hr
        (try go_simp)
        refine hK.out _ _ (Lib.hid ⟨(fun _ => by (repeat (first | (with_reducible assumption) | (with_reducible apply M.var_set45) | (with_reducible apply M.var_setBd) | (with_reducible apply M.var_setV) | (with_reducible refine M.var_alloc' _ _ _ ?_; first | rfl | (focus (simp [go_sem]; done))) | (with_reducible refine M.Var.alloc ?_ _) | (with_reducible refine M.Var.drewN ?_ _) | (with_reducible refine M.Var.drew ?_) | (with_reducible refine M.Var.far ?_ _ _ ?hFar; case hFar => (first | omega | ((try simp [go_sem]) <;> omega))) | fail))), (fun _ => by (repeat (first | (with_reducible assumption) | (with_reducible apply M.var_set45) | (with_reducible apply M.var_setBd) | (with_reducible apply M.var_setV) | (with_reducible refine M.var_alloc' _ _ _ ?_; first | rfl | (focus (simp [go_sem]; done))) | (with_reducible refine M.Var.alloc ?_ _) | (with_reducible refine M.Var.drewN ?_ _) | (with_reducible refine M.Var.drew ?_) | (with_reducible refine M.Var.far ?_ _ _ ?hFar; case hFar => (first | omega | ((try simp [go_sem]) <;> omega))) | fail))), (by (repeat (first | (with_reducible assumption) | (with_reducible apply M.var_set45) | (with_reducible apply M.var_setBd) | (with_reducible apply M.var_setV) | (with_reducible refine M.var_alloc' _ _ _ ?_; first | rfl | (focus (simp [go_sem]; done))) | (with_reducible refine M.Var.alloc ?_ _) | (with_reducible refine M.Var.drewN ?_ _) | (with_reducible refine M.Var.drew ?_) | (with_reducible refine M.Var.far ?_ _ _ ?hFar; case hFar => (first | omega | ((try simp [go_sem]) <;> omega))) | fail))), trivial⟩) ?_
        clear hK K hTb hTS; intro hTb hTS
        try simp only [Act.put, List.setIfInBounds_toArray, List.set_cons_zero, List.set_cons_succ]
        refine wpTill_take (i := 7) (v := ?_) rfl (by kernel_rfl) (by kernel_rfl) (by kernel_rfl) hTb (fun _ _ _ h => h) (fun _ _ => by simp only [getD_set_ne false (show 7 ≠ 10 by decide), getD_set_ne false (show 7 ≠ 11 by decide)]) (Or.inl ⟨by rfl, ?_⟩) hTS ?_
        rotate_left
        · intro wT hT; clear hT
          go_simp
          all_goals with_reducible rfl
        clear hTb hTS; intro hTb hTS
        try simp only [Act.put, List.setIfInBounds_toArray, List.set_cons_zero, List.set_cons_succ]
        refine wpTill_take (i := 8) (v := ?_) rfl (by kernel_rfl) (by kernel_rfl) (by kernel_rfl) hTb (fun _ _ _ h => h) (fun _ _ => by simp only [getD_set_ne false (show 8 ≠ 10 by decide), getD_set_ne false (show 8 ≠ 11 by decide)]) (Or.inl ⟨by rfl, ?_⟩) hTS ?_
        rotate_left
        · intro wT hT; clear hT
          go_simp
          all_goals with_reducible rfl
        clear hTb hTS; intro hTb hTS
        try simp only [Act.put, List.setIfInBounds_toArray, List.set_cons_zero, List.set_cons_succ]
        refine wpTill_take (i := 9) (v := ?_) rfl (by kernel_rfl) (by kernel_rfl) (by kernel_rfl) hTb (fun _ _ _ h => h) (fun _ _ => by simp only [getD_set_ne false (show 9 ≠ 10 by decide), getD_set_ne false (show 9 ≠ 11 by decide)]) (Or.inl ⟨by rfl, ?_⟩) hTS ?_
        rotate_left
        · intro wT hT; clear hT
          go_simp
          all_goals with_reducible rfl
        clear hTb hTS; intro hTb hTS
        try simp only [Act.put, List.setIfInBounds_toArray, List.set_cons_zero, List.set_cons_succ]
        refine wpTill_one (i := 10) (by kernel_rfl) rfl hTb (fun K hK => ?_)
        go_simp
        (try go_simp)
        refine hK.out _ _ (Lib.hid ⟨till_gone (by kernel_rfl), (fun _ => by (repeat (first | (with_reducible assumption) | (with_reducible apply M.var_set45) | (with_reducible apply M.var_setBd) | (with_reducible apply M.var_setV) | (with_reducible refine M.var_alloc' _ _ _ ?_; first | rfl | (focus (simp [go_sem]; done))) | (with_reducible refine M.Var.alloc ?_ _) | (with_reducible refine M.Var.drewN ?_ _) | (with_reducible refine M.Var.drew ?_) | (with_reducible refine M.Var.far ?_ _ _ ?hFar; case hFar => (first | omega | ((try simp [go_sem]) <;> omega))) | fail))), (by (repeat (first | (with_reducible assumption) | (with_reducible apply M.var_set45) | (with_reducible apply M.var_setBd) | (with_reducible apply M.var_setV) | (with_reducible refine M.var_alloc' _ _ _ ?_; first | rfl | (focus (simp [go_sem]; done))) | (with_reducible refine M.Var.alloc ?_ _) | (with_reducible refine M.Var.drewN ?_ _) | (with_reducible refine M.Var.drew ?_) | (with_reducible refine M.Var.far ?_ _ _ ?hFar; case hFar => (first | omega | ((try simp [go_sem]) <;> omega))) | fail))), trivial⟩) ?_
        clear hK K hTb hTS; intro hTb hTS
        try simp only [Act.put, List.setIfInBounds_toArray, List.set_cons_zero, List.set_cons_succ]
        refine wpTill_one (i := 11) (by kernel_rfl) rfl hTb (fun K hK => ?_)
        go_simp
        (try go_simp)
        refine hK.out _ _ (Lib.hid ⟨till_gone (by kernel_rfl), till_gone (by kernel_rfl), (by (repeat (first | (with_reducible assumption) | (with_reducible apply M.var_set45) | (with_reducible apply M.var_setBd) | (with_reducible apply M.var_setV) | (with_reducible refine M.var_alloc' _ _ _ ?_; first | rfl | (focus (simp [go_sem]; done))) | (with_reducible refine M.Var.alloc ?_ _) | (with_reducible refine M.Var.drewN ?_ _) | (with_reducible refine M.Var.drew ?_) | (with_reducible refine M.Var.far ?_ _ _ ?hFar; case hFar => (first | omega | ((try simp [go_sem]) <;> omega))) | fail))), trivial⟩) ?_
        clear hK K hTb hTS; intro hTb hTS
        try simp only [Act.put, List.setIfInBounds_toArray, List.set_cons_zero, List.set_cons_succ]
        refine wpTill_done (by kernel_rfl) ?_ _; clear hTb hTS
        go_wp2_with (with_reducible refine M.stopPost ?_)
        go_meet
        case rel => exact ⟨u1, u2, iu1, iu2, Lib.hid (by unfold bounceX; simp only [if_pos hv0, Hhxt.out, Hhxs.out, Hhxj.out, Hhg.out, Hhr.out, andThen_ok]), Lib.hid (by have G := HG7.out; (repeat (with_reducible refine M.Below.drewN ?_ _)); go_grown), by (repeat (first | (with_reducible assumption) | (with_reducible apply M.var_set45) | (with_reducible apply M.var_setBd) | (with_reducible apply M.var_setV) | (with_reducible refine M.var_alloc' _ _ _ ?_; first | rfl | (focus (simp [go_sem]; done))) | (with_reducible refine M.Var.alloc ?_ _) | (with_reducible refine M.Var.drewN ?_ _) | (with_reducible refine M.Var.drew ?_) | (with_reducible refine M.Var.far ?_ _ _ ?hFar; case hFar => (first | omega | ((try simp [go_sem]) <;> omega))) | fail)), by (repeat (first | (with_reducible assumption) | (with_reducible apply M.var_set45) | (with_reducible apply M.var_setBd) | (with_reducible apply M.var_setV) | (with_reducible refine M.var_alloc' _ _ _ ?_; first | rfl | (focus (simp [go_sem]; done))) | (with_reducible refine M.Var.alloc ?_ _) | (with_reducible refine M.Var.drewN ?_ _) | (with_reducible refine M.Var.drew ?_) | (with_reducible refine M.Var.far ?_ _ _ ?hFar; case hFar => (first | omega | ((try simp [go_sem]) <;> omega))) | fail)), by (repeat (first | (with_reducible assumption) | (with_reducible apply M.var_set45) | (with_reducible apply M.var_setBd) | (with_reducible apply M.var_setV) | (with_reducible refine M.var_alloc' _ _ _ ?_; first | rfl | (focus (simp [go_sem]; done))) | (with_reducible refine M.Var.alloc ?_ _) | (with_reducible refine M.Var.drewN ?_ _) | (with_reducible refine M.Var.drew ?_) | (with_reducible refine M.Var.far ?_ _ _ ?hFar; case hFar => (first | omega | ((try simp [go_sem]) <;> omega))) | fail)), by (repeat (first | (with_reducible assumption) | (with_reducible apply M.var_set45) | (with_reducible apply M.var_setBd) | (with_reducible apply M.var_setV) | (with_reducible refine M.var_alloc' _ _ _ ?_; first | rfl | (focus (simp [go_sem]; done))) | (with_reducible refine M.Var.alloc ?_ _) | (with_reducible refine M.Var.drewN ?_ _) | (with_reducible refine M.Var.drew ?_) | (with_reducible refine M.Var.far ?_ _ _ ?hFar; case hFar => (first | omega | ((try simp [go_sem]) <;> omega))) | fail)), by (repeat (first | (with_reducible assumption) | (with_reducible apply M.var_set45) | (with_reducible apply M.var_setBd) | (with_reducible apply M.var_setV) | (with_reducible refine M.var_alloc' _ _ _ ?_; first | rfl | (focus (simp [go_sem]; done))) | (with_reducible refine M.Var.alloc ?_ _) | (with_reducible refine M.Var.drewN ?_ _) | (with_reducible refine M.Var.drew ?_) | (with_reducible refine M.Var.far ?_ _ _ ?hFar; case hFar => (first | omega | ((try simp [go_sem]) <;> omega))) | fail))⟩
      · have hv0 : ¬ v < 0 := by omega
        go_meet
        case rel => exact ⟨a, b, HA.out, HB.out, Lib.hid (by unfold bounceX; simp only [if_neg hv0]), Lib.hid (by have G := HG2.out; (repeat (with_reducible refine M.Below.drewN ?_ _)); go_grown), by (repeat (first | (with_reducible assumption) | (with_reducible apply M.var_set45) | (with_reducible apply M.var_setBd) | (with_reducible apply M.var_setV) | (with_reducible refine M.var_alloc' _ _ _ ?_; first | rfl | (focus (simp [go_sem]; done))) | (with_reducible refine M.Var.alloc ?_ _) | (with_reducible refine M.Var.drewN ?_ _) | (with_reducible refine M.Var.drew ?_) | (with_reducible refine M.Var.far ?_ _ _ ?hFar; case hFar => (first | omega | ((try simp [go_sem]) <;> omega))) | fail)), by (repeat (first | (with_reducible assumption) | (with_reducible apply M.var_set45) | (with_reducible apply M.var_setBd) | (with_reducible apply M.var_setV) | (with_reducible refine M.var_alloc' _ _ _ ?_; first | rfl | (focus (simp [go_sem]; done))) | (with_reducible refine M.Var.alloc ?_ _) | (with_reducible refine M.Var.drewN ?_ _) | (with_reducible refine M.Var.drew ?_) | (with_reducible refine M.Var.far ?_ _ _ ?hFar; case hFar => (first | omega | ((try simp [go_sem]) <;> omega))) | fail)), by (repeat (first | (with_reducible assumption) | (with_reducible apply M.var_set45) | (with_reducible apply M.var_setBd) | (with_reducible apply M.var_setV) | (with_reducible refine M.var_alloc' _ _ _ ?_; first | rfl | (focus (simp [go_sem]; done))) | (with_reducible refine M.Var.alloc ?_ _) | (with_reducible refine M.Var.drewN ?_ _) | (with_reducible refine M.Var.drew ?_) | (with_reducible refine M.Var.far ?_ _ _ ?hFar; case hFar => (first | omega | ((try simp [go_sem]) <;> omega))) | fail)), by (repeat (first | (with_reducible assumption) | (with_reducible apply M.var_set45) | (with_reducible apply M.var_setBd) | (with_reducible apply M.var_setV) | (with_reducible refine M.var_alloc' _ _ _ ?_; first | rfl | (focus (simp [go_sem]; done))) | (with_reducible refine M.Var.alloc ?_ _) | (with_reducible refine M.Var.drewN ?_ _) | (with_reducible refine M.Var.drew ?_) | (with_reducible refine M.Var.far ?_ _ _ ?hFar; case hFar => (first | omega | ((try simp [go_sem]) <;> omega))) | fail)), by (repeat (first | (with_reducible assumption) | (with_reducible apply M.var_set45) | (with_reducible apply M.var_setBd) | (with_reducible apply M.var_setV) | (with_reducible refine M.var_alloc' _ _ _ ?_; first | rfl | (focus (simp [go_sem]; done))) | (with_reducible refine M.Var.alloc ?_ _) | (with_reducible refine M.Var.drewN ?_ _) | (with_reducible refine M.Var.drew ?_) | (with_reducible refine M.Var.far ?_ _ _ ?hFar; case hFar => (first | omega | ((try simp [go_sem]) <;> omega))) | fail))⟩
    case rest =>
      obtain ⟨c1, c2, i1, i2, hx, HGd, Vd_a, Vd_b, Vd_h, Vd_r, Vd_s⟩ := hcut
      have Sd : w.heap.size ≤ wc.heap.size := HGd.out.size
      clear V2_a f2_a L2_a N2_a M2_a q2_a_0 q2_a_1 q2_a_2 q2_a_3 q2_a_4 q2_a_5 q2_a_6 q2_a_7 V2_b f2_b L2_b N2_b M2_b q2_b_0 q2_b_1 q2_b_2 q2_b_3 q2_b_4 q2_b_5 q2_b_6 q2_b_7 V2_h f2_h L2_h N2_h M2_h q2_h_0 q2_h_1 q2_h_2 V2_r f2_r L2_r N2_r M2_r q2_r_0 q2_r_1 q2_r_2 q2_r_3 q2_r_4 q2_r_5 q2_r_6 q2_r_7 V2_s f2_s L2_s N2_s M2_s q2_s_0 q2_s_1 q2_s_2 q2_s_3 q2_s_4 q2_s_5 q2_s_6 q2_s_7
      have qd_a_0 : wc.cell? ⟨w.heap.size, 0, none⟩ = some (.int .i64 c1.shape) := Vd_a.c 0 _ rfl
      have qd_a_1 : wc.cell? ⟨w.heap.size, 1, none⟩ = some (.int .i64 c1.sx) := Vd_a.c 1 _ rfl
      have qd_a_2 : wc.cell? ⟨w.heap.size, 2, none⟩ = some (.int .i64 c1.sy) := Vd_a.c 2 _ rfl
      have qd_a_3 : wc.cell? ⟨w.heap.size, 3, none⟩ = some (.int .i64 c1.mass) := Vd_a.c 3 _ rfl
      have qd_a_4 : wc.cell? ⟨w.heap.size, 4, none⟩ = some (.int .i64 c1.px) := Vd_a.c 4 _ rfl
      have qd_a_5 : wc.cell? ⟨w.heap.size, 5, none⟩ = some (.int .i64 c1.py) := Vd_a.c 5 _ rfl
      have qd_a_6 : wc.cell? ⟨w.heap.size, 6, none⟩ = some (.int .i64 c1.mx) := Vd_a.c 6 _ rfl
      have qd_a_7 : wc.cell? ⟨w.heap.size, 7, none⟩ = some (.int .i64 c1.my) := Vd_a.c 7 _ rfl
      have fd_a := Vd_a.2.2; have Ld_a := Vd_a.lt; have Nd_a := Nat.ne_of_gt Ld_a; have Md_a := Nat.ne_of_lt Ld_a
      have qd_b_0 : wc.cell? ⟨w.heap.size + 1, 0, none⟩ = some (.int .i64 c2.shape) := Vd_b.c 0 _ rfl
      have qd_b_1 : wc.cell? ⟨w.heap.size + 1, 1, none⟩ = some (.int .i64 c2.sx) := Vd_b.c 1 _ rfl
      have qd_b_2 : wc.cell? ⟨w.heap.size + 1, 2, none⟩ = some (.int .i64 c2.sy) := Vd_b.c 2 _ rfl
      have qd_b_3 : wc.cell? ⟨w.heap.size + 1, 3, none⟩ = some (.int .i64 c2.mass) := Vd_b.c 3 _ rfl
      have qd_b_4 : wc.cell? ⟨w.heap.size + 1, 4, none⟩ = some (.int .i64 c2.px) := Vd_b.c 4 _ rfl
      have qd_b_5 : wc.cell? ⟨w.heap.size + 1, 5, none⟩ = some (.int .i64 c2.py) := Vd_b.c 5 _ rfl
      have qd_b_6 : wc.cell? ⟨w.heap.size + 1, 6, none⟩ = some (.int .i64 c2.mx) := Vd_b.c 6 _ rfl
      have qd_b_7 : wc.cell? ⟨w.heap.size + 1, 7, none⟩ = some (.int .i64 c2.my) := Vd_b.c 7 _ rfl
      have fd_b := Vd_b.2.2; have Ld_b := Vd_b.lt; have Nd_b := Nat.ne_of_gt Ld_b; have Md_b := Nat.ne_of_lt Ld_b
      have qd_h_0 : wc.cell? ⟨w.heap.size + 1 + 1, 0, none⟩ = some (.int .i64 h.nx) := Vd_h.c 0 _ rfl
      have qd_h_1 : wc.cell? ⟨w.heap.size + 1 + 1, 1, none⟩ = some (.int .i64 h.ny) := Vd_h.c 1 _ rfl
      have qd_h_2 : wc.cell? ⟨w.heap.size + 1 + 1, 2, none⟩ = some (.int .i64 h.d) := Vd_h.c 2 _ rfl
      have fd_h := Vd_h.2.2; have Ld_h := Vd_h.lt; have Nd_h := Nat.ne_of_gt Ld_h; have Md_h := Nat.ne_of_lt Ld_h
      have qd_r_0 : wc.cell? ⟨w.heap.size + 1 + 1 + 1, 0, none⟩ = some (.int .i64 0) := Vd_r.c 0 _ rfl
      have qd_r_1 : wc.cell? ⟨w.heap.size + 1 + 1 + 1, 1, none⟩ = some (.int .i64 0) := Vd_r.c 1 _ rfl
      have qd_r_2 : wc.cell? ⟨w.heap.size + 1 + 1 + 1, 2, none⟩ = some (.int .i64 0) := Vd_r.c 2 _ rfl
      have qd_r_3 : wc.cell? ⟨w.heap.size + 1 + 1 + 1, 3, none⟩ = some (.int .i64 0) := Vd_r.c 3 _ rfl
      have qd_r_4 : wc.cell? ⟨w.heap.size + 1 + 1 + 1, 4, none⟩ = some (.int .i64 0) := Vd_r.c 4 _ rfl
      have qd_r_5 : wc.cell? ⟨w.heap.size + 1 + 1 + 1, 5, none⟩ = some (.int .i64 0) := Vd_r.c 5 _ rfl
      have qd_r_6 : wc.cell? ⟨w.heap.size + 1 + 1 + 1, 6, none⟩ = some (.int .i64 0) := Vd_r.c 6 _ rfl
      have qd_r_7 : wc.cell? ⟨w.heap.size + 1 + 1 + 1, 7, none⟩ = some (.int .i64 0) := Vd_r.c 7 _ rfl
      have fd_r := Vd_r.2.2; have Ld_r := Vd_r.lt; have Nd_r := Nat.ne_of_gt Ld_r; have Md_r := Nat.ne_of_lt Ld_r
      have qd_s_0 : wc.cell? ⟨w.heap.size + 1 + 1 + 1 + 1, 0, none⟩ = some (.int .i64 0) := Vd_s.c 0 _ rfl
      have qd_s_1 : wc.cell? ⟨w.heap.size + 1 + 1 + 1 + 1, 1, none⟩ = some (.int .i64 0) := Vd_s.c 1 _ rfl
      have qd_s_2 : wc.cell? ⟨w.heap.size + 1 + 1 + 1 + 1, 2, none⟩ = some (.int .i64 0) := Vd_s.c 2 _ rfl
      have qd_s_3 : wc.cell? ⟨w.heap.size + 1 + 1 + 1 + 1, 3, none⟩ = some (.int .i64 0) := Vd_s.c 3 _ rfl
      have qd_s_4 : wc.cell? ⟨w.heap.size + 1 + 1 + 1 + 1, 4, none⟩ = some (.int .i64 0) := Vd_s.c 4 _ rfl
      have qd_s_5 : wc.cell? ⟨w.heap.size + 1 + 1 + 1 + 1, 5, none⟩ = some (.int .i64 0) := Vd_s.c 5 _ rfl
      have qd_s_6 : wc.cell? ⟨w.heap.size + 1 + 1 + 1 + 1, 6, none⟩ = some (.int .i64 0) := Vd_s.c 6 _ rfl
      have qd_s_7 : wc.cell? ⟨w.heap.size + 1 + 1 + 1 + 1, 7, none⟩ = some (.int .i64 0) := Vd_s.c 7 _ rfl
      have fd_s := Vd_s.2.2; have Ld_s := Vd_s.lt; have Nd_s := Nat.ne_of_gt Ld_s; have Md_s := Nat.ne_of_lt Ld_s
      go_wp2_with (with_reducible refine M.stopPost ?_)
      have D1 := Lib.hid (light_x c1 i1)
      have D2 := Lib.hid (light_x c2 i2)
      (with_reducible refine ((C8.out _ _ idd ik) _).mono ?_); rintro en w' ⟨⟨n8, hn8, hz8, rfl⟩ | ⟨c, hc, ic, rfl⟩, d8, rfl⟩
      · exact ⟨rfl, .inl ⟨n8, by unfold contactX partsX Bd.pos; simp only [Hhk.out, if_neg h3, Hhv.out, hx.out, hn8, andThen_ok, andThen_err], hz8, rfl⟩, by have G := HGd.out; (repeat (with_reducible refine M.Below.drewN ?_ _)); go_grown⟩
      have Hhc := Lib.hid hc; clear hc
      go_wp2_with (with_reducible refine M.stopPost ?_)
      refine wp_region_till (S := fun sT wT' => Hid ((sT.getD 11 false = false → M.Var wT' (w.heap.size) #[.int .i64 c1.shape, .int .i64 c1.sx, .int .i64 c1.sy, .int .i64 c1.mass, .int .i64 c1.px, .int .i64 c1.py, .int .i64 c1.mx, .int .i64 c1.my]) ∧ M.Var wT' (w.heap.size + 1 + 1) #[.int .i64 h.nx, .int .i64 h.ny, .int .i64 h.d] ∧ True)) (by kernel_rfl) (Lib.hid ⟨(fun _ => by (repeat (first | (with_reducible assumption) | (with_reducible apply M.var_set45) | (with_reducible apply M.var_setBd) | (with_reducible apply M.var_setV) | (with_reducible refine M.var_alloc' _ _ _ ?_; first | rfl | (focus (simp [go_sem]; done))) | (with_reducible refine M.Var.alloc ?_ _) | (with_reducible refine M.Var.drewN ?_ _) | (with_reducible refine M.Var.drew ?_) | (with_reducible refine M.Var.far ?_ _ _ ?hFar; case hFar => (first | omega | ((try simp [go_sem]) <;> omega))) | fail))), (by (repeat (first | (with_reducible assumption) | (with_reducible apply M.var_set45) | (with_reducible apply M.var_setBd) | (with_reducible apply M.var_setV) | (with_reducible refine M.var_alloc' _ _ _ ?_; first | rfl | (focus (simp [go_sem]; done))) | (with_reducible refine M.Var.alloc ?_ _) | (with_reducible refine M.Var.drewN ?_ _) | (with_reducible refine M.Var.drew ?_) | (with_reducible refine M.Var.far ?_ _ _ ?hFar; case hFar => (first | omega | ((try simp [go_sem]) <;> omega))) | fail))), trivial⟩) ?_
      intro hTb hTS
      refine wpTill_take (i := 0) (v := ?_) rfl (by kernel_rfl) (by kernel_rfl) (by kernel_rfl) hTb (fun _ _ _ h => h) (fun _ _ => by simp only [getD_set_ne false (show 0 ≠ 11 by decide)]) (Or.inl ⟨by rfl, ?_⟩) hTS ?_
      rotate_left
      · intro wT hT; clear hT
        go_simp
        all_goals with_reducible rfl
      clear hTb hTS; intro hTb hTS
      try simp only [Act.put, List.setIfInBounds_toArray, List.set_cons_zero, List.set_cons_succ]
      refine wpTill_take (i := 1) (v := ?_) rfl (by kernel_rfl) (by kernel_rfl) (by kernel_rfl) hTb (fun _ _ _ h => h) (fun _ _ => by simp only [getD_set_ne false (show 1 ≠ 11 by decide)]) (Or.inl ⟨by rfl, ?_⟩) hTS ?_
      rotate_left
      · rintro wT ⟨sT, hbT, huT, hST⟩
        have zT_a_0 := (hST.out.1 (till_flag (k := 11) (by kernel_rfl) hbT huT)).c 0 _ rfl
        have zT_a_1 := (hST.out.1 (till_flag (k := 11) (by kernel_rfl) hbT huT)).c 1 _ rfl
        have zT_a_2 := (hST.out.1 (till_flag (k := 11) (by kernel_rfl) hbT huT)).c 2 _ rfl
        have zT_a_3 := (hST.out.1 (till_flag (k := 11) (by kernel_rfl) hbT huT)).c 3 _ rfl
        have zT_a_4 := (hST.out.1 (till_flag (k := 11) (by kernel_rfl) hbT huT)).c 4 _ rfl
        have zT_a_5 := (hST.out.1 (till_flag (k := 11) (by kernel_rfl) hbT huT)).c 5 _ rfl
        have zT_a_6 := (hST.out.1 (till_flag (k := 11) (by kernel_rfl) hbT huT)).c 6 _ rfl
        have zT_a_7 := (hST.out.1 (till_flag (k := 11) (by kernel_rfl) hbT huT)).c 7 _ rfl
        have zT_h_0 := hST.out.2.1.c 0 _ rfl
        have zT_h_1 := hST.out.2.1.c 1 _ rfl
        have zT_h_2 := hST.out.2.1.c 2 _ rfl
        clear hST hbT huT
        go_simp
        all_goals with_reducible rfl
      clear hTb hTS; intro hTb hTS
      try simp only [Act.put, List.setIfInBounds_toArray, List.set_cons_zero, List.set_cons_succ]
      refine wpTill_take (i := 2) (v := ?_) rfl (by kernel_rfl) (by kernel_rfl) (by kernel_rfl) hTb (fun _ _ _ h => h) (fun _ _ => by simp only [getD_set_ne false (show 2 ≠ 11 by decide)]) (Or.inl ⟨by rfl, ?_⟩) hTS ?_
      rotate_left
      · intro wT hT; clear hT
        go_simp
        all_goals with_reducible rfl
      clear hTb hTS; intro hTb hTS
      try simp only [Act.put, List.setIfInBounds_toArray, List.set_cons_zero, List.set_cons_succ]
      refine wpTill_take (i := 3) (v := ?_) rfl (by kernel_rfl) (by kernel_rfl) (by kernel_rfl) hTb (fun _ _ _ h => h) (fun _ _ => by simp only [getD_set_ne false (show 3 ≠ 11 by decide)]) (Or.inl ⟨by rfl, ?_⟩) hTS ?_
      rotate_left
      · rintro wT ⟨sT, hbT, huT, hST⟩
        have zT_a_0 := (hST.out.1 (till_flag (k := 11) (by kernel_rfl) hbT huT)).c 0 _ rfl
        have zT_a_1 := (hST.out.1 (till_flag (k := 11) (by kernel_rfl) hbT huT)).c 1 _ rfl
        have zT_a_2 := (hST.out.1 (till_flag (k := 11) (by kernel_rfl) hbT huT)).c 2 _ rfl
        have zT_a_3 := (hST.out.1 (till_flag (k := 11) (by kernel_rfl) hbT huT)).c 3 _ rfl
        have zT_a_4 := (hST.out.1 (till_flag (k := 11) (by kernel_rfl) hbT huT)).c 4 _ rfl
        have zT_a_5 := (hST.out.1 (till_flag (k := 11) (by kernel_rfl) hbT huT)).c 5 _ rfl
        have zT_a_6 := (hST.out.1 (till_flag (k := 11) (by kernel_rfl) hbT huT)).c 6 _ rfl
        have zT_a_7 := (hST.out.1 (till_flag (k := 11) (by kernel_rfl) hbT huT)).c 7 _ rfl
        have zT_h_0 := hST.out.2.1.c 0 _ rfl
        have zT_h_1 := hST.out.2.1.c 1 _ rfl
        have zT_h_2 := hST.out.2.1.c 2 _ rfl
        clear hST hbT huT
        go_simp
        all_goals with_reducible rfl
      clear hTb hTS; intro hTb hTS
      try simp only [Act.put, List.setIfInBounds_toArray, List.set_cons_zero, List.set_cons_succ]
      refine wpTill_take (i := 4) (v := ?_) rfl (by kernel_rfl) (by kernel_rfl) (by kernel_rfl) hTb (fun _ _ _ h => h) (fun _ _ => by simp only [getD_set_ne false (show 4 ≠ 11 by decide)]) (Or.inl ⟨by rfl, ?_⟩) hTS ?_
      rotate_left
      · intro wT hT; clear hT
        go_simp
        all_goals with_reducible rfl
      clear hTb hTS; intro hTb hTS
      try simp only [Act.put, List.setIfInBounds_toArray, List.set_cons_zero, List.set_cons_succ]
      refine wpTill_take (i := 5) (v := ?_) rfl (by kernel_rfl) (by kernel_rfl) (by kernel_rfl) hTb (fun _ _ _ h => h) (fun _ _ => by simp only [getD_set_ne false (show 5 ≠ 11 by decide)]) (Or.inl ⟨by rfl, ?_⟩) hTS ?_
      rotate_left
      · rintro wT ⟨sT, hbT, huT, hST⟩
        have zT_a_0 := (hST.out.1 (till_flag (k := 11) (by kernel_rfl) hbT huT)).c 0 _ rfl
        have zT_a_1 := (hST.out.1 (till_flag (k := 11) (by kernel_rfl) hbT huT)).c 1 _ rfl
        have zT_a_2 := (hST.out.1 (till_flag (k := 11) (by kernel_rfl) hbT huT)).c 2 _ rfl
        have zT_a_3 := (hST.out.1 (till_flag (k := 11) (by kernel_rfl) hbT huT)).c 3 _ rfl
        have zT_a_4 := (hST.out.1 (till_flag (k := 11) (by kernel_rfl) hbT huT)).c 4 _ rfl
        have zT_a_5 := (hST.out.1 (till_flag (k := 11) (by kernel_rfl) hbT huT)).c 5 _ rfl
        have zT_a_6 := (hST.out.1 (till_flag (k := 11) (by kernel_rfl) hbT huT)).c 6 _ rfl
        have zT_a_7 := (hST.out.1 (till_flag (k := 11) (by kernel_rfl) hbT huT)).c 7 _ rfl
        have zT_h_0 := hST.out.2.1.c 0 _ rfl
        have zT_h_1 := hST.out.2.1.c 1 _ rfl
        have zT_h_2 := hST.out.2.1.c 2 _ rfl
        clear hST hbT huT
        go_simp
        all_goals with_reducible rfl
      clear hTb hTS; intro hTb hTS
      try simp only [Act.put, List.setIfInBounds_toArray, List.set_cons_zero, List.set_cons_succ]
      refine wpTill_one (i := 6) (by kernel_rfl) rfl hTb (fun K hK => ?_)
      go_simp
      (with_reducible refine (D1.out _).mono ?_); rintro en w9 ⟨ho, hb⟩
      have G9 : Below w.heap.size w w9 := Below.trans (by have G := HGd.out; (repeat (with_reducible refine M.Below.drewN ?_ _)); go_grown) (hb.mono (by go_size))
      have V9_a : M.Var w9 (w.heap.size) #[.int .i64 c1.shape, .int .i64 c1.sx, .int .i64 c1.sy, .int .i64 c1.mass, .int .i64 c1.px, .int .i64 c1.py, .int .i64 c1.mx, .int .i64 c1.my] := M.Var.mono (b := w.heap.size) (cs := #[.int .i64 c1.shape, .int .i64 c1.sx, .int .i64 c1.sy, .int .i64 c1.mass, .int .i64 c1.px, .int .i64 c1.py, .int .i64 c1.mx, .int .i64 c1.my]) (by (repeat (first | (with_reducible assumption) | (with_reducible apply M.var_set45) | (with_reducible apply M.var_setBd) | (with_reducible apply M.var_setV) | (with_reducible refine M.var_alloc' _ _ _ ?_; first | rfl | (focus (simp [go_sem]; done))) | (with_reducible refine M.Var.alloc ?_ _) | (with_reducible refine M.Var.drewN ?_ _) | (with_reducible refine M.Var.drew ?_) | (with_reducible refine M.Var.far ?_ _ _ ?hFar; case hFar => (first | omega | ((try simp [go_sem]) <;> omega))) | fail))) hb
      have q9_a_0 : w9.cell? ⟨w.heap.size, 0, none⟩ = some (.int .i64 c1.shape) := V9_a.c 0 _ rfl
      have q9_a_1 : w9.cell? ⟨w.heap.size, 1, none⟩ = some (.int .i64 c1.sx) := V9_a.c 1 _ rfl
      have q9_a_2 : w9.cell? ⟨w.heap.size, 2, none⟩ = some (.int .i64 c1.sy) := V9_a.c 2 _ rfl
      have q9_a_3 : w9.cell? ⟨w.heap.size, 3, none⟩ = some (.int .i64 c1.mass) := V9_a.c 3 _ rfl
      have q9_a_4 : w9.cell? ⟨w.heap.size, 4, none⟩ = some (.int .i64 c1.px) := V9_a.c 4 _ rfl
      have q9_a_5 : w9.cell? ⟨w.heap.size, 5, none⟩ = some (.int .i64 c1.py) := V9_a.c 5 _ rfl
      have q9_a_6 : w9.cell? ⟨w.heap.size, 6, none⟩ = some (.int .i64 c1.mx) := V9_a.c 6 _ rfl
      have q9_a_7 : w9.cell? ⟨w.heap.size, 7, none⟩ = some (.int .i64 c1.my) := V9_a.c 7 _ rfl
      have f9_a := V9_a.2.2
      have L9_a := V9_a.lt
      have N9_a := Nat.ne_of_gt L9_a
      have M9_a := Nat.ne_of_lt L9_a
      have V9_b : M.Var w9 (w.heap.size + 1) #[.int .i64 c2.shape, .int .i64 c2.sx, .int .i64 c2.sy, .int .i64 c2.mass, .int .i64 c2.px, .int .i64 c2.py, .int .i64 c2.mx, .int .i64 c2.my] := M.Var.mono (b := w.heap.size + 1) (cs := #[.int .i64 c2.shape, .int .i64 c2.sx, .int .i64 c2.sy, .int .i64 c2.mass, .int .i64 c2.px, .int .i64 c2.py, .int .i64 c2.mx, .int .i64 c2.my]) (by (repeat (first | (with_reducible assumption) | (with_reducible apply M.var_set45) | (with_reducible apply M.var_setBd) | (with_reducible apply M.var_setV) | (with_reducible refine M.var_alloc' _ _ _ ?_; first | rfl | (focus (simp [go_sem]; done))) | (with_reducible refine M.Var.alloc ?_ _) | (with_reducible refine M.Var.drewN ?_ _) | (with_reducible refine M.Var.drew ?_) | (with_reducible refine M.Var.far ?_ _ _ ?hFar; case hFar => (first | omega | ((try simp [go_sem]) <;> omega))) | fail))) hb
      have q9_b_0 : w9.cell? ⟨w.heap.size + 1, 0, none⟩ = some (.int .i64 c2.shape) := V9_b.c 0 _ rfl
      have q9_b_1 : w9.cell? ⟨w.heap.size + 1, 1, none⟩ = some (.int .i64 c2.sx) := V9_b.c 1 _ rfl
      have q9_b_2 : w9.cell? ⟨w.heap.size + 1, 2, none⟩ = some (.int .i64 c2.sy) := V9_b.c 2 _ rfl
      have q9_b_3 : w9.cell? ⟨w.heap.size + 1, 3, none⟩ = some (.int .i64 c2.mass) := V9_b.c 3 _ rfl
      have q9_b_4 : w9.cell? ⟨w.heap.size + 1, 4, none⟩ = some (.int .i64 c2.px) := V9_b.c 4 _ rfl
      have q9_b_5 : w9.cell? ⟨w.heap.size + 1, 5, none⟩ = some (.int .i64 c2.py) := V9_b.c 5 _ rfl
      have q9_b_6 : w9.cell? ⟨w.heap.size + 1, 6, none⟩ = some (.int .i64 c2.mx) := V9_b.c 6 _ rfl
      have q9_b_7 : w9.cell? ⟨w.heap.size + 1, 7, none⟩ = some (.int .i64 c2.my) := V9_b.c 7 _ rfl
      have f9_b := V9_b.2.2
      have L9_b := V9_b.lt
      have N9_b := Nat.ne_of_gt L9_b
      have M9_b := Nat.ne_of_lt L9_b
      have V9_h : M.Var w9 (w.heap.size + 1 + 1) #[.int .i64 h.nx, .int .i64 h.ny, .int .i64 h.d] := M.Var.mono (b := w.heap.size + 1 + 1) (cs := #[.int .i64 h.nx, .int .i64 h.ny, .int .i64 h.d]) (by (repeat (first | (with_reducible assumption) | (with_reducible apply M.var_set45) | (with_reducible apply M.var_setBd) | (with_reducible apply M.var_setV) | (with_reducible refine M.var_alloc' _ _ _ ?_; first | rfl | (focus (simp [go_sem]; done))) | (with_reducible refine M.Var.alloc ?_ _) | (with_reducible refine M.Var.drewN ?_ _) | (with_reducible refine M.Var.drew ?_) | (with_reducible refine M.Var.far ?_ _ _ ?hFar; case hFar => (first | omega | ((try simp [go_sem]) <;> omega))) | fail))) hb
      have q9_h_0 : w9.cell? ⟨w.heap.size + 1 + 1, 0, none⟩ = some (.int .i64 h.nx) := V9_h.c 0 _ rfl
      have q9_h_1 : w9.cell? ⟨w.heap.size + 1 + 1, 1, none⟩ = some (.int .i64 h.ny) := V9_h.c 1 _ rfl
      have q9_h_2 : w9.cell? ⟨w.heap.size + 1 + 1, 2, none⟩ = some (.int .i64 h.d) := V9_h.c 2 _ rfl
      have f9_h := V9_h.2.2
      have L9_h := V9_h.lt
      have N9_h := Nat.ne_of_gt L9_h
      have M9_h := Nat.ne_of_lt L9_h
      have V9_r : M.Var w9 (w.heap.size + 1 + 1 + 1) #[.int .i64 0, .int .i64 0, .int .i64 0, .int .i64 0, .int .i64 0, .int .i64 0, .int .i64 0, .int .i64 0] := M.Var.mono (b := w.heap.size + 1 + 1 + 1) (cs := #[.int .i64 0, .int .i64 0, .int .i64 0, .int .i64 0, .int .i64 0, .int .i64 0, .int .i64 0, .int .i64 0]) (by (repeat (first | (with_reducible assumption) | (with_reducible apply M.var_set45) | (with_reducible apply M.var_setBd) | (with_reducible apply M.var_setV) | (with_reducible refine M.var_alloc' _ _ _ ?_; first | rfl | (focus (simp [go_sem]; done))) | (with_reducible refine M.Var.alloc ?_ _) | (with_reducible refine M.Var.drewN ?_ _) | (with_reducible refine M.Var.drew ?_) | (with_reducible refine M.Var.far ?_ _ _ ?hFar; case hFar => (first | omega | ((try simp [go_sem]) <;> omega))) | fail))) hb
      have q9_r_0 : w9.cell? ⟨w.heap.size + 1 + 1 + 1, 0, none⟩ = some (.int .i64 0) := V9_r.c 0 _ rfl
      have q9_r_1 : w9.cell? ⟨w.heap.size + 1 + 1 + 1, 1, none⟩ = some (.int .i64 0) := V9_r.c 1 _ rfl
      have q9_r_2 : w9.cell? ⟨w.heap.size + 1 + 1 + 1, 2, none⟩ = some (.int .i64 0) := V9_r.c 2 _ rfl
      have q9_r_3 : w9.cell? ⟨w.heap.size + 1 + 1 + 1, 3, none⟩ = some (.int .i64 0) := V9_r.c 3 _ rfl
      have q9_r_4 : w9.cell? ⟨w.heap.size + 1 + 1 + 1, 4, none⟩ = some (.int .i64 0) := V9_r.c 4 _ rfl
      have q9_r_5 : w9.cell? ⟨w.heap.size + 1 + 1 + 1, 5, none⟩ = some (.int .i64 0) := V9_r.c 5 _ rfl
      have q9_r_6 : w9.cell? ⟨w.heap.size + 1 + 1 + 1, 6, none⟩ = some (.int .i64 0) := V9_r.c 6 _ rfl
      have q9_r_7 : w9.cell? ⟨w.heap.size + 1 + 1 + 1, 7, none⟩ = some (.int .i64 0) := V9_r.c 7 _ rfl
      have f9_r := V9_r.2.2
      have L9_r := V9_r.lt
      have N9_r := Nat.ne_of_gt L9_r
      have M9_r := Nat.ne_of_lt L9_r
      have V9_s : M.Var w9 (w.heap.size + 1 + 1 + 1 + 1) #[.int .i64 0, .int .i64 0, .int .i64 0, .int .i64 0, .int .i64 0, .int .i64 0, .int .i64 0, .int .i64 0] := M.Var.mono (b := w.heap.size + 1 + 1 + 1 + 1) (cs := #[.int .i64 0, .int .i64 0, .int .i64 0, .int .i64 0, .int .i64 0, .int .i64 0, .int .i64 0, .int .i64 0]) (by (repeat (first | (with_reducible assumption) | (with_reducible apply M.var_set45) | (with_reducible apply M.var_setBd) | (with_reducible apply M.var_setV) | (with_reducible refine M.var_alloc' _ _ _ ?_; first | rfl | (focus (simp [go_sem]; done))) | (with_reducible refine M.Var.alloc ?_ _) | (with_reducible refine M.Var.drewN ?_ _) | (with_reducible refine M.Var.drew ?_) | (with_reducible refine M.Var.far ?_ _ _ ?hFar; case hFar => (first | omega | ((try simp [go_sem]) <;> omega))) | fail))) hb
      have q9_s_0 : w9.cell? ⟨w.heap.size + 1 + 1 + 1 + 1, 0, none⟩ = some (.int .i64 0) := V9_s.c 0 _ rfl
      have q9_s_1 : w9.cell? ⟨w.heap.size + 1 + 1 + 1 + 1, 1, none⟩ = some (.int .i64 0) := V9_s.c 1 _ rfl
      have q9_s_2 : w9.cell? ⟨w.heap.size + 1 + 1 + 1 + 1, 2, none⟩ = some (.int .i64 0) := V9_s.c 2 _ rfl
      have q9_s_3 : w9.cell? ⟨w.heap.size + 1 + 1 + 1 + 1, 3, none⟩ = some (.int .i64 0) := V9_s.c 3 _ rfl
      have q9_s_4 : w9.cell? ⟨w.heap.size + 1 + 1 + 1 + 1, 4, none⟩ = some (.int .i64 0) := V9_s.c 4 _ rfl
      have q9_s_5 : w9.cell? ⟨w.heap.size + 1 + 1 + 1 + 1, 5, none⟩ = some (.int .i64 0) := V9_s.c 5 _ rfl
      have q9_s_6 : w9.cell? ⟨w.heap.size + 1 + 1 + 1 + 1, 6, none⟩ = some (.int .i64 0) := V9_s.c 6 _ rfl
      have q9_s_7 : w9.cell? ⟨w.heap.size + 1 + 1 + 1 + 1, 7, none⟩ = some (.int .i64 0) := V9_s.c 7 _ rfl
      have f9_s := V9_s.2.2
      have L9_s := V9_s.lt
      have N9_s := Nat.ne_of_gt L9_s
      have M9_s := Nat.ne_of_lt L9_s
      clear Vd_a fd_a Ld_a Nd_a Md_a qd_a_0 qd_a_1 qd_a_2 qd_a_3 qd_a_4 qd_a_5 qd_a_6 qd_a_7 Vd_b fd_b Ld_b Nd_b Md_b qd_b_0 qd_b_1 qd_b_2 qd_b_3 qd_b_4 qd_b_5 qd_b_6 qd_b_7 Vd_h fd_h Ld_h Nd_h Md_h qd_h_0 qd_h_1 qd_h_2 Vd_r fd_r Ld_r Nd_r Md_r qd_r_0 qd_r_1 qd_r_2 qd_r_3 qd_r_4 qd_r_5 qd_r_6 qd_r_7 Vd_s fd_s Ld_s Nd_s Md_s qd_s_0 qd_s_1 qd_s_2 qd_s_3 qd_s_4 qd_s_5 qd_s_6 qd_s_7
      have S9 := G9.size
      have HG9 := Lib.hid G9; clear G9 hb
      rcases ho with ⟨n9, hn9, hz9, rfl⟩ | ⟨la, hla, ila, rfl⟩
      · exact ⟨rfl, .inl ⟨n9, by unfold contactX partsX Bd.pos; simp only [Hhk.out, if_neg h3, Hhv.out, hx.out, Hhc.out, hn9, andThen_ok, andThen_err], hz9, rfl⟩, HG9.out⟩
      have Hhla := Lib.hid hla; clear hla
      (try go_simp)
      refine hK.out _ _ (Lib.hid ⟨(fun _ => by (repeat (first | (with_reducible assumption) | (with_reducible apply M.var_set45) | (with_reducible apply M.var_setBd) | (with_reducible apply M.var_setV) | (with_reducible refine M.var_alloc' _ _ _ ?_; first | rfl | (focus (simp [go_sem]; done))) | (with_reducible refine M.Var.alloc ?_ _) | (with_reducible refine M.Var.drewN ?_ _) | (with_reducible refine M.Var.drew ?_) | (with_reducible refine M.Var.far ?_ _ _ ?hFar; case hFar => (first | omega | ((try simp [go_sem]) <;> omega))) | fail))), (by (repeat (first | (with_reducible assumption) | (with_reducible apply M.var_set45) | (with_reducible apply M.var_setBd) | (with_reducible apply M.var_setV) | (with_reducible refine M.var_alloc' _ _ _ ?_; first | rfl | (focus (simp [go_sem]; done))) | (with_reducible refine M.Var.alloc ?_ _) | (with_reducible refine M.Var.drewN ?_ _) | (with_reducible refine M.Var.drew ?_) | (with_reducible refine M.Var.far ?_ _ _ ?hFar; case hFar => (first | omega | ((try simp [go_sem]) <;> omega))) | fail))), trivial⟩) ?_
      clear hK K hTb hTS; intro hTb hTS
      try simp only [Act.put, List.setIfInBounds_toArray, List.set_cons_zero, List.set_cons_succ]
      refine wpTill_one (i := 7) (by kernel_rfl) rfl hTb (fun K hK => ?_)
      go_simp
      (with_reducible refine ((C6.out _ _ ic ila) _).mono ?_); rintro en w' ⟨⟨n10, hn10, hz10, rfl⟩ | ⟨xm, hxm, ixm, rfl⟩, d10, rfl⟩
      · exact ⟨rfl, .inl ⟨n10, by unfold contactX partsX Bd.pos; simp only [Hhk.out, if_neg h3, Hhv.out, hx.out, Hhc.out, Hhla.out, hn10, andThen_ok, andThen_err], hz10, rfl⟩, by have G := HG9.out; (repeat (with_reducible refine M.Below.drewN ?_ _)); go_grown⟩
      have Hhxm := Lib.hid hxm; clear hxm
      (try go_simp)
      refine hK.out _ _ (Lib.hid ⟨(fun _ => by (repeat (first | (with_reducible assumption) | (with_reducible apply M.var_set45) | (with_reducible apply M.var_setBd) | (with_reducible apply M.var_setV) | (with_reducible refine M.var_alloc' _ _ _ ?_; first | rfl | (focus (simp [go_sem]; done))) | (with_reducible refine M.Var.alloc ?_ _) | (with_reducible refine M.Var.drewN ?_ _) | (with_reducible refine M.Var.drew ?_) | (with_reducible refine M.Var.far ?_ _ _ ?hFar; case hFar => (first | omega | ((try simp [go_sem]) <;> omega))) | fail))), (by (repeat (first | (with_reducible assumption) | (with_reducible apply M.var_set45) | (with_reducible apply M.var_setBd) | (with_reducible apply M.var_setV) | (with_reducible refine M.var_alloc' _ _ _ ?_; first | rfl | (focus (simp [go_sem]; done))) | (with_reducible refine M.Var.alloc ?_ _) | (with_reducible refine M.Var.drewN ?_ _) | (with_reducible refine M.Var.drew ?_) | (with_reducible refine M.Var.far ?_ _ _ ?hFar; case hFar => (first | omega | ((try simp [go_sem]) <;> omega))) | fail))), trivial⟩) ?_
      clear hK K hTb hTS; intro hTb hTS
      try simp only [Act.put, List.setIfInBounds_toArray, List.set_cons_zero, List.set_cons_succ]
      refine wpTill_one (i := 8) (by kernel_rfl) rfl hTb (fun K hK => ?_)
      go_simp
      (with_reducible refine ((C9.out _ _ _ HH.out.nx HH.out.ny ixm) _).mono ?_); rintro en w11 ⟨ho, hb⟩
      have G11 : Below w.heap.size w w11 := Below.trans (by have G := HG9.out; (repeat (with_reducible refine M.Below.drewN ?_ _)); go_grown) (hb.mono (by go_size))
      have V11_a : M.Var w11 (w.heap.size) #[.int .i64 c1.shape, .int .i64 c1.sx, .int .i64 c1.sy, .int .i64 c1.mass, .int .i64 c1.px, .int .i64 c1.py, .int .i64 c1.mx, .int .i64 c1.my] := M.Var.mono (b := w.heap.size) (cs := #[.int .i64 c1.shape, .int .i64 c1.sx, .int .i64 c1.sy, .int .i64 c1.mass, .int .i64 c1.px, .int .i64 c1.py, .int .i64 c1.mx, .int .i64 c1.my]) (by (repeat (first | (with_reducible assumption) | (with_reducible apply M.var_set45) | (with_reducible apply M.var_setBd) | (with_reducible apply M.var_setV) | (with_reducible refine M.var_alloc' _ _ _ ?_; first | rfl | (focus (simp [go_sem]; done))) | (with_reducible refine M.Var.alloc ?_ _) | (with_reducible refine M.Var.drewN ?_ _) | (with_reducible refine M.Var.drew ?_) | (with_reducible refine M.Var.far ?_ _ _ ?hFar; case hFar => (first | omega | ((try simp [go_sem]) <;> omega))) | fail))) hb
      have q11_a_0 : w11.cell? ⟨w.heap.size, 0, none⟩ = some (.int .i64 c1.shape) := V11_a.c 0 _ rfl
      have q11_a_1 : w11.cell? ⟨w.heap.size, 1, none⟩ = some (.int .i64 c1.sx) := V11_a.c 1 _ rfl
      have q11_a_2 : w11.cell? ⟨w.heap.size, 2, none⟩ = some (.int .i64 c1.sy) := V11_a.c 2 _ rfl
      have q11_a_3 : w11.cell? ⟨w.heap.size, 3, none⟩ = some (.int .i64 c1.mass) := V11_a.c 3 _ rfl
      have q11_a_4 : w11.cell? ⟨w.heap.size, 4, none⟩ = some (.int .i64 c1.px) := V11_a.c 4 _ rfl
      have q11_a_5 : w11.cell? ⟨w.heap.size, 5, none⟩ = some (.int .i64 c1.py) := V11_a.c 5 _ rfl
      have q11_a_6 : w11.cell? ⟨w.heap.size, 6, none⟩ = some (.int .i64 c1.mx) := V11_a.c 6 _ rfl
      have q11_a_7 : w11.cell? ⟨w.heap.size, 7, none⟩ = some (.int .i64 c1.my) := V11_a.c 7 _ rfl
      have f11_a := V11_a.2.2
      have L11_a := V11_a.lt
      have N11_a := Nat.ne_of_gt L11_a
      have M11_a := Nat.ne_of_lt L11_a
      have V11_b : M.Var w11 (w.heap.size + 1) #[.int .i64 c2.shape, .int .i64 c2.sx, .int .i64 c2.sy, .int .i64 c2.mass, .int .i64 c2.px, .int .i64 c2.py, .int .i64 c2.mx, .int .i64 c2.my] := M.Var.mono (b := w.heap.size + 1) (cs := #[.int .i64 c2.shape, .int .i64 c2.sx, .int .i64 c2.sy, .int .i64 c2.mass, .int .i64 c2.px, .int .i64 c2.py, .int .i64 c2.mx, .int .i64 c2.my]) (by (repeat (first | (with_reducible assumption) | (with_reducible apply M.var_set45) | (with_reducible apply M.var_setBd) | (with_reducible apply M.var_setV) | (with_reducible refine M.var_alloc' _ _ _ ?_; first | rfl | (focus (simp [go_sem]; done))) | (with_reducible refine M.Var.alloc ?_ _) | (with_reducible refine M.Var.drewN ?_ _) | (with_reducible refine M.Var.drew ?_) | (with_reducible refine M.Var.far ?_ _ _ ?hFar; case hFar => (first | omega | ((try simp [go_sem]) <;> omega))) | fail))) hb
      have q11_b_0 : w11.cell? ⟨w.heap.size + 1, 0, none⟩ = some (.int .i64 c2.shape) := V11_b.c 0 _ rfl
      have q11_b_1 : w11.cell? ⟨w.heap.size + 1, 1, none⟩ = some (.int .i64 c2.sx) := V11_b.c 1 _ rfl
      have q11_b_2 : w11.cell? ⟨w.heap.size + 1, 2, none⟩ = some (.int .i64 c2.sy) := V11_b.c 2 _ rfl
      have q11_b_3 : w11.cell? ⟨w.heap.size + 1, 3, none⟩ = some (.int .i64 c2.mass) := V11_b.c 3 _ rfl
      have q11_b_4 : w11.cell? ⟨w.heap.size + 1, 4, none⟩ = some (.int .i64 c2.px) := V11_b.c 4 _ rfl
      have q11_b_5 : w11.cell? ⟨w.heap.size + 1, 5, none⟩ = some (.int .i64 c2.py) := V11_b.c 5 _ rfl
      have q11_b_6 : w11.cell? ⟨w.heap.size + 1, 6, none⟩ = some (.int .i64 c2.mx) := V11_b.c 6 _ rfl
      have q11_b_7 : w11.cell? ⟨w.heap.size + 1, 7, none⟩ = some (.int .i64 c2.my) := V11_b.c 7 _ rfl
      have f11_b := V11_b.2.2
      have L11_b := V11_b.lt
      have N11_b := Nat.ne_of_gt L11_b
      have M11_b := Nat.ne_of_lt L11_b
      have V11_h : M.Var w11 (w.heap.size + 1 + 1) #[.int .i64 h.nx, .int .i64 h.ny, .int .i64 h.d] := M.Var.mono (b := w.heap.size + 1 + 1) (cs := #[.int .i64 h.nx, .int .i64 h.ny, .int .i64 h.d]) (by (repeat (first | (with_reducible assumption) | (with_reducible apply M.var_set45) | (with_reducible apply M.var_setBd) | (with_reducible apply M.var_setV) | (with_reducible refine M.var_alloc' _ _ _ ?_; first | rfl | (focus (simp [go_sem]; done))) | (with_reducible refine M.Var.alloc ?_ _) | (with_reducible refine M.Var.drewN ?_ _) | (with_reducible refine M.Var.drew ?_) | (with_reducible refine M.Var.far ?_ _ _ ?hFar; case hFar => (first | omega | ((try simp [go_sem]) <;> omega))) | fail))) hb
      have q11_h_0 : w11.cell? ⟨w.heap.size + 1 + 1, 0, none⟩ = some (.int .i64 h.nx) := V11_h.c 0 _ rfl
      have q11_h_1 : w11.cell? ⟨w.heap.size + 1 + 1, 1, none⟩ = some (.int .i64 h.ny) := V11_h.c 1 _ rfl
      have q11_h_2 : w11.cell? ⟨w.heap.size + 1 + 1, 2, none⟩ = some (.int .i64 h.d) := V11_h.c 2 _ rfl
      have f11_h := V11_h.2.2
      have L11_h := V11_h.lt
      have N11_h := Nat.ne_of_gt L11_h
      have M11_h := Nat.ne_of_lt L11_h
      have V11_r : M.Var w11 (w.heap.size + 1 + 1 + 1) #[.int .i64 0, .int .i64 0, .int .i64 0, .int .i64 0, .int .i64 0, .int .i64 0, .int .i64 0, .int .i64 0] := M.Var.mono (b := w.heap.size + 1 + 1 + 1) (cs := #[.int .i64 0, .int .i64 0, .int .i64 0, .int .i64 0, .int .i64 0, .int .i64 0, .int .i64 0, .int .i64 0]) (by (repeat (first | (with_reducible assumption) | (with_reducible apply M.var_set45) | (with_reducible apply M.var_setBd) | (with_reducible apply M.var_setV) | (with_reducible refine M.var_alloc' _ _ _ ?_; first | rfl | (focus (simp [go_sem]; done))) | (with_reducible refine M.Var.alloc ?_ _) | (with_reducible refine M.Var.drewN ?_ _) | (with_reducible refine M.Var.drew ?_) | (with_reducible refine M.Var.far ?_ _ _ ?hFar; case hFar => (first | omega | ((try simp [go_sem]) <;> omega))) | fail))) hb
      have q11_r_0 : w11.cell? ⟨w.heap.size + 1 + 1 + 1, 0, none⟩ = some (.int .i64 0) := V11_r.c 0 _ rfl
      have q11_r_1 : w11.cell? ⟨w.heap.size + 1 + 1 + 1, 1, none⟩ = some (.int .i64 0) := V11_r.c 1 _ rfl
      have q11_r_2 : w11.cell? ⟨w.heap.size + 1 + 1 + 1, 2, none⟩ = some (.int .i64 0) := V11_r.c 2 _ rfl
      have q11_r_3 : w11.cell? ⟨w.heap.size + 1 + 1 + 1, 3, none⟩ = some (.int .i64 0) := V11_r.c 3 _ rfl
      have q11_r_4 : w11.cell? ⟨w.heap.size + 1 + 1 + 1, 4, none⟩ = some (.int .i64 0) := V11_r.c 4 _ rfl
      have q11_r_5 : w11.cell? ⟨w.heap.size + 1 + 1 + 1, 5, none⟩ = some (.int .i64 0) := V11_r.c 5 _ rfl
      have q11_r_6 : w11.cell? ⟨w.heap.size + 1 + 1 + 1, 6, none⟩ = some (.int .i64 0) := V11_r.c 6 _ rfl
      have q11_r_7 : w11.cell? ⟨w.heap.size + 1 + 1 + 1, 7, none⟩ = some (.int .i64 0) := V11_r.c 7 _ rfl
      have f11_r := V11_r.2.2
      have L11_r := V11_r.lt
      have N11_r := Nat.ne_of_gt L11_r
      have M11_r := Nat.ne_of_lt L11_r
      have V11_s : M.Var w11 (w.heap.size + 1 + 1 + 1 + 1) #[.int .i64 0, .int .i64 0, .int .i64 0, .int .i64 0, .int .i64 0, .int .i64 0, .int .i64 0, .int .i64 0] := M.Var.mono (b := w.heap.size + 1 + 1 + 1 + 1) (cs := #[.int .i64 0, .int .i64 0, .int .i64 0, .int .i64 0, .int .i64 0, .int .i64 0, .int .i64 0, .int .i64 0]) (by (repeat (first | (with_reducible assumption) | (with_reducible apply M.var_set45) | (with_reducible apply M.var_setBd) | (with_reducible apply M.var_setV) | (with_reducible refine M.var_alloc' _ _ _ ?_; first | rfl | (focus (simp [go_sem]; done))) | (with_reducible refine M.Var.alloc ?_ _) | (with_reducible refine M.Var.drewN ?_ _) | (with_reducible refine M.Var.drew ?_) | (with_reducible refine M.Var.far ?_ _ _ ?hFar; case hFar => (first | omega | ((try simp [go_sem]) <;> omega))) | fail))) hb
      have q11_s_0 : w11.cell? ⟨w.heap.size + 1 + 1 + 1 + 1, 0, none⟩ = some (.int .i64 0) := V11_s.c 0 _ rfl
      have q11_s_1 : w11.cell? ⟨w.heap.size + 1 + 1 + 1 + 1, 1, none⟩ = some (.int .i64 0) := V11_s.c 1 _ rfl
      have q11_s_2 : w11.cell? ⟨w.heap.size + 1 + 1 + 1 + 1, 2, none⟩ = some (.int .i64 0) := V11_s.c 2 _ rfl
      have q11_s_3 : w11.cell? ⟨w.heap.size + 1 + 1 + 1 + 1, 3, none⟩ = some (.int .i64 0) := V11_s.c 3 _ rfl
      have q11_s_4 : w11.cell? ⟨w.heap.size + 1 + 1 + 1 + 1, 4, none⟩ = some (.int .i64 0) := V11_s.c 4 _ rfl
      have q11_s_5 : w11.cell? ⟨w.heap.size + 1 + 1 + 1 + 1, 5, none⟩ = some (.int .i64 0) := V11_s.c 5 _ rfl
      have q11_s_6 : w11.cell? ⟨w.heap.size + 1 + 1 + 1 + 1, 6, none⟩ = some (.int .i64 0) := V11_s.c 6 _ rfl
      have q11_s_7 : w11.cell? ⟨w.heap.size + 1 + 1 + 1 + 1, 7, none⟩ = some (.int .i64 0) := V11_s.c 7 _ rfl
      have f11_s := V11_s.2.2
      have L11_s := V11_s.lt
      have N11_s := Nat.ne_of_gt L11_s
      have M11_s := Nat.ne_of_lt L11_s
      clear V9_a f9_a L9_a N9_a M9_a q9_a_0 q9_a_1 q9_a_2 q9_a_3 q9_a_4 q9_a_5 q9_a_6 q9_a_7 V9_b f9_b L9_b N9_b M9_b q9_b_0 q9_b_1 q9_b_2 q9_b_3 q9_b_4 q9_b_5 q9_b_6 q9_b_7 V9_h f9_h L9_h N9_h M9_h q9_h_0 q9_h_1 q9_h_2 V9_r f9_r L9_r N9_r M9_r q9_r_0 q9_r_1 q9_r_2 q9_r_3 q9_r_4 q9_r_5 q9_r_6 q9_r_7 V9_s f9_s L9_s N9_s M9_s q9_s_0 q9_s_1 q9_s_2 q9_s_3 q9_s_4 q9_s_5 q9_s_6 q9_s_7
      have S11 := G11.size
      have HG11 := Lib.hid G11; clear G11 hb
      rcases ho with ⟨n11, hn11, hz11, rfl⟩ | ⟨gx, gy, hg, igx, igy, rfl⟩
      · exact ⟨rfl, .inl ⟨n11, by unfold contactX partsX Bd.pos; simp only [Hhk.out, if_neg h3, Hhv.out, hx.out, Hhc.out, Hhla.out, Hhxm.out, hn11, andThen_ok, andThen_err], hz11, rfl⟩, HG11.out⟩
      have Hhg := Lib.hid hg; clear hg
      (try go_simp)
      refine hK.out _ _ (Lib.hid ⟨(fun _ => by (repeat (first | (with_reducible assumption) | (with_reducible apply M.var_set45) | (with_reducible apply M.var_setBd) | (with_reducible apply M.var_setV) | (with_reducible refine M.var_alloc' _ _ _ ?_; first | rfl | (focus (simp [go_sem]; done))) | (with_reducible refine M.Var.alloc ?_ _) | (with_reducible refine M.Var.drewN ?_ _) | (with_reducible refine M.Var.drew ?_) | (with_reducible refine M.Var.far ?_ _ _ ?hFar; case hFar => (first | omega | ((try simp [go_sem]) <;> omega))) | fail))), (by (repeat (first | (with_reducible assumption) | (with_reducible apply M.var_set45) | (with_reducible apply M.var_setBd) | (with_reducible apply M.var_setV) | (with_reducible refine M.var_alloc' _ _ _ ?_; first | rfl | (focus (simp [go_sem]; done))) | (with_reducible refine M.Var.alloc ?_ _) | (with_reducible refine M.Var.drewN ?_ _) | (with_reducible refine M.Var.drew ?_) | (with_reducible refine M.Var.far ?_ _ _ ?hFar; case hFar => (first | omega | ((try simp [go_sem]) <;> omega))) | fail))), trivial⟩) ?_
      clear hK K hTb hTS; intro hTb hTS
      try simp only [Act.put, List.setIfInBounds_toArray, List.set_cons_zero, List.set_cons_succ]
      refine wpTill_one (i := 9) (by kernel_rfl) rfl hTb (fun K hK => ?_)
      go_simp
      (with_reducible refine ((CS.out _ _ _ _ i1.px i1.py igx igy) _).mono ?_); rintro en w12 ⟨ho, hb⟩
      have G12 : Below w.heap.size w w12 := Below.trans (by have G := HG11.out; (repeat (with_reducible refine M.Below.drewN ?_ _)); go_grown) (hb.mono (by go_size))
      have V12_a : M.Var w12 (w.heap.size) #[.int .i64 c1.shape, .int .i64 c1.sx, .int .i64 c1.sy, .int .i64 c1.mass, .int .i64 c1.px, .int .i64 c1.py, .int .i64 c1.mx, .int .i64 c1.my] := M.Var.mono (b := w.heap.size) (cs := #[.int .i64 c1.shape, .int .i64 c1.sx, .int .i64 c1.sy, .int .i64 c1.mass, .int .i64 c1.px, .int .i64 c1.py, .int .i64 c1.mx, .int .i64 c1.my]) (by (repeat (first | (with_reducible assumption) | (with_reducible apply M.var_set45) | (with_reducible apply M.var_setBd) | (with_reducible apply M.var_setV) | (with_reducible refine M.var_alloc' _ _ _ ?_; first | rfl | (focus (simp [go_sem]; done))) | (with_reducible refine M.Var.alloc ?_ _) | (with_reducible refine M.Var.drewN ?_ _) | (with_reducible refine M.Var.drew ?_) | (with_reducible refine M.Var.far ?_ _ _ ?hFar; case hFar => (first | omega | ((try simp [go_sem]) <;> omega))) | fail))) hb
      have q12_a_0 : w12.cell? ⟨w.heap.size, 0, none⟩ = some (.int .i64 c1.shape) := V12_a.c 0 _ rfl
      have q12_a_1 : w12.cell? ⟨w.heap.size, 1, none⟩ = some (.int .i64 c1.sx) := V12_a.c 1 _ rfl
      have q12_a_2 : w12.cell? ⟨w.heap.size, 2, none⟩ = some (.int .i64 c1.sy) := V12_a.c 2 _ rfl
      have q12_a_3 : w12.cell? ⟨w.heap.size, 3, none⟩ = some (.int .i64 c1.mass) := V12_a.c 3 _ rfl
      have q12_a_4 : w12.cell? ⟨w.heap.size, 4, none⟩ = some (.int .i64 c1.px) := V12_a.c 4 _ rfl
      have q12_a_5 : w12.cell? ⟨w.heap.size, 5, none⟩ = some (.int .i64 c1.py) := V12_a.c 5 _ rfl
      have q12_a_6 : w12.cell? ⟨w.heap.size, 6, none⟩ = some (.int .i64 c1.mx) := V12_a.c 6 _ rfl
      have q12_a_7 : w12.cell? ⟨w.heap.size, 7, none⟩ = some (.int .i64 c1.my) := V12_a.c 7 _ rfl
      have f12_a := V12_a.2.2
      have L12_a := V12_a.lt
      have N12_a := Nat.ne_of_gt L12_a
      have M12_a := Nat.ne_of_lt L12_a
      have V12_b : M.Var w12 (w.heap.size + 1) #[.int .i64 c2.shape, .int .i64 c2.sx, .int .i64 c2.sy, .int .i64 c2.mass, .int .i64 c2.px, .int .i64 c2.py, .int .i64 c2.mx, .int .i64 c2.my] := M.Var.mono (b := w.heap.size + 1) (cs := #[.int .i64 c2.shape, .int .i64 c2.sx, .int .i64 c2.sy, .int .i64 c2.mass, .int .i64 c2.px, .int .i64 c2.py, .int .i64 c2.mx, .int .i64 c2.my]) (by (repeat (first | (with_reducible assumption) | (with_reducible apply M.var_set45) | (with_reducible apply M.var_setBd) | (with_reducible apply M.var_setV) | (with_reducible refine M.var_alloc' _ _ _ ?_; first | rfl | (focus (simp [go_sem]; done))) | (with_reducible refine M.Var.alloc ?_ _) | (with_reducible refine M.Var.drewN ?_ _) | (with_reducible refine M.Var.drew ?_) | (with_reducible refine M.Var.far ?_ _ _ ?hFar; case hFar => (first | omega | ((try simp [go_sem]) <;> omega))) | fail))) hb
      have q12_b_0 : w12.cell? ⟨w.heap.size + 1, 0, none⟩ = some (.int .i64 c2.shape) := V12_b.c 0 _ rfl
      have q12_b_1 : w12.cell? ⟨w.heap.size + 1, 1, none⟩ = some (.int .i64 c2.sx) := V12_b.c 1 _ rfl
      have q12_b_2 : w12.cell? ⟨w.heap.size + 1, 2, none⟩ = some (.int .i64 c2.sy) := V12_b.c 2 _ rfl
      have q12_b_3 : w12.cell? ⟨w.heap.size + 1, 3, none⟩ = some (.int .i64 c2.mass) := V12_b.c 3 _ rfl
      have q12_b_4 : w12.cell? ⟨w.heap.size + 1, 4, none⟩ = some (.int .i64 c2.px) := V12_b.c 4 _ rfl
      have q12_b_5 : w12.cell? ⟨w.heap.size + 1, 5, none⟩ = some (.int .i64 c2.py) := V12_b.c 5 _ rfl
      have q12_b_6 : w12.cell? ⟨w.heap.size + 1, 6, none⟩ = some (.int .i64 c2.mx) := V12_b.c 6 _ rfl
      have q12_b_7 : w12.cell? ⟨w.heap.size + 1, 7, none⟩ = some (.int .i64 c2.my) := V12_b.c 7 _ rfl
      have f12_b := V12_b.2.2
      have L12_b := V12_b.lt
      have N12_b := Nat.ne_of_gt L12_b
      have M12_b := Nat.ne_of_lt L12_b
      have V12_h : M.Var w12 (w.heap.size + 1 + 1) #[.int .i64 h.nx, .int .i64 h.ny, .int .i64 h.d] := M.Var.mono (b := w.heap.size + 1 + 1) (cs := #[.int .i64 h.nx, .int .i64 h.ny, .int .i64 h.d]) (by (repeat (first | (with_reducible assumption) | (with_reducible apply M.var_set45) | (with_reducible apply M.var_setBd) | (with_reducible apply M.var_setV) | (with_reducible refine M.var_alloc' _ _ _ ?_; first | rfl | (focus (simp [go_sem]; done))) | (with_reducible refine M.Var.alloc ?_ _) | (with_reducible refine M.Var.drewN ?_ _) | (with_reducible refine M.Var.drew ?_) | (with_reducible refine M.Var.far ?_ _ _ ?hFar; case hFar => (first | omega | ((try simp [go_sem]) <;> omega))) | fail))) hb
      have q12_h_0 : w12.cell? ⟨w.heap.size + 1 + 1, 0, none⟩ = some (.int .i64 h.nx) := V12_h.c 0 _ rfl
      have q12_h_1 : w12.cell? ⟨w.heap.size + 1 + 1, 1, none⟩ = some (.int .i64 h.ny) := V12_h.c 1 _ rfl
      have q12_h_2 : w12.cell? ⟨w.heap.size + 1 + 1, 2, none⟩ = some (.int .i64 h.d) := V12_h.c 2 _ rfl
      have f12_h := V12_h.2.2
      have L12_h := V12_h.lt
      have N12_h := Nat.ne_of_gt L12_h
      have M12_h := Nat.ne_of_lt L12_h
      have V12_r : M.Var w12 (w.heap.size + 1 + 1 + 1) #[.int .i64 0, .int .i64 0, .int .i64 0, .int .i64 0, .int .i64 0, .int .i64 0, .int .i64 0, .int .i64 0] := M.Var.mono (b := w.heap.size + 1 + 1 + 1) (cs := #[.int .i64 0, .int .i64 0, .int .i64 0, .int .i64 0, .int .i64 0, .int .i64 0, .int .i64 0, .int .i64 0]) (by (repeat (first | (with_reducible assumption) | (with_reducible apply M.var_set45) | (with_reducible apply M.var_setBd) | (with_reducible apply M.var_setV) | (with_reducible refine M.var_alloc' _ _ _ ?_; first | rfl | (focus (simp [go_sem]; done))) | (with_reducible refine M.Var.alloc ?_ _) | (with_reducible refine M.Var.drewN ?_ _) | (with_reducible refine M.Var.drew ?_) | (with_reducible refine M.Var.far ?_ _ _ ?hFar; case hFar => (first | omega | ((try simp [go_sem]) <;> omega))) | fail))) hb
      have q12_r_0 : w12.cell? ⟨w.heap.size + 1 + 1 + 1, 0, none⟩ = some (.int .i64 0) := V12_r.c 0 _ rfl
      have q12_r_1 : w12.cell? ⟨w.heap.size + 1 + 1 + 1, 1, none⟩ = some (.int .i64 0) := V12_r.c 1 _ rfl
      have q12_r_2 : w12.cell? ⟨w.heap.size + 1 + 1 + 1, 2, none⟩ = some (.int .i64 0) := V12_r.c 2 _ rfl
      have q12_r_3 : w12.cell? ⟨w.heap.size + 1 + 1 + 1, 3, none⟩ = some (.int .i64 0) := V12_r.c 3 _ rfl
      have q12_r_4 : w12.cell? ⟨w.heap.size + 1 + 1 + 1, 4, none⟩ = some (.int .i64 0) := V12_r.c 4 _ rfl
      have q12_r_5 : w12.cell? ⟨w.heap.size + 1 + 1 + 1, 5, none⟩ = some (.int .i64 0) := V12_r.c 5 _ rfl
      have q12_r_6 : w12.cell? ⟨w.heap.size + 1 + 1 + 1, 6, none⟩ = some (.int .i64 0) := V12_r.c 6 _ rfl
      have q12_r_7 : w12.cell? ⟨w.heap.size + 1 + 1 + 1, 7, none⟩ = some (.int .i64 0) := V12_r.c 7 _ rfl
      have f12_r := V12_r.2.2
      have L12_r := V12_r.lt
      have N12_r := Nat.ne_of_gt L12_r
      have M12_r := Nat.ne_of_lt L12_r
      have V12_s : M.Var w12 (w.heap.size + 1 + 1 + 1 + 1) #[.int .i64 0, .int .i64 0, .int .i64 0, .int .i64 0, .int .i64 0, .int .i64 0, .int .i64 0, .int .i64 0] := M.Var.mono (b := w.heap.size + 1 + 1 + 1 + 1) (cs := #[.int .i64 0, .int .i64 0, .int .i64 0, .int .i64 0, .int .i64 0, .int .i64 0, .int .i64 0, .int .i64 0]) (by (repeat (first | (with_reducible assumption) | (with_reducible apply M.var_set45) | (with_reducible apply M.var_setBd) | (with_reducible apply M.var_setV) | (with_reducible refine M.var_alloc' _ _ _ ?_; first | rfl | (focus (simp [go_sem]; done))) | (with_reducible refine M.Var.alloc ?_ _) | (with_reducible refine M.Var.drewN ?_ _) | (with_reducible refine M.Var.drew ?_) | (with_reducible refine M.Var.far ?_ _ _ ?hFar; case hFar => (first | omega | ((try simp [go_sem]) <;> omega))) | fail))) hb
      have q12_s_0 : w12.cell? ⟨w.heap.size + 1 + 1 + 1 + 1, 0, none⟩ = some (.int .i64 0) := V12_s.c 0 _ rfl
      have q12_s_1 : w12.cell? ⟨w.heap.size + 1 + 1 + 1 + 1, 1, none⟩ = some (.int .i64 0) := V12_s.c 1 _ rfl
      have q12_s_2 : w12.cell? ⟨w.heap.size + 1 + 1 + 1 + 1, 2, none⟩ = some (.int .i64 0) := V12_s.c 2 _ rfl
      have q12_s_3 : w12.cell? ⟨w.heap.size + 1 + 1 + 1 + 1, 3, none⟩ = some (.int .i64 0) := V12_s.c 3 _ rfl
      have q12_s_4 : w12.cell? ⟨w.heap.size + 1 + 1 + 1 + 1, 4, none⟩ = some (.int .i64 0) := V12_s.c 4 _ rfl
      have q12_s_5 : w12.cell? ⟨w.heap.size + 1 + 1 + 1 + 1, 5, none⟩ = some (.int .i64 0) := V12_s.c 5 _ rfl
      have q12_s_6 : w12.cell? ⟨w.heap.size + 1 + 1 + 1 + 1, 6, none⟩ = some (.int .i64 0) := V12_s.c 6 _ rfl
      have q12_s_7 : w12.cell? ⟨w.heap.size + 1 + 1 + 1 + 1, 7, none⟩ = some (.int .i64 0) := V12_s.c 7 _ rfl
      have f12_s := V12_s.2.2
      have L12_s := V12_s.lt
      have N12_s := Nat.ne_of_gt L12_s
      have M12_s := Nat.ne_of_lt L12_s
      clear V11_a f11_a L11_a N11_a M11_a q11_a_0 q11_a_1 q11_a_2 q11_a_3 q11_a_4 q11_a_5 q11_a_6 q11_a_7 V11_b f11_b L11_b N11_b M11_b q11_b_0 q11_b_1 q11_b_2 q11_b_3 q11_b_4 q11_b_5 q11_b_6 q11_b_7 V11_h f11_h L11_h N11_h M11_h q11_h_0 q11_h_1 q11_h_2 V11_r f11_r L11_r N11_r M11_r q11_r_0 q11_r_1 q11_r_2 q11_r_3 q11_r_4 q11_r_5 q11_r_6 q11_r_7 V11_s f11_s L11_s N11_s M11_s q11_s_0 q11_s_1 q11_s_2 q11_s_3 q11_s_4 q11_s_5 q11_s_6 q11_s_7
      have S12 := G12.size
      have HG12 := Lib.hid G12; clear G12 hb
      rcases ho with ⟨n12, hn12, hz12, rfl⟩ | ⟨px, py, hp, ipx, ipy, rfl⟩
      · exact ⟨rfl, .inl ⟨n12, by unfold contactX partsX Bd.pos; simp only [Hhk.out, if_neg h3, Hhv.out, hx.out, Hhc.out, Hhla.out, Hhxm.out, Hhg.out, hn12, andThen_ok, andThen_err], hz12, rfl⟩, HG12.out⟩
      have Hhp := Lib.hid hp; clear hp
      (try go_simp)
      refine hK.out _ _ (Lib.hid ⟨(fun _ => by (repeat (first | (with_reducible assumption) | (with_reducible apply M.var_set45) | (with_reducible apply M.var_setBd) | (with_reducible apply M.var_setV) | (with_reducible refine M.var_alloc' _ _ _ ?_; first | rfl | (focus (simp [go_sem]; done))) | (with_reducible refine M.Var.alloc ?_ _) | (with_reducible refine M.Var.drewN ?_ _) | (with_reducible refine M.Var.drew ?_) | (with_reducible refine M.Var.far ?_ _ _ ?hFar; case hFar => (first | omega | ((try simp [go_sem]) <;> omega))) | fail))), (by (repeat (first | (with_reducible assumption) | (with_reducible apply M.var_set45) | (with_reducible apply M.var_setBd) | (with_reducible apply M.var_setV) | (with_reducible refine M.var_alloc' _ _ _ ?_; first | rfl | (focus (simp [go_sem]; done))) | (with_reducible refine M.Var.alloc ?_ _) | (with_reducible refine M.Var.drewN ?_ _) | (with_reducible refine M.Var.drew ?_) | (with_reducible refine M.Var.far ?_ _ _ ?hFar; case hFar => (first | omega | ((try simp [go_sem]) <;> omega))) | fail))), trivial⟩) ?_
      clear hK K hTb hTS; intro hTb hTS
      try simp only [Act.put, List.setIfInBounds_toArray, List.set_cons_zero, List.set_cons_succ]
      refine wpTill_take (i := 10) (v := ?_) rfl (by kernel_rfl) (by kernel_rfl) (by kernel_rfl) hTb (fun _ _ _ h => h) (fun _ _ => by simp only [getD_set_ne false (show 10 ≠ 11 by decide)]) (Or.inl ⟨by rfl, ?_⟩) hTS ?_
      rotate_left
      · intro wT hT; clear hT
        go_simp
        all_goals with_reducible rfl
      clear hTb hTS; intro hTb hTS
      try simp only [Act.put, List.setIfInBounds_toArray, List.set_cons_zero, List.set_cons_succ]
      refine wpTill_one (i := 11) (by kernel_rfl) rfl hTb (fun K hK => ?_)
      go_simp
      (try go_simp)
      refine hK.out _ _ (Lib.hid ⟨till_gone (by kernel_rfl), (by (repeat (first | (with_reducible assumption) | (with_reducible apply M.var_set45) | (with_reducible apply M.var_setBd) | (with_reducible apply M.var_setV) | (with_reducible refine M.var_alloc' _ _ _ ?_; first | rfl | (focus (simp [go_sem]; done))) | (with_reducible refine M.Var.alloc ?_ _) | (with_reducible refine M.Var.drewN ?_ _) | (with_reducible refine M.Var.drew ?_) | (with_reducible refine M.Var.far ?_ _ _ ?hFar; case hFar => (first | omega | ((try simp [go_sem]) <;> omega))) | fail))), trivial⟩) ?_
      clear hK K hTb hTS; intro hTb hTS
      try simp only [Act.put, List.setIfInBounds_toArray, List.set_cons_zero, List.set_cons_succ]
      refine wpTill_done (by kernel_rfl) ?_ _; clear hTb hTS
      go_wp2_with (with_reducible refine M.stopPost ?_)
      refine wp_region_till (S := fun sT wT' => Hid ((sT.getD 11 false = false → M.Var wT' (w.heap.size + 1) #[.int .i64 c2.shape, .int .i64 c2.sx, .int .i64 c2.sy, .int .i64 c2.mass, .int .i64 c2.px, .int .i64 c2.py, .int .i64 c2.mx, .int .i64 c2.my]) ∧ M.Var wT' (w.heap.size + 1 + 1) #[.int .i64 h.nx, .int .i64 h.ny, .int .i64 h.d] ∧ True)) (by kernel_rfl) (Lib.hid ⟨(fun _ => by (repeat (first | (with_reducible assumption) | (with_reducible apply M.var_set45) | (with_reducible apply M.var_setBd) | (with_reducible apply M.var_setV) | (with_reducible refine M.var_alloc' _ _ _ ?_; first | rfl | (focus (simp [go_sem]; done))) | (with_reducible refine M.Var.alloc ?_ _) | (with_reducible refine M.Var.drewN ?_ _) | (with_reducible refine M.Var.drew ?_) | (with_reducible refine M.Var.far ?_ _ _ ?hFar; case hFar => (first | omega | ((try simp [go_sem]) <;> omega))) | fail))), (by (repeat (first | (with_reducible assumption) | (with_reducible apply M.var_set45) | (with_reducible apply M.var_setBd) | (with_reducible apply M.var_setV) | (with_reducible refine M.var_alloc' _ _ _ ?_; first | rfl | (focus (simp [go_sem]; done))) | (with_reducible refine M.Var.alloc ?_ _) | (with_reducible refine M.Var.drewN ?_ _) | (with_reducible refine M.Var.drew ?_) | (with_reducible refine M.Var.far ?_ _ _ ?hFar; case hFar => (first | omega | ((try simp [go_sem]) <;> omega))) | fail))), trivial⟩) ?_
      intro hTb hTS
      refine wpTill_take (i := 0) (v := ?_) rfl (by kernel_rfl) (by kernel_rfl) (by kernel_rfl) hTb (fun _ _ _ h => h) (fun _ _ => by simp only [getD_set_ne false (show 0 ≠ 11 by decide)]) (Or.inl ⟨by rfl, ?_⟩) hTS ?_
      rotate_left
      · intro wT hT; clear hT
        go_simp
        all_goals with_reducible rfl
      clear hTb hTS; intro hTb hTS
      try simp only [Act.put, List.setIfInBounds_toArray, List.set_cons_zero, List.set_cons_succ]
      refine wpTill_take (i := 1) (v := ?_) rfl (by kernel_rfl) (by kernel_rfl) (by kernel_rfl) hTb (fun _ _ _ h => h) (fun _ _ => by simp only [getD_set_ne false (show 1 ≠ 11 by decide)]) (Or.inl ⟨by rfl, ?_⟩) hTS ?_
      rotate_left
      · rintro wT ⟨sT, hbT, huT, hST⟩
        have zT_b_0 := (hST.out.1 (till_flag (k := 11) (by kernel_rfl) hbT huT)).c 0 _ rfl
        have zT_b_1 := (hST.out.1 (till_flag (k := 11) (by kernel_rfl) hbT huT)).c 1 _ rfl
        have zT_b_2 := (hST.out.1 (till_flag (k := 11) (by kernel_rfl) hbT huT)).c 2 _ rfl
        have zT_b_3 := (hST.out.1 (till_flag (k := 11) (by kernel_rfl) hbT huT)).c 3 _ rfl
        have zT_b_4 := (hST.out.1 (till_flag (k := 11) (by kernel_rfl) hbT huT)).c 4 _ rfl
        have zT_b_5 := (hST.out.1 (till_flag (k := 11) (by kernel_rfl) hbT huT)).c 5 _ rfl
        have zT_b_6 := (hST.out.1 (till_flag (k := 11) (by kernel_rfl) hbT huT)).c 6 _ rfl
        have zT_b_7 := (hST.out.1 (till_flag (k := 11) (by kernel_rfl) hbT huT)).c 7 _ rfl
        have zT_h_0 := hST.out.2.1.c 0 _ rfl
        have zT_h_1 := hST.out.2.1.c 1 _ rfl
        have zT_h_2 := hST.out.2.1.c 2 _ rfl
        clear hST hbT huT
        go_simp
        all_goals with_reducible rfl
      clear hTb hTS; intro hTb hTS
      try simp only [Act.put, List.setIfInBounds_toArray, List.set_cons_zero, List.set_cons_succ]
      refine wpTill_take (i := 2) (v := ?_) rfl (by kernel_rfl) (by kernel_rfl) (by kernel_rfl) hTb (fun _ _ _ h => h) (fun _ _ => by simp only [getD_set_ne false (show 2 ≠ 11 by decide)]) (Or.inl ⟨by rfl, ?_⟩) hTS ?_
      rotate_left
      · intro wT hT; clear hT
        go_simp
        all_goals with_reducible rfl
      clear hTb hTS; intro hTb hTS
      try simp only [Act.put, List.setIfInBounds_toArray, List.set_cons_zero, List.set_cons_succ]
      refine wpTill_take (i := 3) (v := ?_) rfl (by kernel_rfl) (by kernel_rfl) (by kernel_rfl) hTb (fun _ _ _ h => h) (fun _ _ => by simp only [getD_set_ne false (show 3 ≠ 11 by decide)]) (Or.inl ⟨by rfl, ?_⟩) hTS ?_
      rotate_left
      · rintro wT ⟨sT, hbT, huT, hST⟩
        have zT_b_0 := (hST.out.1 (till_flag (k := 11) (by kernel_rfl) hbT huT)).c 0 _ rfl
        have zT_b_1 := (hST.out.1 (till_flag (k := 11) (by kernel_rfl) hbT huT)).c 1 _ rfl
        have zT_b_2 := (hST.out.1 (till_flag (k := 11) (by kernel_rfl) hbT huT)).c 2 _ rfl
        have zT_b_3 := (hST.out.1 (till_flag (k := 11) (by kernel_rfl) hbT huT)).c 3 _ rfl
        have zT_b_4 := (hST.out.1 (till_flag (k := 11) (by kernel_rfl) hbT huT)).c 4 _ rfl
        have zT_b_5 := (hST.out.1 (till_flag (k := 11) (by kernel_rfl) hbT huT)).c 5 _ rfl
        have zT_b_6 := (hST.out.1 (till_flag (k := 11) (by kernel_rfl) hbT huT)).c 6 _ rfl
        have zT_b_7 := (hST.out.1 (till_flag (k := 11) (by kernel_rfl) hbT huT)).c 7 _ rfl
        have zT_h_0 := hST.out.2.1.c 0 _ rfl
        have zT_h_1 := hST.out.2.1.c 1 _ rfl
        have zT_h_2 := hST.out.2.1.c 2 _ rfl
        clear hST hbT huT
        go_simp
        all_goals with_reducible rfl
      clear hTb hTS; intro hTb hTS
      try simp only [Act.put, List.setIfInBounds_toArray, List.set_cons_zero, List.set_cons_succ]
      refine wpTill_take (i := 4) (v := ?_) rfl (by kernel_rfl) (by kernel_rfl) (by kernel_rfl) hTb (fun _ _ _ h => h) (fun _ _ => by simp only [getD_set_ne false (show 4 ≠ 11 by decide)]) (Or.inl ⟨by rfl, ?_⟩) hTS ?_
      rotate_left
      · intro wT hT; clear hT
        go_simp
        all_goals with_reducible rfl
      clear hTb hTS; intro hTb hTS
      try simp only [Act.put, List.setIfInBounds_toArray, List.set_cons_zero, List.set_cons_succ]
      refine wpTill_take (i := 5) (v := ?_) rfl (by kernel_rfl) (by kernel_rfl) (by kernel_rfl) hTb (fun _ _ _ h => h) (fun _ _ => by simp only [getD_set_ne false (show 5 ≠ 11 by decide)]) (Or.inl ⟨by rfl, ?_⟩) hTS ?_
      rotate_left
      · rintro wT ⟨sT, hbT, huT, hST⟩
        have zT_b_0 := (hST.out.1 (till_flag (k := 11) (by kernel_rfl) hbT huT)).c 0 _ rfl
        have zT_b_1 := (hST.out.1 (till_flag (k := 11) (by kernel_rfl) hbT huT)).c 1 _ rfl
        have zT_b_2 := (hST.out.1 (till_flag (k := 11) (by kernel_rfl) hbT huT)).c 2 _ rfl
        have zT_b_3 := (hST.out.1 (till_flag (k := 11) (by kernel_rfl) hbT huT)).c 3 _ rfl
        have zT_b_4 := (hST.out.1 (till_flag (k := 11) (by kernel_rfl) hbT huT)).c 4 _ rfl
        have zT_b_5 := (hST.out.1 (till_flag (k := 11) (by kernel_rfl) hbT huT)).c 5 _ rfl
        have zT_b_6 := (hST.out.1 (till_flag (k := 11) (by kernel_rfl) hbT huT)).c 6 _ rfl
        have zT_b_7 := (hST.out.1 (till_flag (k := 11) (by kernel_rfl) hbT huT)).c 7 _ rfl
        have zT_h_0 := hST.out.2.1.c 0 _ rfl
        have zT_h_1 := hST.out.2.1.c 1 _ rfl
        have zT_h_2 := hST.out.2.1.c 2 _ rfl
        clear hST hbT huT
        go_simp
        all_goals with_reducible rfl
      clear hTb hTS; intro hTb hTS
      try simp only [Act.put, List.setIfInBounds_toArray, List.set_cons_zero, List.set_cons_succ]
      refine wpTill_one (i := 6) (by kernel_rfl) rfl hTb (fun K hK => ?_)
      go_simp
      (with_reducible refine (D2.out _).mono ?_); rintro en w13 ⟨ho, hb⟩
      have G13 : Below w.heap.size w w13 := Below.trans (by have G := HG12.out; (repeat (with_reducible refine M.Below.drewN ?_ _)); go_grown) (hb.mono (by go_size))
      have V13_a : M.Var w13 (w.heap.size) #[.int .i64 c1.shape, .int .i64 c1.sx, .int .i64 c1.sy, .int .i64 c1.mass, .int .i64 px, .int .i64 py, .int .i64 c1.mx, .int .i64 c1.my] := M.Var.mono (b := w.heap.size) (cs := #[.int .i64 c1.shape, .int .i64 c1.sx, .int .i64 c1.sy, .int .i64 c1.mass, .int .i64 px, .int .i64 py, .int .i64 c1.mx, .int .i64 c1.my]) (by (repeat (first | (with_reducible assumption) | (with_reducible apply M.var_set45) | (with_reducible apply M.var_setBd) | (with_reducible apply M.var_setV) | (with_reducible refine M.var_alloc' _ _ _ ?_; first | rfl | (focus (simp [go_sem]; done))) | (with_reducible refine M.Var.alloc ?_ _) | (with_reducible refine M.Var.drewN ?_ _) | (with_reducible refine M.Var.drew ?_) | (with_reducible refine M.Var.far ?_ _ _ ?hFar; case hFar => (first | omega | ((try simp [go_sem]) <;> omega))) | fail))) hb
      have q13_a_0 : w13.cell? ⟨w.heap.size, 0, none⟩ = some (.int .i64 c1.shape) := V13_a.c 0 _ rfl
      have q13_a_1 : w13.cell? ⟨w.heap.size, 1, none⟩ = some (.int .i64 c1.sx) := V13_a.c 1 _ rfl
      have q13_a_2 : w13.cell? ⟨w.heap.size, 2, none⟩ = some (.int .i64 c1.sy) := V13_a.c 2 _ rfl
      have q13_a_3 : w13.cell? ⟨w.heap.size, 3, none⟩ = some (.int .i64 c1.mass) := V13_a.c 3 _ rfl
      have q13_a_4 : w13.cell? ⟨w.heap.size, 4, none⟩ = some (.int .i64 px) := V13_a.c 4 _ rfl
      have q13_a_5 : w13.cell? ⟨w.heap.size, 5, none⟩ = some (.int .i64 py) := V13_a.c 5 _ rfl
      have q13_a_6 : w13.cell? ⟨w.heap.size, 6, none⟩ = some (.int .i64 c1.mx) := V13_a.c 6 _ rfl
      have q13_a_7 : w13.cell? ⟨w.heap.size, 7, none⟩ = some (.int .i64 c1.my) := V13_a.c 7 _ rfl
      have f13_a := V13_a.2.2
      have L13_a := V13_a.lt
      have N13_a := Nat.ne_of_gt L13_a
      have M13_a := Nat.ne_of_lt L13_a
      have V13_b : M.Var w13 (w.heap.size + 1) #[.int .i64 c2.shape, .int .i64 c2.sx, .int .i64 c2.sy, .int .i64 c2.mass, .int .i64 c2.px, .int .i64 c2.py, .int .i64 c2.mx, .int .i64 c2.my] := M.Var.mono (b := w.heap.size + 1) (cs := #[.int .i64 c2.shape, .int .i64 c2.sx, .int .i64 c2.sy, .int .i64 c2.mass, .int .i64 c2.px, .int .i64 c2.py, .int .i64 c2.mx, .int .i64 c2.my]) (by (repeat (first | (with_reducible assumption) | (with_reducible apply M.var_set45) | (with_reducible apply M.var_setBd) | (with_reducible apply M.var_setV) | (with_reducible refine M.var_alloc' _ _ _ ?_; first | rfl | (focus (simp [go_sem]; done))) | (with_reducible refine M.Var.alloc ?_ _) | (with_reducible refine M.Var.drewN ?_ _) | (with_reducible refine M.Var.drew ?_) | (with_reducible refine M.Var.far ?_ _ _ ?hFar; case hFar => (first | omega | ((try simp [go_sem]) <;> omega))) | fail))) hb
      have q13_b_0 : w13.cell? ⟨w.heap.size + 1, 0, none⟩ = some (.int .i64 c2.shape) := V13_b.c 0 _ rfl
      have q13_b_1 : w13.cell? ⟨w.heap.size + 1, 1, none⟩ = some (.int .i64 c2.sx) := V13_b.c 1 _ rfl
      have q13_b_2 : w13.cell? ⟨w.heap.size + 1, 2, none⟩ = some (.int .i64 c2.sy) := V13_b.c 2 _ rfl
      have q13_b_3 : w13.cell? ⟨w.heap.size + 1, 3, none⟩ = some (.int .i64 c2.mass) := V13_b.c 3 _ rfl
      have q13_b_4 : w13.cell? ⟨w.heap.size + 1, 4, none⟩ = some (.int .i64 c2.px) := V13_b.c 4 _ rfl
      have q13_b_5 : w13.cell? ⟨w.heap.size + 1, 5, none⟩ = some (.int .i64 c2.py) := V13_b.c 5 _ rfl
      have q13_b_6 : w13.cell? ⟨w.heap.size + 1, 6, none⟩ = some (.int .i64 c2.mx) := V13_b.c 6 _ rfl
      have q13_b_7 : w13.cell? ⟨w.heap.size + 1, 7, none⟩ = some (.int .i64 c2.my) := V13_b.c 7 _ rfl
      have f13_b := V13_b.2.2
      have L13_b := V13_b.lt
      have N13_b := Nat.ne_of_gt L13_b
      have M13_b := Nat.ne_of_lt L13_b
      have V13_h : M.Var w13 (w.heap.size + 1 + 1) #[.int .i64 h.nx, .int .i64 h.ny, .int .i64 h.d] := M.Var.mono (b := w.heap.size + 1 + 1) (cs := #[.int .i64 h.nx, .int .i64 h.ny, .int .i64 h.d]) (by (repeat (first | (with_reducible assumption) | (with_reducible apply M.var_set45) | (with_reducible apply M.var_setBd) | (with_reducible apply M.var_setV) | (with_reducible refine M.var_alloc' _ _ _ ?_; first | rfl | (focus (simp [go_sem]; done))) | (with_reducible refine M.Var.alloc ?_ _) | (with_reducible refine M.Var.drewN ?_ _) | (with_reducible refine M.Var.drew ?_) | (with_reducible refine M.Var.far ?_ _ _ ?hFar; case hFar => (first | omega | ((try simp [go_sem]) <;> omega))) | fail))) hb
      have q13_h_0 : w13.cell? ⟨w.heap.size + 1 + 1, 0, none⟩ = some (.int .i64 h.nx) := V13_h.c 0 _ rfl
      have q13_h_1 : w13.cell? ⟨w.heap.size + 1 + 1, 1, none⟩ = some (.int .i64 h.ny) := V13_h.c 1 _ rfl
      have q13_h_2 : w13.cell? ⟨w.heap.size + 1 + 1, 2, none⟩ = some (.int .i64 h.d) := V13_h.c 2 _ rfl
      have f13_h := V13_h.2.2
      have L13_h := V13_h.lt
      have N13_h := Nat.ne_of_gt L13_h
      have M13_h := Nat.ne_of_lt L13_h
      have V13_r : M.Var w13 (w.heap.size + 1 + 1 + 1) #[.int .i64 0, .int .i64 0, .int .i64 0, .int .i64 0, .int .i64 0, .int .i64 0, .int .i64 0, .int .i64 0] := M.Var.mono (b := w.heap.size + 1 + 1 + 1) (cs := #[.int .i64 0, .int .i64 0, .int .i64 0, .int .i64 0, .int .i64 0, .int .i64 0, .int .i64 0, .int .i64 0]) (by (repeat (first | (with_reducible assumption) | (with_reducible apply M.var_set45) | (with_reducible apply M.var_setBd) | (with_reducible apply M.var_setV) | (with_reducible refine M.var_alloc' _ _ _ ?_; first | rfl | (focus (simp [go_sem]; done))) | (with_reducible refine M.Var.alloc ?_ _) | (with_reducible refine M.Var.drewN ?_ _) | (with_reducible refine M.Var.drew ?_) | (with_reducible refine M.Var.far ?_ _ _ ?hFar; case hFar => (first | omega | ((try simp [go_sem]) <;> omega))) | fail))) hb
      have q13_r_0 : w13.cell? ⟨w.heap.size + 1 + 1 + 1, 0, none⟩ = some (.int .i64 0) := V13_r.c 0 _ rfl
      have q13_r_1 : w13.cell? ⟨w.heap.size + 1 + 1 + 1, 1, none⟩ = some (.int .i64 0) := V13_r.c 1 _ rfl
      have q13_r_2 : w13.cell? ⟨w.heap.size + 1 + 1 + 1, 2, none⟩ = some (.int .i64 0) := V13_r.c 2 _ rfl
      have q13_r_3 : w13.cell? ⟨w.heap.size + 1 + 1 + 1, 3, none⟩ = some (.int .i64 0) := V13_r.c 3 _ rfl
      have q13_r_4 : w13.cell? ⟨w.heap.size + 1 + 1 + 1, 4, none⟩ = some (.int .i64 0) := V13_r.c 4 _ rfl
      have q13_r_5 : w13.cell? ⟨w.heap.size + 1 + 1 + 1, 5, none⟩ = some (.int .i64 0) := V13_r.c 5 _ rfl
      have q13_r_6 : w13.cell? ⟨w.heap.size + 1 + 1 + 1, 6, none⟩ = some (.int .i64 0) := V13_r.c 6 _ rfl
      have q13_r_7 : w13.cell? ⟨w.heap.size + 1 + 1 + 1, 7, none⟩ = some (.int .i64 0) := V13_r.c 7 _ rfl
      have f13_r := V13_r.2.2
      have L13_r := V13_r.lt
      have N13_r := Nat.ne_of_gt L13_r
      have M13_r := Nat.ne_of_lt L13_r
      have V13_s : M.Var w13 (w.heap.size + 1 + 1 + 1 + 1) #[.int .i64 0, .int .i64 0, .int .i64 0, .int .i64 0, .int .i64 0, .int .i64 0, .int .i64 0, .int .i64 0] := M.Var.mono (b := w.heap.size + 1 + 1 + 1 + 1) (cs := #[.int .i64 0, .int .i64 0, .int .i64 0, .int .i64 0, .int .i64 0, .int .i64 0, .int .i64 0, .int .i64 0]) (by (repeat (first | (with_reducible assumption) | (with_reducible apply M.var_set45) | (with_reducible apply M.var_setBd) | (with_reducible apply M.var_setV) | (with_reducible refine M.var_alloc' _ _ _ ?_; first | rfl | (focus (simp [go_sem]; done))) | (with_reducible refine M.Var.alloc ?_ _) | (with_reducible refine M.Var.drewN ?_ _) | (with_reducible refine M.Var.drew ?_) | (with_reducible refine M.Var.far ?_ _ _ ?hFar; case hFar => (first | omega | ((try simp [go_sem]) <;> omega))) | fail))) hb
      have q13_s_0 : w13.cell? ⟨w.heap.size + 1 + 1 + 1 + 1, 0, none⟩ = some (.int .i64 0) := V13_s.c 0 _ rfl
      have q13_s_1 : w13.cell? ⟨w.heap.size + 1 + 1 + 1 + 1, 1, none⟩ = some (.int .i64 0) := V13_s.c 1 _ rfl
      have q13_s_2 : w13.cell? ⟨w.heap.size + 1 + 1 + 1 + 1, 2, none⟩ = some (.int .i64 0) := V13_s.c 2 _ rfl
      have q13_s_3 : w13.cell? ⟨w.heap.size + 1 + 1 + 1 + 1, 3, none⟩ = some (.int .i64 0) := V13_s.c 3 _ rfl
      have q13_s_4 : w13.cell? ⟨w.heap.size + 1 + 1 + 1 + 1, 4, none⟩ = some (.int .i64 0) := V13_s.c 4 _ rfl
      have q13_s_5 : w13.cell? ⟨w.heap.size + 1 + 1 + 1 + 1, 5, none⟩ = some (.int .i64 0) := V13_s.c 5 _ rfl
      have q13_s_6 : w13.cell? ⟨w.heap.size + 1 + 1 + 1 + 1, 6, none⟩ = some (.int .i64 0) := V13_s.c 6 _ rfl
      have q13_s_7 : w13.cell? ⟨w.heap.size + 1 + 1 + 1 + 1, 7, none⟩ = some (.int .i64 0) := V13_s.c 7 _ rfl
      have f13_s := V13_s.2.2
      have L13_s := V13_s.lt
      have N13_s := Nat.ne_of_gt L13_s
      have M13_s := Nat.ne_of_lt L13_s
      clear V12_a f12_a L12_a N12_a M12_a q12_a_0 q12_a_1 q12_a_2 q12_a_3 q12_a_4 q12_a_5 q12_a_6 q12_a_7 V12_b f12_b L12_b N12_b M12_b q12_b_0 q12_b_1 q12_b_2 q12_b_3 q12_b_4 q12_b_5 q12_b_6 q12_b_7 V12_h f12_h L12_h N12_h M12_h q12_h_0 q12_h_1 q12_h_2 V12_r f12_r L12_r N12_r M12_r q12_r_0 q12_r_1 q12_r_2 q12_r_3 q12_r_4 q12_r_5 q12_r_6 q12_r_7 V12_s f12_s L12_s N12_s M12_s q12_s_0 q12_s_1 q12_s_2 q12_s_3 q12_s_4 q12_s_5 q12_s_6 q12_s_7
      have S13 := G13.size
      have HG13 := Lib.hid G13; clear G13 hb
      rcases ho with ⟨n13, hn13, hz13, rfl⟩ | ⟨lb, hlb, ilb, rfl⟩
      · exact ⟨rfl, .inl ⟨n13, by unfold contactX partsX Bd.pos; simp only [Hhk.out, if_neg h3, Hhv.out, hx.out, Hhc.out, Hhla.out, Hhxm.out, Hhg.out, Hhp.out, hn13, andThen_ok, andThen_err], hz13, rfl⟩, HG13.out⟩
      have Hhlb := Lib.hid hlb; clear hlb
      (try go_simp)
      refine hK.out _ _ (Lib.hid ⟨(fun _ => by (repeat (first | (with_reducible assumption) | (with_reducible apply M.var_set45) | (with_reducible apply M.var_setBd) | (with_reducible apply M.var_setV) | (with_reducible refine M.var_alloc' _ _ _ ?_; first | rfl | (focus (simp [go_sem]; done))) | (with_reducible refine M.Var.alloc ?_ _) | (with_reducible refine M.Var.drewN ?_ _) | (with_reducible refine M.Var.drew ?_) | (with_reducible refine M.Var.far ?_ _ _ ?hFar; case hFar => (first | omega | ((try simp [go_sem]) <;> omega))) | fail))), (by (repeat (first | (with_reducible assumption) | (with_reducible apply M.var_set45) | (with_reducible apply M.var_setBd) | (with_reducible apply M.var_setV) | (with_reducible refine M.var_alloc' _ _ _ ?_; first | rfl | (focus (simp [go_sem]; done))) | (with_reducible refine M.Var.alloc ?_ _) | (with_reducible refine M.Var.drewN ?_ _) | (with_reducible refine M.Var.drew ?_) | (with_reducible refine M.Var.far ?_ _ _ ?hFar; case hFar => (first | omega | ((try simp [go_sem]) <;> omega))) | fail))), trivial⟩) ?_
      clear hK K hTb hTS; intro hTb hTS
      try simp only [Act.put, List.setIfInBounds_toArray, List.set_cons_zero, List.set_cons_succ]
      refine wpTill_one (i := 7) (by kernel_rfl) rfl hTb (fun K hK => ?_)
      go_simp
      (with_reducible refine ((C6.out _ _ ic ilb) _).mono ?_); rintro en w' ⟨⟨n14, hn14, hz14, rfl⟩ | ⟨ym, hym, iym, rfl⟩, d14, rfl⟩
      · exact ⟨rfl, .inl ⟨n14, by unfold contactX partsX Bd.pos; simp only [Hhk.out, if_neg h3, Hhv.out, hx.out, Hhc.out, Hhla.out, Hhxm.out, Hhg.out, Hhp.out, Hhlb.out, hn14, andThen_ok, andThen_err], hz14, rfl⟩, by have G := HG13.out; (repeat (with_reducible refine M.Below.drewN ?_ _)); go_grown⟩
      have Hhym := Lib.hid hym; clear hym
      (try go_simp)
      refine hK.out _ _ (Lib.hid ⟨(fun _ => by (repeat (first | (with_reducible assumption) | (with_reducible apply M.var_set45) | (with_reducible apply M.var_setBd) | (with_reducible apply M.var_setV) | (with_reducible refine M.var_alloc' _ _ _ ?_; first | rfl | (focus (simp [go_sem]; done))) | (with_reducible refine M.Var.alloc ?_ _) | (with_reducible refine M.Var.drewN ?_ _) | (with_reducible refine M.Var.drew ?_) | (with_reducible refine M.Var.far ?_ _ _ ?hFar; case hFar => (first | omega | ((try simp [go_sem]) <;> omega))) | fail))), (by (repeat (first | (with_reducible assumption) | (with_reducible apply M.var_set45) | (with_reducible apply M.var_setBd) | (with_reducible apply M.var_setV) | (with_reducible refine M.var_alloc' _ _ _ ?_; first | rfl | (focus (simp [go_sem]; done))) | (with_reducible refine M.Var.alloc ?_ _) | (with_reducible refine M.Var.drewN ?_ _) | (with_reducible refine M.Var.drew ?_) | (with_reducible refine M.Var.far ?_ _ _ ?hFar; case hFar => (first | omega | ((try simp [go_sem]) <;> omega))) | fail))), trivial⟩) ?_
      clear hK K hTb hTS; intro hTb hTS
      try simp only [Act.put, List.setIfInBounds_toArray, List.set_cons_zero, List.set_cons_succ]
      refine wpTill_one (i := 8) (by kernel_rfl) rfl hTb (fun K hK => ?_)
      go_simp
      (with_reducible refine ((C9.out _ _ _ HH.out.nx HH.out.ny iym) _).mono ?_); rintro en w15 ⟨ho, hb⟩
      have G15 : Below w.heap.size w w15 := Below.trans (by have G := HG13.out; (repeat (with_reducible refine M.Below.drewN ?_ _)); go_grown) (hb.mono (by go_size))
      have V15_a : M.Var w15 (w.heap.size) #[.int .i64 c1.shape, .int .i64 c1.sx, .int .i64 c1.sy, .int .i64 c1.mass, .int .i64 px, .int .i64 py, .int .i64 c1.mx, .int .i64 c1.my] := M.Var.mono (b := w.heap.size) (cs := #[.int .i64 c1.shape, .int .i64 c1.sx, .int .i64 c1.sy, .int .i64 c1.mass, .int .i64 px, .int .i64 py, .int .i64 c1.mx, .int .i64 c1.my]) (by (repeat (first | (with_reducible assumption) | (with_reducible apply M.var_set45) | (with_reducible apply M.var_setBd) | (with_reducible apply M.var_setV) | (with_reducible refine M.var_alloc' _ _ _ ?_; first | rfl | (focus (simp [go_sem]; done))) | (with_reducible refine M.Var.alloc ?_ _) | (with_reducible refine M.Var.drewN ?_ _) | (with_reducible refine M.Var.drew ?_) | (with_reducible refine M.Var.far ?_ _ _ ?hFar; case hFar => (first | omega | ((try simp [go_sem]) <;> omega))) | fail))) hb
      have q15_a_0 : w15.cell? ⟨w.heap.size, 0, none⟩ = some (.int .i64 c1.shape) := V15_a.c 0 _ rfl
      have q15_a_1 : w15.cell? ⟨w.heap.size, 1, none⟩ = some (.int .i64 c1.sx) := V15_a.c 1 _ rfl
      have q15_a_2 : w15.cell? ⟨w.heap.size, 2, none⟩ = some (.int .i64 c1.sy) := V15_a.c 2 _ rfl
      have q15_a_3 : w15.cell? ⟨w.heap.size, 3, none⟩ = some (.int .i64 c1.mass) := V15_a.c 3 _ rfl
      have q15_a_4 : w15.cell? ⟨w.heap.size, 4, none⟩ = some (.int .i64 px) := V15_a.c 4 _ rfl
      have q15_a_5 : w15.cell? ⟨w.heap.size, 5, none⟩ = some (.int .i64 py) := V15_a.c 5 _ rfl
      have q15_a_6 : w15.cell? ⟨w.heap.size, 6, none⟩ = some (.int .i64 c1.mx) := V15_a.c 6 _ rfl
      have q15_a_7 : w15.cell? ⟨w.heap.size, 7, none⟩ = some (.int .i64 c1.my) := V15_a.c 7 _ rfl
      have f15_a := V15_a.2.2
      have L15_a := V15_a.lt
      have N15_a := Nat.ne_of_gt L15_a
      have M15_a := Nat.ne_of_lt L15_a
      have V15_b : M.Var w15 (w.heap.size + 1) #[.int .i64 c2.shape, .int .i64 c2.sx, .int .i64 c2.sy, .int .i64 c2.mass, .int .i64 c2.px, .int .i64 c2.py, .int .i64 c2.mx, .int .i64 c2.my] := M.Var.mono (b := w.heap.size + 1) (cs := #[.int .i64 c2.shape, .int .i64 c2.sx, .int .i64 c2.sy, .int .i64 c2.mass, .int .i64 c2.px, .int .i64 c2.py, .int .i64 c2.mx, .int .i64 c2.my]) (by (repeat (first | (with_reducible assumption) | (with_reducible apply M.var_set45) | (with_reducible apply M.var_setBd) | (with_reducible apply M.var_setV) | (with_reducible refine M.var_alloc' _ _ _ ?_; first | rfl | (focus (simp [go_sem]; done))) | (with_reducible refine M.Var.alloc ?_ _) | (with_reducible refine M.Var.drewN ?_ _) | (with_reducible refine M.Var.drew ?_) | (with_reducible refine M.Var.far ?_ _ _ ?hFar; case hFar => (first | omega | ((try simp [go_sem]) <;> omega))) | fail))) hb
      have q15_b_0 : w15.cell? ⟨w.heap.size + 1, 0, none⟩ = some (.int .i64 c2.shape) := V15_b.c 0 _ rfl
      have q15_b_1 : w15.cell? ⟨w.heap.size + 1, 1, none⟩ = some (.int .i64 c2.sx) := V15_b.c 1 _ rfl
      have q15_b_2 : w15.cell? ⟨w.heap.size + 1, 2, none⟩ = some (.int .i64 c2.sy) := V15_b.c 2 _ rfl
      have q15_b_3 : w15.cell? ⟨w.heap.size + 1, 3, none⟩ = some (.int .i64 c2.mass) := V15_b.c 3 _ rfl
      have q15_b_4 : w15.cell? ⟨w.heap.size + 1, 4, none⟩ = some (.int .i64 c2.px) := V15_b.c 4 _ rfl
      have q15_b_5 : w15.cell? ⟨w.heap.size + 1, 5, none⟩ = some (.int .i64 c2.py) := V15_b.c 5 _ rfl
      have q15_b_6 : w15.cell? ⟨w.heap.size + 1, 6, none⟩ = some (.int .i64 c2.mx) := V15_b.c 6 _ rfl
      have q15_b_7 : w15.cell? ⟨w.heap.size + 1, 7, none⟩ = some (.int .i64 c2.my) := V15_b.c 7 _ rfl
      have f15_b := V15_b.2.2
      have L15_b := V15_b.lt
      have N15_b := Nat.ne_of_gt L15_b
      have M15_b := Nat.ne_of_lt L15_b
      have V15_h : M.Var w15 (w.heap.size + 1 + 1) #[.int .i64 h.nx, .int .i64 h.ny, .int .i64 h.d] := M.Var.mono (b := w.heap.size + 1 + 1) (cs := #[.int .i64 h.nx, .int .i64 h.ny, .int .i64 h.d]) (by (repeat (first | (with_reducible assumption) | (with_reducible apply M.var_set45) | (with_reducible apply M.var_setBd) | (with_reducible apply M.var_setV) | (with_reducible refine M.var_alloc' _ _ _ ?_; first | rfl | (focus (simp [go_sem]; done))) | (with_reducible refine M.Var.alloc ?_ _) | (with_reducible refine M.Var.drewN ?_ _) | (with_reducible refine M.Var.drew ?_) | (with_reducible refine M.Var.far ?_ _ _ ?hFar; case hFar => (first | omega | ((try simp [go_sem]) <;> omega))) | fail))) hb
      have q15_h_0 : w15.cell? ⟨w.heap.size + 1 + 1, 0, none⟩ = some (.int .i64 h.nx) := V15_h.c 0 _ rfl
      have q15_h_1 : w15.cell? ⟨w.heap.size + 1 + 1, 1, none⟩ = some (.int .i64 h.ny) := V15_h.c 1 _ rfl
      have q15_h_2 : w15.cell? ⟨w.heap.size + 1 + 1, 2, none⟩ = some (.int .i64 h.d) := V15_h.c 2 _ rfl
      have f15_h := V15_h.2.2
      have L15_h := V15_h.lt
      have N15_h := Nat.ne_of_gt L15_h
      have M15_h := Nat.ne_of_lt L15_h
      have V15_r : M.Var w15 (w.heap.size + 1 + 1 + 1) #[.int .i64 0, .int .i64 0, .int .i64 0, .int .i64 0, .int .i64 0, .int .i64 0, .int .i64 0, .int .i64 0] := M.Var.mono (b := w.heap.size + 1 + 1 + 1) (cs := #[.int .i64 0, .int .i64 0, .int .i64 0, .int .i64 0, .int .i64 0, .int .i64 0, .int .i64 0, .int .i64 0]) (by (repeat (first | (with_reducible assumption) | (with_reducible apply M.var_set45) | (with_reducible apply M.var_setBd) | (with_reducible apply M.var_setV) | (with_reducible refine M.var_alloc' _ _ _ ?_; first | rfl | (focus (simp [go_sem]; done))) | (with_reducible refine M.Var.alloc ?_ _) | (with_reducible refine M.Var.drewN ?_ _) | (with_reducible refine M.Var.drew ?_) | (with_reducible refine M.Var.far ?_ _ _ ?hFar; case hFar => (first | omega | ((try simp [go_sem]) <;> omega))) | fail))) hb
      have q15_r_0 : w15.cell? ⟨w.heap.size + 1 + 1 + 1, 0, none⟩ = some (.int .i64 0) := V15_r.c 0 _ rfl
      have q15_r_1 : w15.cell? ⟨w.heap.size + 1 + 1 + 1, 1, none⟩ = some (.int .i64 0) := V15_r.c 1 _ rfl
      have q15_r_2 : w15.cell? ⟨w.heap.size + 1 + 1 + 1, 2, none⟩ = some (.int .i64 0) := V15_r.c 2 _ rfl
      have q15_r_3 : w15.cell? ⟨w.heap.size + 1 + 1 + 1, 3, none⟩ = some (.int .i64 0) := V15_r.c 3 _ rfl
      have q15_r_4 : w15.cell? ⟨w.heap.size + 1 + 1 + 1, 4, none⟩ = some (.int .i64 0) := V15_r.c 4 _ rfl
      have q15_r_5 : w15.cell? ⟨w.heap.size + 1 + 1 + 1, 5, none⟩ = some (.int .i64 0) := V15_r.c 5 _ rfl
      have q15_r_6 : w15.cell? ⟨w.heap.size + 1 + 1 + 1, 6, none⟩ = some (.int .i64 0) := V15_r.c 6 _ rfl
      have q15_r_7 : w15.cell? ⟨w.heap.size + 1 + 1 + 1, 7, none⟩ = some (.int .i64 0) := V15_r.c 7 _ rfl
      have f15_r := V15_r.2.2
      have L15_r := V15_r.lt
      have N15_r := Nat.ne_of_gt L15_r
      have M15_r := Nat.ne_of_lt L15_r
      have V15_s : M.Var w15 (w.heap.size + 1 + 1 + 1 + 1) #[.int .i64 0, .int .i64 0, .int .i64 0, .int .i64 0, .int .i64 0, .int .i64 0, .int .i64 0, .int .i64 0] := M.Var.mono (b := w.heap.size + 1 + 1 + 1 + 1) (cs := #[.int .i64 0, .int .i64 0, .int .i64 0, .int .i64 0, .int .i64 0, .int .i64 0, .int .i64 0, .int .i64 0]) (by (repeat (first | (with_reducible assumption) | (with_reducible apply M.var_set45) | (with_reducible apply M.var_setBd) | (with_reducible apply M.var_setV) | (with_reducible refine M.var_alloc' _ _ _ ?_; first | rfl | (focus (simp [go_sem]; done))) | (with_reducible refine M.Var.alloc ?_ _) | (with_reducible refine M.Var.drewN ?_ _) | (with_reducible refine M.Var.drew ?_) | (with_reducible refine M.Var.far ?_ _ _ ?hFar; case hFar => (first | omega | ((try simp [go_sem]) <;> omega))) | fail))) hb
      have q15_s_0 : w15.cell? ⟨w.heap.size + 1 + 1 + 1 + 1, 0, none⟩ = some (.int .i64 0) := V15_s.c 0 _ rfl
      have q15_s_1 : w15.cell? ⟨w.heap.size + 1 + 1 + 1 + 1, 1, none⟩ = some (.int .i64 0) := V15_s.c 1 _ rfl
      have q15_s_2 : w15.cell? ⟨w.heap.size + 1 + 1 + 1 + 1, 2, none⟩ = some (.int .i64 0) := V15_s.c 2 _ rfl
      have q15_s_3 : w15.cell? ⟨w.heap.size + 1 + 1 + 1 + 1, 3, none⟩ = some (.int .i64 0) := V15_s.c 3 _ rfl
      have q15_s_4 : w15.cell? ⟨w.heap.size + 1 + 1 + 1 + 1, 4, none⟩ = some (.int .i64 0) := V15_s.c 4 _ rfl
      have q15_s_5 : w15.cell? ⟨w.heap.size + 1 + 1 + 1 + 1, 5, none⟩ = some (.int .i64 0) := V15_s.c 5 _ rfl
      have q15_s_6 : w15.cell? ⟨w.heap.size + 1 + 1 + 1 + 1, 6, none⟩ = some (.int .i64 0) := V15_s.c 6 _ rfl
      have q15_s_7 : w15.cell? ⟨w.heap.size + 1 + 1 + 1 + 1, 7, none⟩ = some (.int .i64 0) := V15_s.c 7 _ rfl
      have f15_s := V15_s.2.2
      have L15_s := V15_s.lt
      have N15_s := Nat.ne_of_gt L15_s
      have M15_s := Nat.ne_of_lt L15_s
      clear V13_a f13_a L13_a N13_a M13_a q13_a_0 q13_a_1 q13_a_2 q13_a_3 q13_a_4 q13_a_5 q13_a_6 q13_a_7 V13_b f13_b L13_b N13_b M13_b q13_b_0 q13_b_1 q13_b_2 q13_b_3 q13_b_4 q13_b_5 q13_b_6 q13_b_7 V13_h f13_h L13_h N13_h M13_h q13_h_0 q13_h_1 q13_h_2 V13_r f13_r L13_r N13_r M13_r q13_r_0 q13_r_1 q13_r_2 q13_r_3 q13_r_4 q13_r_5 q13_r_6 q13_r_7 V13_s f13_s L13_s N13_s M13_s q13_s_0 q13_s_1 q13_s_2 q13_s_3 q13_s_4 q13_s_5 q13_s_6 q13_s_7
      have S15 := G15.size
      have HG15 := Lib.hid G15; clear G15 hb
      rcases ho with ⟨n15, hn15, hz15, rfl⟩ | ⟨fx, fy, hf, ifx, ify, rfl⟩
      · exact ⟨rfl, .inl ⟨n15, by unfold contactX partsX Bd.pos; simp only [Hhk.out, if_neg h3, Hhv.out, hx.out, Hhc.out, Hhla.out, Hhxm.out, Hhg.out, Hhp.out, Hhlb.out, Hhym.out, hn15, andThen_ok, andThen_err], hz15, rfl⟩, HG15.out⟩
      have Hhf := Lib.hid hf; clear hf
      (try go_simp)
      refine hK.out _ _ (Lib.hid ⟨(fun _ => by (repeat (first | (with_reducible assumption) | (with_reducible apply M.var_set45) | (with_reducible apply M.var_setBd) | (with_reducible apply M.var_setV) | (with_reducible refine M.var_alloc' _ _ _ ?_; first | rfl | (focus (simp [go_sem]; done))) | (with_reducible refine M.Var.alloc ?_ _) | (with_reducible refine M.Var.drewN ?_ _) | (with_reducible refine M.Var.drew ?_) | (with_reducible refine M.Var.far ?_ _ _ ?hFar; case hFar => (first | omega | ((try simp [go_sem]) <;> omega))) | fail))), (by (repeat (first | (with_reducible assumption) | (with_reducible apply M.var_set45) | (with_reducible apply M.var_setBd) | (with_reducible apply M.var_setV) | (with_reducible refine M.var_alloc' _ _ _ ?_; first | rfl | (focus (simp [go_sem]; done))) | (with_reducible refine M.Var.alloc ?_ _) | (with_reducible refine M.Var.drewN ?_ _) | (with_reducible refine M.Var.drew ?_) | (with_reducible refine M.Var.far ?_ _ _ ?hFar; case hFar => (first | omega | ((try simp [go_sem]) <;> omega))) | fail))), trivial⟩) ?_
      clear hK K hTb hTS; intro hTb hTS
      try simp only [Act.put, List.setIfInBounds_toArray, List.set_cons_zero, List.set_cons_succ]
      refine wpTill_one (i := 9) (by kernel_rfl) rfl hTb (fun K hK => ?_)
      go_simp
      (with_reducible refine ((CP.out _ _ _ _ i2.px i2.py ifx ify) _).mono ?_); rintro en w16 ⟨ho, hb⟩
      have G16 : Below w.heap.size w w16 := Below.trans (by have G := HG15.out; (repeat (with_reducible refine M.Below.drewN ?_ _)); go_grown) (hb.mono (by go_size))
      have V16_a : M.Var w16 (w.heap.size) #[.int .i64 c1.shape, .int .i64 c1.sx, .int .i64 c1.sy, .int .i64 c1.mass, .int .i64 px, .int .i64 py, .int .i64 c1.mx, .int .i64 c1.my] := M.Var.mono (b := w.heap.size) (cs := #[.int .i64 c1.shape, .int .i64 c1.sx, .int .i64 c1.sy, .int .i64 c1.mass, .int .i64 px, .int .i64 py, .int .i64 c1.mx, .int .i64 c1.my]) (by (repeat (first | (with_reducible assumption) | (with_reducible apply M.var_set45) | (with_reducible apply M.var_setBd) | (with_reducible apply M.var_setV) | (with_reducible refine M.var_alloc' _ _ _ ?_; first | rfl | (focus (simp [go_sem]; done))) | (with_reducible refine M.Var.alloc ?_ _) | (with_reducible refine M.Var.drewN ?_ _) | (with_reducible refine M.Var.drew ?_) | (with_reducible refine M.Var.far ?_ _ _ ?hFar; case hFar => (first | omega | ((try simp [go_sem]) <;> omega))) | fail))) hb
      have q16_a_0 : w16.cell? ⟨w.heap.size, 0, none⟩ = some (.int .i64 c1.shape) := V16_a.c 0 _ rfl
      have q16_a_1 : w16.cell? ⟨w.heap.size, 1, none⟩ = some (.int .i64 c1.sx) := V16_a.c 1 _ rfl
      have q16_a_2 : w16.cell? ⟨w.heap.size, 2, none⟩ = some (.int .i64 c1.sy) := V16_a.c 2 _ rfl
      have q16_a_3 : w16.cell? ⟨w.heap.size, 3, none⟩ = some (.int .i64 c1.mass) := V16_a.c 3 _ rfl
      have q16_a_4 : w16.cell? ⟨w.heap.size, 4, none⟩ = some (.int .i64 px) := V16_a.c 4 _ rfl
      have q16_a_5 : w16.cell? ⟨w.heap.size, 5, none⟩ = some (.int .i64 py) := V16_a.c 5 _ rfl
      have q16_a_6 : w16.cell? ⟨w.heap.size, 6, none⟩ = some (.int .i64 c1.mx) := V16_a.c 6 _ rfl
      have q16_a_7 : w16.cell? ⟨w.heap.size, 7, none⟩ = some (.int .i64 c1.my) := V16_a.c 7 _ rfl
      have f16_a := V16_a.2.2
      have L16_a := V16_a.lt
      have N16_a := Nat.ne_of_gt L16_a
      have M16_a := Nat.ne_of_lt L16_a
      have V16_b : M.Var w16 (w.heap.size + 1) #[.int .i64 c2.shape, .int .i64 c2.sx, .int .i64 c2.sy, .int .i64 c2.mass, .int .i64 c2.px, .int .i64 c2.py, .int .i64 c2.mx, .int .i64 c2.my] := M.Var.mono (b := w.heap.size + 1) (cs := #[.int .i64 c2.shape, .int .i64 c2.sx, .int .i64 c2.sy, .int .i64 c2.mass, .int .i64 c2.px, .int .i64 c2.py, .int .i64 c2.mx, .int .i64 c2.my]) (by (repeat (first | (with_reducible assumption) | (with_reducible apply M.var_set45) | (with_reducible apply M.var_setBd) | (with_reducible apply M.var_setV) | (with_reducible refine M.var_alloc' _ _ _ ?_; first | rfl | (focus (simp [go_sem]; done))) | (with_reducible refine M.Var.alloc ?_ _) | (with_reducible refine M.Var.drewN ?_ _) | (with_reducible refine M.Var.drew ?_) | (with_reducible refine M.Var.far ?_ _ _ ?hFar; case hFar => (first | omega | ((try simp [go_sem]) <;> omega))) | fail))) hb
      have q16_b_0 : w16.cell? ⟨w.heap.size + 1, 0, none⟩ = some (.int .i64 c2.shape) := V16_b.c 0 _ rfl
      have q16_b_1 : w16.cell? ⟨w.heap.size + 1, 1, none⟩ = some (.int .i64 c2.sx) := V16_b.c 1 _ rfl
      have q16_b_2 : w16.cell? ⟨w.heap.size + 1, 2, none⟩ = some (.int .i64 c2.sy) := V16_b.c 2 _ rfl
      have q16_b_3 : w16.cell? ⟨w.heap.size + 1, 3, none⟩ = some (.int .i64 c2.mass) := V16_b.c 3 _ rfl
      have q16_b_4 : w16.cell? ⟨w.heap.size + 1, 4, none⟩ = some (.int .i64 c2.px) := V16_b.c 4 _ rfl
      have q16_b_5 : w16.cell? ⟨w.heap.size + 1, 5, none⟩ = some (.int .i64 c2.py) := V16_b.c 5 _ rfl
      have q16_b_6 : w16.cell? ⟨w.heap.size + 1, 6, none⟩ = some (.int .i64 c2.mx) := V16_b.c 6 _ rfl
      have q16_b_7 : w16.cell? ⟨w.heap.size + 1, 7, none⟩ = some (.int .i64 c2.my) := V16_b.c 7 _ rfl
      have f16_b := V16_b.2.2
      have L16_b := V16_b.lt
      have N16_b := Nat.ne_of_gt L16_b
      have M16_b := Nat.ne_of_lt L16_b
      have V16_h : M.Var w16 (w.heap.size + 1 + 1) #[.int .i64 h.nx, .int .i64 h.ny, .int .i64 h.d] := M.Var.mono (b := w.heap.size + 1 + 1) (cs := #[.int .i64 h.nx, .int .i64 h.ny, .int .i64 h.d]) (by (repeat (first | (with_reducible assumption) | (with_reducible apply M.var_set45) | (with_reducible apply M.var_setBd) | (with_reducible apply M.var_setV) | (with_reducible refine M.var_alloc' _ _ _ ?_; first | rfl | (focus (simp [go_sem]; done))) | (with_reducible refine M.Var.alloc ?_ _) | (with_reducible refine M.Var.drewN ?_ _) | (with_reducible refine M.Var.drew ?_) | (with_reducible refine M.Var.far ?_ _ _ ?hFar; case hFar => (first | omega | ((try simp [go_sem]) <;> omega))) | fail))) hb
      have q16_h_0 : w16.cell? ⟨w.heap.size + 1 + 1, 0, none⟩ = some (.int .i64 h.nx) := V16_h.c 0 _ rfl
      have q16_h_1 : w16.cell? ⟨w.heap.size + 1 + 1, 1, none⟩ = some (.int .i64 h.ny) := V16_h.c 1 _ rfl
      have q16_h_2 : w16.cell? ⟨w.heap.size + 1 + 1, 2, none⟩ = some (.int .i64 h.d) := V16_h.c 2 _ rfl
      have f16_h := V16_h.2.2
      have L16_h := V16_h.lt
      have N16_h := Nat.ne_of_gt L16_h
      have M16_h := Nat.ne_of_lt L16_h
      have V16_r : M.Var w16 (w.heap.size + 1 + 1 + 1) #[.int .i64 0, .int .i64 0, .int .i64 0, .int .i64 0, .int .i64 0, .int .i64 0, .int .i64 0, .int .i64 0] := M.Var.mono (b := w.heap.size + 1 + 1 + 1) (cs := #[.int .i64 0, .int .i64 0, .int .i64 0, .int .i64 0, .int .i64 0, .int .i64 0, .int .i64 0, .int .i64 0]) (by (repeat (first | (with_reducible assumption) | (with_reducible apply M.var_set45) | (with_reducible apply M.var_setBd) | (with_reducible apply M.var_setV) | (with_reducible refine M.var_alloc' _ _ _ ?_; first | rfl | (focus (simp [go_sem]; done))) | (with_reducible refine M.Var.alloc ?_ _) | (with_reducible refine M.Var.drewN ?_ _) | (with_reducible refine M.Var.drew ?_) | (with_reducible refine M.Var.far ?_ _ _ ?hFar; case hFar => (first | omega | ((try simp [go_sem]) <;> omega))) | fail))) hb
      have q16_r_0 : w16.cell? ⟨w.heap.size + 1 + 1 + 1, 0, none⟩ = some (.int .i64 0) := V16_r.c 0 _ rfl
      have q16_r_1 : w16.cell? ⟨w.heap.size + 1 + 1 + 1, 1, none⟩ = some (.int .i64 0) := V16_r.c 1 _ rfl
      have q16_r_2 : w16.cell? ⟨w.heap.size + 1 + 1 + 1, 2, none⟩ = some (.int .i64 0) := V16_r.c 2 _ rfl
      have q16_r_3 : w16.cell? ⟨w.heap.size + 1 + 1 + 1, 3, none⟩ = some (.int .i64 0) := V16_r.c 3 _ rfl
      have q16_r_4 : w16.cell? ⟨w.heap.size + 1 + 1 + 1, 4, none⟩ = some (.int .i64 0) := V16_r.c 4 _ rfl
      have q16_r_5 : w16.cell? ⟨w.heap.size + 1 + 1 + 1, 5, none⟩ = some (.int .i64 0) := V16_r.c 5 _ rfl
      have q16_r_6 : w16.cell? ⟨w.heap.size + 1 + 1 + 1, 6, none⟩ = some (.int .i64 0) := V16_r.c 6 _ rfl
      have q16_r_7 : w16.cell? ⟨w.heap.size + 1 + 1 + 1, 7, none⟩ = some (.int .i64 0) := V16_r.c 7 _ rfl
      have f16_r := V16_r.2.2
      have L16_r := V16_r.lt
      have N16_r := Nat.ne_of_gt L16_r
      have M16_r := Nat.ne_of_lt L16_r
      have V16_s : M.Var w16 (w.heap.size + 1 + 1 + 1 + 1) #[.int .i64 0, .int .i64 0, .int .i64 0, .int .i64 0, .int .i64 0, .int .i64 0, .int .i64 0, .int .i64 0] := M.Var.mono (b := w.heap.size + 1 + 1 + 1 + 1) (cs := #[.int .i64 0, .int .i64 0, .int .i64 0, .int .i64 0, .int .i64 0, .int .i64 0, .int .i64 0, .int .i64 0]) (by (repeat (first | (with_reducible assumption) | (with_reducible apply M.var_set45) | (with_reducible apply M.var_setBd) | (with_reducible apply M.var_setV) | (with_reducible refine M.var_alloc' _ _ _ ?_; first | rfl | (focus (simp [go_sem]; done))) | (with_reducible refine M.Var.alloc ?_ _) | (with_reducible refine M.Var.drewN ?_ _) | (with_reducible refine M.Var.drew ?_) | (with_reducible refine M.Var.far ?_ _ _ ?hFar; case hFar => (first | omega | ((try simp [go_sem]) <;> omega))) | fail))) hb
      have q16_s_0 : w16.cell? ⟨w.heap.size + 1 + 1 + 1 + 1, 0, none⟩ = some (.int .i64 0) := V16_s.c 0 _ rfl
      have q16_s_1 : w16.cell? ⟨w.heap.size + 1 + 1 + 1 + 1, 1, none⟩ = some (.int .i64 0) := V16_s.c 1 _ rfl
      have q16_s_2 : w16.cell? ⟨w.heap.size + 1 + 1 + 1 + 1, 2, none⟩ = some (.int .i64 0) := V16_s.c 2 _ rfl
      have q16_s_3 : w16.cell? ⟨w.heap.size + 1 + 1 + 1 + 1, 3, none⟩ = some (.int .i64 0) := V16_s.c 3 _ rfl
      have q16_s_4 : w16.cell? ⟨w.heap.size + 1 + 1 + 1 + 1, 4, none⟩ = some (.int .i64 0) := V16_s.c 4 _ rfl
      have q16_s_5 : w16.cell? ⟨w.heap.size + 1 + 1 + 1 + 1, 5, none⟩ = some (.int .i64 0) := V16_s.c 5 _ rfl
      have q16_s_6 : w16.cell? ⟨w.heap.size + 1 + 1 + 1 + 1, 6, none⟩ = some (.int .i64 0) := V16_s.c 6 _ rfl
      have q16_s_7 : w16.cell? ⟨w.heap.size + 1 + 1 + 1 + 1, 7, none⟩ = some (.int .i64 0) := V16_s.c 7 _ rfl
      have f16_s := V16_s.2.2
      have L16_s := V16_s.lt
      have N16_s := Nat.ne_of_gt L16_s
      have M16_s := Nat.ne_of_lt L16_s
      clear V15_a f15_a L15_a N15_a M15_a q15_a_0 q15_a_1 q15_a_2 q15_a_3 q15_a_4 q15_a_5 q15_a_6 q15_a_7 V15_b f15_b L15_b N15_b M15_b q15_b_0 q15_b_1 q15_b_2 q15_b_3 q15_b_4 q15_b_5 q15_b_6 q15_b_7 V15_h f15_h L15_h N15_h M15_h q15_h_0 q15_h_1 q15_h_2 V15_r f15_r L15_r N15_r M15_r q15_r_0 q15_r_1 q15_r_2 q15_r_3 q15_r_4 q15_r_5 q15_r_6 q15_r_7 V15_s f15_s L15_s N15_s M15_s q15_s_0 q15_s_1 q15_s_2 q15_s_3 q15_s_4 q15_s_5 q15_s_6 q15_s_7
      have S16 := G16.size
      have HG16 := Lib.hid G16; clear G16 hb
      rcases ho with ⟨n16, hn16, hz16, rfl⟩ | ⟨qx, qy, hq, iqx, iqy, rfl⟩
      · exact ⟨rfl, .inl ⟨n16, by unfold contactX partsX Bd.pos; simp only [Hhk.out, if_neg h3, Hhv.out, hx.out, Hhc.out, Hhla.out, Hhxm.out, Hhg.out, Hhp.out, Hhlb.out, Hhym.out, Hhf.out, hn16, andThen_ok, andThen_err], hz16, rfl⟩, HG16.out⟩
      have Hhq := Lib.hid hq; clear hq
      (try go_simp)
      refine hK.out _ _ (Lib.hid ⟨(fun _ => by (repeat (first | (with_reducible assumption) | (with_reducible apply M.var_set45) | (with_reducible apply M.var_setBd) | (with_reducible apply M.var_setV) | (with_reducible refine M.var_alloc' _ _ _ ?_; first | rfl | (focus (simp [go_sem]; done))) | (with_reducible refine M.Var.alloc ?_ _) | (with_reducible refine M.Var.drewN ?_ _) | (with_reducible refine M.Var.drew ?_) | (with_reducible refine M.Var.far ?_ _ _ ?hFar; case hFar => (first | omega | ((try simp [go_sem]) <;> omega))) | fail))), (by (repeat (first | (with_reducible assumption) | (with_reducible apply M.var_set45) | (with_reducible apply M.var_setBd) | (with_reducible apply M.var_setV) | (with_reducible refine M.var_alloc' _ _ _ ?_; first | rfl | (focus (simp [go_sem]; done))) | (with_reducible refine M.Var.alloc ?_ _) | (with_reducible refine M.Var.drewN ?_ _) | (with_reducible refine M.Var.drew ?_) | (with_reducible refine M.Var.far ?_ _ _ ?hFar; case hFar => (first | omega | ((try simp [go_sem]) <;> omega))) | fail))), trivial⟩) ?_
      clear hK K hTb hTS; intro hTb hTS
      try simp only [Act.put, List.setIfInBounds_toArray, List.set_cons_zero, List.set_cons_succ]
      refine wpTill_take (i := 10) (v := ?_) rfl (by kernel_rfl) (by kernel_rfl) (by kernel_rfl) hTb (fun _ _ _ h => h) (fun _ _ => by simp only [getD_set_ne false (show 10 ≠ 11 by decide)]) (Or.inl ⟨by rfl, ?_⟩) hTS ?_
      rotate_left
      · intro wT hT; clear hT
        go_simp
        all_goals with_reducible rfl
      clear hTb hTS; intro hTb hTS
      try simp only [Act.put, List.setIfInBounds_toArray, List.set_cons_zero, List.set_cons_succ]
      refine wpTill_one (i := 11) (by kernel_rfl) rfl hTb (fun K hK => ?_)
      go_simp
      (try go_simp)
      refine hK.out _ _ (Lib.hid ⟨till_gone (by kernel_rfl), (by (repeat (first | (with_reducible assumption) | (with_reducible apply M.var_set45) | (with_reducible apply M.var_setBd) | (with_reducible apply M.var_setV) | (with_reducible refine M.var_alloc' _ _ _ ?_; first | rfl | (focus (simp [go_sem]; done))) | (with_reducible refine M.Var.alloc ?_ _) | (with_reducible refine M.Var.drewN ?_ _) | (with_reducible refine M.Var.drew ?_) | (with_reducible refine M.Var.far ?_ _ _ ?hFar; case hFar => (first | omega | ((try simp [go_sem]) <;> omega))) | fail))), trivial⟩) ?_
      clear hK K hTb hTS; intro hTb hTS
      try simp only [Act.put, List.setIfInBounds_toArray, List.set_cons_zero, List.set_cons_succ]
      refine wpTill_done (by kernel_rfl) ?_ _; clear hTb hTS
      go_wp2_with (with_reducible refine M.stopPost ?_)
      go_region_held2 (fun w' => w'.cell? ⟨w.heap.size, 0, none⟩ = some (.int .i64 c1.shape) ∧ w'.cell? ⟨w.heap.size, 1, none⟩ = some (.int .i64 c1.sx) ∧ w'.cell? ⟨w.heap.size, 2, none⟩ = some (.int .i64 c1.sy) ∧ w'.cell? ⟨w.heap.size, 3, none⟩ = some (.int .i64 c1.mass) ∧ w'.cell? ⟨w.heap.size, 4, none⟩ = some (.int .i64 px) ∧ w'.cell? ⟨w.heap.size, 5, none⟩ = some (.int .i64 py) ∧ w'.cell? ⟨w.heap.size, 6, none⟩ = some (.int .i64 c1.mx) ∧ w'.cell? ⟨w.heap.size, 7, none⟩ = some (.int .i64 c1.my) ∧ w'.cell? ⟨w.heap.size + 1, 0, none⟩ = some (.int .i64 c2.shape) ∧ w'.cell? ⟨w.heap.size + 1, 1, none⟩ = some (.int .i64 c2.sx) ∧ w'.cell? ⟨w.heap.size + 1, 2, none⟩ = some (.int .i64 c2.sy) ∧ w'.cell? ⟨w.heap.size + 1, 3, none⟩ = some (.int .i64 c2.mass) ∧ w'.cell? ⟨w.heap.size + 1, 4, none⟩ = some (.int .i64 qx) ∧ w'.cell? ⟨w.heap.size + 1, 5, none⟩ = some (.int .i64 qy) ∧ w'.cell? ⟨w.heap.size + 1, 6, none⟩ = some (.int .i64 c2.mx) ∧ w'.cell? ⟨w.heap.size + 1, 7, none⟩ = some (.int .i64 c2.my)) (first | (go_keep; done) | (simp [*, go_sem, World.cell?_alloc_some, World.cell?_setCell_far]; done))
        (fail)
      all_goals go_wp2_with (with_reducible refine M.stopPost ?_)
      all_goals (try refine M.Stop.mk ?_)
      all_goals refine bodyPost_ret (v := .tuple #[.agg #[.int .i64 c1.shape, .int .i64 c1.sx, .int .i64 c1.sy, .int .i64 c1.mass, .int .i64 px, .int .i64 py, .int .i64 c1.mx, .int .i64 c1.my], .agg #[.int .i64 c2.shape, .int .i64 c2.sx, .int .i64 c2.sy, .int .i64 c2.mass, .int .i64 qx, .int .i64 qy, .int .i64 c2.mx, .int .i64 c2.my]]) (by first | (simp [results, Try.results28, go_sem, q16_r_0, q16_r_1, q16_r_2, q16_r_3, q16_r_4, q16_r_5, q16_r_6, q16_r_7, f16_r, L16_r, N16_r, M16_r, q16_s_0, q16_s_1, q16_s_2, q16_s_3, q16_s_4, q16_s_5, q16_s_6, q16_s_7, f16_s, L16_s, N16_s, M16_s]; done) | (simp [results, Try.results28, go_sem, *]; done)) rfl ⟨.inr ⟨⟨c1.shape, c1.sx, c1.sy, c1.mass, px, py, c1.mx, c1.my⟩, ⟨c2.shape, c2.sx, c2.sy, c2.mass, qx, qy, c2.mx, c2.my⟩, by unfold contactX partsX Bd.pos; simp only [Hhk.out, if_neg h3, Hhv.out, hx.out, Hhc.out, Hhla.out, Hhxm.out, Hhg.out, Hhp.out, Hhlb.out, Hhym.out, Hhf.out, Hhq.out, andThen_ok, andThen_err], ⟨i1.shape, i1.sx, i1.sy, i1.mass, ipx, ipy, i1.mx, i1.my⟩, ⟨i2.shape, i2.sx, i2.sy, i2.mass, iqx, iqy, i2.mx, i2.my⟩, rfl⟩, by have G := HG16.out; (repeat (with_reducible refine M.Below.drewN ?_ _)); go_grown⟩
end Go.Proofs.Ytcaibieaobhheaa
