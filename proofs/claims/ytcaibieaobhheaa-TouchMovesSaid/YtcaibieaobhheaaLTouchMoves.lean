/- For every two bodies and every direction TouchMoves returns true: two bodies that may be and are both moved alike touch as they did. -/
import Derived.Test.YtcaibieaobhheaaRows
import Derived.WalkKit
import Derived.ProofKit
import Derived.OpenShut
import Derived.Test.YtcaibieaobhheaaFacts
import Derived.Test.YtcaibieaobhheaaArgs
import Derived.Test.YtcaibieaobhheaaRefRight
import Derived.Test.YtcaibieaobhheaaCloT
import Derived.Test.YtcaibieaobhheaaHitMath
import Derived.Test.YtcaibieaobhheaaTouchAlive
import Derived.Test.YtcaibieaobhheaaTill
import Derived.Deep.Cut
import Derived.Deep.RegionHeld2
import Derived.Deep.DrawnRows
namespace Go.Proofs.Ytcaibieaobhheaa.touchMoves
open Go.ChangeShapes Go.WideShapes Go.ChangeAt Go.RowKit M
set_option maxRecDepth 100000
set_option maxHeartbeats 8000000
set_option linter.unusedVariables false
set_option linter.unusedSimpArgs false
attribute [local go_sem ↓] Go.wp_at_zero Go.wp_at_succ
theorem own : ownKnob Try.prog.godebug = none := by kernel_rfl

/-- The walk: the Go text returns true; of what was there nothing turns. -/
theorem walk (w : World) (a : Bd) (ha : a.ok) (b : Bd) (hb : b.ok) (by_1 by_2 : Int) (hby_1 : I64 by_1) (hby_2 : I64 by_2) :
    Calls Try.prog 3 #[.agg #[.int .i64 a.shape, .int .i64 a.sx, .int .i64 a.sy, .int .i64 a.mass, .int .i64 a.px, .int .i64 a.py, .int .i64 a.mx, .int .i64 a.my], .agg #[.int .i64 b.shape, .int .i64 b.sx, .int .i64 b.sy, .int .i64 b.mass, .int .i64 b.px, .int .i64 b.py, .int .i64 b.mx, .int .i64 b.my], .agg #[.int .i64 by_1, .int .i64 by_2]] w fun e w' => e = .returned (.bool true) ∧ Bw w w' := by
  have c0 := Lib.hid alive10_c
  have hB := hb
  have c1 := refRight_x a
  have c2 := refRight_x b
  have l1 := fun h : rightB a = true => lo_of_right h
  have l2 := fun h : rightB b = true => lo_of_right h
  have s1 := fun h : rightB a = true => rightB_spec h
  have s2 := fun h : rightB b = true => rightB_spec h
  generalize rightB a = R1 at *
  generalize rightB b = R2 at *
  cases R1
  · have C1 := Lib.hid c1
    clear c1 c2 l1 l2 s1 s2
    go_enter Try.func3, Try.ntmps3
    go_wp2_with fail
    (with_reducible refine (C1.out _).mono ?_); rintro en w1 ⟨rfl, hb⟩
    have G1 : Below w.heap.size w w1 := Below.trans (by (repeat (with_reducible refine M.Below.drewN ?_ _)); go_grown) (hb.mono (by go_size))
    have V1_a : M.Var w1 (w.heap.size) #[.int .i64 a.shape, .int .i64 a.sx, .int .i64 a.sy, .int .i64 a.mass, .int .i64 a.px, .int .i64 a.py, .int .i64 a.mx, .int .i64 a.my] := M.Var.mono (by (repeat (first | (with_reducible assumption) | (with_reducible apply M.var_set45) | (with_reducible refine M.var_alloc' _ _ _ ?_; first | rfl | (simp [go_sem]; done)) | (with_reducible refine M.Var.alloc ?_ _) | (with_reducible refine M.Var.drewN ?_ _) | (with_reducible refine M.Var.drew ?_) | (with_reducible refine M.Var.far ?_ _ _ ?hFar; case hFar => (first | omega | ((try simp [go_sem]) <;> omega))) | fail))) hb
    have V1_b : M.Var w1 (w.heap.size + 1) #[.int .i64 b.shape, .int .i64 b.sx, .int .i64 b.sy, .int .i64 b.mass, .int .i64 b.px, .int .i64 b.py, .int .i64 b.mx, .int .i64 b.my] := M.Var.mono (by (repeat (first | (with_reducible assumption) | (with_reducible apply M.var_set45) | (with_reducible refine M.var_alloc' _ _ _ ?_; first | rfl | (simp [go_sem]; done)) | (with_reducible refine M.Var.alloc ?_ _) | (with_reducible refine M.Var.drewN ?_ _) | (with_reducible refine M.Var.drew ?_) | (with_reducible refine M.Var.far ?_ _ _ ?hFar; case hFar => (first | omega | ((try simp [go_sem]) <;> omega))) | fail))) hb
    have V1_y : M.Var w1 (w.heap.size + 1 + 1) #[.int .i64 by_1, .int .i64 by_2] := M.Var.mono (by (repeat (first | (with_reducible assumption) | (with_reducible apply M.var_set45) | (with_reducible refine M.var_alloc' _ _ _ ?_; first | rfl | (simp [go_sem]; done)) | (with_reducible refine M.Var.alloc ?_ _) | (with_reducible refine M.Var.drewN ?_ _) | (with_reducible refine M.Var.drew ?_) | (with_reducible refine M.Var.far ?_ _ _ ?hFar; case hFar => (first | omega | ((try simp [go_sem]) <;> omega))) | fail))) hb
    have q1_a_0 : w1.cell? ⟨w.heap.size, 0, none⟩ = some (.int .i64 a.shape) := V1_a.c 0 _ rfl
    have q1_a_1 : w1.cell? ⟨w.heap.size, 1, none⟩ = some (.int .i64 a.sx) := V1_a.c 1 _ rfl
    have q1_a_2 : w1.cell? ⟨w.heap.size, 2, none⟩ = some (.int .i64 a.sy) := V1_a.c 2 _ rfl
    have q1_a_3 : w1.cell? ⟨w.heap.size, 3, none⟩ = some (.int .i64 a.mass) := V1_a.c 3 _ rfl
    have q1_a_4 : w1.cell? ⟨w.heap.size, 4, none⟩ = some (.int .i64 a.px) := V1_a.c 4 _ rfl
    have q1_a_5 : w1.cell? ⟨w.heap.size, 5, none⟩ = some (.int .i64 a.py) := V1_a.c 5 _ rfl
    have q1_a_6 : w1.cell? ⟨w.heap.size, 6, none⟩ = some (.int .i64 a.mx) := V1_a.c 6 _ rfl
    have q1_a_7 : w1.cell? ⟨w.heap.size, 7, none⟩ = some (.int .i64 a.my) := V1_a.c 7 _ rfl
    have f1_a := V1_a.2.2; have L1_a := V1_a.lt; have N1_a := Nat.ne_of_gt L1_a; have M1_a := Nat.ne_of_lt L1_a
    have HV1_a := Lib.hid V1_a
    have q1_b_0 : w1.cell? ⟨w.heap.size + 1, 0, none⟩ = some (.int .i64 b.shape) := V1_b.c 0 _ rfl
    have q1_b_1 : w1.cell? ⟨w.heap.size + 1, 1, none⟩ = some (.int .i64 b.sx) := V1_b.c 1 _ rfl
    have q1_b_2 : w1.cell? ⟨w.heap.size + 1, 2, none⟩ = some (.int .i64 b.sy) := V1_b.c 2 _ rfl
    have q1_b_3 : w1.cell? ⟨w.heap.size + 1, 3, none⟩ = some (.int .i64 b.mass) := V1_b.c 3 _ rfl
    have q1_b_4 : w1.cell? ⟨w.heap.size + 1, 4, none⟩ = some (.int .i64 b.px) := V1_b.c 4 _ rfl
    have q1_b_5 : w1.cell? ⟨w.heap.size + 1, 5, none⟩ = some (.int .i64 b.py) := V1_b.c 5 _ rfl
    have q1_b_6 : w1.cell? ⟨w.heap.size + 1, 6, none⟩ = some (.int .i64 b.mx) := V1_b.c 6 _ rfl
    have q1_b_7 : w1.cell? ⟨w.heap.size + 1, 7, none⟩ = some (.int .i64 b.my) := V1_b.c 7 _ rfl
    have f1_b := V1_b.2.2; have L1_b := V1_b.lt; have N1_b := Nat.ne_of_gt L1_b; have M1_b := Nat.ne_of_lt L1_b
    have HV1_b := Lib.hid V1_b
    have q1_y_0 : w1.cell? ⟨w.heap.size + 1 + 1, 0, none⟩ = some (.int .i64 by_1) := V1_y.c 0 _ rfl
    have q1_y_1 : w1.cell? ⟨w.heap.size + 1 + 1, 1, none⟩ = some (.int .i64 by_2) := V1_y.c 1 _ rfl
    have f1_y := V1_y.2.2; have L1_y := V1_y.lt; have N1_y := Nat.ne_of_gt L1_y; have M1_y := Nat.ne_of_lt L1_y
    have HV1_y := Lib.hid V1_y
    have S1 := G1.size; clear hb
    go_wp2_with fail
    (with_reducible refine (c0.out _).mono ?_); rintro en w2 ⟨rfl, hb⟩
    have G2 : Below w.heap.size w w2 := Below.trans (by (repeat (with_reducible refine M.Below.drewN ?_ _)); go_grown) (hb.mono (by go_size))
    have V2_a : M.Var w2 (w.heap.size) #[.int .i64 a.shape, .int .i64 a.sx, .int .i64 a.sy, .int .i64 a.mass, .int .i64 a.px, .int .i64 a.py, .int .i64 a.mx, .int .i64 a.my] := M.Var.mono (by (repeat (first | (with_reducible assumption) | (with_reducible apply M.var_set45) | (with_reducible refine M.var_alloc' _ _ _ ?_; first | rfl | (simp [go_sem]; done)) | (with_reducible refine M.Var.alloc ?_ _) | (with_reducible refine M.Var.drewN ?_ _) | (with_reducible refine M.Var.drew ?_) | (with_reducible refine M.Var.far ?_ _ _ ?hFar; case hFar => (first | omega | ((try simp [go_sem]) <;> omega))) | fail))) hb
    have V2_b : M.Var w2 (w.heap.size + 1) #[.int .i64 b.shape, .int .i64 b.sx, .int .i64 b.sy, .int .i64 b.mass, .int .i64 b.px, .int .i64 b.py, .int .i64 b.mx, .int .i64 b.my] := M.Var.mono (by (repeat (first | (with_reducible assumption) | (with_reducible apply M.var_set45) | (with_reducible refine M.var_alloc' _ _ _ ?_; first | rfl | (simp [go_sem]; done)) | (with_reducible refine M.Var.alloc ?_ _) | (with_reducible refine M.Var.drewN ?_ _) | (with_reducible refine M.Var.drew ?_) | (with_reducible refine M.Var.far ?_ _ _ ?hFar; case hFar => (first | omega | ((try simp [go_sem]) <;> omega))) | fail))) hb
    have V2_y : M.Var w2 (w.heap.size + 1 + 1) #[.int .i64 by_1, .int .i64 by_2] := M.Var.mono (by (repeat (first | (with_reducible assumption) | (with_reducible apply M.var_set45) | (with_reducible refine M.var_alloc' _ _ _ ?_; first | rfl | (simp [go_sem]; done)) | (with_reducible refine M.Var.alloc ?_ _) | (with_reducible refine M.Var.drewN ?_ _) | (with_reducible refine M.Var.drew ?_) | (with_reducible refine M.Var.far ?_ _ _ ?hFar; case hFar => (first | omega | ((try simp [go_sem]) <;> omega))) | fail))) hb
    have q2_a_0 : w2.cell? ⟨w.heap.size, 0, none⟩ = some (.int .i64 a.shape) := V2_a.c 0 _ rfl
    have q2_a_1 : w2.cell? ⟨w.heap.size, 1, none⟩ = some (.int .i64 a.sx) := V2_a.c 1 _ rfl
    have q2_a_2 : w2.cell? ⟨w.heap.size, 2, none⟩ = some (.int .i64 a.sy) := V2_a.c 2 _ rfl
    have q2_a_3 : w2.cell? ⟨w.heap.size, 3, none⟩ = some (.int .i64 a.mass) := V2_a.c 3 _ rfl
    have q2_a_4 : w2.cell? ⟨w.heap.size, 4, none⟩ = some (.int .i64 a.px) := V2_a.c 4 _ rfl
    have q2_a_5 : w2.cell? ⟨w.heap.size, 5, none⟩ = some (.int .i64 a.py) := V2_a.c 5 _ rfl
    have q2_a_6 : w2.cell? ⟨w.heap.size, 6, none⟩ = some (.int .i64 a.mx) := V2_a.c 6 _ rfl
    have q2_a_7 : w2.cell? ⟨w.heap.size, 7, none⟩ = some (.int .i64 a.my) := V2_a.c 7 _ rfl
    have f2_a := V2_a.2.2; have L2_a := V2_a.lt; have N2_a := Nat.ne_of_gt L2_a; have M2_a := Nat.ne_of_lt L2_a
    have HV2_a := Lib.hid V2_a
    have q2_b_0 : w2.cell? ⟨w.heap.size + 1, 0, none⟩ = some (.int .i64 b.shape) := V2_b.c 0 _ rfl
    have q2_b_1 : w2.cell? ⟨w.heap.size + 1, 1, none⟩ = some (.int .i64 b.sx) := V2_b.c 1 _ rfl
    have q2_b_2 : w2.cell? ⟨w.heap.size + 1, 2, none⟩ = some (.int .i64 b.sy) := V2_b.c 2 _ rfl
    have q2_b_3 : w2.cell? ⟨w.heap.size + 1, 3, none⟩ = some (.int .i64 b.mass) := V2_b.c 3 _ rfl
    have q2_b_4 : w2.cell? ⟨w.heap.size + 1, 4, none⟩ = some (.int .i64 b.px) := V2_b.c 4 _ rfl
    have q2_b_5 : w2.cell? ⟨w.heap.size + 1, 5, none⟩ = some (.int .i64 b.py) := V2_b.c 5 _ rfl
    have q2_b_6 : w2.cell? ⟨w.heap.size + 1, 6, none⟩ = some (.int .i64 b.mx) := V2_b.c 6 _ rfl
    have q2_b_7 : w2.cell? ⟨w.heap.size + 1, 7, none⟩ = some (.int .i64 b.my) := V2_b.c 7 _ rfl
    have f2_b := V2_b.2.2; have L2_b := V2_b.lt; have N2_b := Nat.ne_of_gt L2_b; have M2_b := Nat.ne_of_lt L2_b
    have HV2_b := Lib.hid V2_b
    have q2_y_0 : w2.cell? ⟨w.heap.size + 1 + 1, 0, none⟩ = some (.int .i64 by_1) := V2_y.c 0 _ rfl
    have q2_y_1 : w2.cell? ⟨w.heap.size + 1 + 1, 1, none⟩ = some (.int .i64 by_2) := V2_y.c 1 _ rfl
    have f2_y := V2_y.2.2; have L2_y := V2_y.lt; have N2_y := Nat.ne_of_gt L2_y; have M2_y := Nat.ne_of_lt L2_y
    have HV2_y := Lib.hid V2_y
    have S2 := G2.size; clear hb
    go_wp2_with fail
    go_ret
    exact ⟨rfl, by (repeat (with_reducible refine M.Below.drewN ?_ _)); go_grown⟩
  cases R2
  · have C1 := Lib.hid c1; have C2 := Lib.hid c2
    clear c1 c2 l1 l2 s1 s2
    go_enter Try.func3, Try.ntmps3
    go_wp2_with fail
    (with_reducible refine (C1.out _).mono ?_); rintro en w1 ⟨rfl, hb⟩
    have G1 : Below w.heap.size w w1 := Below.trans (by (repeat (with_reducible refine M.Below.drewN ?_ _)); go_grown) (hb.mono (by go_size))
    have V1_a : M.Var w1 (w.heap.size) #[.int .i64 a.shape, .int .i64 a.sx, .int .i64 a.sy, .int .i64 a.mass, .int .i64 a.px, .int .i64 a.py, .int .i64 a.mx, .int .i64 a.my] := M.Var.mono (by (repeat (first | (with_reducible assumption) | (with_reducible apply M.var_set45) | (with_reducible refine M.var_alloc' _ _ _ ?_; first | rfl | (simp [go_sem]; done)) | (with_reducible refine M.Var.alloc ?_ _) | (with_reducible refine M.Var.drewN ?_ _) | (with_reducible refine M.Var.drew ?_) | (with_reducible refine M.Var.far ?_ _ _ ?hFar; case hFar => (first | omega | ((try simp [go_sem]) <;> omega))) | fail))) hb
    have V1_b : M.Var w1 (w.heap.size + 1) #[.int .i64 b.shape, .int .i64 b.sx, .int .i64 b.sy, .int .i64 b.mass, .int .i64 b.px, .int .i64 b.py, .int .i64 b.mx, .int .i64 b.my] := M.Var.mono (by (repeat (first | (with_reducible assumption) | (with_reducible apply M.var_set45) | (with_reducible refine M.var_alloc' _ _ _ ?_; first | rfl | (simp [go_sem]; done)) | (with_reducible refine M.Var.alloc ?_ _) | (with_reducible refine M.Var.drewN ?_ _) | (with_reducible refine M.Var.drew ?_) | (with_reducible refine M.Var.far ?_ _ _ ?hFar; case hFar => (first | omega | ((try simp [go_sem]) <;> omega))) | fail))) hb
    have V1_y : M.Var w1 (w.heap.size + 1 + 1) #[.int .i64 by_1, .int .i64 by_2] := M.Var.mono (by (repeat (first | (with_reducible assumption) | (with_reducible apply M.var_set45) | (with_reducible refine M.var_alloc' _ _ _ ?_; first | rfl | (simp [go_sem]; done)) | (with_reducible refine M.Var.alloc ?_ _) | (with_reducible refine M.Var.drewN ?_ _) | (with_reducible refine M.Var.drew ?_) | (with_reducible refine M.Var.far ?_ _ _ ?hFar; case hFar => (first | omega | ((try simp [go_sem]) <;> omega))) | fail))) hb
    have q1_a_0 : w1.cell? ⟨w.heap.size, 0, none⟩ = some (.int .i64 a.shape) := V1_a.c 0 _ rfl
    have q1_a_1 : w1.cell? ⟨w.heap.size, 1, none⟩ = some (.int .i64 a.sx) := V1_a.c 1 _ rfl
    have q1_a_2 : w1.cell? ⟨w.heap.size, 2, none⟩ = some (.int .i64 a.sy) := V1_a.c 2 _ rfl
    have q1_a_3 : w1.cell? ⟨w.heap.size, 3, none⟩ = some (.int .i64 a.mass) := V1_a.c 3 _ rfl
    have q1_a_4 : w1.cell? ⟨w.heap.size, 4, none⟩ = some (.int .i64 a.px) := V1_a.c 4 _ rfl
    have q1_a_5 : w1.cell? ⟨w.heap.size, 5, none⟩ = some (.int .i64 a.py) := V1_a.c 5 _ rfl
    have q1_a_6 : w1.cell? ⟨w.heap.size, 6, none⟩ = some (.int .i64 a.mx) := V1_a.c 6 _ rfl
    have q1_a_7 : w1.cell? ⟨w.heap.size, 7, none⟩ = some (.int .i64 a.my) := V1_a.c 7 _ rfl
    have f1_a := V1_a.2.2; have L1_a := V1_a.lt; have N1_a := Nat.ne_of_gt L1_a; have M1_a := Nat.ne_of_lt L1_a
    have HV1_a := Lib.hid V1_a
    have q1_b_0 : w1.cell? ⟨w.heap.size + 1, 0, none⟩ = some (.int .i64 b.shape) := V1_b.c 0 _ rfl
    have q1_b_1 : w1.cell? ⟨w.heap.size + 1, 1, none⟩ = some (.int .i64 b.sx) := V1_b.c 1 _ rfl
    have q1_b_2 : w1.cell? ⟨w.heap.size + 1, 2, none⟩ = some (.int .i64 b.sy) := V1_b.c 2 _ rfl
    have q1_b_3 : w1.cell? ⟨w.heap.size + 1, 3, none⟩ = some (.int .i64 b.mass) := V1_b.c 3 _ rfl
    have q1_b_4 : w1.cell? ⟨w.heap.size + 1, 4, none⟩ = some (.int .i64 b.px) := V1_b.c 4 _ rfl
    have q1_b_5 : w1.cell? ⟨w.heap.size + 1, 5, none⟩ = some (.int .i64 b.py) := V1_b.c 5 _ rfl
    have q1_b_6 : w1.cell? ⟨w.heap.size + 1, 6, none⟩ = some (.int .i64 b.mx) := V1_b.c 6 _ rfl
    have q1_b_7 : w1.cell? ⟨w.heap.size + 1, 7, none⟩ = some (.int .i64 b.my) := V1_b.c 7 _ rfl
    have f1_b := V1_b.2.2; have L1_b := V1_b.lt; have N1_b := Nat.ne_of_gt L1_b; have M1_b := Nat.ne_of_lt L1_b
    have HV1_b := Lib.hid V1_b
    have q1_y_0 : w1.cell? ⟨w.heap.size + 1 + 1, 0, none⟩ = some (.int .i64 by_1) := V1_y.c 0 _ rfl
    have q1_y_1 : w1.cell? ⟨w.heap.size + 1 + 1, 1, none⟩ = some (.int .i64 by_2) := V1_y.c 1 _ rfl
    have f1_y := V1_y.2.2; have L1_y := V1_y.lt; have N1_y := Nat.ne_of_gt L1_y; have M1_y := Nat.ne_of_lt L1_y
    have HV1_y := Lib.hid V1_y
    have S1 := G1.size; clear hb
    go_wp2_with fail
    (with_reducible refine (C2.out _).mono ?_); rintro en w2 ⟨rfl, hb⟩
    have G2 : Below w.heap.size w w2 := Below.trans (by (repeat (with_reducible refine M.Below.drewN ?_ _)); go_grown) (hb.mono (by go_size))
    have V2_a : M.Var w2 (w.heap.size) #[.int .i64 a.shape, .int .i64 a.sx, .int .i64 a.sy, .int .i64 a.mass, .int .i64 a.px, .int .i64 a.py, .int .i64 a.mx, .int .i64 a.my] := M.Var.mono (by (repeat (first | (with_reducible assumption) | (with_reducible apply M.var_set45) | (with_reducible refine M.var_alloc' _ _ _ ?_; first | rfl | (simp [go_sem]; done)) | (with_reducible refine M.Var.alloc ?_ _) | (with_reducible refine M.Var.drewN ?_ _) | (with_reducible refine M.Var.drew ?_) | (with_reducible refine M.Var.far ?_ _ _ ?hFar; case hFar => (first | omega | ((try simp [go_sem]) <;> omega))) | fail))) hb
    have V2_b : M.Var w2 (w.heap.size + 1) #[.int .i64 b.shape, .int .i64 b.sx, .int .i64 b.sy, .int .i64 b.mass, .int .i64 b.px, .int .i64 b.py, .int .i64 b.mx, .int .i64 b.my] := M.Var.mono (by (repeat (first | (with_reducible assumption) | (with_reducible apply M.var_set45) | (with_reducible refine M.var_alloc' _ _ _ ?_; first | rfl | (simp [go_sem]; done)) | (with_reducible refine M.Var.alloc ?_ _) | (with_reducible refine M.Var.drewN ?_ _) | (with_reducible refine M.Var.drew ?_) | (with_reducible refine M.Var.far ?_ _ _ ?hFar; case hFar => (first | omega | ((try simp [go_sem]) <;> omega))) | fail))) hb
    have V2_y : M.Var w2 (w.heap.size + 1 + 1) #[.int .i64 by_1, .int .i64 by_2] := M.Var.mono (by (repeat (first | (with_reducible assumption) | (with_reducible apply M.var_set45) | (with_reducible refine M.var_alloc' _ _ _ ?_; first | rfl | (simp [go_sem]; done)) | (with_reducible refine M.Var.alloc ?_ _) | (with_reducible refine M.Var.drewN ?_ _) | (with_reducible refine M.Var.drew ?_) | (with_reducible refine M.Var.far ?_ _ _ ?hFar; case hFar => (first | omega | ((try simp [go_sem]) <;> omega))) | fail))) hb
    have q2_a_0 : w2.cell? ⟨w.heap.size, 0, none⟩ = some (.int .i64 a.shape) := V2_a.c 0 _ rfl
    have q2_a_1 : w2.cell? ⟨w.heap.size, 1, none⟩ = some (.int .i64 a.sx) := V2_a.c 1 _ rfl
    have q2_a_2 : w2.cell? ⟨w.heap.size, 2, none⟩ = some (.int .i64 a.sy) := V2_a.c 2 _ rfl
    have q2_a_3 : w2.cell? ⟨w.heap.size, 3, none⟩ = some (.int .i64 a.mass) := V2_a.c 3 _ rfl
    have q2_a_4 : w2.cell? ⟨w.heap.size, 4, none⟩ = some (.int .i64 a.px) := V2_a.c 4 _ rfl
    have q2_a_5 : w2.cell? ⟨w.heap.size, 5, none⟩ = some (.int .i64 a.py) := V2_a.c 5 _ rfl
    have q2_a_6 : w2.cell? ⟨w.heap.size, 6, none⟩ = some (.int .i64 a.mx) := V2_a.c 6 _ rfl
    have q2_a_7 : w2.cell? ⟨w.heap.size, 7, none⟩ = some (.int .i64 a.my) := V2_a.c 7 _ rfl
    have f2_a := V2_a.2.2; have L2_a := V2_a.lt; have N2_a := Nat.ne_of_gt L2_a; have M2_a := Nat.ne_of_lt L2_a
    have HV2_a := Lib.hid V2_a
    have q2_b_0 : w2.cell? ⟨w.heap.size + 1, 0, none⟩ = some (.int .i64 b.shape) := V2_b.c 0 _ rfl
    have q2_b_1 : w2.cell? ⟨w.heap.size + 1, 1, none⟩ = some (.int .i64 b.sx) := V2_b.c 1 _ rfl
    have q2_b_2 : w2.cell? ⟨w.heap.size + 1, 2, none⟩ = some (.int .i64 b.sy) := V2_b.c 2 _ rfl
    have q2_b_3 : w2.cell? ⟨w.heap.size + 1, 3, none⟩ = some (.int .i64 b.mass) := V2_b.c 3 _ rfl
    have q2_b_4 : w2.cell? ⟨w.heap.size + 1, 4, none⟩ = some (.int .i64 b.px) := V2_b.c 4 _ rfl
    have q2_b_5 : w2.cell? ⟨w.heap.size + 1, 5, none⟩ = some (.int .i64 b.py) := V2_b.c 5 _ rfl
    have q2_b_6 : w2.cell? ⟨w.heap.size + 1, 6, none⟩ = some (.int .i64 b.mx) := V2_b.c 6 _ rfl
    have q2_b_7 : w2.cell? ⟨w.heap.size + 1, 7, none⟩ = some (.int .i64 b.my) := V2_b.c 7 _ rfl
    have f2_b := V2_b.2.2; have L2_b := V2_b.lt; have N2_b := Nat.ne_of_gt L2_b; have M2_b := Nat.ne_of_lt L2_b
    have HV2_b := Lib.hid V2_b
    have q2_y_0 : w2.cell? ⟨w.heap.size + 1 + 1, 0, none⟩ = some (.int .i64 by_1) := V2_y.c 0 _ rfl
    have q2_y_1 : w2.cell? ⟨w.heap.size + 1 + 1, 1, none⟩ = some (.int .i64 by_2) := V2_y.c 1 _ rfl
    have f2_y := V2_y.2.2; have L2_y := V2_y.lt; have N2_y := Nat.ne_of_gt L2_y; have M2_y := Nat.ne_of_lt L2_y
    have HV2_y := Lib.hid V2_y
    have S2 := G2.size; clear hb
    go_wp2_with fail
    (with_reducible refine (c0.out _).mono ?_); rintro en w3 ⟨rfl, hb⟩
    have G3 : Below w.heap.size w w3 := Below.trans (by (repeat (with_reducible refine M.Below.drewN ?_ _)); go_grown) (hb.mono (by go_size))
    have V3_a : M.Var w3 (w.heap.size) #[.int .i64 a.shape, .int .i64 a.sx, .int .i64 a.sy, .int .i64 a.mass, .int .i64 a.px, .int .i64 a.py, .int .i64 a.mx, .int .i64 a.my] := M.Var.mono (by (repeat (first | (with_reducible assumption) | (with_reducible apply M.var_set45) | (with_reducible refine M.var_alloc' _ _ _ ?_; first | rfl | (simp [go_sem]; done)) | (with_reducible refine M.Var.alloc ?_ _) | (with_reducible refine M.Var.drewN ?_ _) | (with_reducible refine M.Var.drew ?_) | (with_reducible refine M.Var.far ?_ _ _ ?hFar; case hFar => (first | omega | ((try simp [go_sem]) <;> omega))) | fail))) hb
    have V3_b : M.Var w3 (w.heap.size + 1) #[.int .i64 b.shape, .int .i64 b.sx, .int .i64 b.sy, .int .i64 b.mass, .int .i64 b.px, .int .i64 b.py, .int .i64 b.mx, .int .i64 b.my] := M.Var.mono (by (repeat (first | (with_reducible assumption) | (with_reducible apply M.var_set45) | (with_reducible refine M.var_alloc' _ _ _ ?_; first | rfl | (simp [go_sem]; done)) | (with_reducible refine M.Var.alloc ?_ _) | (with_reducible refine M.Var.drewN ?_ _) | (with_reducible refine M.Var.drew ?_) | (with_reducible refine M.Var.far ?_ _ _ ?hFar; case hFar => (first | omega | ((try simp [go_sem]) <;> omega))) | fail))) hb
    have V3_y : M.Var w3 (w.heap.size + 1 + 1) #[.int .i64 by_1, .int .i64 by_2] := M.Var.mono (by (repeat (first | (with_reducible assumption) | (with_reducible apply M.var_set45) | (with_reducible refine M.var_alloc' _ _ _ ?_; first | rfl | (simp [go_sem]; done)) | (with_reducible refine M.Var.alloc ?_ _) | (with_reducible refine M.Var.drewN ?_ _) | (with_reducible refine M.Var.drew ?_) | (with_reducible refine M.Var.far ?_ _ _ ?hFar; case hFar => (first | omega | ((try simp [go_sem]) <;> omega))) | fail))) hb
    have q3_a_0 : w3.cell? ⟨w.heap.size, 0, none⟩ = some (.int .i64 a.shape) := V3_a.c 0 _ rfl
    have q3_a_1 : w3.cell? ⟨w.heap.size, 1, none⟩ = some (.int .i64 a.sx) := V3_a.c 1 _ rfl
    have q3_a_2 : w3.cell? ⟨w.heap.size, 2, none⟩ = some (.int .i64 a.sy) := V3_a.c 2 _ rfl
    have q3_a_3 : w3.cell? ⟨w.heap.size, 3, none⟩ = some (.int .i64 a.mass) := V3_a.c 3 _ rfl
    have q3_a_4 : w3.cell? ⟨w.heap.size, 4, none⟩ = some (.int .i64 a.px) := V3_a.c 4 _ rfl
    have q3_a_5 : w3.cell? ⟨w.heap.size, 5, none⟩ = some (.int .i64 a.py) := V3_a.c 5 _ rfl
    have q3_a_6 : w3.cell? ⟨w.heap.size, 6, none⟩ = some (.int .i64 a.mx) := V3_a.c 6 _ rfl
    have q3_a_7 : w3.cell? ⟨w.heap.size, 7, none⟩ = some (.int .i64 a.my) := V3_a.c 7 _ rfl
    have f3_a := V3_a.2.2; have L3_a := V3_a.lt; have N3_a := Nat.ne_of_gt L3_a; have M3_a := Nat.ne_of_lt L3_a
    have HV3_a := Lib.hid V3_a
    have q3_b_0 : w3.cell? ⟨w.heap.size + 1, 0, none⟩ = some (.int .i64 b.shape) := V3_b.c 0 _ rfl
    have q3_b_1 : w3.cell? ⟨w.heap.size + 1, 1, none⟩ = some (.int .i64 b.sx) := V3_b.c 1 _ rfl
    have q3_b_2 : w3.cell? ⟨w.heap.size + 1, 2, none⟩ = some (.int .i64 b.sy) := V3_b.c 2 _ rfl
    have q3_b_3 : w3.cell? ⟨w.heap.size + 1, 3, none⟩ = some (.int .i64 b.mass) := V3_b.c 3 _ rfl
    have q3_b_4 : w3.cell? ⟨w.heap.size + 1, 4, none⟩ = some (.int .i64 b.px) := V3_b.c 4 _ rfl
    have q3_b_5 : w3.cell? ⟨w.heap.size + 1, 5, none⟩ = some (.int .i64 b.py) := V3_b.c 5 _ rfl
    have q3_b_6 : w3.cell? ⟨w.heap.size + 1, 6, none⟩ = some (.int .i64 b.mx) := V3_b.c 6 _ rfl
    have q3_b_7 : w3.cell? ⟨w.heap.size + 1, 7, none⟩ = some (.int .i64 b.my) := V3_b.c 7 _ rfl
    have f3_b := V3_b.2.2; have L3_b := V3_b.lt; have N3_b := Nat.ne_of_gt L3_b; have M3_b := Nat.ne_of_lt L3_b
    have HV3_b := Lib.hid V3_b
    have q3_y_0 : w3.cell? ⟨w.heap.size + 1 + 1, 0, none⟩ = some (.int .i64 by_1) := V3_y.c 0 _ rfl
    have q3_y_1 : w3.cell? ⟨w.heap.size + 1 + 1, 1, none⟩ = some (.int .i64 by_2) := V3_y.c 1 _ rfl
    have f3_y := V3_y.2.2; have L3_y := V3_y.lt; have N3_y := Nat.ne_of_gt L3_y; have M3_y := Nat.ne_of_lt L3_y
    have HV3_y := Lib.hid V3_y
    have S3 := G3.size; clear hb
    go_wp2_with fail
    go_ret
    exact ⟨rfl, by (repeat (with_reducible refine M.Below.drewN ?_ _)); go_grown⟩
  have C1 := Lib.hid c1; have C2 := Lib.hid c2
  replace l1 := l1 rfl; replace l2 := l2 rfl; replace s1 := s1 rfl; replace s2 := s2 rfl
  clear c1 c2
  by_cases hg : by_1 ≤ 1125899906842624 ∧ -1125899906842624 ≤ by_1 ∧ by_2 ≤ 1125899906842624 ∧ -1125899906842624 ≤ by_2
  rotate_left
  · have h0 : (1125899906842624 < by_1) ∨ (¬ 1125899906842624 < by_1 ∧ by_1 < -1125899906842624) ∨ (¬ 1125899906842624 < by_1 ∧ ¬ by_1 < -1125899906842624 ∧ 1125899906842624 < by_2) ∨ (¬ 1125899906842624 < by_1 ∧ ¬ by_1 < -1125899906842624 ∧ ¬ 1125899906842624 < by_2 ∧ by_2 < -1125899906842624) := by omega
    clear hg l1 l2 s1 s2
    rcases h0 with h1 | ⟨h1, h2⟩ | ⟨h1, h2, h3⟩ | ⟨h1, h2, h3, h4⟩
    · skip
      go_enter Try.func3, Try.ntmps3
      go_wp2_with fail
      (with_reducible refine (C1.out _).mono ?_); rintro en w1 ⟨rfl, hb⟩
      have G1 : Below w.heap.size w w1 := Below.trans (by (repeat (with_reducible refine M.Below.drewN ?_ _)); go_grown) (hb.mono (by go_size))
      have V1_a : M.Var w1 (w.heap.size) #[.int .i64 a.shape, .int .i64 a.sx, .int .i64 a.sy, .int .i64 a.mass, .int .i64 a.px, .int .i64 a.py, .int .i64 a.mx, .int .i64 a.my] := M.Var.mono (by (repeat (first | (with_reducible assumption) | (with_reducible apply M.var_set45) | (with_reducible refine M.var_alloc' _ _ _ ?_; first | rfl | (simp [go_sem]; done)) | (with_reducible refine M.Var.alloc ?_ _) | (with_reducible refine M.Var.drewN ?_ _) | (with_reducible refine M.Var.drew ?_) | (with_reducible refine M.Var.far ?_ _ _ ?hFar; case hFar => (first | omega | ((try simp [go_sem]) <;> omega))) | fail))) hb
      have V1_b : M.Var w1 (w.heap.size + 1) #[.int .i64 b.shape, .int .i64 b.sx, .int .i64 b.sy, .int .i64 b.mass, .int .i64 b.px, .int .i64 b.py, .int .i64 b.mx, .int .i64 b.my] := M.Var.mono (by (repeat (first | (with_reducible assumption) | (with_reducible apply M.var_set45) | (with_reducible refine M.var_alloc' _ _ _ ?_; first | rfl | (simp [go_sem]; done)) | (with_reducible refine M.Var.alloc ?_ _) | (with_reducible refine M.Var.drewN ?_ _) | (with_reducible refine M.Var.drew ?_) | (with_reducible refine M.Var.far ?_ _ _ ?hFar; case hFar => (first | omega | ((try simp [go_sem]) <;> omega))) | fail))) hb
      have V1_y : M.Var w1 (w.heap.size + 1 + 1) #[.int .i64 by_1, .int .i64 by_2] := M.Var.mono (by (repeat (first | (with_reducible assumption) | (with_reducible apply M.var_set45) | (with_reducible refine M.var_alloc' _ _ _ ?_; first | rfl | (simp [go_sem]; done)) | (with_reducible refine M.Var.alloc ?_ _) | (with_reducible refine M.Var.drewN ?_ _) | (with_reducible refine M.Var.drew ?_) | (with_reducible refine M.Var.far ?_ _ _ ?hFar; case hFar => (first | omega | ((try simp [go_sem]) <;> omega))) | fail))) hb
      have q1_a_0 : w1.cell? ⟨w.heap.size, 0, none⟩ = some (.int .i64 a.shape) := V1_a.c 0 _ rfl
      have q1_a_1 : w1.cell? ⟨w.heap.size, 1, none⟩ = some (.int .i64 a.sx) := V1_a.c 1 _ rfl
      have q1_a_2 : w1.cell? ⟨w.heap.size, 2, none⟩ = some (.int .i64 a.sy) := V1_a.c 2 _ rfl
      have q1_a_3 : w1.cell? ⟨w.heap.size, 3, none⟩ = some (.int .i64 a.mass) := V1_a.c 3 _ rfl
      have q1_a_4 : w1.cell? ⟨w.heap.size, 4, none⟩ = some (.int .i64 a.px) := V1_a.c 4 _ rfl
      have q1_a_5 : w1.cell? ⟨w.heap.size, 5, none⟩ = some (.int .i64 a.py) := V1_a.c 5 _ rfl
      have q1_a_6 : w1.cell? ⟨w.heap.size, 6, none⟩ = some (.int .i64 a.mx) := V1_a.c 6 _ rfl
      have q1_a_7 : w1.cell? ⟨w.heap.size, 7, none⟩ = some (.int .i64 a.my) := V1_a.c 7 _ rfl
      have f1_a := V1_a.2.2; have L1_a := V1_a.lt; have N1_a := Nat.ne_of_gt L1_a; have M1_a := Nat.ne_of_lt L1_a
      have HV1_a := Lib.hid V1_a
      have q1_b_0 : w1.cell? ⟨w.heap.size + 1, 0, none⟩ = some (.int .i64 b.shape) := V1_b.c 0 _ rfl
      have q1_b_1 : w1.cell? ⟨w.heap.size + 1, 1, none⟩ = some (.int .i64 b.sx) := V1_b.c 1 _ rfl
      have q1_b_2 : w1.cell? ⟨w.heap.size + 1, 2, none⟩ = some (.int .i64 b.sy) := V1_b.c 2 _ rfl
      have q1_b_3 : w1.cell? ⟨w.heap.size + 1, 3, none⟩ = some (.int .i64 b.mass) := V1_b.c 3 _ rfl
      have q1_b_4 : w1.cell? ⟨w.heap.size + 1, 4, none⟩ = some (.int .i64 b.px) := V1_b.c 4 _ rfl
      have q1_b_5 : w1.cell? ⟨w.heap.size + 1, 5, none⟩ = some (.int .i64 b.py) := V1_b.c 5 _ rfl
      have q1_b_6 : w1.cell? ⟨w.heap.size + 1, 6, none⟩ = some (.int .i64 b.mx) := V1_b.c 6 _ rfl
      have q1_b_7 : w1.cell? ⟨w.heap.size + 1, 7, none⟩ = some (.int .i64 b.my) := V1_b.c 7 _ rfl
      have f1_b := V1_b.2.2; have L1_b := V1_b.lt; have N1_b := Nat.ne_of_gt L1_b; have M1_b := Nat.ne_of_lt L1_b
      have HV1_b := Lib.hid V1_b
      have q1_y_0 : w1.cell? ⟨w.heap.size + 1 + 1, 0, none⟩ = some (.int .i64 by_1) := V1_y.c 0 _ rfl
      have q1_y_1 : w1.cell? ⟨w.heap.size + 1 + 1, 1, none⟩ = some (.int .i64 by_2) := V1_y.c 1 _ rfl
      have f1_y := V1_y.2.2; have L1_y := V1_y.lt; have N1_y := Nat.ne_of_gt L1_y; have M1_y := Nat.ne_of_lt L1_y
      have HV1_y := Lib.hid V1_y
      have S1 := G1.size; clear hb
      go_wp2_with fail
      (with_reducible refine (C2.out _).mono ?_); rintro en w2 ⟨rfl, hb⟩
      have G2 : Below w.heap.size w w2 := Below.trans (by (repeat (with_reducible refine M.Below.drewN ?_ _)); go_grown) (hb.mono (by go_size))
      have V2_a : M.Var w2 (w.heap.size) #[.int .i64 a.shape, .int .i64 a.sx, .int .i64 a.sy, .int .i64 a.mass, .int .i64 a.px, .int .i64 a.py, .int .i64 a.mx, .int .i64 a.my] := M.Var.mono (by (repeat (first | (with_reducible assumption) | (with_reducible apply M.var_set45) | (with_reducible refine M.var_alloc' _ _ _ ?_; first | rfl | (simp [go_sem]; done)) | (with_reducible refine M.Var.alloc ?_ _) | (with_reducible refine M.Var.drewN ?_ _) | (with_reducible refine M.Var.drew ?_) | (with_reducible refine M.Var.far ?_ _ _ ?hFar; case hFar => (first | omega | ((try simp [go_sem]) <;> omega))) | fail))) hb
      have V2_b : M.Var w2 (w.heap.size + 1) #[.int .i64 b.shape, .int .i64 b.sx, .int .i64 b.sy, .int .i64 b.mass, .int .i64 b.px, .int .i64 b.py, .int .i64 b.mx, .int .i64 b.my] := M.Var.mono (by (repeat (first | (with_reducible assumption) | (with_reducible apply M.var_set45) | (with_reducible refine M.var_alloc' _ _ _ ?_; first | rfl | (simp [go_sem]; done)) | (with_reducible refine M.Var.alloc ?_ _) | (with_reducible refine M.Var.drewN ?_ _) | (with_reducible refine M.Var.drew ?_) | (with_reducible refine M.Var.far ?_ _ _ ?hFar; case hFar => (first | omega | ((try simp [go_sem]) <;> omega))) | fail))) hb
      have V2_y : M.Var w2 (w.heap.size + 1 + 1) #[.int .i64 by_1, .int .i64 by_2] := M.Var.mono (by (repeat (first | (with_reducible assumption) | (with_reducible apply M.var_set45) | (with_reducible refine M.var_alloc' _ _ _ ?_; first | rfl | (simp [go_sem]; done)) | (with_reducible refine M.Var.alloc ?_ _) | (with_reducible refine M.Var.drewN ?_ _) | (with_reducible refine M.Var.drew ?_) | (with_reducible refine M.Var.far ?_ _ _ ?hFar; case hFar => (first | omega | ((try simp [go_sem]) <;> omega))) | fail))) hb
      have q2_a_0 : w2.cell? ⟨w.heap.size, 0, none⟩ = some (.int .i64 a.shape) := V2_a.c 0 _ rfl
      have q2_a_1 : w2.cell? ⟨w.heap.size, 1, none⟩ = some (.int .i64 a.sx) := V2_a.c 1 _ rfl
      have q2_a_2 : w2.cell? ⟨w.heap.size, 2, none⟩ = some (.int .i64 a.sy) := V2_a.c 2 _ rfl
      have q2_a_3 : w2.cell? ⟨w.heap.size, 3, none⟩ = some (.int .i64 a.mass) := V2_a.c 3 _ rfl
      have q2_a_4 : w2.cell? ⟨w.heap.size, 4, none⟩ = some (.int .i64 a.px) := V2_a.c 4 _ rfl
      have q2_a_5 : w2.cell? ⟨w.heap.size, 5, none⟩ = some (.int .i64 a.py) := V2_a.c 5 _ rfl
      have q2_a_6 : w2.cell? ⟨w.heap.size, 6, none⟩ = some (.int .i64 a.mx) := V2_a.c 6 _ rfl
      have q2_a_7 : w2.cell? ⟨w.heap.size, 7, none⟩ = some (.int .i64 a.my) := V2_a.c 7 _ rfl
      have f2_a := V2_a.2.2; have L2_a := V2_a.lt; have N2_a := Nat.ne_of_gt L2_a; have M2_a := Nat.ne_of_lt L2_a
      have HV2_a := Lib.hid V2_a
      have q2_b_0 : w2.cell? ⟨w.heap.size + 1, 0, none⟩ = some (.int .i64 b.shape) := V2_b.c 0 _ rfl
      have q2_b_1 : w2.cell? ⟨w.heap.size + 1, 1, none⟩ = some (.int .i64 b.sx) := V2_b.c 1 _ rfl
      have q2_b_2 : w2.cell? ⟨w.heap.size + 1, 2, none⟩ = some (.int .i64 b.sy) := V2_b.c 2 _ rfl
      have q2_b_3 : w2.cell? ⟨w.heap.size + 1, 3, none⟩ = some (.int .i64 b.mass) := V2_b.c 3 _ rfl
      have q2_b_4 : w2.cell? ⟨w.heap.size + 1, 4, none⟩ = some (.int .i64 b.px) := V2_b.c 4 _ rfl
      have q2_b_5 : w2.cell? ⟨w.heap.size + 1, 5, none⟩ = some (.int .i64 b.py) := V2_b.c 5 _ rfl
      have q2_b_6 : w2.cell? ⟨w.heap.size + 1, 6, none⟩ = some (.int .i64 b.mx) := V2_b.c 6 _ rfl
      have q2_b_7 : w2.cell? ⟨w.heap.size + 1, 7, none⟩ = some (.int .i64 b.my) := V2_b.c 7 _ rfl
      have f2_b := V2_b.2.2; have L2_b := V2_b.lt; have N2_b := Nat.ne_of_gt L2_b; have M2_b := Nat.ne_of_lt L2_b
      have HV2_b := Lib.hid V2_b
      have q2_y_0 : w2.cell? ⟨w.heap.size + 1 + 1, 0, none⟩ = some (.int .i64 by_1) := V2_y.c 0 _ rfl
      have q2_y_1 : w2.cell? ⟨w.heap.size + 1 + 1, 1, none⟩ = some (.int .i64 by_2) := V2_y.c 1 _ rfl
      have f2_y := V2_y.2.2; have L2_y := V2_y.lt; have N2_y := Nat.ne_of_gt L2_y; have M2_y := Nat.ne_of_lt L2_y
      have HV2_y := Lib.hid V2_y
      have S2 := G2.size; clear hb
      go_wp2_with fail
      (with_reducible refine (c0.out _).mono ?_); rintro en w3 ⟨rfl, hb⟩
      have G3 : Below w.heap.size w w3 := Below.trans (by (repeat (with_reducible refine M.Below.drewN ?_ _)); go_grown) (hb.mono (by go_size))
      have V3_a : M.Var w3 (w.heap.size) #[.int .i64 a.shape, .int .i64 a.sx, .int .i64 a.sy, .int .i64 a.mass, .int .i64 a.px, .int .i64 a.py, .int .i64 a.mx, .int .i64 a.my] := M.Var.mono (by (repeat (first | (with_reducible assumption) | (with_reducible apply M.var_set45) | (with_reducible refine M.var_alloc' _ _ _ ?_; first | rfl | (simp [go_sem]; done)) | (with_reducible refine M.Var.alloc ?_ _) | (with_reducible refine M.Var.drewN ?_ _) | (with_reducible refine M.Var.drew ?_) | (with_reducible refine M.Var.far ?_ _ _ ?hFar; case hFar => (first | omega | ((try simp [go_sem]) <;> omega))) | fail))) hb
      have V3_b : M.Var w3 (w.heap.size + 1) #[.int .i64 b.shape, .int .i64 b.sx, .int .i64 b.sy, .int .i64 b.mass, .int .i64 b.px, .int .i64 b.py, .int .i64 b.mx, .int .i64 b.my] := M.Var.mono (by (repeat (first | (with_reducible assumption) | (with_reducible apply M.var_set45) | (with_reducible refine M.var_alloc' _ _ _ ?_; first | rfl | (simp [go_sem]; done)) | (with_reducible refine M.Var.alloc ?_ _) | (with_reducible refine M.Var.drewN ?_ _) | (with_reducible refine M.Var.drew ?_) | (with_reducible refine M.Var.far ?_ _ _ ?hFar; case hFar => (first | omega | ((try simp [go_sem]) <;> omega))) | fail))) hb
      have V3_y : M.Var w3 (w.heap.size + 1 + 1) #[.int .i64 by_1, .int .i64 by_2] := M.Var.mono (by (repeat (first | (with_reducible assumption) | (with_reducible apply M.var_set45) | (with_reducible refine M.var_alloc' _ _ _ ?_; first | rfl | (simp [go_sem]; done)) | (with_reducible refine M.Var.alloc ?_ _) | (with_reducible refine M.Var.drewN ?_ _) | (with_reducible refine M.Var.drew ?_) | (with_reducible refine M.Var.far ?_ _ _ ?hFar; case hFar => (first | omega | ((try simp [go_sem]) <;> omega))) | fail))) hb
      have q3_a_0 : w3.cell? ⟨w.heap.size, 0, none⟩ = some (.int .i64 a.shape) := V3_a.c 0 _ rfl
      have q3_a_1 : w3.cell? ⟨w.heap.size, 1, none⟩ = some (.int .i64 a.sx) := V3_a.c 1 _ rfl
      have q3_a_2 : w3.cell? ⟨w.heap.size, 2, none⟩ = some (.int .i64 a.sy) := V3_a.c 2 _ rfl
      have q3_a_3 : w3.cell? ⟨w.heap.size, 3, none⟩ = some (.int .i64 a.mass) := V3_a.c 3 _ rfl
      have q3_a_4 : w3.cell? ⟨w.heap.size, 4, none⟩ = some (.int .i64 a.px) := V3_a.c 4 _ rfl
      have q3_a_5 : w3.cell? ⟨w.heap.size, 5, none⟩ = some (.int .i64 a.py) := V3_a.c 5 _ rfl
      have q3_a_6 : w3.cell? ⟨w.heap.size, 6, none⟩ = some (.int .i64 a.mx) := V3_a.c 6 _ rfl
      have q3_a_7 : w3.cell? ⟨w.heap.size, 7, none⟩ = some (.int .i64 a.my) := V3_a.c 7 _ rfl
      have f3_a := V3_a.2.2; have L3_a := V3_a.lt; have N3_a := Nat.ne_of_gt L3_a; have M3_a := Nat.ne_of_lt L3_a
      have HV3_a := Lib.hid V3_a
      have q3_b_0 : w3.cell? ⟨w.heap.size + 1, 0, none⟩ = some (.int .i64 b.shape) := V3_b.c 0 _ rfl
      have q3_b_1 : w3.cell? ⟨w.heap.size + 1, 1, none⟩ = some (.int .i64 b.sx) := V3_b.c 1 _ rfl
      have q3_b_2 : w3.cell? ⟨w.heap.size + 1, 2, none⟩ = some (.int .i64 b.sy) := V3_b.c 2 _ rfl
      have q3_b_3 : w3.cell? ⟨w.heap.size + 1, 3, none⟩ = some (.int .i64 b.mass) := V3_b.c 3 _ rfl
      have q3_b_4 : w3.cell? ⟨w.heap.size + 1, 4, none⟩ = some (.int .i64 b.px) := V3_b.c 4 _ rfl
      have q3_b_5 : w3.cell? ⟨w.heap.size + 1, 5, none⟩ = some (.int .i64 b.py) := V3_b.c 5 _ rfl
      have q3_b_6 : w3.cell? ⟨w.heap.size + 1, 6, none⟩ = some (.int .i64 b.mx) := V3_b.c 6 _ rfl
      have q3_b_7 : w3.cell? ⟨w.heap.size + 1, 7, none⟩ = some (.int .i64 b.my) := V3_b.c 7 _ rfl
      have f3_b := V3_b.2.2; have L3_b := V3_b.lt; have N3_b := Nat.ne_of_gt L3_b; have M3_b := Nat.ne_of_lt L3_b
      have HV3_b := Lib.hid V3_b
      have q3_y_0 : w3.cell? ⟨w.heap.size + 1 + 1, 0, none⟩ = some (.int .i64 by_1) := V3_y.c 0 _ rfl
      have q3_y_1 : w3.cell? ⟨w.heap.size + 1 + 1, 1, none⟩ = some (.int .i64 by_2) := V3_y.c 1 _ rfl
      have f3_y := V3_y.2.2; have L3_y := V3_y.lt; have N3_y := Nat.ne_of_gt L3_y; have M3_y := Nat.ne_of_lt L3_y
      have HV3_y := Lib.hid V3_y
      have S3 := G3.size; clear hb
      go_wp2_with fail
      go_ret
      exact ⟨rfl, by (repeat (with_reducible refine M.Below.drewN ?_ _)); go_grown⟩
    · skip
      go_enter Try.func3, Try.ntmps3
      go_wp2_with fail
      (with_reducible refine (C1.out _).mono ?_); rintro en w1 ⟨rfl, hb⟩
      have G1 : Below w.heap.size w w1 := Below.trans (by (repeat (with_reducible refine M.Below.drewN ?_ _)); go_grown) (hb.mono (by go_size))
      have V1_a : M.Var w1 (w.heap.size) #[.int .i64 a.shape, .int .i64 a.sx, .int .i64 a.sy, .int .i64 a.mass, .int .i64 a.px, .int .i64 a.py, .int .i64 a.mx, .int .i64 a.my] := M.Var.mono (by (repeat (first | (with_reducible assumption) | (with_reducible apply M.var_set45) | (with_reducible refine M.var_alloc' _ _ _ ?_; first | rfl | (simp [go_sem]; done)) | (with_reducible refine M.Var.alloc ?_ _) | (with_reducible refine M.Var.drewN ?_ _) | (with_reducible refine M.Var.drew ?_) | (with_reducible refine M.Var.far ?_ _ _ ?hFar; case hFar => (first | omega | ((try simp [go_sem]) <;> omega))) | fail))) hb
      have V1_b : M.Var w1 (w.heap.size + 1) #[.int .i64 b.shape, .int .i64 b.sx, .int .i64 b.sy, .int .i64 b.mass, .int .i64 b.px, .int .i64 b.py, .int .i64 b.mx, .int .i64 b.my] := M.Var.mono (by (repeat (first | (with_reducible assumption) | (with_reducible apply M.var_set45) | (with_reducible refine M.var_alloc' _ _ _ ?_; first | rfl | (simp [go_sem]; done)) | (with_reducible refine M.Var.alloc ?_ _) | (with_reducible refine M.Var.drewN ?_ _) | (with_reducible refine M.Var.drew ?_) | (with_reducible refine M.Var.far ?_ _ _ ?hFar; case hFar => (first | omega | ((try simp [go_sem]) <;> omega))) | fail))) hb
      have V1_y : M.Var w1 (w.heap.size + 1 + 1) #[.int .i64 by_1, .int .i64 by_2] := M.Var.mono (by (repeat (first | (with_reducible assumption) | (with_reducible apply M.var_set45) | (with_reducible refine M.var_alloc' _ _ _ ?_; first | rfl | (simp [go_sem]; done)) | (with_reducible refine M.Var.alloc ?_ _) | (with_reducible refine M.Var.drewN ?_ _) | (with_reducible refine M.Var.drew ?_) | (with_reducible refine M.Var.far ?_ _ _ ?hFar; case hFar => (first | omega | ((try simp [go_sem]) <;> omega))) | fail))) hb
      have q1_a_0 : w1.cell? ⟨w.heap.size, 0, none⟩ = some (.int .i64 a.shape) := V1_a.c 0 _ rfl
      have q1_a_1 : w1.cell? ⟨w.heap.size, 1, none⟩ = some (.int .i64 a.sx) := V1_a.c 1 _ rfl
      have q1_a_2 : w1.cell? ⟨w.heap.size, 2, none⟩ = some (.int .i64 a.sy) := V1_a.c 2 _ rfl
      have q1_a_3 : w1.cell? ⟨w.heap.size, 3, none⟩ = some (.int .i64 a.mass) := V1_a.c 3 _ rfl
      have q1_a_4 : w1.cell? ⟨w.heap.size, 4, none⟩ = some (.int .i64 a.px) := V1_a.c 4 _ rfl
      have q1_a_5 : w1.cell? ⟨w.heap.size, 5, none⟩ = some (.int .i64 a.py) := V1_a.c 5 _ rfl
      have q1_a_6 : w1.cell? ⟨w.heap.size, 6, none⟩ = some (.int .i64 a.mx) := V1_a.c 6 _ rfl
      have q1_a_7 : w1.cell? ⟨w.heap.size, 7, none⟩ = some (.int .i64 a.my) := V1_a.c 7 _ rfl
      have f1_a := V1_a.2.2; have L1_a := V1_a.lt; have N1_a := Nat.ne_of_gt L1_a; have M1_a := Nat.ne_of_lt L1_a
      have HV1_a := Lib.hid V1_a
      have q1_b_0 : w1.cell? ⟨w.heap.size + 1, 0, none⟩ = some (.int .i64 b.shape) := V1_b.c 0 _ rfl
      have q1_b_1 : w1.cell? ⟨w.heap.size + 1, 1, none⟩ = some (.int .i64 b.sx) := V1_b.c 1 _ rfl
      have q1_b_2 : w1.cell? ⟨w.heap.size + 1, 2, none⟩ = some (.int .i64 b.sy) := V1_b.c 2 _ rfl
      have q1_b_3 : w1.cell? ⟨w.heap.size + 1, 3, none⟩ = some (.int .i64 b.mass) := V1_b.c 3 _ rfl
      have q1_b_4 : w1.cell? ⟨w.heap.size + 1, 4, none⟩ = some (.int .i64 b.px) := V1_b.c 4 _ rfl
      have q1_b_5 : w1.cell? ⟨w.heap.size + 1, 5, none⟩ = some (.int .i64 b.py) := V1_b.c 5 _ rfl
      have q1_b_6 : w1.cell? ⟨w.heap.size + 1, 6, none⟩ = some (.int .i64 b.mx) := V1_b.c 6 _ rfl
      have q1_b_7 : w1.cell? ⟨w.heap.size + 1, 7, none⟩ = some (.int .i64 b.my) := V1_b.c 7 _ rfl
      have f1_b := V1_b.2.2; have L1_b := V1_b.lt; have N1_b := Nat.ne_of_gt L1_b; have M1_b := Nat.ne_of_lt L1_b
      have HV1_b := Lib.hid V1_b
      have q1_y_0 : w1.cell? ⟨w.heap.size + 1 + 1, 0, none⟩ = some (.int .i64 by_1) := V1_y.c 0 _ rfl
      have q1_y_1 : w1.cell? ⟨w.heap.size + 1 + 1, 1, none⟩ = some (.int .i64 by_2) := V1_y.c 1 _ rfl
      have f1_y := V1_y.2.2; have L1_y := V1_y.lt; have N1_y := Nat.ne_of_gt L1_y; have M1_y := Nat.ne_of_lt L1_y
      have HV1_y := Lib.hid V1_y
      have S1 := G1.size; clear hb
      go_wp2_with fail
      (with_reducible refine (C2.out _).mono ?_); rintro en w2 ⟨rfl, hb⟩
      have G2 : Below w.heap.size w w2 := Below.trans (by (repeat (with_reducible refine M.Below.drewN ?_ _)); go_grown) (hb.mono (by go_size))
      have V2_a : M.Var w2 (w.heap.size) #[.int .i64 a.shape, .int .i64 a.sx, .int .i64 a.sy, .int .i64 a.mass, .int .i64 a.px, .int .i64 a.py, .int .i64 a.mx, .int .i64 a.my] := M.Var.mono (by (repeat (first | (with_reducible assumption) | (with_reducible apply M.var_set45) | (with_reducible refine M.var_alloc' _ _ _ ?_; first | rfl | (simp [go_sem]; done)) | (with_reducible refine M.Var.alloc ?_ _) | (with_reducible refine M.Var.drewN ?_ _) | (with_reducible refine M.Var.drew ?_) | (with_reducible refine M.Var.far ?_ _ _ ?hFar; case hFar => (first | omega | ((try simp [go_sem]) <;> omega))) | fail))) hb
      have V2_b : M.Var w2 (w.heap.size + 1) #[.int .i64 b.shape, .int .i64 b.sx, .int .i64 b.sy, .int .i64 b.mass, .int .i64 b.px, .int .i64 b.py, .int .i64 b.mx, .int .i64 b.my] := M.Var.mono (by (repeat (first | (with_reducible assumption) | (with_reducible apply M.var_set45) | (with_reducible refine M.var_alloc' _ _ _ ?_; first | rfl | (simp [go_sem]; done)) | (with_reducible refine M.Var.alloc ?_ _) | (with_reducible refine M.Var.drewN ?_ _) | (with_reducible refine M.Var.drew ?_) | (with_reducible refine M.Var.far ?_ _ _ ?hFar; case hFar => (first | omega | ((try simp [go_sem]) <;> omega))) | fail))) hb
      have V2_y : M.Var w2 (w.heap.size + 1 + 1) #[.int .i64 by_1, .int .i64 by_2] := M.Var.mono (by (repeat (first | (with_reducible assumption) | (with_reducible apply M.var_set45) | (with_reducible refine M.var_alloc' _ _ _ ?_; first | rfl | (simp [go_sem]; done)) | (with_reducible refine M.Var.alloc ?_ _) | (with_reducible refine M.Var.drewN ?_ _) | (with_reducible refine M.Var.drew ?_) | (with_reducible refine M.Var.far ?_ _ _ ?hFar; case hFar => (first | omega | ((try simp [go_sem]) <;> omega))) | fail))) hb
      have q2_a_0 : w2.cell? ⟨w.heap.size, 0, none⟩ = some (.int .i64 a.shape) := V2_a.c 0 _ rfl
      have q2_a_1 : w2.cell? ⟨w.heap.size, 1, none⟩ = some (.int .i64 a.sx) := V2_a.c 1 _ rfl
      have q2_a_2 : w2.cell? ⟨w.heap.size, 2, none⟩ = some (.int .i64 a.sy) := V2_a.c 2 _ rfl
      have q2_a_3 : w2.cell? ⟨w.heap.size, 3, none⟩ = some (.int .i64 a.mass) := V2_a.c 3 _ rfl
      have q2_a_4 : w2.cell? ⟨w.heap.size, 4, none⟩ = some (.int .i64 a.px) := V2_a.c 4 _ rfl
      have q2_a_5 : w2.cell? ⟨w.heap.size, 5, none⟩ = some (.int .i64 a.py) := V2_a.c 5 _ rfl
      have q2_a_6 : w2.cell? ⟨w.heap.size, 6, none⟩ = some (.int .i64 a.mx) := V2_a.c 6 _ rfl
      have q2_a_7 : w2.cell? ⟨w.heap.size, 7, none⟩ = some (.int .i64 a.my) := V2_a.c 7 _ rfl
      have f2_a := V2_a.2.2; have L2_a := V2_a.lt; have N2_a := Nat.ne_of_gt L2_a; have M2_a := Nat.ne_of_lt L2_a
      have HV2_a := Lib.hid V2_a
      have q2_b_0 : w2.cell? ⟨w.heap.size + 1, 0, none⟩ = some (.int .i64 b.shape) := V2_b.c 0 _ rfl
      have q2_b_1 : w2.cell? ⟨w.heap.size + 1, 1, none⟩ = some (.int .i64 b.sx) := V2_b.c 1 _ rfl
      have q2_b_2 : w2.cell? ⟨w.heap.size + 1, 2, none⟩ = some (.int .i64 b.sy) := V2_b.c 2 _ rfl
      have q2_b_3 : w2.cell? ⟨w.heap.size + 1, 3, none⟩ = some (.int .i64 b.mass) := V2_b.c 3 _ rfl
      have q2_b_4 : w2.cell? ⟨w.heap.size + 1, 4, none⟩ = some (.int .i64 b.px) := V2_b.c 4 _ rfl
      have q2_b_5 : w2.cell? ⟨w.heap.size + 1, 5, none⟩ = some (.int .i64 b.py) := V2_b.c 5 _ rfl
      have q2_b_6 : w2.cell? ⟨w.heap.size + 1, 6, none⟩ = some (.int .i64 b.mx) := V2_b.c 6 _ rfl
      have q2_b_7 : w2.cell? ⟨w.heap.size + 1, 7, none⟩ = some (.int .i64 b.my) := V2_b.c 7 _ rfl
      have f2_b := V2_b.2.2; have L2_b := V2_b.lt; have N2_b := Nat.ne_of_gt L2_b; have M2_b := Nat.ne_of_lt L2_b
      have HV2_b := Lib.hid V2_b
      have q2_y_0 : w2.cell? ⟨w.heap.size + 1 + 1, 0, none⟩ = some (.int .i64 by_1) := V2_y.c 0 _ rfl
      have q2_y_1 : w2.cell? ⟨w.heap.size + 1 + 1, 1, none⟩ = some (.int .i64 by_2) := V2_y.c 1 _ rfl
      have f2_y := V2_y.2.2; have L2_y := V2_y.lt; have N2_y := Nat.ne_of_gt L2_y; have M2_y := Nat.ne_of_lt L2_y
      have HV2_y := Lib.hid V2_y
      have S2 := G2.size; clear hb
      go_wp2_with fail
      (with_reducible refine (c0.out _).mono ?_); rintro en w3 ⟨rfl, hb⟩
      have G3 : Below w.heap.size w w3 := Below.trans (by (repeat (with_reducible refine M.Below.drewN ?_ _)); go_grown) (hb.mono (by go_size))
      have V3_a : M.Var w3 (w.heap.size) #[.int .i64 a.shape, .int .i64 a.sx, .int .i64 a.sy, .int .i64 a.mass, .int .i64 a.px, .int .i64 a.py, .int .i64 a.mx, .int .i64 a.my] := M.Var.mono (by (repeat (first | (with_reducible assumption) | (with_reducible apply M.var_set45) | (with_reducible refine M.var_alloc' _ _ _ ?_; first | rfl | (simp [go_sem]; done)) | (with_reducible refine M.Var.alloc ?_ _) | (with_reducible refine M.Var.drewN ?_ _) | (with_reducible refine M.Var.drew ?_) | (with_reducible refine M.Var.far ?_ _ _ ?hFar; case hFar => (first | omega | ((try simp [go_sem]) <;> omega))) | fail))) hb
      have V3_b : M.Var w3 (w.heap.size + 1) #[.int .i64 b.shape, .int .i64 b.sx, .int .i64 b.sy, .int .i64 b.mass, .int .i64 b.px, .int .i64 b.py, .int .i64 b.mx, .int .i64 b.my] := M.Var.mono (by (repeat (first | (with_reducible assumption) | (with_reducible apply M.var_set45) | (with_reducible refine M.var_alloc' _ _ _ ?_; first | rfl | (simp [go_sem]; done)) | (with_reducible refine M.Var.alloc ?_ _) | (with_reducible refine M.Var.drewN ?_ _) | (with_reducible refine M.Var.drew ?_) | (with_reducible refine M.Var.far ?_ _ _ ?hFar; case hFar => (first | omega | ((try simp [go_sem]) <;> omega))) | fail))) hb
      have V3_y : M.Var w3 (w.heap.size + 1 + 1) #[.int .i64 by_1, .int .i64 by_2] := M.Var.mono (by (repeat (first | (with_reducible assumption) | (with_reducible apply M.var_set45) | (with_reducible refine M.var_alloc' _ _ _ ?_; first | rfl | (simp [go_sem]; done)) | (with_reducible refine M.Var.alloc ?_ _) | (with_reducible refine M.Var.drewN ?_ _) | (with_reducible refine M.Var.drew ?_) | (with_reducible refine M.Var.far ?_ _ _ ?hFar; case hFar => (first | omega | ((try simp [go_sem]) <;> omega))) | fail))) hb
      have q3_a_0 : w3.cell? ⟨w.heap.size, 0, none⟩ = some (.int .i64 a.shape) := V3_a.c 0 _ rfl
      have q3_a_1 : w3.cell? ⟨w.heap.size, 1, none⟩ = some (.int .i64 a.sx) := V3_a.c 1 _ rfl
      have q3_a_2 : w3.cell? ⟨w.heap.size, 2, none⟩ = some (.int .i64 a.sy) := V3_a.c 2 _ rfl
      have q3_a_3 : w3.cell? ⟨w.heap.size, 3, none⟩ = some (.int .i64 a.mass) := V3_a.c 3 _ rfl
      have q3_a_4 : w3.cell? ⟨w.heap.size, 4, none⟩ = some (.int .i64 a.px) := V3_a.c 4 _ rfl
      have q3_a_5 : w3.cell? ⟨w.heap.size, 5, none⟩ = some (.int .i64 a.py) := V3_a.c 5 _ rfl
      have q3_a_6 : w3.cell? ⟨w.heap.size, 6, none⟩ = some (.int .i64 a.mx) := V3_a.c 6 _ rfl
      have q3_a_7 : w3.cell? ⟨w.heap.size, 7, none⟩ = some (.int .i64 a.my) := V3_a.c 7 _ rfl
      have f3_a := V3_a.2.2; have L3_a := V3_a.lt; have N3_a := Nat.ne_of_gt L3_a; have M3_a := Nat.ne_of_lt L3_a
      have HV3_a := Lib.hid V3_a
      have q3_b_0 : w3.cell? ⟨w.heap.size + 1, 0, none⟩ = some (.int .i64 b.shape) := V3_b.c 0 _ rfl
      have q3_b_1 : w3.cell? ⟨w.heap.size + 1, 1, none⟩ = some (.int .i64 b.sx) := V3_b.c 1 _ rfl
      have q3_b_2 : w3.cell? ⟨w.heap.size + 1, 2, none⟩ = some (.int .i64 b.sy) := V3_b.c 2 _ rfl
      have q3_b_3 : w3.cell? ⟨w.heap.size + 1, 3, none⟩ = some (.int .i64 b.mass) := V3_b.c 3 _ rfl
      have q3_b_4 : w3.cell? ⟨w.heap.size + 1, 4, none⟩ = some (.int .i64 b.px) := V3_b.c 4 _ rfl
      have q3_b_5 : w3.cell? ⟨w.heap.size + 1, 5, none⟩ = some (.int .i64 b.py) := V3_b.c 5 _ rfl
      have q3_b_6 : w3.cell? ⟨w.heap.size + 1, 6, none⟩ = some (.int .i64 b.mx) := V3_b.c 6 _ rfl
      have q3_b_7 : w3.cell? ⟨w.heap.size + 1, 7, none⟩ = some (.int .i64 b.my) := V3_b.c 7 _ rfl
      have f3_b := V3_b.2.2; have L3_b := V3_b.lt; have N3_b := Nat.ne_of_gt L3_b; have M3_b := Nat.ne_of_lt L3_b
      have HV3_b := Lib.hid V3_b
      have q3_y_0 : w3.cell? ⟨w.heap.size + 1 + 1, 0, none⟩ = some (.int .i64 by_1) := V3_y.c 0 _ rfl
      have q3_y_1 : w3.cell? ⟨w.heap.size + 1 + 1, 1, none⟩ = some (.int .i64 by_2) := V3_y.c 1 _ rfl
      have f3_y := V3_y.2.2; have L3_y := V3_y.lt; have N3_y := Nat.ne_of_gt L3_y; have M3_y := Nat.ne_of_lt L3_y
      have HV3_y := Lib.hid V3_y
      have S3 := G3.size; clear hb
      go_wp2_with fail
      go_ret
      exact ⟨rfl, by (repeat (with_reducible refine M.Below.drewN ?_ _)); go_grown⟩
    · skip
      go_enter Try.func3, Try.ntmps3
      go_wp2_with fail
      (with_reducible refine (C1.out _).mono ?_); rintro en w1 ⟨rfl, hb⟩
      have G1 : Below w.heap.size w w1 := Below.trans (by (repeat (with_reducible refine M.Below.drewN ?_ _)); go_grown) (hb.mono (by go_size))
      have V1_a : M.Var w1 (w.heap.size) #[.int .i64 a.shape, .int .i64 a.sx, .int .i64 a.sy, .int .i64 a.mass, .int .i64 a.px, .int .i64 a.py, .int .i64 a.mx, .int .i64 a.my] := M.Var.mono (by (repeat (first | (with_reducible assumption) | (with_reducible apply M.var_set45) | (with_reducible refine M.var_alloc' _ _ _ ?_; first | rfl | (simp [go_sem]; done)) | (with_reducible refine M.Var.alloc ?_ _) | (with_reducible refine M.Var.drewN ?_ _) | (with_reducible refine M.Var.drew ?_) | (with_reducible refine M.Var.far ?_ _ _ ?hFar; case hFar => (first | omega | ((try simp [go_sem]) <;> omega))) | fail))) hb
      have V1_b : M.Var w1 (w.heap.size + 1) #[.int .i64 b.shape, .int .i64 b.sx, .int .i64 b.sy, .int .i64 b.mass, .int .i64 b.px, .int .i64 b.py, .int .i64 b.mx, .int .i64 b.my] := M.Var.mono (by (repeat (first | (with_reducible assumption) | (with_reducible apply M.var_set45) | (with_reducible refine M.var_alloc' _ _ _ ?_; first | rfl | (simp [go_sem]; done)) | (with_reducible refine M.Var.alloc ?_ _) | (with_reducible refine M.Var.drewN ?_ _) | (with_reducible refine M.Var.drew ?_) | (with_reducible refine M.Var.far ?_ _ _ ?hFar; case hFar => (first | omega | ((try simp [go_sem]) <;> omega))) | fail))) hb
      have V1_y : M.Var w1 (w.heap.size + 1 + 1) #[.int .i64 by_1, .int .i64 by_2] := M.Var.mono (by (repeat (first | (with_reducible assumption) | (with_reducible apply M.var_set45) | (with_reducible refine M.var_alloc' _ _ _ ?_; first | rfl | (simp [go_sem]; done)) | (with_reducible refine M.Var.alloc ?_ _) | (with_reducible refine M.Var.drewN ?_ _) | (with_reducible refine M.Var.drew ?_) | (with_reducible refine M.Var.far ?_ _ _ ?hFar; case hFar => (first | omega | ((try simp [go_sem]) <;> omega))) | fail))) hb
      have q1_a_0 : w1.cell? ⟨w.heap.size, 0, none⟩ = some (.int .i64 a.shape) := V1_a.c 0 _ rfl
      have q1_a_1 : w1.cell? ⟨w.heap.size, 1, none⟩ = some (.int .i64 a.sx) := V1_a.c 1 _ rfl
      have q1_a_2 : w1.cell? ⟨w.heap.size, 2, none⟩ = some (.int .i64 a.sy) := V1_a.c 2 _ rfl
      have q1_a_3 : w1.cell? ⟨w.heap.size, 3, none⟩ = some (.int .i64 a.mass) := V1_a.c 3 _ rfl
      have q1_a_4 : w1.cell? ⟨w.heap.size, 4, none⟩ = some (.int .i64 a.px) := V1_a.c 4 _ rfl
      have q1_a_5 : w1.cell? ⟨w.heap.size, 5, none⟩ = some (.int .i64 a.py) := V1_a.c 5 _ rfl
      have q1_a_6 : w1.cell? ⟨w.heap.size, 6, none⟩ = some (.int .i64 a.mx) := V1_a.c 6 _ rfl
      have q1_a_7 : w1.cell? ⟨w.heap.size, 7, none⟩ = some (.int .i64 a.my) := V1_a.c 7 _ rfl
      have f1_a := V1_a.2.2; have L1_a := V1_a.lt; have N1_a := Nat.ne_of_gt L1_a; have M1_a := Nat.ne_of_lt L1_a
      have HV1_a := Lib.hid V1_a
      have q1_b_0 : w1.cell? ⟨w.heap.size + 1, 0, none⟩ = some (.int .i64 b.shape) := V1_b.c 0 _ rfl
      have q1_b_1 : w1.cell? ⟨w.heap.size + 1, 1, none⟩ = some (.int .i64 b.sx) := V1_b.c 1 _ rfl
      have q1_b_2 : w1.cell? ⟨w.heap.size + 1, 2, none⟩ = some (.int .i64 b.sy) := V1_b.c 2 _ rfl
      have q1_b_3 : w1.cell? ⟨w.heap.size + 1, 3, none⟩ = some (.int .i64 b.mass) := V1_b.c 3 _ rfl
      have q1_b_4 : w1.cell? ⟨w.heap.size + 1, 4, none⟩ = some (.int .i64 b.px) := V1_b.c 4 _ rfl
      have q1_b_5 : w1.cell? ⟨w.heap.size + 1, 5, none⟩ = some (.int .i64 b.py) := V1_b.c 5 _ rfl
      have q1_b_6 : w1.cell? ⟨w.heap.size + 1, 6, none⟩ = some (.int .i64 b.mx) := V1_b.c 6 _ rfl
      have q1_b_7 : w1.cell? ⟨w.heap.size + 1, 7, none⟩ = some (.int .i64 b.my) := V1_b.c 7 _ rfl
      have f1_b := V1_b.2.2; have L1_b := V1_b.lt; have N1_b := Nat.ne_of_gt L1_b; have M1_b := Nat.ne_of_lt L1_b
      have HV1_b := Lib.hid V1_b
      have q1_y_0 : w1.cell? ⟨w.heap.size + 1 + 1, 0, none⟩ = some (.int .i64 by_1) := V1_y.c 0 _ rfl
      have q1_y_1 : w1.cell? ⟨w.heap.size + 1 + 1, 1, none⟩ = some (.int .i64 by_2) := V1_y.c 1 _ rfl
      have f1_y := V1_y.2.2; have L1_y := V1_y.lt; have N1_y := Nat.ne_of_gt L1_y; have M1_y := Nat.ne_of_lt L1_y
      have HV1_y := Lib.hid V1_y
      have S1 := G1.size; clear hb
      go_wp2_with fail
      (with_reducible refine (C2.out _).mono ?_); rintro en w2 ⟨rfl, hb⟩
      have G2 : Below w.heap.size w w2 := Below.trans (by (repeat (with_reducible refine M.Below.drewN ?_ _)); go_grown) (hb.mono (by go_size))
      have V2_a : M.Var w2 (w.heap.size) #[.int .i64 a.shape, .int .i64 a.sx, .int .i64 a.sy, .int .i64 a.mass, .int .i64 a.px, .int .i64 a.py, .int .i64 a.mx, .int .i64 a.my] := M.Var.mono (by (repeat (first | (with_reducible assumption) | (with_reducible apply M.var_set45) | (with_reducible refine M.var_alloc' _ _ _ ?_; first | rfl | (simp [go_sem]; done)) | (with_reducible refine M.Var.alloc ?_ _) | (with_reducible refine M.Var.drewN ?_ _) | (with_reducible refine M.Var.drew ?_) | (with_reducible refine M.Var.far ?_ _ _ ?hFar; case hFar => (first | omega | ((try simp [go_sem]) <;> omega))) | fail))) hb
      have V2_b : M.Var w2 (w.heap.size + 1) #[.int .i64 b.shape, .int .i64 b.sx, .int .i64 b.sy, .int .i64 b.mass, .int .i64 b.px, .int .i64 b.py, .int .i64 b.mx, .int .i64 b.my] := M.Var.mono (by (repeat (first | (with_reducible assumption) | (with_reducible apply M.var_set45) | (with_reducible refine M.var_alloc' _ _ _ ?_; first | rfl | (simp [go_sem]; done)) | (with_reducible refine M.Var.alloc ?_ _) | (with_reducible refine M.Var.drewN ?_ _) | (with_reducible refine M.Var.drew ?_) | (with_reducible refine M.Var.far ?_ _ _ ?hFar; case hFar => (first | omega | ((try simp [go_sem]) <;> omega))) | fail))) hb
      have V2_y : M.Var w2 (w.heap.size + 1 + 1) #[.int .i64 by_1, .int .i64 by_2] := M.Var.mono (by (repeat (first | (with_reducible assumption) | (with_reducible apply M.var_set45) | (with_reducible refine M.var_alloc' _ _ _ ?_; first | rfl | (simp [go_sem]; done)) | (with_reducible refine M.Var.alloc ?_ _) | (with_reducible refine M.Var.drewN ?_ _) | (with_reducible refine M.Var.drew ?_) | (with_reducible refine M.Var.far ?_ _ _ ?hFar; case hFar => (first | omega | ((try simp [go_sem]) <;> omega))) | fail))) hb
      have q2_a_0 : w2.cell? ⟨w.heap.size, 0, none⟩ = some (.int .i64 a.shape) := V2_a.c 0 _ rfl
      have q2_a_1 : w2.cell? ⟨w.heap.size, 1, none⟩ = some (.int .i64 a.sx) := V2_a.c 1 _ rfl
      have q2_a_2 : w2.cell? ⟨w.heap.size, 2, none⟩ = some (.int .i64 a.sy) := V2_a.c 2 _ rfl
      have q2_a_3 : w2.cell? ⟨w.heap.size, 3, none⟩ = some (.int .i64 a.mass) := V2_a.c 3 _ rfl
      have q2_a_4 : w2.cell? ⟨w.heap.size, 4, none⟩ = some (.int .i64 a.px) := V2_a.c 4 _ rfl
      have q2_a_5 : w2.cell? ⟨w.heap.size, 5, none⟩ = some (.int .i64 a.py) := V2_a.c 5 _ rfl
      have q2_a_6 : w2.cell? ⟨w.heap.size, 6, none⟩ = some (.int .i64 a.mx) := V2_a.c 6 _ rfl
      have q2_a_7 : w2.cell? ⟨w.heap.size, 7, none⟩ = some (.int .i64 a.my) := V2_a.c 7 _ rfl
      have f2_a := V2_a.2.2; have L2_a := V2_a.lt; have N2_a := Nat.ne_of_gt L2_a; have M2_a := Nat.ne_of_lt L2_a
      have HV2_a := Lib.hid V2_a
      have q2_b_0 : w2.cell? ⟨w.heap.size + 1, 0, none⟩ = some (.int .i64 b.shape) := V2_b.c 0 _ rfl
      have q2_b_1 : w2.cell? ⟨w.heap.size + 1, 1, none⟩ = some (.int .i64 b.sx) := V2_b.c 1 _ rfl
      have q2_b_2 : w2.cell? ⟨w.heap.size + 1, 2, none⟩ = some (.int .i64 b.sy) := V2_b.c 2 _ rfl
      have q2_b_3 : w2.cell? ⟨w.heap.size + 1, 3, none⟩ = some (.int .i64 b.mass) := V2_b.c 3 _ rfl
      have q2_b_4 : w2.cell? ⟨w.heap.size + 1, 4, none⟩ = some (.int .i64 b.px) := V2_b.c 4 _ rfl
      have q2_b_5 : w2.cell? ⟨w.heap.size + 1, 5, none⟩ = some (.int .i64 b.py) := V2_b.c 5 _ rfl
      have q2_b_6 : w2.cell? ⟨w.heap.size + 1, 6, none⟩ = some (.int .i64 b.mx) := V2_b.c 6 _ rfl
      have q2_b_7 : w2.cell? ⟨w.heap.size + 1, 7, none⟩ = some (.int .i64 b.my) := V2_b.c 7 _ rfl
      have f2_b := V2_b.2.2; have L2_b := V2_b.lt; have N2_b := Nat.ne_of_gt L2_b; have M2_b := Nat.ne_of_lt L2_b
      have HV2_b := Lib.hid V2_b
      have q2_y_0 : w2.cell? ⟨w.heap.size + 1 + 1, 0, none⟩ = some (.int .i64 by_1) := V2_y.c 0 _ rfl
      have q2_y_1 : w2.cell? ⟨w.heap.size + 1 + 1, 1, none⟩ = some (.int .i64 by_2) := V2_y.c 1 _ rfl
      have f2_y := V2_y.2.2; have L2_y := V2_y.lt; have N2_y := Nat.ne_of_gt L2_y; have M2_y := Nat.ne_of_lt L2_y
      have HV2_y := Lib.hid V2_y
      have S2 := G2.size; clear hb
      go_wp2_with fail
      (with_reducible refine (c0.out _).mono ?_); rintro en w3 ⟨rfl, hb⟩
      have G3 : Below w.heap.size w w3 := Below.trans (by (repeat (with_reducible refine M.Below.drewN ?_ _)); go_grown) (hb.mono (by go_size))
      have V3_a : M.Var w3 (w.heap.size) #[.int .i64 a.shape, .int .i64 a.sx, .int .i64 a.sy, .int .i64 a.mass, .int .i64 a.px, .int .i64 a.py, .int .i64 a.mx, .int .i64 a.my] := M.Var.mono (by (repeat (first | (with_reducible assumption) | (with_reducible apply M.var_set45) | (with_reducible refine M.var_alloc' _ _ _ ?_; first | rfl | (simp [go_sem]; done)) | (with_reducible refine M.Var.alloc ?_ _) | (with_reducible refine M.Var.drewN ?_ _) | (with_reducible refine M.Var.drew ?_) | (with_reducible refine M.Var.far ?_ _ _ ?hFar; case hFar => (first | omega | ((try simp [go_sem]) <;> omega))) | fail))) hb
      have V3_b : M.Var w3 (w.heap.size + 1) #[.int .i64 b.shape, .int .i64 b.sx, .int .i64 b.sy, .int .i64 b.mass, .int .i64 b.px, .int .i64 b.py, .int .i64 b.mx, .int .i64 b.my] := M.Var.mono (by (repeat (first | (with_reducible assumption) | (with_reducible apply M.var_set45) | (with_reducible refine M.var_alloc' _ _ _ ?_; first | rfl | (simp [go_sem]; done)) | (with_reducible refine M.Var.alloc ?_ _) | (with_reducible refine M.Var.drewN ?_ _) | (with_reducible refine M.Var.drew ?_) | (with_reducible refine M.Var.far ?_ _ _ ?hFar; case hFar => (first | omega | ((try simp [go_sem]) <;> omega))) | fail))) hb
      have V3_y : M.Var w3 (w.heap.size + 1 + 1) #[.int .i64 by_1, .int .i64 by_2] := M.Var.mono (by (repeat (first | (with_reducible assumption) | (with_reducible apply M.var_set45) | (with_reducible refine M.var_alloc' _ _ _ ?_; first | rfl | (simp [go_sem]; done)) | (with_reducible refine M.Var.alloc ?_ _) | (with_reducible refine M.Var.drewN ?_ _) | (with_reducible refine M.Var.drew ?_) | (with_reducible refine M.Var.far ?_ _ _ ?hFar; case hFar => (first | omega | ((try simp [go_sem]) <;> omega))) | fail))) hb
      have q3_a_0 : w3.cell? ⟨w.heap.size, 0, none⟩ = some (.int .i64 a.shape) := V3_a.c 0 _ rfl
      have q3_a_1 : w3.cell? ⟨w.heap.size, 1, none⟩ = some (.int .i64 a.sx) := V3_a.c 1 _ rfl
      have q3_a_2 : w3.cell? ⟨w.heap.size, 2, none⟩ = some (.int .i64 a.sy) := V3_a.c 2 _ rfl
      have q3_a_3 : w3.cell? ⟨w.heap.size, 3, none⟩ = some (.int .i64 a.mass) := V3_a.c 3 _ rfl
      have q3_a_4 : w3.cell? ⟨w.heap.size, 4, none⟩ = some (.int .i64 a.px) := V3_a.c 4 _ rfl
      have q3_a_5 : w3.cell? ⟨w.heap.size, 5, none⟩ = some (.int .i64 a.py) := V3_a.c 5 _ rfl
      have q3_a_6 : w3.cell? ⟨w.heap.size, 6, none⟩ = some (.int .i64 a.mx) := V3_a.c 6 _ rfl
      have q3_a_7 : w3.cell? ⟨w.heap.size, 7, none⟩ = some (.int .i64 a.my) := V3_a.c 7 _ rfl
      have f3_a := V3_a.2.2; have L3_a := V3_a.lt; have N3_a := Nat.ne_of_gt L3_a; have M3_a := Nat.ne_of_lt L3_a
      have HV3_a := Lib.hid V3_a
      have q3_b_0 : w3.cell? ⟨w.heap.size + 1, 0, none⟩ = some (.int .i64 b.shape) := V3_b.c 0 _ rfl
      have q3_b_1 : w3.cell? ⟨w.heap.size + 1, 1, none⟩ = some (.int .i64 b.sx) := V3_b.c 1 _ rfl
      have q3_b_2 : w3.cell? ⟨w.heap.size + 1, 2, none⟩ = some (.int .i64 b.sy) := V3_b.c 2 _ rfl
      have q3_b_3 : w3.cell? ⟨w.heap.size + 1, 3, none⟩ = some (.int .i64 b.mass) := V3_b.c 3 _ rfl
      have q3_b_4 : w3.cell? ⟨w.heap.size + 1, 4, none⟩ = some (.int .i64 b.px) := V3_b.c 4 _ rfl
      have q3_b_5 : w3.cell? ⟨w.heap.size + 1, 5, none⟩ = some (.int .i64 b.py) := V3_b.c 5 _ rfl
      have q3_b_6 : w3.cell? ⟨w.heap.size + 1, 6, none⟩ = some (.int .i64 b.mx) := V3_b.c 6 _ rfl
      have q3_b_7 : w3.cell? ⟨w.heap.size + 1, 7, none⟩ = some (.int .i64 b.my) := V3_b.c 7 _ rfl
      have f3_b := V3_b.2.2; have L3_b := V3_b.lt; have N3_b := Nat.ne_of_gt L3_b; have M3_b := Nat.ne_of_lt L3_b
      have HV3_b := Lib.hid V3_b
      have q3_y_0 : w3.cell? ⟨w.heap.size + 1 + 1, 0, none⟩ = some (.int .i64 by_1) := V3_y.c 0 _ rfl
      have q3_y_1 : w3.cell? ⟨w.heap.size + 1 + 1, 1, none⟩ = some (.int .i64 by_2) := V3_y.c 1 _ rfl
      have f3_y := V3_y.2.2; have L3_y := V3_y.lt; have N3_y := Nat.ne_of_gt L3_y; have M3_y := Nat.ne_of_lt L3_y
      have HV3_y := Lib.hid V3_y
      have S3 := G3.size; clear hb
      go_wp2_with fail
      go_ret
      exact ⟨rfl, by (repeat (with_reducible refine M.Below.drewN ?_ _)); go_grown⟩
    · skip
      go_enter Try.func3, Try.ntmps3
      go_wp2_with fail
      (with_reducible refine (C1.out _).mono ?_); rintro en w1 ⟨rfl, hb⟩
      have G1 : Below w.heap.size w w1 := Below.trans (by (repeat (with_reducible refine M.Below.drewN ?_ _)); go_grown) (hb.mono (by go_size))
      have V1_a : M.Var w1 (w.heap.size) #[.int .i64 a.shape, .int .i64 a.sx, .int .i64 a.sy, .int .i64 a.mass, .int .i64 a.px, .int .i64 a.py, .int .i64 a.mx, .int .i64 a.my] := M.Var.mono (by (repeat (first | (with_reducible assumption) | (with_reducible apply M.var_set45) | (with_reducible refine M.var_alloc' _ _ _ ?_; first | rfl | (simp [go_sem]; done)) | (with_reducible refine M.Var.alloc ?_ _) | (with_reducible refine M.Var.drewN ?_ _) | (with_reducible refine M.Var.drew ?_) | (with_reducible refine M.Var.far ?_ _ _ ?hFar; case hFar => (first | omega | ((try simp [go_sem]) <;> omega))) | fail))) hb
      have V1_b : M.Var w1 (w.heap.size + 1) #[.int .i64 b.shape, .int .i64 b.sx, .int .i64 b.sy, .int .i64 b.mass, .int .i64 b.px, .int .i64 b.py, .int .i64 b.mx, .int .i64 b.my] := M.Var.mono (by (repeat (first | (with_reducible assumption) | (with_reducible apply M.var_set45) | (with_reducible refine M.var_alloc' _ _ _ ?_; first | rfl | (simp [go_sem]; done)) | (with_reducible refine M.Var.alloc ?_ _) | (with_reducible refine M.Var.drewN ?_ _) | (with_reducible refine M.Var.drew ?_) | (with_reducible refine M.Var.far ?_ _ _ ?hFar; case hFar => (first | omega | ((try simp [go_sem]) <;> omega))) | fail))) hb
      have V1_y : M.Var w1 (w.heap.size + 1 + 1) #[.int .i64 by_1, .int .i64 by_2] := M.Var.mono (by (repeat (first | (with_reducible assumption) | (with_reducible apply M.var_set45) | (with_reducible refine M.var_alloc' _ _ _ ?_; first | rfl | (simp [go_sem]; done)) | (with_reducible refine M.Var.alloc ?_ _) | (with_reducible refine M.Var.drewN ?_ _) | (with_reducible refine M.Var.drew ?_) | (with_reducible refine M.Var.far ?_ _ _ ?hFar; case hFar => (first | omega | ((try simp [go_sem]) <;> omega))) | fail))) hb
      have q1_a_0 : w1.cell? ⟨w.heap.size, 0, none⟩ = some (.int .i64 a.shape) := V1_a.c 0 _ rfl
      have q1_a_1 : w1.cell? ⟨w.heap.size, 1, none⟩ = some (.int .i64 a.sx) := V1_a.c 1 _ rfl
      have q1_a_2 : w1.cell? ⟨w.heap.size, 2, none⟩ = some (.int .i64 a.sy) := V1_a.c 2 _ rfl
      have q1_a_3 : w1.cell? ⟨w.heap.size, 3, none⟩ = some (.int .i64 a.mass) := V1_a.c 3 _ rfl
      have q1_a_4 : w1.cell? ⟨w.heap.size, 4, none⟩ = some (.int .i64 a.px) := V1_a.c 4 _ rfl
      have q1_a_5 : w1.cell? ⟨w.heap.size, 5, none⟩ = some (.int .i64 a.py) := V1_a.c 5 _ rfl
      have q1_a_6 : w1.cell? ⟨w.heap.size, 6, none⟩ = some (.int .i64 a.mx) := V1_a.c 6 _ rfl
      have q1_a_7 : w1.cell? ⟨w.heap.size, 7, none⟩ = some (.int .i64 a.my) := V1_a.c 7 _ rfl
      have f1_a := V1_a.2.2; have L1_a := V1_a.lt; have N1_a := Nat.ne_of_gt L1_a; have M1_a := Nat.ne_of_lt L1_a
      have HV1_a := Lib.hid V1_a
      have q1_b_0 : w1.cell? ⟨w.heap.size + 1, 0, none⟩ = some (.int .i64 b.shape) := V1_b.c 0 _ rfl
      have q1_b_1 : w1.cell? ⟨w.heap.size + 1, 1, none⟩ = some (.int .i64 b.sx) := V1_b.c 1 _ rfl
      have q1_b_2 : w1.cell? ⟨w.heap.size + 1, 2, none⟩ = some (.int .i64 b.sy) := V1_b.c 2 _ rfl
      have q1_b_3 : w1.cell? ⟨w.heap.size + 1, 3, none⟩ = some (.int .i64 b.mass) := V1_b.c 3 _ rfl
      have q1_b_4 : w1.cell? ⟨w.heap.size + 1, 4, none⟩ = some (.int .i64 b.px) := V1_b.c 4 _ rfl
      have q1_b_5 : w1.cell? ⟨w.heap.size + 1, 5, none⟩ = some (.int .i64 b.py) := V1_b.c 5 _ rfl
      have q1_b_6 : w1.cell? ⟨w.heap.size + 1, 6, none⟩ = some (.int .i64 b.mx) := V1_b.c 6 _ rfl
      have q1_b_7 : w1.cell? ⟨w.heap.size + 1, 7, none⟩ = some (.int .i64 b.my) := V1_b.c 7 _ rfl
      have f1_b := V1_b.2.2; have L1_b := V1_b.lt; have N1_b := Nat.ne_of_gt L1_b; have M1_b := Nat.ne_of_lt L1_b
      have HV1_b := Lib.hid V1_b
      have q1_y_0 : w1.cell? ⟨w.heap.size + 1 + 1, 0, none⟩ = some (.int .i64 by_1) := V1_y.c 0 _ rfl
      have q1_y_1 : w1.cell? ⟨w.heap.size + 1 + 1, 1, none⟩ = some (.int .i64 by_2) := V1_y.c 1 _ rfl
      have f1_y := V1_y.2.2; have L1_y := V1_y.lt; have N1_y := Nat.ne_of_gt L1_y; have M1_y := Nat.ne_of_lt L1_y
      have HV1_y := Lib.hid V1_y
      have S1 := G1.size; clear hb
      go_wp2_with fail
      (with_reducible refine (C2.out _).mono ?_); rintro en w2 ⟨rfl, hb⟩
      have G2 : Below w.heap.size w w2 := Below.trans (by (repeat (with_reducible refine M.Below.drewN ?_ _)); go_grown) (hb.mono (by go_size))
      have V2_a : M.Var w2 (w.heap.size) #[.int .i64 a.shape, .int .i64 a.sx, .int .i64 a.sy, .int .i64 a.mass, .int .i64 a.px, .int .i64 a.py, .int .i64 a.mx, .int .i64 a.my] := M.Var.mono (by (repeat (first | (with_reducible assumption) | (with_reducible apply M.var_set45) | (with_reducible refine M.var_alloc' _ _ _ ?_; first | rfl | (simp [go_sem]; done)) | (with_reducible refine M.Var.alloc ?_ _) | (with_reducible refine M.Var.drewN ?_ _) | (with_reducible refine M.Var.drew ?_) | (with_reducible refine M.Var.far ?_ _ _ ?hFar; case hFar => (first | omega | ((try simp [go_sem]) <;> omega))) | fail))) hb
      have V2_b : M.Var w2 (w.heap.size + 1) #[.int .i64 b.shape, .int .i64 b.sx, .int .i64 b.sy, .int .i64 b.mass, .int .i64 b.px, .int .i64 b.py, .int .i64 b.mx, .int .i64 b.my] := M.Var.mono (by (repeat (first | (with_reducible assumption) | (with_reducible apply M.var_set45) | (with_reducible refine M.var_alloc' _ _ _ ?_; first | rfl | (simp [go_sem]; done)) | (with_reducible refine M.Var.alloc ?_ _) | (with_reducible refine M.Var.drewN ?_ _) | (with_reducible refine M.Var.drew ?_) | (with_reducible refine M.Var.far ?_ _ _ ?hFar; case hFar => (first | omega | ((try simp [go_sem]) <;> omega))) | fail))) hb
      have V2_y : M.Var w2 (w.heap.size + 1 + 1) #[.int .i64 by_1, .int .i64 by_2] := M.Var.mono (by (repeat (first | (with_reducible assumption) | (with_reducible apply M.var_set45) | (with_reducible refine M.var_alloc' _ _ _ ?_; first | rfl | (simp [go_sem]; done)) | (with_reducible refine M.Var.alloc ?_ _) | (with_reducible refine M.Var.drewN ?_ _) | (with_reducible refine M.Var.drew ?_) | (with_reducible refine M.Var.far ?_ _ _ ?hFar; case hFar => (first | omega | ((try simp [go_sem]) <;> omega))) | fail))) hb
      have q2_a_0 : w2.cell? ⟨w.heap.size, 0, none⟩ = some (.int .i64 a.shape) := V2_a.c 0 _ rfl
      have q2_a_1 : w2.cell? ⟨w.heap.size, 1, none⟩ = some (.int .i64 a.sx) := V2_a.c 1 _ rfl
      have q2_a_2 : w2.cell? ⟨w.heap.size, 2, none⟩ = some (.int .i64 a.sy) := V2_a.c 2 _ rfl
      have q2_a_3 : w2.cell? ⟨w.heap.size, 3, none⟩ = some (.int .i64 a.mass) := V2_a.c 3 _ rfl
      have q2_a_4 : w2.cell? ⟨w.heap.size, 4, none⟩ = some (.int .i64 a.px) := V2_a.c 4 _ rfl
      have q2_a_5 : w2.cell? ⟨w.heap.size, 5, none⟩ = some (.int .i64 a.py) := V2_a.c 5 _ rfl
      have q2_a_6 : w2.cell? ⟨w.heap.size, 6, none⟩ = some (.int .i64 a.mx) := V2_a.c 6 _ rfl
      have q2_a_7 : w2.cell? ⟨w.heap.size, 7, none⟩ = some (.int .i64 a.my) := V2_a.c 7 _ rfl
      have f2_a := V2_a.2.2; have L2_a := V2_a.lt; have N2_a := Nat.ne_of_gt L2_a; have M2_a := Nat.ne_of_lt L2_a
      have HV2_a := Lib.hid V2_a
      have q2_b_0 : w2.cell? ⟨w.heap.size + 1, 0, none⟩ = some (.int .i64 b.shape) := V2_b.c 0 _ rfl
      have q2_b_1 : w2.cell? ⟨w.heap.size + 1, 1, none⟩ = some (.int .i64 b.sx) := V2_b.c 1 _ rfl
      have q2_b_2 : w2.cell? ⟨w.heap.size + 1, 2, none⟩ = some (.int .i64 b.sy) := V2_b.c 2 _ rfl
      have q2_b_3 : w2.cell? ⟨w.heap.size + 1, 3, none⟩ = some (.int .i64 b.mass) := V2_b.c 3 _ rfl
      have q2_b_4 : w2.cell? ⟨w.heap.size + 1, 4, none⟩ = some (.int .i64 b.px) := V2_b.c 4 _ rfl
      have q2_b_5 : w2.cell? ⟨w.heap.size + 1, 5, none⟩ = some (.int .i64 b.py) := V2_b.c 5 _ rfl
      have q2_b_6 : w2.cell? ⟨w.heap.size + 1, 6, none⟩ = some (.int .i64 b.mx) := V2_b.c 6 _ rfl
      have q2_b_7 : w2.cell? ⟨w.heap.size + 1, 7, none⟩ = some (.int .i64 b.my) := V2_b.c 7 _ rfl
      have f2_b := V2_b.2.2; have L2_b := V2_b.lt; have N2_b := Nat.ne_of_gt L2_b; have M2_b := Nat.ne_of_lt L2_b
      have HV2_b := Lib.hid V2_b
      have q2_y_0 : w2.cell? ⟨w.heap.size + 1 + 1, 0, none⟩ = some (.int .i64 by_1) := V2_y.c 0 _ rfl
      have q2_y_1 : w2.cell? ⟨w.heap.size + 1 + 1, 1, none⟩ = some (.int .i64 by_2) := V2_y.c 1 _ rfl
      have f2_y := V2_y.2.2; have L2_y := V2_y.lt; have N2_y := Nat.ne_of_gt L2_y; have M2_y := Nat.ne_of_lt L2_y
      have HV2_y := Lib.hid V2_y
      have S2 := G2.size; clear hb
      go_wp2_with fail
      (with_reducible refine (c0.out _).mono ?_); rintro en w3 ⟨rfl, hb⟩
      have G3 : Below w.heap.size w w3 := Below.trans (by (repeat (with_reducible refine M.Below.drewN ?_ _)); go_grown) (hb.mono (by go_size))
      have V3_a : M.Var w3 (w.heap.size) #[.int .i64 a.shape, .int .i64 a.sx, .int .i64 a.sy, .int .i64 a.mass, .int .i64 a.px, .int .i64 a.py, .int .i64 a.mx, .int .i64 a.my] := M.Var.mono (by (repeat (first | (with_reducible assumption) | (with_reducible apply M.var_set45) | (with_reducible refine M.var_alloc' _ _ _ ?_; first | rfl | (simp [go_sem]; done)) | (with_reducible refine M.Var.alloc ?_ _) | (with_reducible refine M.Var.drewN ?_ _) | (with_reducible refine M.Var.drew ?_) | (with_reducible refine M.Var.far ?_ _ _ ?hFar; case hFar => (first | omega | ((try simp [go_sem]) <;> omega))) | fail))) hb
      have V3_b : M.Var w3 (w.heap.size + 1) #[.int .i64 b.shape, .int .i64 b.sx, .int .i64 b.sy, .int .i64 b.mass, .int .i64 b.px, .int .i64 b.py, .int .i64 b.mx, .int .i64 b.my] := M.Var.mono (by (repeat (first | (with_reducible assumption) | (with_reducible apply M.var_set45) | (with_reducible refine M.var_alloc' _ _ _ ?_; first | rfl | (simp [go_sem]; done)) | (with_reducible refine M.Var.alloc ?_ _) | (with_reducible refine M.Var.drewN ?_ _) | (with_reducible refine M.Var.drew ?_) | (with_reducible refine M.Var.far ?_ _ _ ?hFar; case hFar => (first | omega | ((try simp [go_sem]) <;> omega))) | fail))) hb
      have V3_y : M.Var w3 (w.heap.size + 1 + 1) #[.int .i64 by_1, .int .i64 by_2] := M.Var.mono (by (repeat (first | (with_reducible assumption) | (with_reducible apply M.var_set45) | (with_reducible refine M.var_alloc' _ _ _ ?_; first | rfl | (simp [go_sem]; done)) | (with_reducible refine M.Var.alloc ?_ _) | (with_reducible refine M.Var.drewN ?_ _) | (with_reducible refine M.Var.drew ?_) | (with_reducible refine M.Var.far ?_ _ _ ?hFar; case hFar => (first | omega | ((try simp [go_sem]) <;> omega))) | fail))) hb
      have q3_a_0 : w3.cell? ⟨w.heap.size, 0, none⟩ = some (.int .i64 a.shape) := V3_a.c 0 _ rfl
      have q3_a_1 : w3.cell? ⟨w.heap.size, 1, none⟩ = some (.int .i64 a.sx) := V3_a.c 1 _ rfl
      have q3_a_2 : w3.cell? ⟨w.heap.size, 2, none⟩ = some (.int .i64 a.sy) := V3_a.c 2 _ rfl
      have q3_a_3 : w3.cell? ⟨w.heap.size, 3, none⟩ = some (.int .i64 a.mass) := V3_a.c 3 _ rfl
      have q3_a_4 : w3.cell? ⟨w.heap.size, 4, none⟩ = some (.int .i64 a.px) := V3_a.c 4 _ rfl
      have q3_a_5 : w3.cell? ⟨w.heap.size, 5, none⟩ = some (.int .i64 a.py) := V3_a.c 5 _ rfl
      have q3_a_6 : w3.cell? ⟨w.heap.size, 6, none⟩ = some (.int .i64 a.mx) := V3_a.c 6 _ rfl
      have q3_a_7 : w3.cell? ⟨w.heap.size, 7, none⟩ = some (.int .i64 a.my) := V3_a.c 7 _ rfl
      have f3_a := V3_a.2.2; have L3_a := V3_a.lt; have N3_a := Nat.ne_of_gt L3_a; have M3_a := Nat.ne_of_lt L3_a
      have HV3_a := Lib.hid V3_a
      have q3_b_0 : w3.cell? ⟨w.heap.size + 1, 0, none⟩ = some (.int .i64 b.shape) := V3_b.c 0 _ rfl
      have q3_b_1 : w3.cell? ⟨w.heap.size + 1, 1, none⟩ = some (.int .i64 b.sx) := V3_b.c 1 _ rfl
      have q3_b_2 : w3.cell? ⟨w.heap.size + 1, 2, none⟩ = some (.int .i64 b.sy) := V3_b.c 2 _ rfl
      have q3_b_3 : w3.cell? ⟨w.heap.size + 1, 3, none⟩ = some (.int .i64 b.mass) := V3_b.c 3 _ rfl
      have q3_b_4 : w3.cell? ⟨w.heap.size + 1, 4, none⟩ = some (.int .i64 b.px) := V3_b.c 4 _ rfl
      have q3_b_5 : w3.cell? ⟨w.heap.size + 1, 5, none⟩ = some (.int .i64 b.py) := V3_b.c 5 _ rfl
      have q3_b_6 : w3.cell? ⟨w.heap.size + 1, 6, none⟩ = some (.int .i64 b.mx) := V3_b.c 6 _ rfl
      have q3_b_7 : w3.cell? ⟨w.heap.size + 1, 7, none⟩ = some (.int .i64 b.my) := V3_b.c 7 _ rfl
      have f3_b := V3_b.2.2; have L3_b := V3_b.lt; have N3_b := Nat.ne_of_gt L3_b; have M3_b := Nat.ne_of_lt L3_b
      have HV3_b := Lib.hid V3_b
      have q3_y_0 : w3.cell? ⟨w.heap.size + 1 + 1, 0, none⟩ = some (.int .i64 by_1) := V3_y.c 0 _ rfl
      have q3_y_1 : w3.cell? ⟨w.heap.size + 1 + 1, 1, none⟩ = some (.int .i64 by_2) := V3_y.c 1 _ rfl
      have f3_y := V3_y.2.2; have L3_y := V3_y.lt; have N3_y := Nat.ne_of_gt L3_y; have M3_y := Nat.ne_of_lt L3_y
      have HV3_y := Lib.hid V3_y
      have S3 := G3.size; clear hb
      go_wp2_with fail
      go_ret
      exact ⟨rfl, by (repeat (with_reducible refine M.Below.drewN ?_ _)); go_grown⟩
  obtain ⟨g1, g2, g3, g4⟩ := hg
  have e1 := hitX_lo l1 l2
  obtain ⟨_, _, _, p1, p2, _⟩ := s1
  obtain ⟨_, _, _, p3, p4, _⟩ := s2
  have m1 : Lo (mv a by_1 by_2) := by unfold Lo mv at *; dsimp only; omega
  have m2 : Lo (mv b by_1 by_2) := by unfold Lo mv at *; dsimp only; omega
  have e2 := hitX_lo m1 m2
  rw [hitV_mv] at e2
  have o1 : (mv a by_1 by_2).ok := ⟨ha.shape, ha.sx, ha.sy, ha.mass, by unfold I64 mv; dsimp only; omega, by unfold I64 mv; dsimp only; omega, ha.mx, ha.my⟩
  have o2 : (mv b by_1 by_2).ok := ⟨hB.shape, hB.sx, hB.sy, hB.mass, by unfold I64 mv; dsimp only; omega, by unfold I64 mv; dsimp only; omega, hB.mx, hB.my⟩
  unfold mv at e2 o1 o2
  clear l1 l2 m1 m2
  have wp1 := IntWalk.i64_in (a.px + by_1) (by omega)
  have wp2 := IntWalk.i64_in (a.py + by_2) (by omega)
  have wp3 := IntWalk.i64_in (b.px + by_1) (by omega)
  have wp4 := IntWalk.i64_in (b.py + by_2) (by omega)
  generalize hitV a b = V1 at *
  obtain ⟨q, t⟩ := V1
  have E1 := Lib.hid e1; have E2 := Lib.hid e2; have O1 := Lib.hid o1; have O2 := Lib.hid o2
  clear e1 e2 o1 o2
  go_enter Try.func3, Try.ntmps3
  go_wp2_with fail
  (with_reducible refine (C1.out _).mono ?_); rintro en w1 ⟨rfl, hb⟩
  have G1 : Below w.heap.size w w1 := Below.trans (by (repeat (with_reducible refine M.Below.drewN ?_ _)); go_grown) (hb.mono (by go_size))
  have V1_a : M.Var w1 (w.heap.size) #[.int .i64 a.shape, .int .i64 a.sx, .int .i64 a.sy, .int .i64 a.mass, .int .i64 a.px, .int .i64 a.py, .int .i64 a.mx, .int .i64 a.my] := M.Var.mono (by (repeat (first | (with_reducible assumption) | (with_reducible apply M.var_set45) | (with_reducible refine M.var_alloc' _ _ _ ?_; first | rfl | (simp [go_sem]; done)) | (with_reducible refine M.Var.alloc ?_ _) | (with_reducible refine M.Var.drewN ?_ _) | (with_reducible refine M.Var.drew ?_) | (with_reducible refine M.Var.far ?_ _ _ ?hFar; case hFar => (first | omega | ((try simp [go_sem]) <;> omega))) | fail))) hb
  have V1_b : M.Var w1 (w.heap.size + 1) #[.int .i64 b.shape, .int .i64 b.sx, .int .i64 b.sy, .int .i64 b.mass, .int .i64 b.px, .int .i64 b.py, .int .i64 b.mx, .int .i64 b.my] := M.Var.mono (by (repeat (first | (with_reducible assumption) | (with_reducible apply M.var_set45) | (with_reducible refine M.var_alloc' _ _ _ ?_; first | rfl | (simp [go_sem]; done)) | (with_reducible refine M.Var.alloc ?_ _) | (with_reducible refine M.Var.drewN ?_ _) | (with_reducible refine M.Var.drew ?_) | (with_reducible refine M.Var.far ?_ _ _ ?hFar; case hFar => (first | omega | ((try simp [go_sem]) <;> omega))) | fail))) hb
  have V1_y : M.Var w1 (w.heap.size + 1 + 1) #[.int .i64 by_1, .int .i64 by_2] := M.Var.mono (by (repeat (first | (with_reducible assumption) | (with_reducible apply M.var_set45) | (with_reducible refine M.var_alloc' _ _ _ ?_; first | rfl | (simp [go_sem]; done)) | (with_reducible refine M.Var.alloc ?_ _) | (with_reducible refine M.Var.drewN ?_ _) | (with_reducible refine M.Var.drew ?_) | (with_reducible refine M.Var.far ?_ _ _ ?hFar; case hFar => (first | omega | ((try simp [go_sem]) <;> omega))) | fail))) hb
  have q1_a_0 : w1.cell? ⟨w.heap.size, 0, none⟩ = some (.int .i64 a.shape) := V1_a.c 0 _ rfl
  have q1_a_1 : w1.cell? ⟨w.heap.size, 1, none⟩ = some (.int .i64 a.sx) := V1_a.c 1 _ rfl
  have q1_a_2 : w1.cell? ⟨w.heap.size, 2, none⟩ = some (.int .i64 a.sy) := V1_a.c 2 _ rfl
  have q1_a_3 : w1.cell? ⟨w.heap.size, 3, none⟩ = some (.int .i64 a.mass) := V1_a.c 3 _ rfl
  have q1_a_4 : w1.cell? ⟨w.heap.size, 4, none⟩ = some (.int .i64 a.px) := V1_a.c 4 _ rfl
  have q1_a_5 : w1.cell? ⟨w.heap.size, 5, none⟩ = some (.int .i64 a.py) := V1_a.c 5 _ rfl
  have q1_a_6 : w1.cell? ⟨w.heap.size, 6, none⟩ = some (.int .i64 a.mx) := V1_a.c 6 _ rfl
  have q1_a_7 : w1.cell? ⟨w.heap.size, 7, none⟩ = some (.int .i64 a.my) := V1_a.c 7 _ rfl
  have f1_a := V1_a.2.2; have L1_a := V1_a.lt; have N1_a := Nat.ne_of_gt L1_a; have M1_a := Nat.ne_of_lt L1_a
  have HV1_a := Lib.hid V1_a
  have q1_b_0 : w1.cell? ⟨w.heap.size + 1, 0, none⟩ = some (.int .i64 b.shape) := V1_b.c 0 _ rfl
  have q1_b_1 : w1.cell? ⟨w.heap.size + 1, 1, none⟩ = some (.int .i64 b.sx) := V1_b.c 1 _ rfl
  have q1_b_2 : w1.cell? ⟨w.heap.size + 1, 2, none⟩ = some (.int .i64 b.sy) := V1_b.c 2 _ rfl
  have q1_b_3 : w1.cell? ⟨w.heap.size + 1, 3, none⟩ = some (.int .i64 b.mass) := V1_b.c 3 _ rfl
  have q1_b_4 : w1.cell? ⟨w.heap.size + 1, 4, none⟩ = some (.int .i64 b.px) := V1_b.c 4 _ rfl
  have q1_b_5 : w1.cell? ⟨w.heap.size + 1, 5, none⟩ = some (.int .i64 b.py) := V1_b.c 5 _ rfl
  have q1_b_6 : w1.cell? ⟨w.heap.size + 1, 6, none⟩ = some (.int .i64 b.mx) := V1_b.c 6 _ rfl
  have q1_b_7 : w1.cell? ⟨w.heap.size + 1, 7, none⟩ = some (.int .i64 b.my) := V1_b.c 7 _ rfl
  have f1_b := V1_b.2.2; have L1_b := V1_b.lt; have N1_b := Nat.ne_of_gt L1_b; have M1_b := Nat.ne_of_lt L1_b
  have HV1_b := Lib.hid V1_b
  have q1_y_0 : w1.cell? ⟨w.heap.size + 1 + 1, 0, none⟩ = some (.int .i64 by_1) := V1_y.c 0 _ rfl
  have q1_y_1 : w1.cell? ⟨w.heap.size + 1 + 1, 1, none⟩ = some (.int .i64 by_2) := V1_y.c 1 _ rfl
  have f1_y := V1_y.2.2; have L1_y := V1_y.lt; have N1_y := Nat.ne_of_gt L1_y; have M1_y := Nat.ne_of_lt L1_y
  have HV1_y := Lib.hid V1_y
  have S1 := G1.size; clear hb
  go_wp2_with fail
  (with_reducible refine (C2.out _).mono ?_); rintro en w2 ⟨rfl, hb⟩
  have G2 : Below w.heap.size w w2 := Below.trans (by (repeat (with_reducible refine M.Below.drewN ?_ _)); go_grown) (hb.mono (by go_size))
  have V2_a : M.Var w2 (w.heap.size) #[.int .i64 a.shape, .int .i64 a.sx, .int .i64 a.sy, .int .i64 a.mass, .int .i64 a.px, .int .i64 a.py, .int .i64 a.mx, .int .i64 a.my] := M.Var.mono (by (repeat (first | (with_reducible assumption) | (with_reducible apply M.var_set45) | (with_reducible refine M.var_alloc' _ _ _ ?_; first | rfl | (simp [go_sem]; done)) | (with_reducible refine M.Var.alloc ?_ _) | (with_reducible refine M.Var.drewN ?_ _) | (with_reducible refine M.Var.drew ?_) | (with_reducible refine M.Var.far ?_ _ _ ?hFar; case hFar => (first | omega | ((try simp [go_sem]) <;> omega))) | fail))) hb
  have V2_b : M.Var w2 (w.heap.size + 1) #[.int .i64 b.shape, .int .i64 b.sx, .int .i64 b.sy, .int .i64 b.mass, .int .i64 b.px, .int .i64 b.py, .int .i64 b.mx, .int .i64 b.my] := M.Var.mono (by (repeat (first | (with_reducible assumption) | (with_reducible apply M.var_set45) | (with_reducible refine M.var_alloc' _ _ _ ?_; first | rfl | (simp [go_sem]; done)) | (with_reducible refine M.Var.alloc ?_ _) | (with_reducible refine M.Var.drewN ?_ _) | (with_reducible refine M.Var.drew ?_) | (with_reducible refine M.Var.far ?_ _ _ ?hFar; case hFar => (first | omega | ((try simp [go_sem]) <;> omega))) | fail))) hb
  have V2_y : M.Var w2 (w.heap.size + 1 + 1) #[.int .i64 by_1, .int .i64 by_2] := M.Var.mono (by (repeat (first | (with_reducible assumption) | (with_reducible apply M.var_set45) | (with_reducible refine M.var_alloc' _ _ _ ?_; first | rfl | (simp [go_sem]; done)) | (with_reducible refine M.Var.alloc ?_ _) | (with_reducible refine M.Var.drewN ?_ _) | (with_reducible refine M.Var.drew ?_) | (with_reducible refine M.Var.far ?_ _ _ ?hFar; case hFar => (first | omega | ((try simp [go_sem]) <;> omega))) | fail))) hb
  have q2_a_0 : w2.cell? ⟨w.heap.size, 0, none⟩ = some (.int .i64 a.shape) := V2_a.c 0 _ rfl
  have q2_a_1 : w2.cell? ⟨w.heap.size, 1, none⟩ = some (.int .i64 a.sx) := V2_a.c 1 _ rfl
  have q2_a_2 : w2.cell? ⟨w.heap.size, 2, none⟩ = some (.int .i64 a.sy) := V2_a.c 2 _ rfl
  have q2_a_3 : w2.cell? ⟨w.heap.size, 3, none⟩ = some (.int .i64 a.mass) := V2_a.c 3 _ rfl
  have q2_a_4 : w2.cell? ⟨w.heap.size, 4, none⟩ = some (.int .i64 a.px) := V2_a.c 4 _ rfl
  have q2_a_5 : w2.cell? ⟨w.heap.size, 5, none⟩ = some (.int .i64 a.py) := V2_a.c 5 _ rfl
  have q2_a_6 : w2.cell? ⟨w.heap.size, 6, none⟩ = some (.int .i64 a.mx) := V2_a.c 6 _ rfl
  have q2_a_7 : w2.cell? ⟨w.heap.size, 7, none⟩ = some (.int .i64 a.my) := V2_a.c 7 _ rfl
  have f2_a := V2_a.2.2; have L2_a := V2_a.lt; have N2_a := Nat.ne_of_gt L2_a; have M2_a := Nat.ne_of_lt L2_a
  have HV2_a := Lib.hid V2_a
  have q2_b_0 : w2.cell? ⟨w.heap.size + 1, 0, none⟩ = some (.int .i64 b.shape) := V2_b.c 0 _ rfl
  have q2_b_1 : w2.cell? ⟨w.heap.size + 1, 1, none⟩ = some (.int .i64 b.sx) := V2_b.c 1 _ rfl
  have q2_b_2 : w2.cell? ⟨w.heap.size + 1, 2, none⟩ = some (.int .i64 b.sy) := V2_b.c 2 _ rfl
  have q2_b_3 : w2.cell? ⟨w.heap.size + 1, 3, none⟩ = some (.int .i64 b.mass) := V2_b.c 3 _ rfl
  have q2_b_4 : w2.cell? ⟨w.heap.size + 1, 4, none⟩ = some (.int .i64 b.px) := V2_b.c 4 _ rfl
  have q2_b_5 : w2.cell? ⟨w.heap.size + 1, 5, none⟩ = some (.int .i64 b.py) := V2_b.c 5 _ rfl
  have q2_b_6 : w2.cell? ⟨w.heap.size + 1, 6, none⟩ = some (.int .i64 b.mx) := V2_b.c 6 _ rfl
  have q2_b_7 : w2.cell? ⟨w.heap.size + 1, 7, none⟩ = some (.int .i64 b.my) := V2_b.c 7 _ rfl
  have f2_b := V2_b.2.2; have L2_b := V2_b.lt; have N2_b := Nat.ne_of_gt L2_b; have M2_b := Nat.ne_of_lt L2_b
  have HV2_b := Lib.hid V2_b
  have q2_y_0 : w2.cell? ⟨w.heap.size + 1 + 1, 0, none⟩ = some (.int .i64 by_1) := V2_y.c 0 _ rfl
  have q2_y_1 : w2.cell? ⟨w.heap.size + 1 + 1, 1, none⟩ = some (.int .i64 by_2) := V2_y.c 1 _ rfl
  have f2_y := V2_y.2.2; have L2_y := V2_y.lt; have N2_y := Nat.ne_of_gt L2_y; have M2_y := Nat.ne_of_lt L2_y
  have HV2_y := Lib.hid V2_y
  have S2 := G2.size; clear hb
  go_wp2_with fail
  (with_reducible refine (c0.out _).mono ?_); rintro en w3 ⟨rfl, hb⟩
  have G3 : Below w.heap.size w w3 := Below.trans (by (repeat (with_reducible refine M.Below.drewN ?_ _)); go_grown) (hb.mono (by go_size))
  have V3_a : M.Var w3 (w.heap.size) #[.int .i64 a.shape, .int .i64 a.sx, .int .i64 a.sy, .int .i64 a.mass, .int .i64 a.px, .int .i64 a.py, .int .i64 a.mx, .int .i64 a.my] := M.Var.mono (by (repeat (first | (with_reducible assumption) | (with_reducible apply M.var_set45) | (with_reducible refine M.var_alloc' _ _ _ ?_; first | rfl | (simp [go_sem]; done)) | (with_reducible refine M.Var.alloc ?_ _) | (with_reducible refine M.Var.drewN ?_ _) | (with_reducible refine M.Var.drew ?_) | (with_reducible refine M.Var.far ?_ _ _ ?hFar; case hFar => (first | omega | ((try simp [go_sem]) <;> omega))) | fail))) hb
  have V3_b : M.Var w3 (w.heap.size + 1) #[.int .i64 b.shape, .int .i64 b.sx, .int .i64 b.sy, .int .i64 b.mass, .int .i64 b.px, .int .i64 b.py, .int .i64 b.mx, .int .i64 b.my] := M.Var.mono (by (repeat (first | (with_reducible assumption) | (with_reducible apply M.var_set45) | (with_reducible refine M.var_alloc' _ _ _ ?_; first | rfl | (simp [go_sem]; done)) | (with_reducible refine M.Var.alloc ?_ _) | (with_reducible refine M.Var.drewN ?_ _) | (with_reducible refine M.Var.drew ?_) | (with_reducible refine M.Var.far ?_ _ _ ?hFar; case hFar => (first | omega | ((try simp [go_sem]) <;> omega))) | fail))) hb
  have V3_y : M.Var w3 (w.heap.size + 1 + 1) #[.int .i64 by_1, .int .i64 by_2] := M.Var.mono (by (repeat (first | (with_reducible assumption) | (with_reducible apply M.var_set45) | (with_reducible refine M.var_alloc' _ _ _ ?_; first | rfl | (simp [go_sem]; done)) | (with_reducible refine M.Var.alloc ?_ _) | (with_reducible refine M.Var.drewN ?_ _) | (with_reducible refine M.Var.drew ?_) | (with_reducible refine M.Var.far ?_ _ _ ?hFar; case hFar => (first | omega | ((try simp [go_sem]) <;> omega))) | fail))) hb
  have q3_a_0 : w3.cell? ⟨w.heap.size, 0, none⟩ = some (.int .i64 a.shape) := V3_a.c 0 _ rfl
  have q3_a_1 : w3.cell? ⟨w.heap.size, 1, none⟩ = some (.int .i64 a.sx) := V3_a.c 1 _ rfl
  have q3_a_2 : w3.cell? ⟨w.heap.size, 2, none⟩ = some (.int .i64 a.sy) := V3_a.c 2 _ rfl
  have q3_a_3 : w3.cell? ⟨w.heap.size, 3, none⟩ = some (.int .i64 a.mass) := V3_a.c 3 _ rfl
  have q3_a_4 : w3.cell? ⟨w.heap.size, 4, none⟩ = some (.int .i64 a.px) := V3_a.c 4 _ rfl
  have q3_a_5 : w3.cell? ⟨w.heap.size, 5, none⟩ = some (.int .i64 a.py) := V3_a.c 5 _ rfl
  have q3_a_6 : w3.cell? ⟨w.heap.size, 6, none⟩ = some (.int .i64 a.mx) := V3_a.c 6 _ rfl
  have q3_a_7 : w3.cell? ⟨w.heap.size, 7, none⟩ = some (.int .i64 a.my) := V3_a.c 7 _ rfl
  have f3_a := V3_a.2.2; have L3_a := V3_a.lt; have N3_a := Nat.ne_of_gt L3_a; have M3_a := Nat.ne_of_lt L3_a
  have HV3_a := Lib.hid V3_a
  have q3_b_0 : w3.cell? ⟨w.heap.size + 1, 0, none⟩ = some (.int .i64 b.shape) := V3_b.c 0 _ rfl
  have q3_b_1 : w3.cell? ⟨w.heap.size + 1, 1, none⟩ = some (.int .i64 b.sx) := V3_b.c 1 _ rfl
  have q3_b_2 : w3.cell? ⟨w.heap.size + 1, 2, none⟩ = some (.int .i64 b.sy) := V3_b.c 2 _ rfl
  have q3_b_3 : w3.cell? ⟨w.heap.size + 1, 3, none⟩ = some (.int .i64 b.mass) := V3_b.c 3 _ rfl
  have q3_b_4 : w3.cell? ⟨w.heap.size + 1, 4, none⟩ = some (.int .i64 b.px) := V3_b.c 4 _ rfl
  have q3_b_5 : w3.cell? ⟨w.heap.size + 1, 5, none⟩ = some (.int .i64 b.py) := V3_b.c 5 _ rfl
  have q3_b_6 : w3.cell? ⟨w.heap.size + 1, 6, none⟩ = some (.int .i64 b.mx) := V3_b.c 6 _ rfl
  have q3_b_7 : w3.cell? ⟨w.heap.size + 1, 7, none⟩ = some (.int .i64 b.my) := V3_b.c 7 _ rfl
  have f3_b := V3_b.2.2; have L3_b := V3_b.lt; have N3_b := Nat.ne_of_gt L3_b; have M3_b := Nat.ne_of_lt L3_b
  have HV3_b := Lib.hid V3_b
  have q3_y_0 : w3.cell? ⟨w.heap.size + 1 + 1, 0, none⟩ = some (.int .i64 by_1) := V3_y.c 0 _ rfl
  have q3_y_1 : w3.cell? ⟨w.heap.size + 1 + 1, 1, none⟩ = some (.int .i64 by_2) := V3_y.c 1 _ rfl
  have f3_y := V3_y.2.2; have L3_y := V3_y.lt; have N3_y := Nat.ne_of_gt L3_y; have M3_y := Nat.ne_of_lt L3_y
  have HV3_y := Lib.hid V3_y
  have S3 := G3.size; clear hb
  go_wp2_with fail
  refine (try_c 18 #[.pointer (some ⟨w.heap.size, 0, none⟩), .pointer (some ⟨w.heap.size + 1, 0, none⟩), .pointer (some ⟨w3.heap.size, 0, none⟩), .pointer (some ⟨w3.heap.size + 1 + 1, 0, none⟩)] _ (0) (usHt (w3.heap.size) (fstX (.ok (q, t))) ++ usB (w3.heap.size + 1 + 1) (sndX (.ok ((q : Ht), t)))) (fun _ => rfl) ?_ ?_).mono ?_
  · intro u hu; (try simp only [List.mem_append] at hu); (repeat' (obtain hu | hu := (hu : _ ∨ _))); all_goals (first | with_reducible rw [M.cell_block1 hu] | with_reducible rw [M.usBx_block hu] | with_reducible rw [M.usV_block hu] | with_reducible rw [M.usI_block hu] | with_reducible rw [M.usHt_block hu] | with_reducible rw [M.usBd_block hu] | with_reducible rw [M.usB_block hu] | rw [M.cell_block1 hu] | (exfalso; simp at hu; done)); all_goals ((try simp [go_sem]) <;> omega)
  · intro w1' hb; exact (cloHitM1 _ _ _ _ a ha b hB _ _ _ _ (.ok (q, t)) E1.out w1' (M.Var.mono (b := w.heap.size) (cs := #[.int .i64 a.shape, .int .i64 a.sx, .int .i64 a.sy, .int .i64 a.mass, .int .i64 a.px, .int .i64 a.py, .int .i64 a.mx, .int .i64 a.my]) (by (repeat (first | (with_reducible assumption) | (with_reducible apply M.var_set45) | (with_reducible refine M.var_alloc' _ _ _ ?_; first | rfl | (simp [go_sem]; done)) | (with_reducible refine M.Var.alloc ?_ _) | (with_reducible refine M.Var.drewN ?_ _) | (with_reducible refine M.Var.drew ?_) | (with_reducible refine M.Var.far ?_ _ _ ?hFar; case hFar => (first | omega | ((try simp [go_sem]) <;> omega))) | fail))) hb) (M.Var.mono (b := w.heap.size + 1) (cs := #[.int .i64 b.shape, .int .i64 b.sx, .int .i64 b.sy, .int .i64 b.mass, .int .i64 b.px, .int .i64 b.py, .int .i64 b.mx, .int .i64 b.my]) (by (repeat (first | (with_reducible assumption) | (with_reducible apply M.var_set45) | (with_reducible refine M.var_alloc' _ _ _ ?_; first | rfl | (simp [go_sem]; done)) | (with_reducible refine M.Var.alloc ?_ _) | (with_reducible refine M.Var.drewN ?_ _) | (with_reducible refine M.Var.drew ?_) | (with_reducible refine M.Var.far ?_ _ _ ?hFar; case hFar => (first | omega | ((try simp [go_sem]) <;> omega))) | fail))) hb) (M.Var.mono (b := w3.heap.size) (cs := #[.int .i64 0, .int .i64 0, .int .i64 0]) (by (repeat (first | (with_reducible assumption) | (with_reducible apply M.var_set45) | (with_reducible refine M.var_alloc' _ _ _ ?_; first | rfl | (simp [go_sem]; done)) | (with_reducible refine M.Var.alloc ?_ _) | (with_reducible refine M.Var.drewN ?_ _) | (with_reducible refine M.Var.drew ?_) | (with_reducible refine M.Var.far ?_ _ _ ?hFar; case hFar => (first | omega | ((try simp [go_sem]) <;> omega))) | fail))) hb) (M.Var.mono (b := w3.heap.size + 1 + 1) (cs := #[.bool false]) (by (repeat (first | (with_reducible assumption) | (with_reducible apply M.var_set45) | (with_reducible refine M.var_alloc' _ _ _ ?_; first | rfl | (simp [go_sem]; done)) | (with_reducible refine M.Var.alloc ?_ _) | (with_reducible refine M.Var.drewN ?_ _) | (with_reducible refine M.Var.drew ?_) | (with_reducible refine M.Var.far ?_ _ _ ?hFar; case hFar => (first | omega | ((try simp [go_sem]) <;> omega))) | fail))) hb) (by omega)).mono fun e w' h => h
  rintro en w4 ⟨rfl, hb⟩
  have G4 : Below w.heap.size w w4 := Below.trans (M.below_sets_own (usHt (w3.heap.size) (fstX (.ok (q, t))) ++ usB (w3.heap.size + 1 + 1) (sndX (.ok ((q : Ht), t)))) (by (repeat (with_reducible refine M.Below.drewN ?_ _)); go_grown) (by intro u hu; (try simp only [List.mem_append] at hu); (repeat' (obtain hu | hu := (hu : _ ∨ _))); all_goals (first | with_reducible rw [M.cell_block1 hu] | with_reducible rw [M.usBx_block hu] | with_reducible rw [M.usV_block hu] | with_reducible rw [M.usI_block hu] | with_reducible rw [M.usHt_block hu] | with_reducible rw [M.usBd_block hu] | with_reducible rw [M.usB_block hu] | rw [M.cell_block1 hu] | (exfalso; simp at hu; done)); all_goals ((try simp [go_sem]) <;> omega))) (hb.mono (by go_size))
  have V4_a : M.Var w4 (w.heap.size) #[.int .i64 a.shape, .int .i64 a.sx, .int .i64 a.sy, .int .i64 a.mass, .int .i64 a.px, .int .i64 a.py, .int .i64 a.mx, .int .i64 a.my] := M.Var.mono' (u := M.sets _ (usHt (w3.heap.size) (fstX (.ok (q, t))) ++ usB (w3.heap.size + 1 + 1) (sndX (.ok ((q : Ht), t))))) (by (try simp only [M.sets_append]); exact (M.var_sets_far (usB (w3.heap.size + 1 + 1) (sndX (.ok ((q : Ht), t)))) (M.var_sets_far (usHt (w3.heap.size) (fstX (.ok (q, t)))) (by (repeat (first | (with_reducible assumption) | (with_reducible apply M.var_set45) | (with_reducible refine M.var_alloc' _ _ _ ?_; first | rfl | (simp [go_sem]; done)) | (with_reducible refine M.Var.alloc ?_ _) | (with_reducible refine M.Var.drewN ?_ _) | (with_reducible refine M.Var.drew ?_) | (with_reducible refine M.Var.far ?_ _ _ ?hFar; case hFar => (first | omega | ((try simp [go_sem]) <;> omega))) | fail)) : M.Var _ (w.heap.size) #[.int .i64 a.shape, .int .i64 a.sx, .int .i64 a.sy, .int .i64 a.mass, .int .i64 a.px, .int .i64 a.py, .int .i64 a.mx, .int .i64 a.my]) (by intro u hu; all_goals (first | with_reducible rw [M.cell_block1 hu] | with_reducible rw [M.usBx_block hu] | with_reducible rw [M.usV_block hu] | with_reducible rw [M.usI_block hu] | with_reducible rw [M.usHt_block hu] | with_reducible rw [M.usBd_block hu] | with_reducible rw [M.usB_block hu] | rw [M.cell_block1 hu] | (exfalso; simp at hu; done)); all_goals ((try simp [go_sem]) <;> omega))) (by intro u hu; all_goals (first | with_reducible rw [M.cell_block1 hu] | with_reducible rw [M.usBx_block hu] | with_reducible rw [M.usV_block hu] | with_reducible rw [M.usI_block hu] | with_reducible rw [M.usHt_block hu] | with_reducible rw [M.usBd_block hu] | with_reducible rw [M.usB_block hu] | rw [M.cell_block1 hu] | (exfalso; simp at hu; done)); all_goals ((try simp [go_sem]) <;> omega)))) (M.sets_size _ _) hb
  have V4_b : M.Var w4 (w.heap.size + 1) #[.int .i64 b.shape, .int .i64 b.sx, .int .i64 b.sy, .int .i64 b.mass, .int .i64 b.px, .int .i64 b.py, .int .i64 b.mx, .int .i64 b.my] := M.Var.mono' (u := M.sets _ (usHt (w3.heap.size) (fstX (.ok (q, t))) ++ usB (w3.heap.size + 1 + 1) (sndX (.ok ((q : Ht), t))))) (by (try simp only [M.sets_append]); exact (M.var_sets_far (usB (w3.heap.size + 1 + 1) (sndX (.ok ((q : Ht), t)))) (M.var_sets_far (usHt (w3.heap.size) (fstX (.ok (q, t)))) (by (repeat (first | (with_reducible assumption) | (with_reducible apply M.var_set45) | (with_reducible refine M.var_alloc' _ _ _ ?_; first | rfl | (simp [go_sem]; done)) | (with_reducible refine M.Var.alloc ?_ _) | (with_reducible refine M.Var.drewN ?_ _) | (with_reducible refine M.Var.drew ?_) | (with_reducible refine M.Var.far ?_ _ _ ?hFar; case hFar => (first | omega | ((try simp [go_sem]) <;> omega))) | fail)) : M.Var _ (w.heap.size + 1) #[.int .i64 b.shape, .int .i64 b.sx, .int .i64 b.sy, .int .i64 b.mass, .int .i64 b.px, .int .i64 b.py, .int .i64 b.mx, .int .i64 b.my]) (by intro u hu; all_goals (first | with_reducible rw [M.cell_block1 hu] | with_reducible rw [M.usBx_block hu] | with_reducible rw [M.usV_block hu] | with_reducible rw [M.usI_block hu] | with_reducible rw [M.usHt_block hu] | with_reducible rw [M.usBd_block hu] | with_reducible rw [M.usB_block hu] | rw [M.cell_block1 hu] | (exfalso; simp at hu; done)); all_goals ((try simp [go_sem]) <;> omega))) (by intro u hu; all_goals (first | with_reducible rw [M.cell_block1 hu] | with_reducible rw [M.usBx_block hu] | with_reducible rw [M.usV_block hu] | with_reducible rw [M.usI_block hu] | with_reducible rw [M.usHt_block hu] | with_reducible rw [M.usBd_block hu] | with_reducible rw [M.usB_block hu] | rw [M.cell_block1 hu] | (exfalso; simp at hu; done)); all_goals ((try simp [go_sem]) <;> omega)))) (M.sets_size _ _) hb
  have V4_y : M.Var w4 (w.heap.size + 1 + 1) #[.int .i64 by_1, .int .i64 by_2] := M.Var.mono' (u := M.sets _ (usHt (w3.heap.size) (fstX (.ok (q, t))) ++ usB (w3.heap.size + 1 + 1) (sndX (.ok ((q : Ht), t))))) (by (try simp only [M.sets_append]); exact (M.var_sets_far (usB (w3.heap.size + 1 + 1) (sndX (.ok ((q : Ht), t)))) (M.var_sets_far (usHt (w3.heap.size) (fstX (.ok (q, t)))) (by (repeat (first | (with_reducible assumption) | (with_reducible apply M.var_set45) | (with_reducible refine M.var_alloc' _ _ _ ?_; first | rfl | (simp [go_sem]; done)) | (with_reducible refine M.Var.alloc ?_ _) | (with_reducible refine M.Var.drewN ?_ _) | (with_reducible refine M.Var.drew ?_) | (with_reducible refine M.Var.far ?_ _ _ ?hFar; case hFar => (first | omega | ((try simp [go_sem]) <;> omega))) | fail)) : M.Var _ (w.heap.size + 1 + 1) #[.int .i64 by_1, .int .i64 by_2]) (by intro u hu; all_goals (first | with_reducible rw [M.cell_block1 hu] | with_reducible rw [M.usBx_block hu] | with_reducible rw [M.usV_block hu] | with_reducible rw [M.usI_block hu] | with_reducible rw [M.usHt_block hu] | with_reducible rw [M.usBd_block hu] | with_reducible rw [M.usB_block hu] | rw [M.cell_block1 hu] | (exfalso; simp at hu; done)); all_goals ((try simp [go_sem]) <;> omega))) (by intro u hu; all_goals (first | with_reducible rw [M.cell_block1 hu] | with_reducible rw [M.usBx_block hu] | with_reducible rw [M.usV_block hu] | with_reducible rw [M.usI_block hu] | with_reducible rw [M.usHt_block hu] | with_reducible rw [M.usBd_block hu] | with_reducible rw [M.usB_block hu] | rw [M.cell_block1 hu] | (exfalso; simp at hu; done)); all_goals ((try simp [go_sem]) <;> omega)))) (M.sets_size _ _) hb
  have V4_h : M.Var w4 (w3.heap.size) #[.int .i64 q.nx, .int .i64 q.ny, .int .i64 q.d] := M.Var.mono' (u := M.sets _ (usHt (w3.heap.size) (fstX (.ok (q, t))) ++ usB (w3.heap.size + 1 + 1) (sndX (.ok ((q : Ht), t))))) (by (try simp only [M.sets_append]); exact (M.var_sets_far (usB (w3.heap.size + 1 + 1) (sndX (.ok ((q : Ht), t)))) (M.var_setHt (by (repeat (first | (with_reducible assumption) | (with_reducible apply M.var_set45) | (with_reducible refine M.var_alloc' _ _ _ ?_; first | rfl | (simp [go_sem]; done)) | (with_reducible refine M.Var.alloc ?_ _) | (with_reducible refine M.Var.drewN ?_ _) | (with_reducible refine M.Var.drew ?_) | (with_reducible refine M.Var.far ?_ _ _ ?hFar; case hFar => (first | omega | ((try simp [go_sem]) <;> omega))) | fail)) : M.Var _ (w3.heap.size) #[.int .i64 0, .int .i64 0, .int .i64 0]) _ _ _) (by intro u hu; all_goals (first | with_reducible rw [M.cell_block1 hu] | with_reducible rw [M.usBx_block hu] | with_reducible rw [M.usV_block hu] | with_reducible rw [M.usI_block hu] | with_reducible rw [M.usHt_block hu] | with_reducible rw [M.usBd_block hu] | with_reducible rw [M.usB_block hu] | rw [M.cell_block1 hu] | (exfalso; simp at hu; done)); all_goals ((try simp [go_sem]) <;> omega)))) (M.sets_size _ _) hb
  have V4_g : M.Var w4 (w3.heap.size + 1) #[.int .i64 0, .int .i64 0, .int .i64 0] := M.Var.mono' (u := M.sets _ (usHt (w3.heap.size) (fstX (.ok (q, t))) ++ usB (w3.heap.size + 1 + 1) (sndX (.ok ((q : Ht), t))))) (by (try simp only [M.sets_append]); exact (M.var_sets_far (usB (w3.heap.size + 1 + 1) (sndX (.ok ((q : Ht), t)))) (M.var_sets_far (usHt (w3.heap.size) (fstX (.ok (q, t)))) (by (repeat (first | (with_reducible assumption) | (with_reducible apply M.var_set45) | (with_reducible refine M.var_alloc' _ _ _ ?_; first | rfl | (simp [go_sem]; done)) | (with_reducible refine M.Var.alloc ?_ _) | (with_reducible refine M.Var.drewN ?_ _) | (with_reducible refine M.Var.drew ?_) | (with_reducible refine M.Var.far ?_ _ _ ?hFar; case hFar => (first | omega | ((try simp [go_sem]) <;> omega))) | fail)) : M.Var _ (w3.heap.size + 1) #[.int .i64 0, .int .i64 0, .int .i64 0]) (by intro u hu; all_goals (first | with_reducible rw [M.cell_block1 hu] | with_reducible rw [M.usBx_block hu] | with_reducible rw [M.usV_block hu] | with_reducible rw [M.usI_block hu] | with_reducible rw [M.usHt_block hu] | with_reducible rw [M.usBd_block hu] | with_reducible rw [M.usB_block hu] | rw [M.cell_block1 hu] | (exfalso; simp at hu; done)); all_goals ((try simp [go_sem]) <;> omega))) (by intro u hu; all_goals (first | with_reducible rw [M.cell_block1 hu] | with_reducible rw [M.usBx_block hu] | with_reducible rw [M.usV_block hu] | with_reducible rw [M.usI_block hu] | with_reducible rw [M.usHt_block hu] | with_reducible rw [M.usBd_block hu] | with_reducible rw [M.usB_block hu] | rw [M.cell_block1 hu] | (exfalso; simp at hu; done)); all_goals ((try simp [go_sem]) <;> omega)))) (M.sets_size _ _) hb
  have V4_p : M.Var w4 (w3.heap.size + 1 + 1) #[.bool t] := M.Var.mono' (u := M.sets _ (usHt (w3.heap.size) (fstX (.ok (q, t))) ++ usB (w3.heap.size + 1 + 1) (sndX (.ok ((q : Ht), t))))) (by (try simp only [M.sets_append]); exact (M.var_setB (M.var_sets_far (usHt (w3.heap.size) (fstX (.ok (q, t)))) (by (repeat (first | (with_reducible assumption) | (with_reducible apply M.var_set45) | (with_reducible refine M.var_alloc' _ _ _ ?_; first | rfl | (simp [go_sem]; done)) | (with_reducible refine M.Var.alloc ?_ _) | (with_reducible refine M.Var.drewN ?_ _) | (with_reducible refine M.Var.drew ?_) | (with_reducible refine M.Var.far ?_ _ _ ?hFar; case hFar => (first | omega | ((try simp [go_sem]) <;> omega))) | fail)) : M.Var _ (w3.heap.size + 1 + 1) #[.bool false]) (by intro u hu; all_goals (first | with_reducible rw [M.cell_block1 hu] | with_reducible rw [M.usBx_block hu] | with_reducible rw [M.usV_block hu] | with_reducible rw [M.usI_block hu] | with_reducible rw [M.usHt_block hu] | with_reducible rw [M.usBd_block hu] | with_reducible rw [M.usB_block hu] | rw [M.cell_block1 hu] | (exfalso; simp at hu; done)); all_goals ((try simp [go_sem]) <;> omega))) _)) (M.sets_size _ _) hb
  have V4_q : M.Var w4 (w3.heap.size + 1 + 1 + 1) #[.bool false] := M.Var.mono' (u := M.sets _ (usHt (w3.heap.size) (fstX (.ok (q, t))) ++ usB (w3.heap.size + 1 + 1) (sndX (.ok ((q : Ht), t))))) (by (try simp only [M.sets_append]); exact (M.var_sets_far (usB (w3.heap.size + 1 + 1) (sndX (.ok ((q : Ht), t)))) (M.var_sets_far (usHt (w3.heap.size) (fstX (.ok (q, t)))) (by (repeat (first | (with_reducible assumption) | (with_reducible apply M.var_set45) | (with_reducible refine M.var_alloc' _ _ _ ?_; first | rfl | (simp [go_sem]; done)) | (with_reducible refine M.Var.alloc ?_ _) | (with_reducible refine M.Var.drewN ?_ _) | (with_reducible refine M.Var.drew ?_) | (with_reducible refine M.Var.far ?_ _ _ ?hFar; case hFar => (first | omega | ((try simp [go_sem]) <;> omega))) | fail)) : M.Var _ (w3.heap.size + 1 + 1 + 1) #[.bool false]) (by intro u hu; all_goals (first | with_reducible rw [M.cell_block1 hu] | with_reducible rw [M.usBx_block hu] | with_reducible rw [M.usV_block hu] | with_reducible rw [M.usI_block hu] | with_reducible rw [M.usHt_block hu] | with_reducible rw [M.usBd_block hu] | with_reducible rw [M.usB_block hu] | rw [M.cell_block1 hu] | (exfalso; simp at hu; done)); all_goals ((try simp [go_sem]) <;> omega))) (by intro u hu; all_goals (first | with_reducible rw [M.cell_block1 hu] | with_reducible rw [M.usBx_block hu] | with_reducible rw [M.usV_block hu] | with_reducible rw [M.usI_block hu] | with_reducible rw [M.usHt_block hu] | with_reducible rw [M.usBd_block hu] | with_reducible rw [M.usB_block hu] | rw [M.cell_block1 hu] | (exfalso; simp at hu; done)); all_goals ((try simp [go_sem]) <;> omega)))) (M.sets_size _ _) hb
  have q4_a_0 : w4.cell? ⟨w.heap.size, 0, none⟩ = some (.int .i64 a.shape) := V4_a.c 0 _ rfl
  have q4_a_1 : w4.cell? ⟨w.heap.size, 1, none⟩ = some (.int .i64 a.sx) := V4_a.c 1 _ rfl
  have q4_a_2 : w4.cell? ⟨w.heap.size, 2, none⟩ = some (.int .i64 a.sy) := V4_a.c 2 _ rfl
  have q4_a_3 : w4.cell? ⟨w.heap.size, 3, none⟩ = some (.int .i64 a.mass) := V4_a.c 3 _ rfl
  have q4_a_4 : w4.cell? ⟨w.heap.size, 4, none⟩ = some (.int .i64 a.px) := V4_a.c 4 _ rfl
  have q4_a_5 : w4.cell? ⟨w.heap.size, 5, none⟩ = some (.int .i64 a.py) := V4_a.c 5 _ rfl
  have q4_a_6 : w4.cell? ⟨w.heap.size, 6, none⟩ = some (.int .i64 a.mx) := V4_a.c 6 _ rfl
  have q4_a_7 : w4.cell? ⟨w.heap.size, 7, none⟩ = some (.int .i64 a.my) := V4_a.c 7 _ rfl
  have f4_a := V4_a.2.2; have L4_a := V4_a.lt; have N4_a := Nat.ne_of_gt L4_a; have M4_a := Nat.ne_of_lt L4_a
  have HV4_a := Lib.hid V4_a
  have q4_b_0 : w4.cell? ⟨w.heap.size + 1, 0, none⟩ = some (.int .i64 b.shape) := V4_b.c 0 _ rfl
  have q4_b_1 : w4.cell? ⟨w.heap.size + 1, 1, none⟩ = some (.int .i64 b.sx) := V4_b.c 1 _ rfl
  have q4_b_2 : w4.cell? ⟨w.heap.size + 1, 2, none⟩ = some (.int .i64 b.sy) := V4_b.c 2 _ rfl
  have q4_b_3 : w4.cell? ⟨w.heap.size + 1, 3, none⟩ = some (.int .i64 b.mass) := V4_b.c 3 _ rfl
  have q4_b_4 : w4.cell? ⟨w.heap.size + 1, 4, none⟩ = some (.int .i64 b.px) := V4_b.c 4 _ rfl
  have q4_b_5 : w4.cell? ⟨w.heap.size + 1, 5, none⟩ = some (.int .i64 b.py) := V4_b.c 5 _ rfl
  have q4_b_6 : w4.cell? ⟨w.heap.size + 1, 6, none⟩ = some (.int .i64 b.mx) := V4_b.c 6 _ rfl
  have q4_b_7 : w4.cell? ⟨w.heap.size + 1, 7, none⟩ = some (.int .i64 b.my) := V4_b.c 7 _ rfl
  have f4_b := V4_b.2.2; have L4_b := V4_b.lt; have N4_b := Nat.ne_of_gt L4_b; have M4_b := Nat.ne_of_lt L4_b
  have HV4_b := Lib.hid V4_b
  have q4_y_0 : w4.cell? ⟨w.heap.size + 1 + 1, 0, none⟩ = some (.int .i64 by_1) := V4_y.c 0 _ rfl
  have q4_y_1 : w4.cell? ⟨w.heap.size + 1 + 1, 1, none⟩ = some (.int .i64 by_2) := V4_y.c 1 _ rfl
  have f4_y := V4_y.2.2; have L4_y := V4_y.lt; have N4_y := Nat.ne_of_gt L4_y; have M4_y := Nat.ne_of_lt L4_y
  have HV4_y := Lib.hid V4_y
  have q4_h_0 : w4.cell? ⟨w3.heap.size, 0, none⟩ = some (.int .i64 q.nx) := V4_h.c 0 _ rfl
  have q4_h_1 : w4.cell? ⟨w3.heap.size, 1, none⟩ = some (.int .i64 q.ny) := V4_h.c 1 _ rfl
  have q4_h_2 : w4.cell? ⟨w3.heap.size, 2, none⟩ = some (.int .i64 q.d) := V4_h.c 2 _ rfl
  have f4_h := V4_h.2.2; have L4_h := V4_h.lt; have N4_h := Nat.ne_of_gt L4_h; have M4_h := Nat.ne_of_lt L4_h
  have HV4_h := Lib.hid V4_h
  have q4_g_0 : w4.cell? ⟨w3.heap.size + 1, 0, none⟩ = some (.int .i64 0) := V4_g.c 0 _ rfl
  have q4_g_1 : w4.cell? ⟨w3.heap.size + 1, 1, none⟩ = some (.int .i64 0) := V4_g.c 1 _ rfl
  have q4_g_2 : w4.cell? ⟨w3.heap.size + 1, 2, none⟩ = some (.int .i64 0) := V4_g.c 2 _ rfl
  have f4_g := V4_g.2.2; have L4_g := V4_g.lt; have N4_g := Nat.ne_of_gt L4_g; have M4_g := Nat.ne_of_lt L4_g
  have HV4_g := Lib.hid V4_g
  have q4_p_0 : w4.cell? ⟨w3.heap.size + 1 + 1, 0, none⟩ = some (.bool t) := V4_p.c 0 _ rfl
  have f4_p := V4_p.2.2; have L4_p := V4_p.lt; have N4_p := Nat.ne_of_gt L4_p; have M4_p := Nat.ne_of_lt L4_p
  have HV4_p := Lib.hid V4_p
  have q4_q_0 : w4.cell? ⟨w3.heap.size + 1 + 1 + 1, 0, none⟩ = some (.bool false) := V4_q.c 0 _ rfl
  have f4_q := V4_q.2.2; have L4_q := V4_q.lt; have N4_q := Nat.ne_of_gt L4_q; have M4_q := Nat.ne_of_lt L4_q
  have HV4_q := Lib.hid V4_q
  have S4 := G4.size; clear hb
  go_wp2_with fail
  refine wp_region_till (S := fun sT wT' => Hid ((sT.getD 26 false = false → M.Var wT' (w.heap.size) #[.int .i64 a.shape, .int .i64 a.sx, .int .i64 a.sy, .int .i64 a.mass, .int .i64 a.px, .int .i64 a.py, .int .i64 a.mx, .int .i64 a.my]) ∧ (sT.getD 32 false = false → M.Var wT' (w.heap.size + 1) #[.int .i64 b.shape, .int .i64 b.sx, .int .i64 b.sy, .int .i64 b.mass, .int .i64 b.px, .int .i64 b.py, .int .i64 b.mx, .int .i64 b.my]) ∧ M.Var wT' (w.heap.size + 1 + 1) #[.int .i64 by_1, .int .i64 by_2] ∧ True)) (by kernel_rfl) (Lib.hid ⟨(fun _ => by (repeat (first | (with_reducible assumption) | (with_reducible apply M.var_setV) | (with_reducible apply M.var_setI) | (with_reducible apply M.var_setB) | (with_reducible apply M.var_setHt) | (with_reducible apply M.var_setBd) | (with_reducible apply M.var_set2) | (with_reducible apply M.var_set3) | (with_reducible apply M.var_set4) | (with_reducible apply M.var_set45) | (with_reducible apply M.var_set67) | (with_reducible apply M.var_setF) | (with_reducible refine M.var_alloc' _ _ _ ?_; first | rfl | (focus (simp [go_sem]; done))) | (with_reducible refine M.Var.alloc ?_ _) | (with_reducible refine M.Var.drewN ?_ _) | (with_reducible refine M.Var.drew ?_) | (with_reducible refine M.Var.far ?_ _ _ ?hFar; case hFar => (first | omega | ((try simp [go_sem]) <;> omega))) | fail))), (fun _ => by (repeat (first | (with_reducible assumption) | (with_reducible apply M.var_setV) | (with_reducible apply M.var_setI) | (with_reducible apply M.var_setB) | (with_reducible apply M.var_setHt) | (with_reducible apply M.var_setBd) | (with_reducible apply M.var_set2) | (with_reducible apply M.var_set3) | (with_reducible apply M.var_set4) | (with_reducible apply M.var_set45) | (with_reducible apply M.var_set67) | (with_reducible apply M.var_setF) | (with_reducible refine M.var_alloc' _ _ _ ?_; first | rfl | (focus (simp [go_sem]; done))) | (with_reducible refine M.Var.alloc ?_ _) | (with_reducible refine M.Var.drewN ?_ _) | (with_reducible refine M.Var.drew ?_) | (with_reducible refine M.Var.far ?_ _ _ ?hFar; case hFar => (first | omega | ((try simp [go_sem]) <;> omega))) | fail))), (by (repeat (first | (with_reducible assumption) | (with_reducible apply M.var_setV) | (with_reducible apply M.var_setI) | (with_reducible apply M.var_setB) | (with_reducible apply M.var_setHt) | (with_reducible apply M.var_setBd) | (with_reducible apply M.var_set2) | (with_reducible apply M.var_set3) | (with_reducible apply M.var_set4) | (with_reducible apply M.var_set45) | (with_reducible apply M.var_set67) | (with_reducible apply M.var_setF) | (with_reducible refine M.var_alloc' _ _ _ ?_; first | rfl | (focus (simp [go_sem]; done))) | (with_reducible refine M.Var.alloc ?_ _) | (with_reducible refine M.Var.drewN ?_ _) | (with_reducible refine M.Var.drew ?_) | (with_reducible refine M.Var.far ?_ _ _ ?hFar; case hFar => (first | omega | ((try simp [go_sem]) <;> omega))) | fail))), trivial⟩) ?_
  intro hTb hTS
  refine wpTill_take (i := 0) (v := ?_) rfl (by kernel_rfl) (by kernel_rfl) (by kernel_rfl) hTb (fun _ _ _ h => h) (fun _ _ => by simp only [getD_set_ne false (show 0 ≠ 26 by decide), getD_set_ne false (show 0 ≠ 32 by decide)]) (Or.inl ⟨by rfl, ?_⟩) hTS ?_
  rotate_left
  · intro wT hT; clear hT
    go_simp
    all_goals with_reducible rfl
  clear hTb hTS; intro hTb hTS
  try simp only [Act.put, List.setIfInBounds_toArray, List.set_cons_zero, List.set_cons_succ]
  refine wpTill_take (i := 1) (v := ?_) rfl (by kernel_rfl) (by kernel_rfl) (by kernel_rfl) hTb (fun _ _ _ h => h) (fun _ _ => by simp only [getD_set_ne false (show 1 ≠ 26 by decide), getD_set_ne false (show 1 ≠ 32 by decide)]) (Or.inl ⟨by rfl, ?_⟩) hTS ?_
  rotate_left
  · intro wT hT; clear hT
    go_simp
    all_goals with_reducible rfl
  clear hTb hTS; intro hTb hTS
  try simp only [Act.put, List.setIfInBounds_toArray, List.set_cons_zero, List.set_cons_succ]
  refine wpTill_take (i := 2) (v := ?_) rfl (by kernel_rfl) (by kernel_rfl) (by kernel_rfl) hTb (fun _ _ _ h => h) (fun _ _ => by simp only [getD_set_ne false (show 2 ≠ 26 by decide), getD_set_ne false (show 2 ≠ 32 by decide)]) (Or.inl ⟨by rfl, ?_⟩) hTS ?_
  rotate_left
  · rintro wT ⟨sT, hbT, huT, hST⟩
    have zT_a_0 := (hST.out.1 (till_flag (k := 26) (by kernel_rfl) hbT huT)).c 0 _ rfl
    have zT_a_1 := (hST.out.1 (till_flag (k := 26) (by kernel_rfl) hbT huT)).c 1 _ rfl
    have zT_a_2 := (hST.out.1 (till_flag (k := 26) (by kernel_rfl) hbT huT)).c 2 _ rfl
    have zT_a_3 := (hST.out.1 (till_flag (k := 26) (by kernel_rfl) hbT huT)).c 3 _ rfl
    have zT_a_4 := (hST.out.1 (till_flag (k := 26) (by kernel_rfl) hbT huT)).c 4 _ rfl
    have zT_a_5 := (hST.out.1 (till_flag (k := 26) (by kernel_rfl) hbT huT)).c 5 _ rfl
    have zT_a_6 := (hST.out.1 (till_flag (k := 26) (by kernel_rfl) hbT huT)).c 6 _ rfl
    have zT_a_7 := (hST.out.1 (till_flag (k := 26) (by kernel_rfl) hbT huT)).c 7 _ rfl
    have zT_b_0 := (hST.out.2.1 (till_flag (k := 32) (by kernel_rfl) hbT huT)).c 0 _ rfl
    have zT_b_1 := (hST.out.2.1 (till_flag (k := 32) (by kernel_rfl) hbT huT)).c 1 _ rfl
    have zT_b_2 := (hST.out.2.1 (till_flag (k := 32) (by kernel_rfl) hbT huT)).c 2 _ rfl
    have zT_b_3 := (hST.out.2.1 (till_flag (k := 32) (by kernel_rfl) hbT huT)).c 3 _ rfl
    have zT_b_4 := (hST.out.2.1 (till_flag (k := 32) (by kernel_rfl) hbT huT)).c 4 _ rfl
    have zT_b_5 := (hST.out.2.1 (till_flag (k := 32) (by kernel_rfl) hbT huT)).c 5 _ rfl
    have zT_b_6 := (hST.out.2.1 (till_flag (k := 32) (by kernel_rfl) hbT huT)).c 6 _ rfl
    have zT_b_7 := (hST.out.2.1 (till_flag (k := 32) (by kernel_rfl) hbT huT)).c 7 _ rfl
    have zT_y_0 := hST.out.2.2.1.c 0 _ rfl
    have zT_y_1 := hST.out.2.2.1.c 1 _ rfl
    clear hST hbT huT
    go_simp
    all_goals with_reducible rfl
  clear hTb hTS; intro hTb hTS
  try simp only [Act.put, List.setIfInBounds_toArray, List.set_cons_zero, List.set_cons_succ]
  refine wpTill_take (i := 3) (v := ?_) rfl (by kernel_rfl) (by kernel_rfl) (by kernel_rfl) hTb (fun _ _ _ h => h) (fun _ _ => by simp only [getD_set_ne false (show 3 ≠ 26 by decide), getD_set_ne false (show 3 ≠ 32 by decide)]) (Or.inl ⟨by rfl, ?_⟩) hTS ?_
  rotate_left
  · intro wT hT; clear hT
    go_simp
    all_goals with_reducible rfl
  clear hTb hTS; intro hTb hTS
  try simp only [Act.put, List.setIfInBounds_toArray, List.set_cons_zero, List.set_cons_succ]
  refine wpTill_take (i := 4) (v := ?_) rfl (by kernel_rfl) (by kernel_rfl) (by kernel_rfl) hTb (fun _ _ _ h => h) (fun _ _ => by simp only [getD_set_ne false (show 4 ≠ 26 by decide), getD_set_ne false (show 4 ≠ 32 by decide)]) (Or.inl ⟨by rfl, ?_⟩) hTS ?_
  rotate_left
  · rintro wT ⟨sT, hbT, huT, hST⟩
    have zT_a_0 := (hST.out.1 (till_flag (k := 26) (by kernel_rfl) hbT huT)).c 0 _ rfl
    have zT_a_1 := (hST.out.1 (till_flag (k := 26) (by kernel_rfl) hbT huT)).c 1 _ rfl
    have zT_a_2 := (hST.out.1 (till_flag (k := 26) (by kernel_rfl) hbT huT)).c 2 _ rfl
    have zT_a_3 := (hST.out.1 (till_flag (k := 26) (by kernel_rfl) hbT huT)).c 3 _ rfl
    have zT_a_4 := (hST.out.1 (till_flag (k := 26) (by kernel_rfl) hbT huT)).c 4 _ rfl
    have zT_a_5 := (hST.out.1 (till_flag (k := 26) (by kernel_rfl) hbT huT)).c 5 _ rfl
    have zT_a_6 := (hST.out.1 (till_flag (k := 26) (by kernel_rfl) hbT huT)).c 6 _ rfl
    have zT_a_7 := (hST.out.1 (till_flag (k := 26) (by kernel_rfl) hbT huT)).c 7 _ rfl
    have zT_b_0 := (hST.out.2.1 (till_flag (k := 32) (by kernel_rfl) hbT huT)).c 0 _ rfl
    have zT_b_1 := (hST.out.2.1 (till_flag (k := 32) (by kernel_rfl) hbT huT)).c 1 _ rfl
    have zT_b_2 := (hST.out.2.1 (till_flag (k := 32) (by kernel_rfl) hbT huT)).c 2 _ rfl
    have zT_b_3 := (hST.out.2.1 (till_flag (k := 32) (by kernel_rfl) hbT huT)).c 3 _ rfl
    have zT_b_4 := (hST.out.2.1 (till_flag (k := 32) (by kernel_rfl) hbT huT)).c 4 _ rfl
    have zT_b_5 := (hST.out.2.1 (till_flag (k := 32) (by kernel_rfl) hbT huT)).c 5 _ rfl
    have zT_b_6 := (hST.out.2.1 (till_flag (k := 32) (by kernel_rfl) hbT huT)).c 6 _ rfl
    have zT_b_7 := (hST.out.2.1 (till_flag (k := 32) (by kernel_rfl) hbT huT)).c 7 _ rfl
    have zT_y_0 := hST.out.2.2.1.c 0 _ rfl
    have zT_y_1 := hST.out.2.2.1.c 1 _ rfl
    clear hST hbT huT
    go_simp
    all_goals with_reducible rfl
  clear hTb hTS; intro hTb hTS
  try simp only [Act.put, List.setIfInBounds_toArray, List.set_cons_zero, List.set_cons_succ]
  refine wpTill_take (i := 5) (v := ?_) rfl (by kernel_rfl) (by kernel_rfl) (by kernel_rfl) hTb (fun _ _ _ h => h) (fun _ _ => by simp only [getD_set_ne false (show 5 ≠ 26 by decide), getD_set_ne false (show 5 ≠ 32 by decide)]) (Or.inl ⟨by rfl, ?_⟩) hTS ?_
  rotate_left
  · intro wT hT; clear hT
    go_simp
    all_goals with_reducible rfl
  clear hTb hTS; intro hTb hTS
  try simp only [Act.put, List.setIfInBounds_toArray, List.set_cons_zero, List.set_cons_succ]
  refine wpTill_take (i := 6) (v := ?_) rfl (by kernel_rfl) (by kernel_rfl) (by kernel_rfl) hTb (fun _ _ _ h => h) (fun _ _ => by simp only [getD_set_ne false (show 6 ≠ 26 by decide), getD_set_ne false (show 6 ≠ 32 by decide)]) (Or.inl ⟨by rfl, ?_⟩) hTS ?_
  rotate_left
  · intro wT hT; clear hT
    go_simp
    all_goals with_reducible rfl
  clear hTb hTS; intro hTb hTS
  try simp only [Act.put, List.setIfInBounds_toArray, List.set_cons_zero, List.set_cons_succ]
  refine wpTill_take (i := 7) (v := ?_) rfl (by kernel_rfl) (by kernel_rfl) (by kernel_rfl) hTb (fun _ _ _ h => h) (fun _ _ => by simp only [getD_set_ne false (show 7 ≠ 26 by decide), getD_set_ne false (show 7 ≠ 32 by decide)]) (Or.inl ⟨by rfl, ?_⟩) hTS ?_
  rotate_left
  · intro wT hT; clear hT
    go_simp
    all_goals with_reducible rfl
  clear hTb hTS; intro hTb hTS
  try simp only [Act.put, List.setIfInBounds_toArray, List.set_cons_zero, List.set_cons_succ]
  refine wpTill_take (i := 8) (v := ?_) rfl (by kernel_rfl) (by kernel_rfl) (by kernel_rfl) hTb (fun _ _ _ h => h) (fun _ _ => by simp only [getD_set_ne false (show 8 ≠ 26 by decide), getD_set_ne false (show 8 ≠ 32 by decide)]) (Or.inl ⟨by rfl, ?_⟩) hTS ?_
  rotate_left
  · rintro wT ⟨sT, hbT, huT, hST⟩
    have zT_a_0 := (hST.out.1 (till_flag (k := 26) (by kernel_rfl) hbT huT)).c 0 _ rfl
    have zT_a_1 := (hST.out.1 (till_flag (k := 26) (by kernel_rfl) hbT huT)).c 1 _ rfl
    have zT_a_2 := (hST.out.1 (till_flag (k := 26) (by kernel_rfl) hbT huT)).c 2 _ rfl
    have zT_a_3 := (hST.out.1 (till_flag (k := 26) (by kernel_rfl) hbT huT)).c 3 _ rfl
    have zT_a_4 := (hST.out.1 (till_flag (k := 26) (by kernel_rfl) hbT huT)).c 4 _ rfl
    have zT_a_5 := (hST.out.1 (till_flag (k := 26) (by kernel_rfl) hbT huT)).c 5 _ rfl
    have zT_a_6 := (hST.out.1 (till_flag (k := 26) (by kernel_rfl) hbT huT)).c 6 _ rfl
    have zT_a_7 := (hST.out.1 (till_flag (k := 26) (by kernel_rfl) hbT huT)).c 7 _ rfl
    have zT_b_0 := (hST.out.2.1 (till_flag (k := 32) (by kernel_rfl) hbT huT)).c 0 _ rfl
    have zT_b_1 := (hST.out.2.1 (till_flag (k := 32) (by kernel_rfl) hbT huT)).c 1 _ rfl
    have zT_b_2 := (hST.out.2.1 (till_flag (k := 32) (by kernel_rfl) hbT huT)).c 2 _ rfl
    have zT_b_3 := (hST.out.2.1 (till_flag (k := 32) (by kernel_rfl) hbT huT)).c 3 _ rfl
    have zT_b_4 := (hST.out.2.1 (till_flag (k := 32) (by kernel_rfl) hbT huT)).c 4 _ rfl
    have zT_b_5 := (hST.out.2.1 (till_flag (k := 32) (by kernel_rfl) hbT huT)).c 5 _ rfl
    have zT_b_6 := (hST.out.2.1 (till_flag (k := 32) (by kernel_rfl) hbT huT)).c 6 _ rfl
    have zT_b_7 := (hST.out.2.1 (till_flag (k := 32) (by kernel_rfl) hbT huT)).c 7 _ rfl
    have zT_y_0 := hST.out.2.2.1.c 0 _ rfl
    have zT_y_1 := hST.out.2.2.1.c 1 _ rfl
    clear hST hbT huT
    go_simp
    all_goals with_reducible rfl
  clear hTb hTS; intro hTb hTS
  try simp only [Act.put, List.setIfInBounds_toArray, List.set_cons_zero, List.set_cons_succ]
  refine wpTill_take (i := 9) (v := ?_) rfl (by kernel_rfl) (by kernel_rfl) (by kernel_rfl) hTb (fun _ _ _ h => h) (fun _ _ => by simp only [getD_set_ne false (show 9 ≠ 26 by decide), getD_set_ne false (show 9 ≠ 32 by decide)]) (Or.inl ⟨by rfl, ?_⟩) hTS ?_
  rotate_left
  · intro wT hT; clear hT
    go_simp
    all_goals with_reducible rfl
  clear hTb hTS; intro hTb hTS
  try simp only [Act.put, List.setIfInBounds_toArray, List.set_cons_zero, List.set_cons_succ]
  refine wpTill_take (i := 10) (v := ?_) rfl (by kernel_rfl) (by kernel_rfl) (by kernel_rfl) hTb (fun _ _ _ h => h) (fun _ _ => by simp only [getD_set_ne false (show 10 ≠ 26 by decide), getD_set_ne false (show 10 ≠ 32 by decide)]) (Or.inl ⟨by rfl, ?_⟩) hTS ?_
  rotate_left
  · rintro wT ⟨sT, hbT, huT, hST⟩
    have zT_b_0 := (hST.out.2.1 (till_flag (k := 32) (by kernel_rfl) hbT huT)).c 0 _ rfl
    have zT_b_1 := (hST.out.2.1 (till_flag (k := 32) (by kernel_rfl) hbT huT)).c 1 _ rfl
    have zT_b_2 := (hST.out.2.1 (till_flag (k := 32) (by kernel_rfl) hbT huT)).c 2 _ rfl
    have zT_b_3 := (hST.out.2.1 (till_flag (k := 32) (by kernel_rfl) hbT huT)).c 3 _ rfl
    have zT_b_4 := (hST.out.2.1 (till_flag (k := 32) (by kernel_rfl) hbT huT)).c 4 _ rfl
    have zT_b_5 := (hST.out.2.1 (till_flag (k := 32) (by kernel_rfl) hbT huT)).c 5 _ rfl
    have zT_b_6 := (hST.out.2.1 (till_flag (k := 32) (by kernel_rfl) hbT huT)).c 6 _ rfl
    have zT_b_7 := (hST.out.2.1 (till_flag (k := 32) (by kernel_rfl) hbT huT)).c 7 _ rfl
    have zT_y_0 := hST.out.2.2.1.c 0 _ rfl
    have zT_y_1 := hST.out.2.2.1.c 1 _ rfl
    clear hST hbT huT
    go_simp
    all_goals with_reducible rfl
  clear hTb hTS; intro hTb hTS
  try simp only [Act.put, List.setIfInBounds_toArray, List.set_cons_zero, List.set_cons_succ]
  refine wpTill_take (i := 11) (v := ?_) rfl (by kernel_rfl) (by kernel_rfl) (by kernel_rfl) hTb (fun _ _ _ h => h) (fun _ _ => by simp only [getD_set_ne false (show 11 ≠ 26 by decide), getD_set_ne false (show 11 ≠ 32 by decide)]) (Or.inl ⟨by rfl, ?_⟩) hTS ?_
  rotate_left
  · intro wT hT; clear hT
    go_simp
    all_goals with_reducible rfl
  clear hTb hTS; intro hTb hTS
  try simp only [Act.put, List.setIfInBounds_toArray, List.set_cons_zero, List.set_cons_succ]
  refine wpTill_take (i := 12) (v := ?_) rfl (by kernel_rfl) (by kernel_rfl) (by kernel_rfl) hTb (fun _ _ _ h => h) (fun _ _ => by simp only [getD_set_ne false (show 12 ≠ 26 by decide), getD_set_ne false (show 12 ≠ 32 by decide)]) (Or.inl ⟨by rfl, ?_⟩) hTS ?_
  rotate_left
  · intro wT hT; clear hT
    go_simp
    all_goals with_reducible rfl
  clear hTb hTS; intro hTb hTS
  try simp only [Act.put, List.setIfInBounds_toArray, List.set_cons_zero, List.set_cons_succ]
  refine wpTill_take (i := 13) (v := ?_) rfl (by kernel_rfl) (by kernel_rfl) (by kernel_rfl) hTb (fun _ _ _ h => h) (fun _ _ => by simp only [getD_set_ne false (show 13 ≠ 26 by decide), getD_set_ne false (show 13 ≠ 32 by decide)]) (Or.inl ⟨by rfl, ?_⟩) hTS ?_
  rotate_left
  · intro wT hT; clear hT
    go_simp
    all_goals with_reducible rfl
  clear hTb hTS; intro hTb hTS
  try simp only [Act.put, List.setIfInBounds_toArray, List.set_cons_zero, List.set_cons_succ]
  refine wpTill_take (i := 14) (v := ?_) rfl (by kernel_rfl) (by kernel_rfl) (by kernel_rfl) hTb (fun _ _ _ h => h) (fun _ _ => by simp only [getD_set_ne false (show 14 ≠ 26 by decide), getD_set_ne false (show 14 ≠ 32 by decide)]) (Or.inl ⟨by rfl, ?_⟩) hTS ?_
  rotate_left
  · rintro wT ⟨sT, hbT, huT, hST⟩
    have zT_b_0 := (hST.out.2.1 (till_flag (k := 32) (by kernel_rfl) hbT huT)).c 0 _ rfl
    have zT_b_1 := (hST.out.2.1 (till_flag (k := 32) (by kernel_rfl) hbT huT)).c 1 _ rfl
    have zT_b_2 := (hST.out.2.1 (till_flag (k := 32) (by kernel_rfl) hbT huT)).c 2 _ rfl
    have zT_b_3 := (hST.out.2.1 (till_flag (k := 32) (by kernel_rfl) hbT huT)).c 3 _ rfl
    have zT_b_4 := (hST.out.2.1 (till_flag (k := 32) (by kernel_rfl) hbT huT)).c 4 _ rfl
    have zT_b_5 := (hST.out.2.1 (till_flag (k := 32) (by kernel_rfl) hbT huT)).c 5 _ rfl
    have zT_b_6 := (hST.out.2.1 (till_flag (k := 32) (by kernel_rfl) hbT huT)).c 6 _ rfl
    have zT_b_7 := (hST.out.2.1 (till_flag (k := 32) (by kernel_rfl) hbT huT)).c 7 _ rfl
    have zT_y_0 := hST.out.2.2.1.c 0 _ rfl
    have zT_y_1 := hST.out.2.2.1.c 1 _ rfl
    clear hST hbT huT
    go_simp
    all_goals with_reducible rfl
  clear hTb hTS; intro hTb hTS
  try simp only [Act.put, List.setIfInBounds_toArray, List.set_cons_zero, List.set_cons_succ]
  refine wpTill_take (i := 15) (v := ?_) rfl (by kernel_rfl) (by kernel_rfl) (by kernel_rfl) hTb (fun _ _ _ h => h) (fun _ _ => by simp only [getD_set_ne false (show 15 ≠ 26 by decide), getD_set_ne false (show 15 ≠ 32 by decide)]) (Or.inl ⟨by rfl, ?_⟩) hTS ?_
  rotate_left
  · intro wT hT; clear hT
    go_simp
    all_goals with_reducible rfl
  clear hTb hTS; intro hTb hTS
  try simp only [Act.put, List.setIfInBounds_toArray, List.set_cons_zero, List.set_cons_succ]
  refine wpTill_take (i := 16) (v := ?_) rfl (by kernel_rfl) (by kernel_rfl) (by kernel_rfl) hTb (fun _ _ _ h => h) (fun _ _ => by simp only [getD_set_ne false (show 16 ≠ 26 by decide), getD_set_ne false (show 16 ≠ 32 by decide)]) (Or.inl ⟨by rfl, ?_⟩) hTS ?_
  rotate_left
  · rintro wT ⟨sT, hbT, huT, hST⟩
    have zT_b_0 := (hST.out.2.1 (till_flag (k := 32) (by kernel_rfl) hbT huT)).c 0 _ rfl
    have zT_b_1 := (hST.out.2.1 (till_flag (k := 32) (by kernel_rfl) hbT huT)).c 1 _ rfl
    have zT_b_2 := (hST.out.2.1 (till_flag (k := 32) (by kernel_rfl) hbT huT)).c 2 _ rfl
    have zT_b_3 := (hST.out.2.1 (till_flag (k := 32) (by kernel_rfl) hbT huT)).c 3 _ rfl
    have zT_b_4 := (hST.out.2.1 (till_flag (k := 32) (by kernel_rfl) hbT huT)).c 4 _ rfl
    have zT_b_5 := (hST.out.2.1 (till_flag (k := 32) (by kernel_rfl) hbT huT)).c 5 _ rfl
    have zT_b_6 := (hST.out.2.1 (till_flag (k := 32) (by kernel_rfl) hbT huT)).c 6 _ rfl
    have zT_b_7 := (hST.out.2.1 (till_flag (k := 32) (by kernel_rfl) hbT huT)).c 7 _ rfl
    have zT_y_0 := hST.out.2.2.1.c 0 _ rfl
    have zT_y_1 := hST.out.2.2.1.c 1 _ rfl
    clear hST hbT huT
    go_simp
    all_goals with_reducible rfl
  clear hTb hTS; intro hTb hTS
  try simp only [Act.put, List.setIfInBounds_toArray, List.set_cons_zero, List.set_cons_succ]
  refine wpTill_take (i := 17) (v := ?_) rfl (by kernel_rfl) (by kernel_rfl) (by kernel_rfl) hTb (fun _ _ _ h => h) (fun _ _ => by simp only [getD_set_ne false (show 17 ≠ 26 by decide), getD_set_ne false (show 17 ≠ 32 by decide)]) (Or.inl ⟨by rfl, ?_⟩) hTS ?_
  rotate_left
  · intro wT hT; clear hT
    go_simp
    all_goals with_reducible rfl
  clear hTb hTS; intro hTb hTS
  try simp only [Act.put, List.setIfInBounds_toArray, List.set_cons_zero, List.set_cons_succ]
  refine wpTill_take (i := 18) (v := ?_) rfl (by kernel_rfl) (by kernel_rfl) (by kernel_rfl) hTb (fun _ _ _ h => h) (fun _ _ => by simp only [getD_set_ne false (show 18 ≠ 26 by decide), getD_set_ne false (show 18 ≠ 32 by decide)]) (Or.inl ⟨by rfl, ?_⟩) hTS ?_
  rotate_left
  · intro wT hT; clear hT
    go_simp
    all_goals with_reducible rfl
  clear hTb hTS; intro hTb hTS
  try simp only [Act.put, List.setIfInBounds_toArray, List.set_cons_zero, List.set_cons_succ]
  refine wpTill_take (i := 19) (v := ?_) rfl (by kernel_rfl) (by kernel_rfl) (by kernel_rfl) hTb (fun _ _ _ h => h) (fun _ _ => by simp only [getD_set_ne false (show 19 ≠ 26 by decide), getD_set_ne false (show 19 ≠ 32 by decide)]) (Or.inl ⟨by rfl, ?_⟩) hTS ?_
  rotate_left
  · intro wT hT; clear hT
    go_simp
    all_goals with_reducible rfl
  clear hTb hTS; intro hTb hTS
  try simp only [Act.put, List.setIfInBounds_toArray, List.set_cons_zero, List.set_cons_succ]
  refine wpTill_take (i := 20) (v := ?_) rfl (by kernel_rfl) (by kernel_rfl) (by kernel_rfl) hTb (fun _ _ _ h => h) (fun _ _ => by simp only [getD_set_ne false (show 20 ≠ 26 by decide), getD_set_ne false (show 20 ≠ 32 by decide)]) (Or.inl ⟨by rfl, ?_⟩) hTS ?_
  rotate_left
  · rintro wT ⟨sT, hbT, huT, hST⟩
    have zT_a_0 := (hST.out.1 (till_flag (k := 26) (by kernel_rfl) hbT huT)).c 0 _ rfl
    have zT_a_1 := (hST.out.1 (till_flag (k := 26) (by kernel_rfl) hbT huT)).c 1 _ rfl
    have zT_a_2 := (hST.out.1 (till_flag (k := 26) (by kernel_rfl) hbT huT)).c 2 _ rfl
    have zT_a_3 := (hST.out.1 (till_flag (k := 26) (by kernel_rfl) hbT huT)).c 3 _ rfl
    have zT_a_4 := (hST.out.1 (till_flag (k := 26) (by kernel_rfl) hbT huT)).c 4 _ rfl
    have zT_a_5 := (hST.out.1 (till_flag (k := 26) (by kernel_rfl) hbT huT)).c 5 _ rfl
    have zT_a_6 := (hST.out.1 (till_flag (k := 26) (by kernel_rfl) hbT huT)).c 6 _ rfl
    have zT_a_7 := (hST.out.1 (till_flag (k := 26) (by kernel_rfl) hbT huT)).c 7 _ rfl
    have zT_b_0 := (hST.out.2.1 (till_flag (k := 32) (by kernel_rfl) hbT huT)).c 0 _ rfl
    have zT_b_1 := (hST.out.2.1 (till_flag (k := 32) (by kernel_rfl) hbT huT)).c 1 _ rfl
    have zT_b_2 := (hST.out.2.1 (till_flag (k := 32) (by kernel_rfl) hbT huT)).c 2 _ rfl
    have zT_b_3 := (hST.out.2.1 (till_flag (k := 32) (by kernel_rfl) hbT huT)).c 3 _ rfl
    have zT_b_4 := (hST.out.2.1 (till_flag (k := 32) (by kernel_rfl) hbT huT)).c 4 _ rfl
    have zT_b_5 := (hST.out.2.1 (till_flag (k := 32) (by kernel_rfl) hbT huT)).c 5 _ rfl
    have zT_b_6 := (hST.out.2.1 (till_flag (k := 32) (by kernel_rfl) hbT huT)).c 6 _ rfl
    have zT_b_7 := (hST.out.2.1 (till_flag (k := 32) (by kernel_rfl) hbT huT)).c 7 _ rfl
    have zT_y_0 := hST.out.2.2.1.c 0 _ rfl
    have zT_y_1 := hST.out.2.2.1.c 1 _ rfl
    clear hST hbT huT
    go_simp
    all_goals with_reducible rfl
  clear hTb hTS; intro hTb hTS
  try simp only [Act.put, List.setIfInBounds_toArray, List.set_cons_zero, List.set_cons_succ]
  refine wpTill_take (i := 21) (v := ?_) rfl (by kernel_rfl) (by kernel_rfl) (by kernel_rfl) hTb (fun _ _ _ h => h) (fun _ _ => by simp only [getD_set_ne false (show 21 ≠ 26 by decide), getD_set_ne false (show 21 ≠ 32 by decide)]) (Or.inl ⟨by rfl, ?_⟩) hTS ?_
  rotate_left
  · intro wT hT; clear hT
    go_simp
    all_goals with_reducible rfl
  clear hTb hTS; intro hTb hTS
  try simp only [Act.put, List.setIfInBounds_toArray, List.set_cons_zero, List.set_cons_succ]
  refine wpTill_take (i := 22) (v := ?_) rfl (by kernel_rfl) (by kernel_rfl) (by kernel_rfl) hTb (fun _ _ _ h => h) (fun _ _ => by simp only [getD_set_ne false (show 22 ≠ 26 by decide), getD_set_ne false (show 22 ≠ 32 by decide)]) (Or.inl ⟨by rfl, ?_⟩) hTS ?_
  rotate_left
  · rintro wT ⟨sT, hbT, huT, hST⟩
    have zT_y_0 := hST.out.2.2.1.c 0 _ rfl
    have zT_y_1 := hST.out.2.2.1.c 1 _ rfl
    clear hST hbT huT
    go_simp
    all_goals with_reducible rfl
  clear hTb hTS; intro hTb hTS
  try simp only [Act.put, List.setIfInBounds_toArray, List.set_cons_zero, List.set_cons_succ]
  refine wpTill_take (i := 23) (v := ?_) rfl (by kernel_rfl) (by kernel_rfl) (by kernel_rfl) hTb (fun _ _ _ h => h) (fun _ _ => by simp only [getD_set_ne false (show 23 ≠ 26 by decide), getD_set_ne false (show 23 ≠ 32 by decide)]) (Or.inl ⟨by rfl, ?_⟩) hTS ?_
  rotate_left
  · intro wT hT; clear hT
    go_simp
    all_goals with_reducible rfl
  clear hTb hTS; intro hTb hTS
  try simp only [Act.put, List.setIfInBounds_toArray, List.set_cons_zero, List.set_cons_succ]
  refine wpTill_take (i := 24) (v := ?_) rfl (by kernel_rfl) (by kernel_rfl) (by kernel_rfl) hTb (fun _ _ _ h => h) (fun _ _ => by simp only [getD_set_ne false (show 24 ≠ 26 by decide), getD_set_ne false (show 24 ≠ 32 by decide)]) (Or.inl ⟨by rfl, ?_⟩) hTS ?_
  rotate_left
  · intro wT hT; clear hT
    go_simp
    all_goals with_reducible rfl
  clear hTb hTS; intro hTb hTS
  try simp only [Act.put, List.setIfInBounds_toArray, List.set_cons_zero, List.set_cons_succ]
  refine wpTill_take (i := 25) (v := ?_) rfl (by kernel_rfl) (by kernel_rfl) (by kernel_rfl) hTb (fun _ _ _ h => h) (fun _ _ => by simp only [getD_set_ne false (show 25 ≠ 26 by decide), getD_set_ne false (show 25 ≠ 32 by decide)]) (Or.inl ⟨by rfl, ?_⟩) hTS ?_
  rotate_left
  · intro wT hT; clear hT
    go_simp
    all_goals with_reducible rfl
  clear hTb hTS; intro hTb hTS
  try simp only [Act.put, List.setIfInBounds_toArray, List.set_cons_zero, List.set_cons_succ]
  refine wpTill_one (i := 26) (by kernel_rfl) rfl hTb (fun K hK => ?_)
  go_simp
  (try go_simp)
  refine hK.out _ _ (Lib.hid ⟨till_gone (by kernel_rfl), (fun _ => by (repeat (first | (with_reducible assumption) | (with_reducible apply M.var_setV) | (with_reducible apply M.var_setI) | (with_reducible apply M.var_setB) | (with_reducible apply M.var_setHt) | (with_reducible apply M.var_setBd) | (with_reducible apply M.var_set2) | (with_reducible apply M.var_set3) | (with_reducible apply M.var_set4) | (with_reducible apply M.var_set45) | (with_reducible apply M.var_set67) | (with_reducible apply M.var_setF) | (with_reducible refine M.var_alloc' _ _ _ ?_; first | rfl | (focus (simp [go_sem]; done))) | (with_reducible refine M.Var.alloc ?_ _) | (with_reducible refine M.Var.drewN ?_ _) | (with_reducible refine M.Var.drew ?_) | (with_reducible refine M.Var.far ?_ _ _ ?hFar; case hFar => (first | omega | ((try simp [go_sem]) <;> omega))) | fail))), (by (repeat (first | (with_reducible assumption) | (with_reducible apply M.var_setV) | (with_reducible apply M.var_setI) | (with_reducible apply M.var_setB) | (with_reducible apply M.var_setHt) | (with_reducible apply M.var_setBd) | (with_reducible apply M.var_set2) | (with_reducible apply M.var_set3) | (with_reducible apply M.var_set4) | (with_reducible apply M.var_set45) | (with_reducible apply M.var_set67) | (with_reducible apply M.var_setF) | (with_reducible refine M.var_alloc' _ _ _ ?_; first | rfl | (focus (simp [go_sem]; done))) | (with_reducible refine M.Var.alloc ?_ _) | (with_reducible refine M.Var.drewN ?_ _) | (with_reducible refine M.Var.drew ?_) | (with_reducible refine M.Var.far ?_ _ _ ?hFar; case hFar => (first | omega | ((try simp [go_sem]) <;> omega))) | fail))), trivial⟩) ?_
  clear hK K hTb hTS; intro hTb hTS
  try simp only [Act.put, List.setIfInBounds_toArray, List.set_cons_zero, List.set_cons_succ]
  refine wpTill_take (i := 27) (v := ?_) rfl (by kernel_rfl) (by kernel_rfl) (by kernel_rfl) hTb (fun _ _ _ h => h) (fun _ _ => by simp only [getD_set_ne false (show 27 ≠ 26 by decide), getD_set_ne false (show 27 ≠ 32 by decide)]) (Or.inl ⟨by rfl, ?_⟩) hTS ?_
  rotate_left
  · intro wT hT; clear hT
    go_simp
    all_goals with_reducible rfl
  clear hTb hTS; intro hTb hTS
  try simp only [Act.put, List.setIfInBounds_toArray, List.set_cons_zero, List.set_cons_succ]
  refine wpTill_take (i := 28) (v := ?_) rfl (by kernel_rfl) (by kernel_rfl) (by kernel_rfl) hTb (fun _ _ _ h => h) (fun _ _ => by simp only [getD_set_ne false (show 28 ≠ 26 by decide), getD_set_ne false (show 28 ≠ 32 by decide)]) (Or.inl ⟨by rfl, ?_⟩) hTS ?_
  rotate_left
  · intro wT hT; clear hT
    go_simp
    all_goals with_reducible rfl
  clear hTb hTS; intro hTb hTS
  try simp only [Act.put, List.setIfInBounds_toArray, List.set_cons_zero, List.set_cons_succ]
  refine wpTill_one (i := 29) (by kernel_rfl) rfl hTb (fun K hK => ?_)
  go_simp
  (try go_simp)
  refine hK.out _ _ (Lib.hid ⟨till_gone (by kernel_rfl), (fun _ => by (repeat (first | (with_reducible assumption) | (with_reducible apply M.var_setV) | (with_reducible apply M.var_setI) | (with_reducible apply M.var_setB) | (with_reducible apply M.var_setHt) | (with_reducible apply M.var_setBd) | (with_reducible apply M.var_set2) | (with_reducible apply M.var_set3) | (with_reducible apply M.var_set4) | (with_reducible apply M.var_set45) | (with_reducible apply M.var_set67) | (with_reducible apply M.var_setF) | (with_reducible refine M.var_alloc' _ _ _ ?_; first | rfl | (focus (simp [go_sem]; done))) | (with_reducible refine M.Var.alloc ?_ _) | (with_reducible refine M.Var.drewN ?_ _) | (with_reducible refine M.Var.drew ?_) | (with_reducible refine M.Var.far ?_ _ _ ?hFar; case hFar => (first | omega | ((try simp [go_sem]) <;> omega))) | fail))), (by (repeat (first | (with_reducible assumption) | (with_reducible apply M.var_setV) | (with_reducible apply M.var_setI) | (with_reducible apply M.var_setB) | (with_reducible apply M.var_setHt) | (with_reducible apply M.var_setBd) | (with_reducible apply M.var_set2) | (with_reducible apply M.var_set3) | (with_reducible apply M.var_set4) | (with_reducible apply M.var_set45) | (with_reducible apply M.var_set67) | (with_reducible apply M.var_setF) | (with_reducible refine M.var_alloc' _ _ _ ?_; first | rfl | (focus (simp [go_sem]; done))) | (with_reducible refine M.Var.alloc ?_ _) | (with_reducible refine M.Var.drewN ?_ _) | (with_reducible refine M.Var.drew ?_) | (with_reducible refine M.Var.far ?_ _ _ ?hFar; case hFar => (first | omega | ((try simp [go_sem]) <;> omega))) | fail))), trivial⟩) ?_
  clear hK K hTb hTS; intro hTb hTS
  try simp only [Act.put, List.setIfInBounds_toArray, List.set_cons_zero, List.set_cons_succ]
  refine wpTill_take (i := 30) (v := ?_) rfl (by kernel_rfl) (by kernel_rfl) (by kernel_rfl) hTb (fun _ _ _ h => h) (fun _ _ => by simp only [getD_set_ne false (show 30 ≠ 26 by decide), getD_set_ne false (show 30 ≠ 32 by decide)]) (Or.inl ⟨by rfl, ?_⟩) hTS ?_
  rotate_left
  · intro wT hT; clear hT
    go_simp
    all_goals with_reducible rfl
  clear hTb hTS; intro hTb hTS
  try simp only [Act.put, List.setIfInBounds_toArray, List.set_cons_zero, List.set_cons_succ]
  refine wpTill_take (i := 31) (v := ?_) rfl (by kernel_rfl) (by kernel_rfl) (by kernel_rfl) hTb (fun _ _ _ h => h) (fun _ _ => by simp only [getD_set_ne false (show 31 ≠ 26 by decide), getD_set_ne false (show 31 ≠ 32 by decide)]) (Or.inl ⟨by rfl, ?_⟩) hTS ?_
  rotate_left
  · intro wT hT; clear hT
    go_simp
    all_goals with_reducible rfl
  clear hTb hTS; intro hTb hTS
  try simp only [Act.put, List.setIfInBounds_toArray, List.set_cons_zero, List.set_cons_succ]
  refine wpTill_one (i := 32) (by kernel_rfl) rfl hTb (fun K hK => ?_)
  go_simp
  (try go_simp)
  refine hK.out _ _ (Lib.hid ⟨till_gone (by kernel_rfl), till_gone (by kernel_rfl), (by (repeat (first | (with_reducible assumption) | (with_reducible apply M.var_setV) | (with_reducible apply M.var_setI) | (with_reducible apply M.var_setB) | (with_reducible apply M.var_setHt) | (with_reducible apply M.var_setBd) | (with_reducible apply M.var_set2) | (with_reducible apply M.var_set3) | (with_reducible apply M.var_set4) | (with_reducible apply M.var_set45) | (with_reducible apply M.var_set67) | (with_reducible apply M.var_setF) | (with_reducible refine M.var_alloc' _ _ _ ?_; first | rfl | (focus (simp [go_sem]; done))) | (with_reducible refine M.Var.alloc ?_ _) | (with_reducible refine M.Var.drewN ?_ _) | (with_reducible refine M.Var.drew ?_) | (with_reducible refine M.Var.far ?_ _ _ ?hFar; case hFar => (first | omega | ((try simp [go_sem]) <;> omega))) | fail))), trivial⟩) ?_
  clear hK K hTb hTS; intro hTb hTS
  try simp only [Act.put, List.setIfInBounds_toArray, List.set_cons_zero, List.set_cons_succ]
  refine wpTill_take (i := 33) (v := ?_) rfl (by kernel_rfl) (by kernel_rfl) (by kernel_rfl) hTb (fun _ _ _ h => h) (fun _ _ => by simp only [getD_set_ne false (show 33 ≠ 26 by decide), getD_set_ne false (show 33 ≠ 32 by decide)]) (Or.inl ⟨by rfl, ?_⟩) hTS ?_
  rotate_left
  · intro wT hT; clear hT
    go_simp
    all_goals with_reducible rfl
  clear hTb hTS; intro hTb hTS
  try simp only [Act.put, List.setIfInBounds_toArray, List.set_cons_zero, List.set_cons_succ]
  refine wpTill_take (i := 34) (v := ?_) rfl (by kernel_rfl) (by kernel_rfl) (by kernel_rfl) hTb (fun _ _ _ h => h) (fun _ _ => by simp only [getD_set_ne false (show 34 ≠ 26 by decide), getD_set_ne false (show 34 ≠ 32 by decide)]) (Or.inl ⟨by rfl, ?_⟩) hTS ?_
  rotate_left
  · intro wT hT; clear hT
    go_simp
    all_goals with_reducible rfl
  clear hTb hTS; intro hTb hTS
  try simp only [Act.put, List.setIfInBounds_toArray, List.set_cons_zero, List.set_cons_succ]
  refine wpTill_one (i := 35) (by kernel_rfl) rfl hTb (fun K hK => ?_)
  go_simp
  (try go_simp)
  refine hK.out _ _ (Lib.hid ⟨till_gone (by kernel_rfl), till_gone (by kernel_rfl), (by (repeat (first | (with_reducible assumption) | (with_reducible apply M.var_setV) | (with_reducible apply M.var_setI) | (with_reducible apply M.var_setB) | (with_reducible apply M.var_setHt) | (with_reducible apply M.var_setBd) | (with_reducible apply M.var_set2) | (with_reducible apply M.var_set3) | (with_reducible apply M.var_set4) | (with_reducible apply M.var_set45) | (with_reducible apply M.var_set67) | (with_reducible apply M.var_setF) | (with_reducible refine M.var_alloc' _ _ _ ?_; first | rfl | (focus (simp [go_sem]; done))) | (with_reducible refine M.Var.alloc ?_ _) | (with_reducible refine M.Var.drewN ?_ _) | (with_reducible refine M.Var.drew ?_) | (with_reducible refine M.Var.far ?_ _ _ ?hFar; case hFar => (first | omega | ((try simp [go_sem]) <;> omega))) | fail))), trivial⟩) ?_
  clear hK K hTb hTS; intro hTb hTS
  try simp only [Act.put, List.setIfInBounds_toArray, List.set_cons_zero, List.set_cons_succ]
  refine wpTill_done (by kernel_rfl) ?_ _; clear hTb hTS
  go_wp2_with (with_reducible refine M.stopPost ?_)
  refine (try_c 20 #[.pointer (some ⟨w.heap.size, 0, none⟩), .pointer (some ⟨w.heap.size + 1, 0, none⟩), .pointer (some ⟨w3.heap.size + 1, 0, none⟩), .pointer (some ⟨w3.heap.size + 1 + 1 + 1, 0, none⟩)] _ (0) (usHt (w3.heap.size + 1) (fstX (.ok (q, t))) ++ usB (w3.heap.size + 1 + 1 + 1) (sndX (.ok ((q : Ht), t)))) (fun _ => rfl) ?_ ?_).mono ?_
  · intro u hu; (try simp only [List.mem_append] at hu); (repeat' (obtain hu | hu := (hu : _ ∨ _))); all_goals (first | with_reducible rw [M.cell_block1 hu] | with_reducible rw [M.usBx_block hu] | with_reducible rw [M.usV_block hu] | with_reducible rw [M.usI_block hu] | with_reducible rw [M.usHt_block hu] | with_reducible rw [M.usBd_block hu] | with_reducible rw [M.usB_block hu] | rw [M.cell_block1 hu] | (exfalso; simp at hu; done)); all_goals ((try simp [go_sem]) <;> omega)
  · intro w1' hb; exact (cloHitM2 _ _ _ _ ⟨a.shape, a.sx, a.sy, a.mass, a.px + by_1, a.py + by_2, a.mx, a.my⟩ O1.out ⟨b.shape, b.sx, b.sy, b.mass, b.px + by_1, b.py + by_2, b.mx, b.my⟩ O2.out _ _ _ _ (.ok (q, t)) E2.out w1' (M.Var.mono (b := w.heap.size) (cs := #[.int .i64 a.shape, .int .i64 a.sx, .int .i64 a.sy, .int .i64 a.mass, .int .i64 (a.px + by_1), .int .i64 (a.py + by_2), .int .i64 a.mx, .int .i64 a.my]) (by (repeat (first | (with_reducible assumption) | (with_reducible apply M.var_set45) | (with_reducible refine M.var_alloc' _ _ _ ?_; first | rfl | (simp [go_sem]; done)) | (with_reducible refine M.Var.alloc ?_ _) | (with_reducible refine M.Var.drewN ?_ _) | (with_reducible refine M.Var.drew ?_) | (with_reducible refine M.Var.far ?_ _ _ ?hFar; case hFar => (first | omega | ((try simp [go_sem]) <;> omega))) | fail))) hb) (M.Var.mono (b := w.heap.size + 1) (cs := #[.int .i64 b.shape, .int .i64 b.sx, .int .i64 b.sy, .int .i64 b.mass, .int .i64 (b.px + by_1), .int .i64 (b.py + by_2), .int .i64 b.mx, .int .i64 b.my]) (by (repeat (first | (with_reducible assumption) | (with_reducible apply M.var_set45) | (with_reducible refine M.var_alloc' _ _ _ ?_; first | rfl | (simp [go_sem]; done)) | (with_reducible refine M.Var.alloc ?_ _) | (with_reducible refine M.Var.drewN ?_ _) | (with_reducible refine M.Var.drew ?_) | (with_reducible refine M.Var.far ?_ _ _ ?hFar; case hFar => (first | omega | ((try simp [go_sem]) <;> omega))) | fail))) hb) (M.Var.mono (b := w3.heap.size + 1) (cs := #[.int .i64 0, .int .i64 0, .int .i64 0]) (by (repeat (first | (with_reducible assumption) | (with_reducible apply M.var_set45) | (with_reducible refine M.var_alloc' _ _ _ ?_; first | rfl | (simp [go_sem]; done)) | (with_reducible refine M.Var.alloc ?_ _) | (with_reducible refine M.Var.drewN ?_ _) | (with_reducible refine M.Var.drew ?_) | (with_reducible refine M.Var.far ?_ _ _ ?hFar; case hFar => (first | omega | ((try simp [go_sem]) <;> omega))) | fail))) hb) (M.Var.mono (b := w3.heap.size + 1 + 1 + 1) (cs := #[.bool false]) (by (repeat (first | (with_reducible assumption) | (with_reducible apply M.var_set45) | (with_reducible refine M.var_alloc' _ _ _ ?_; first | rfl | (simp [go_sem]; done)) | (with_reducible refine M.Var.alloc ?_ _) | (with_reducible refine M.Var.drewN ?_ _) | (with_reducible refine M.Var.drew ?_) | (with_reducible refine M.Var.far ?_ _ _ ?hFar; case hFar => (first | omega | ((try simp [go_sem]) <;> omega))) | fail))) hb) (by omega)).mono fun e w' h => h
  rintro en w5 ⟨rfl, hb⟩
  have G5 : Below w.heap.size w w5 := Below.trans (M.below_sets_own (usHt (w3.heap.size + 1) (fstX (.ok (q, t))) ++ usB (w3.heap.size + 1 + 1 + 1) (sndX (.ok ((q : Ht), t)))) (by (repeat (with_reducible refine M.Below.drewN ?_ _)); go_grown) (by intro u hu; (try simp only [List.mem_append] at hu); (repeat' (obtain hu | hu := (hu : _ ∨ _))); all_goals (first | with_reducible rw [M.cell_block1 hu] | with_reducible rw [M.usBx_block hu] | with_reducible rw [M.usV_block hu] | with_reducible rw [M.usI_block hu] | with_reducible rw [M.usHt_block hu] | with_reducible rw [M.usBd_block hu] | with_reducible rw [M.usB_block hu] | rw [M.cell_block1 hu] | (exfalso; simp at hu; done)); all_goals ((try simp [go_sem]) <;> omega))) (hb.mono (by go_size))
  have V5_a : M.Var w5 (w.heap.size) #[.int .i64 a.shape, .int .i64 a.sx, .int .i64 a.sy, .int .i64 a.mass, .int .i64 (a.px + by_1), .int .i64 (a.py + by_2), .int .i64 a.mx, .int .i64 a.my] := M.Var.mono' (u := M.sets _ (usHt (w3.heap.size + 1) (fstX (.ok (q, t))) ++ usB (w3.heap.size + 1 + 1 + 1) (sndX (.ok ((q : Ht), t))))) (by (try simp only [M.sets_append]); exact (M.var_sets_far (usB (w3.heap.size + 1 + 1 + 1) (sndX (.ok ((q : Ht), t)))) (M.var_sets_far (usHt (w3.heap.size + 1) (fstX (.ok (q, t)))) (by (repeat (first | (with_reducible assumption) | (with_reducible apply M.var_set45) | (with_reducible refine M.var_alloc' _ _ _ ?_; first | rfl | (simp [go_sem]; done)) | (with_reducible refine M.Var.alloc ?_ _) | (with_reducible refine M.Var.drewN ?_ _) | (with_reducible refine M.Var.drew ?_) | (with_reducible refine M.Var.far ?_ _ _ ?hFar; case hFar => (first | omega | ((try simp [go_sem]) <;> omega))) | fail)) : M.Var _ (w.heap.size) #[.int .i64 a.shape, .int .i64 a.sx, .int .i64 a.sy, .int .i64 a.mass, .int .i64 (a.px + by_1), .int .i64 (a.py + by_2), .int .i64 a.mx, .int .i64 a.my]) (by intro u hu; all_goals (first | with_reducible rw [M.cell_block1 hu] | with_reducible rw [M.usBx_block hu] | with_reducible rw [M.usV_block hu] | with_reducible rw [M.usI_block hu] | with_reducible rw [M.usHt_block hu] | with_reducible rw [M.usBd_block hu] | with_reducible rw [M.usB_block hu] | rw [M.cell_block1 hu] | (exfalso; simp at hu; done)); all_goals ((try simp [go_sem]) <;> omega))) (by intro u hu; all_goals (first | with_reducible rw [M.cell_block1 hu] | with_reducible rw [M.usBx_block hu] | with_reducible rw [M.usV_block hu] | with_reducible rw [M.usI_block hu] | with_reducible rw [M.usHt_block hu] | with_reducible rw [M.usBd_block hu] | with_reducible rw [M.usB_block hu] | rw [M.cell_block1 hu] | (exfalso; simp at hu; done)); all_goals ((try simp [go_sem]) <;> omega)))) (M.sets_size _ _) hb
  have V5_b : M.Var w5 (w.heap.size + 1) #[.int .i64 b.shape, .int .i64 b.sx, .int .i64 b.sy, .int .i64 b.mass, .int .i64 (b.px + by_1), .int .i64 (b.py + by_2), .int .i64 b.mx, .int .i64 b.my] := M.Var.mono' (u := M.sets _ (usHt (w3.heap.size + 1) (fstX (.ok (q, t))) ++ usB (w3.heap.size + 1 + 1 + 1) (sndX (.ok ((q : Ht), t))))) (by (try simp only [M.sets_append]); exact (M.var_sets_far (usB (w3.heap.size + 1 + 1 + 1) (sndX (.ok ((q : Ht), t)))) (M.var_sets_far (usHt (w3.heap.size + 1) (fstX (.ok (q, t)))) (by (repeat (first | (with_reducible assumption) | (with_reducible apply M.var_set45) | (with_reducible refine M.var_alloc' _ _ _ ?_; first | rfl | (simp [go_sem]; done)) | (with_reducible refine M.Var.alloc ?_ _) | (with_reducible refine M.Var.drewN ?_ _) | (with_reducible refine M.Var.drew ?_) | (with_reducible refine M.Var.far ?_ _ _ ?hFar; case hFar => (first | omega | ((try simp [go_sem]) <;> omega))) | fail)) : M.Var _ (w.heap.size + 1) #[.int .i64 b.shape, .int .i64 b.sx, .int .i64 b.sy, .int .i64 b.mass, .int .i64 (b.px + by_1), .int .i64 (b.py + by_2), .int .i64 b.mx, .int .i64 b.my]) (by intro u hu; all_goals (first | with_reducible rw [M.cell_block1 hu] | with_reducible rw [M.usBx_block hu] | with_reducible rw [M.usV_block hu] | with_reducible rw [M.usI_block hu] | with_reducible rw [M.usHt_block hu] | with_reducible rw [M.usBd_block hu] | with_reducible rw [M.usB_block hu] | rw [M.cell_block1 hu] | (exfalso; simp at hu; done)); all_goals ((try simp [go_sem]) <;> omega))) (by intro u hu; all_goals (first | with_reducible rw [M.cell_block1 hu] | with_reducible rw [M.usBx_block hu] | with_reducible rw [M.usV_block hu] | with_reducible rw [M.usI_block hu] | with_reducible rw [M.usHt_block hu] | with_reducible rw [M.usBd_block hu] | with_reducible rw [M.usB_block hu] | rw [M.cell_block1 hu] | (exfalso; simp at hu; done)); all_goals ((try simp [go_sem]) <;> omega)))) (M.sets_size _ _) hb
  have V5_y : M.Var w5 (w.heap.size + 1 + 1) #[.int .i64 by_1, .int .i64 by_2] := M.Var.mono' (u := M.sets _ (usHt (w3.heap.size + 1) (fstX (.ok (q, t))) ++ usB (w3.heap.size + 1 + 1 + 1) (sndX (.ok ((q : Ht), t))))) (by (try simp only [M.sets_append]); exact (M.var_sets_far (usB (w3.heap.size + 1 + 1 + 1) (sndX (.ok ((q : Ht), t)))) (M.var_sets_far (usHt (w3.heap.size + 1) (fstX (.ok (q, t)))) (by (repeat (first | (with_reducible assumption) | (with_reducible apply M.var_set45) | (with_reducible refine M.var_alloc' _ _ _ ?_; first | rfl | (simp [go_sem]; done)) | (with_reducible refine M.Var.alloc ?_ _) | (with_reducible refine M.Var.drewN ?_ _) | (with_reducible refine M.Var.drew ?_) | (with_reducible refine M.Var.far ?_ _ _ ?hFar; case hFar => (first | omega | ((try simp [go_sem]) <;> omega))) | fail)) : M.Var _ (w.heap.size + 1 + 1) #[.int .i64 by_1, .int .i64 by_2]) (by intro u hu; all_goals (first | with_reducible rw [M.cell_block1 hu] | with_reducible rw [M.usBx_block hu] | with_reducible rw [M.usV_block hu] | with_reducible rw [M.usI_block hu] | with_reducible rw [M.usHt_block hu] | with_reducible rw [M.usBd_block hu] | with_reducible rw [M.usB_block hu] | rw [M.cell_block1 hu] | (exfalso; simp at hu; done)); all_goals ((try simp [go_sem]) <;> omega))) (by intro u hu; all_goals (first | with_reducible rw [M.cell_block1 hu] | with_reducible rw [M.usBx_block hu] | with_reducible rw [M.usV_block hu] | with_reducible rw [M.usI_block hu] | with_reducible rw [M.usHt_block hu] | with_reducible rw [M.usBd_block hu] | with_reducible rw [M.usB_block hu] | rw [M.cell_block1 hu] | (exfalso; simp at hu; done)); all_goals ((try simp [go_sem]) <;> omega)))) (M.sets_size _ _) hb
  have V5_h : M.Var w5 (w3.heap.size) #[.int .i64 q.nx, .int .i64 q.ny, .int .i64 q.d] := M.Var.mono' (u := M.sets _ (usHt (w3.heap.size + 1) (fstX (.ok (q, t))) ++ usB (w3.heap.size + 1 + 1 + 1) (sndX (.ok ((q : Ht), t))))) (by (try simp only [M.sets_append]); exact (M.var_sets_far (usB (w3.heap.size + 1 + 1 + 1) (sndX (.ok ((q : Ht), t)))) (M.var_sets_far (usHt (w3.heap.size + 1) (fstX (.ok (q, t)))) (by (repeat (first | (with_reducible assumption) | (with_reducible apply M.var_set45) | (with_reducible refine M.var_alloc' _ _ _ ?_; first | rfl | (simp [go_sem]; done)) | (with_reducible refine M.Var.alloc ?_ _) | (with_reducible refine M.Var.drewN ?_ _) | (with_reducible refine M.Var.drew ?_) | (with_reducible refine M.Var.far ?_ _ _ ?hFar; case hFar => (first | omega | ((try simp [go_sem]) <;> omega))) | fail)) : M.Var _ (w3.heap.size) #[.int .i64 q.nx, .int .i64 q.ny, .int .i64 q.d]) (by intro u hu; all_goals (first | with_reducible rw [M.cell_block1 hu] | with_reducible rw [M.usBx_block hu] | with_reducible rw [M.usV_block hu] | with_reducible rw [M.usI_block hu] | with_reducible rw [M.usHt_block hu] | with_reducible rw [M.usBd_block hu] | with_reducible rw [M.usB_block hu] | rw [M.cell_block1 hu] | (exfalso; simp at hu; done)); all_goals ((try simp [go_sem]) <;> omega))) (by intro u hu; all_goals (first | with_reducible rw [M.cell_block1 hu] | with_reducible rw [M.usBx_block hu] | with_reducible rw [M.usV_block hu] | with_reducible rw [M.usI_block hu] | with_reducible rw [M.usHt_block hu] | with_reducible rw [M.usBd_block hu] | with_reducible rw [M.usB_block hu] | rw [M.cell_block1 hu] | (exfalso; simp at hu; done)); all_goals ((try simp [go_sem]) <;> omega)))) (M.sets_size _ _) hb
  have V5_g : M.Var w5 (w3.heap.size + 1) #[.int .i64 q.nx, .int .i64 q.ny, .int .i64 q.d] := M.Var.mono' (u := M.sets _ (usHt (w3.heap.size + 1) (fstX (.ok (q, t))) ++ usB (w3.heap.size + 1 + 1 + 1) (sndX (.ok ((q : Ht), t))))) (by (try simp only [M.sets_append]); exact (M.var_sets_far (usB (w3.heap.size + 1 + 1 + 1) (sndX (.ok ((q : Ht), t)))) (M.var_setHt (by (repeat (first | (with_reducible assumption) | (with_reducible apply M.var_set45) | (with_reducible refine M.var_alloc' _ _ _ ?_; first | rfl | (simp [go_sem]; done)) | (with_reducible refine M.Var.alloc ?_ _) | (with_reducible refine M.Var.drewN ?_ _) | (with_reducible refine M.Var.drew ?_) | (with_reducible refine M.Var.far ?_ _ _ ?hFar; case hFar => (first | omega | ((try simp [go_sem]) <;> omega))) | fail)) : M.Var _ (w3.heap.size + 1) #[.int .i64 0, .int .i64 0, .int .i64 0]) _ _ _) (by intro u hu; all_goals (first | with_reducible rw [M.cell_block1 hu] | with_reducible rw [M.usBx_block hu] | with_reducible rw [M.usV_block hu] | with_reducible rw [M.usI_block hu] | with_reducible rw [M.usHt_block hu] | with_reducible rw [M.usBd_block hu] | with_reducible rw [M.usB_block hu] | rw [M.cell_block1 hu] | (exfalso; simp at hu; done)); all_goals ((try simp [go_sem]) <;> omega)))) (M.sets_size _ _) hb
  have V5_p : M.Var w5 (w3.heap.size + 1 + 1) #[.bool t] := M.Var.mono' (u := M.sets _ (usHt (w3.heap.size + 1) (fstX (.ok (q, t))) ++ usB (w3.heap.size + 1 + 1 + 1) (sndX (.ok ((q : Ht), t))))) (by (try simp only [M.sets_append]); exact (M.var_sets_far (usB (w3.heap.size + 1 + 1 + 1) (sndX (.ok ((q : Ht), t)))) (M.var_sets_far (usHt (w3.heap.size + 1) (fstX (.ok (q, t)))) (by (repeat (first | (with_reducible assumption) | (with_reducible apply M.var_set45) | (with_reducible refine M.var_alloc' _ _ _ ?_; first | rfl | (simp [go_sem]; done)) | (with_reducible refine M.Var.alloc ?_ _) | (with_reducible refine M.Var.drewN ?_ _) | (with_reducible refine M.Var.drew ?_) | (with_reducible refine M.Var.far ?_ _ _ ?hFar; case hFar => (first | omega | ((try simp [go_sem]) <;> omega))) | fail)) : M.Var _ (w3.heap.size + 1 + 1) #[.bool t]) (by intro u hu; all_goals (first | with_reducible rw [M.cell_block1 hu] | with_reducible rw [M.usBx_block hu] | with_reducible rw [M.usV_block hu] | with_reducible rw [M.usI_block hu] | with_reducible rw [M.usHt_block hu] | with_reducible rw [M.usBd_block hu] | with_reducible rw [M.usB_block hu] | rw [M.cell_block1 hu] | (exfalso; simp at hu; done)); all_goals ((try simp [go_sem]) <;> omega))) (by intro u hu; all_goals (first | with_reducible rw [M.cell_block1 hu] | with_reducible rw [M.usBx_block hu] | with_reducible rw [M.usV_block hu] | with_reducible rw [M.usI_block hu] | with_reducible rw [M.usHt_block hu] | with_reducible rw [M.usBd_block hu] | with_reducible rw [M.usB_block hu] | rw [M.cell_block1 hu] | (exfalso; simp at hu; done)); all_goals ((try simp [go_sem]) <;> omega)))) (M.sets_size _ _) hb
  have V5_q : M.Var w5 (w3.heap.size + 1 + 1 + 1) #[.bool t] := M.Var.mono' (u := M.sets _ (usHt (w3.heap.size + 1) (fstX (.ok (q, t))) ++ usB (w3.heap.size + 1 + 1 + 1) (sndX (.ok ((q : Ht), t))))) (by (try simp only [M.sets_append]); exact (M.var_setB (M.var_sets_far (usHt (w3.heap.size + 1) (fstX (.ok (q, t)))) (by (repeat (first | (with_reducible assumption) | (with_reducible apply M.var_set45) | (with_reducible refine M.var_alloc' _ _ _ ?_; first | rfl | (simp [go_sem]; done)) | (with_reducible refine M.Var.alloc ?_ _) | (with_reducible refine M.Var.drewN ?_ _) | (with_reducible refine M.Var.drew ?_) | (with_reducible refine M.Var.far ?_ _ _ ?hFar; case hFar => (first | omega | ((try simp [go_sem]) <;> omega))) | fail)) : M.Var _ (w3.heap.size + 1 + 1 + 1) #[.bool false]) (by intro u hu; all_goals (first | with_reducible rw [M.cell_block1 hu] | with_reducible rw [M.usBx_block hu] | with_reducible rw [M.usV_block hu] | with_reducible rw [M.usI_block hu] | with_reducible rw [M.usHt_block hu] | with_reducible rw [M.usBd_block hu] | with_reducible rw [M.usB_block hu] | rw [M.cell_block1 hu] | (exfalso; simp at hu; done)); all_goals ((try simp [go_sem]) <;> omega))) _)) (M.sets_size _ _) hb
  have q5_a_0 : w5.cell? ⟨w.heap.size, 0, none⟩ = some (.int .i64 a.shape) := V5_a.c 0 _ rfl
  have q5_a_1 : w5.cell? ⟨w.heap.size, 1, none⟩ = some (.int .i64 a.sx) := V5_a.c 1 _ rfl
  have q5_a_2 : w5.cell? ⟨w.heap.size, 2, none⟩ = some (.int .i64 a.sy) := V5_a.c 2 _ rfl
  have q5_a_3 : w5.cell? ⟨w.heap.size, 3, none⟩ = some (.int .i64 a.mass) := V5_a.c 3 _ rfl
  have q5_a_4 : w5.cell? ⟨w.heap.size, 4, none⟩ = some (.int .i64 (a.px + by_1)) := V5_a.c 4 _ rfl
  have q5_a_5 : w5.cell? ⟨w.heap.size, 5, none⟩ = some (.int .i64 (a.py + by_2)) := V5_a.c 5 _ rfl
  have q5_a_6 : w5.cell? ⟨w.heap.size, 6, none⟩ = some (.int .i64 a.mx) := V5_a.c 6 _ rfl
  have q5_a_7 : w5.cell? ⟨w.heap.size, 7, none⟩ = some (.int .i64 a.my) := V5_a.c 7 _ rfl
  have f5_a := V5_a.2.2; have L5_a := V5_a.lt; have N5_a := Nat.ne_of_gt L5_a; have M5_a := Nat.ne_of_lt L5_a
  have HV5_a := Lib.hid V5_a
  have q5_b_0 : w5.cell? ⟨w.heap.size + 1, 0, none⟩ = some (.int .i64 b.shape) := V5_b.c 0 _ rfl
  have q5_b_1 : w5.cell? ⟨w.heap.size + 1, 1, none⟩ = some (.int .i64 b.sx) := V5_b.c 1 _ rfl
  have q5_b_2 : w5.cell? ⟨w.heap.size + 1, 2, none⟩ = some (.int .i64 b.sy) := V5_b.c 2 _ rfl
  have q5_b_3 : w5.cell? ⟨w.heap.size + 1, 3, none⟩ = some (.int .i64 b.mass) := V5_b.c 3 _ rfl
  have q5_b_4 : w5.cell? ⟨w.heap.size + 1, 4, none⟩ = some (.int .i64 (b.px + by_1)) := V5_b.c 4 _ rfl
  have q5_b_5 : w5.cell? ⟨w.heap.size + 1, 5, none⟩ = some (.int .i64 (b.py + by_2)) := V5_b.c 5 _ rfl
  have q5_b_6 : w5.cell? ⟨w.heap.size + 1, 6, none⟩ = some (.int .i64 b.mx) := V5_b.c 6 _ rfl
  have q5_b_7 : w5.cell? ⟨w.heap.size + 1, 7, none⟩ = some (.int .i64 b.my) := V5_b.c 7 _ rfl
  have f5_b := V5_b.2.2; have L5_b := V5_b.lt; have N5_b := Nat.ne_of_gt L5_b; have M5_b := Nat.ne_of_lt L5_b
  have HV5_b := Lib.hid V5_b
  have q5_y_0 : w5.cell? ⟨w.heap.size + 1 + 1, 0, none⟩ = some (.int .i64 by_1) := V5_y.c 0 _ rfl
  have q5_y_1 : w5.cell? ⟨w.heap.size + 1 + 1, 1, none⟩ = some (.int .i64 by_2) := V5_y.c 1 _ rfl
  have f5_y := V5_y.2.2; have L5_y := V5_y.lt; have N5_y := Nat.ne_of_gt L5_y; have M5_y := Nat.ne_of_lt L5_y
  have HV5_y := Lib.hid V5_y
  have q5_h_0 : w5.cell? ⟨w3.heap.size, 0, none⟩ = some (.int .i64 q.nx) := V5_h.c 0 _ rfl
  have q5_h_1 : w5.cell? ⟨w3.heap.size, 1, none⟩ = some (.int .i64 q.ny) := V5_h.c 1 _ rfl
  have q5_h_2 : w5.cell? ⟨w3.heap.size, 2, none⟩ = some (.int .i64 q.d) := V5_h.c 2 _ rfl
  have f5_h := V5_h.2.2; have L5_h := V5_h.lt; have N5_h := Nat.ne_of_gt L5_h; have M5_h := Nat.ne_of_lt L5_h
  have HV5_h := Lib.hid V5_h
  have q5_g_0 : w5.cell? ⟨w3.heap.size + 1, 0, none⟩ = some (.int .i64 q.nx) := V5_g.c 0 _ rfl
  have q5_g_1 : w5.cell? ⟨w3.heap.size + 1, 1, none⟩ = some (.int .i64 q.ny) := V5_g.c 1 _ rfl
  have q5_g_2 : w5.cell? ⟨w3.heap.size + 1, 2, none⟩ = some (.int .i64 q.d) := V5_g.c 2 _ rfl
  have f5_g := V5_g.2.2; have L5_g := V5_g.lt; have N5_g := Nat.ne_of_gt L5_g; have M5_g := Nat.ne_of_lt L5_g
  have HV5_g := Lib.hid V5_g
  have q5_p_0 : w5.cell? ⟨w3.heap.size + 1 + 1, 0, none⟩ = some (.bool t) := V5_p.c 0 _ rfl
  have f5_p := V5_p.2.2; have L5_p := V5_p.lt; have N5_p := Nat.ne_of_gt L5_p; have M5_p := Nat.ne_of_lt L5_p
  have HV5_p := Lib.hid V5_p
  have q5_q_0 : w5.cell? ⟨w3.heap.size + 1 + 1 + 1, 0, none⟩ = some (.bool t) := V5_q.c 0 _ rfl
  have f5_q := V5_q.2.2; have L5_q := V5_q.lt; have N5_q := Nat.ne_of_gt L5_q; have M5_q := Nat.ne_of_lt L5_q
  have HV5_q := Lib.hid V5_q
  have S5 := G5.size; clear hb
  go_wp2_with fail
  go_ret
  exact ⟨rfl, by (repeat (with_reducible refine M.Below.drewN ?_ _)); go_grown⟩

theorem lifted (os : Os) (started : os.Started) (H : Type) (enc : TypeId × Value → H) :
    ReturnsInHanded {} Try.checked os 3 .any (Rows.touchMovesSpec.pre6 enc Try.prog Try.f3 Rows.touchMovesRow.domain false) (Rows.touchMovesSpec.post enc Try.prog Try.f3 false true false false) := by
  refine returnsInHanded_of_change (C := Try.checked) own started (by kernel_rfl) Try.func3
    (ChangeSpec.witness6 (enc := enc) (C := Try.checked) false ⟨#[], #[.agg #[.int .i64 0, .int .i64 0, .int .i64 0, .int .i64 0, .int .i64 0, .int .i64 0, .int .i64 0, .int .i64 0], .agg #[.int .i64 0, .int .i64 0, .int .i64 0, .int .i64 0, .int .i64 0, .int .i64 0, .int .i64 0, .int .i64 0], .agg #[.int .i64 0, .int .i64 0]], []⟩ 8 (by kernel_rfl) (by kernel_rfl) (by kernel_rfl) (by kernel_rfl)) ?_
  intro W base args ds gs before hval0 hW hcnd _
  have hval : ∀ (j : Nat) t v, Try.f3.params[j]? = some t → args[j]? = some v → Value.okWide Try.prog W .any base t v := hval0
  have hW' := hW
  obtain ⟨p, q, hA0, hV, rfl, hfz, hnd⟩ := hW
  have hA : DataW.TrodAll enc Try.prog W 0 (fun _ => true) true Try.f3.params.toList args.toList ds p := hA0
  rw [Try.params3] at hA hval
  obtain ⟨v0, vs0, d0, ds0, p0, q0, hargs, rfl, rfl, h0, r0⟩ := trodAll_cons hA
  obtain ⟨v1, vs1, d1, ds1, p1, q1, rfl, rfl, rfl, h1, r1⟩ := trodAll_cons r0
  obtain ⟨v2, vs2, d2, ds2, p2, q2, rfl, rfl, rfl, h2, r2⟩ := trodAll_cons r1
  obtain ⟨rfl, rfl, rfl⟩ := trodAll_nil r2
  obtain rfl : args = #[v0, v1, v2] := by cases args; simp_all
  obtain ⟨rfl, rfl⟩ := trodVars_none hV
  obtain ⟨a, rfl, rfl, rfl, wa⟩ := open_body (hval 0 26 v0 rfl rfl) h0
  obtain ⟨b, rfl, rfl, rfl, wb⟩ := open_body (hval 1 26 v1 rfl rfl) h1
  obtain ⟨by_1, by_2, rfl, rfl, rfl, wby_1, wby_2⟩ := open_vec (hval 2 24 v2 rfl rfl) h2
  clear hA0 hval0
  simp only [List.append_nil] at hW'
  refine (walk W a wa.ok b wb.ok by_1 by_2 (i64_wf wby_1) (i64_wf wby_2)).mono fun e W' ⟨he, hg⟩ => ?_
  subst he
  exact ⟨_, rfl, post_below (pa := []) (pv := []) hW' (fun _ _ _ => (trodAll_cons_mk (shut_bool Try.underlying4 _) trodAll_mk0)) (fun sp hsp => (trodAll_cons_mk (shut_body wa) (trodAll_cons_mk (shut_body wb) (trodAll_cons_mk (shut_vec wby_1 wby_2) trodAll_mk0)))) (fun _ _ => rfl) rfl
    hg (ok_one (by kernel_rfl) rfl (okWide_bool_mk Try.underlying4 _))⟩

theorem closed : joinedFacts Try.prog 3 Try.f3 Rows.touchMovesSpec Rows.touchMovesRow = true := by
  unfold joinedFacts
  rw [fact_laid, fact_maps, fact_keys, fact_heard, fact_stops, fact_knobs, fact_enter, fact_lifts, fact_make]
  kernel_rfl

theorem over : Rows.touchMovesRow.holds Try.pinned (OpenSpec.ofChange Rows.touchMovesSpec) :=
  OpenClaim.holds_of_wide 3 Try.f3 rfl rfl rfl rfl rfl rfl rfl ⟨rfl, rfl, rfl, rfl, rfl⟩ rfl rfl rfl rfl rfl (by kernel_rfl) Try.func3 closed
    (of_decide_eq_true (by kernel_rfl)) (by unfold Func.isWrapper; first | (rw [if_pos (by decide +kernel)]; kernel_rfl) | (rw [if_neg (by decide +kernel)]; exact ⟨rfl, rfl⟩))
    (fun os started H enc _ => lifted os started H enc)

/-- The statement. -/
theorem proved : Rows.TouchMovesSaid :=
  over
#print axioms proved
end Go.Proofs.Ytcaibieaobhheaa.touchMoves
