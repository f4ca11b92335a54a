/- For every two bodies TouchBoth returns true: two bodies that may be touch one another just if the boxes around them meet, for crates; balls touch only where they do. -/
import Derived.Test.YtcaibieaobhheaaRows
import Derived.WalkKit
import Derived.ProofKit
import Derived.OpenShut
import Derived.Test.YtcaibieaobhheaaFacts
import Derived.Test.YtcaibieaobhheaaArgs
import Derived.Test.YtcaibieaobhheaaRefRight
import Derived.Test.YtcaibieaobhheaaRefBounds
import Derived.Test.YtcaibieaobhheaaCloT
import Derived.Test.YtcaibieaobhheaaTouchAlive
import Derived.Deep.Cut
import Derived.Deep.RegionHeld2
import Derived.Deep.DrawnRows
namespace Go.Proofs.Ytcaibieaobhheaa.touchBoth
open Go.ChangeShapes Go.WideShapes Go.ChangeAt Go.RowKit M
set_option maxRecDepth 100000
set_option maxHeartbeats 8000000
set_option linter.unusedVariables false
set_option linter.unusedSimpArgs false
attribute [local go_sem ↓] Go.wp_at_zero Go.wp_at_succ
theorem own : ownKnob Try.prog.godebug = none := by kernel_rfl
theorem bounds_ok (b : Bd) (hb : b.ok) (X : Bx) (e : boxX b = .ok X) (pb : Nat) (w : World) (hp : Var w pb #[.int .i64 0]) :
    Calls Try.prog 21 #[.pointer (some ⟨pb, 0, none⟩), .agg #[.int .i64 b.shape, .int .i64 b.sx, .int .i64 b.sy, .int .i64 b.mass, .int .i64 b.px, .int .i64 b.py, .int .i64 b.mx, .int .i64 b.my]] w fun en w' => en = .returned (.agg #[.int .i64 X.lx, .int .i64 X.ly, .int .i64 X.hx, .int .i64 X.hy]) ∧ Bw w w' := by
  have hc : PCell w pb 0 := ⟨hp.lt, hp.c 0 _ rfl, hp.2.2 0⟩
  refine (refBounds_x pb 0 b hb w hc).mono ?_
  rintro en w' ⟨q, e', rfl, _, hr, hw⟩
  rw [e] at hr
  rcases hr with ⟨h0, _⟩ | ⟨_, rfl, h1⟩ | ⟨_, _, h1⟩
  · exact absurd rfl h0
  · obtain rfl := Except.ok.inj h1
    unfold RW at hw
    rw [setCell_self hc.2.1] at hw
    exact ⟨rfl, hw⟩
  · cases h1
/-- The walk: the Go text returns true; of what was there nothing turns. -/
theorem walk (w : World) (a : Bd) (ha : a.ok) (b : Bd) (hb : b.ok) :
    Calls Try.prog 4 #[.agg #[.int .i64 a.shape, .int .i64 a.sx, .int .i64 a.sy, .int .i64 a.mass, .int .i64 a.px, .int .i64 a.py, .int .i64 a.mx, .int .i64 a.my], .agg #[.int .i64 b.shape, .int .i64 b.sx, .int .i64 b.sy, .int .i64 b.mass, .int .i64 b.px, .int .i64 b.py, .int .i64 b.mx, .int .i64 b.my]] w fun e w' => e = .returned (.bool true) ∧ Bw w w' := by
  have c0 := Lib.hid alive10_c
  have hB := hb
  have c1 := refRight_x a
  have c2 := refRight_x b
  have l1 := fun h : rightB a = true => lo_of_right h
  have l2 := fun h : rightB b = true => lo_of_right h
  have s1 := fun h : rightB a = true => rightB_spec h
  have s2 := fun h : rightB b = true => rightB_spec h
  generalize rightB a = R1 at *
  generalize rightB b = R2 at *
  cases R1
  · have C1 := Lib.hid c1
    clear c1 c2 l1 l2 s1 s2
    go_enter Try.func4, Try.ntmps4
    go_wp2_with fail
    (with_reducible refine (C1.out _).mono ?_); rintro en w1 ⟨rfl, hb⟩
    have G1 : Below w.heap.size w w1 := Below.trans (by (repeat (with_reducible refine M.Below.drewN ?_ _)); go_grown) (hb.mono (by go_size))
    have V1_a : M.Var w1 (w.heap.size) #[.int .i64 a.shape, .int .i64 a.sx, .int .i64 a.sy, .int .i64 a.mass, .int .i64 a.px, .int .i64 a.py, .int .i64 a.mx, .int .i64 a.my] := M.Var.mono (by (repeat (first | (with_reducible assumption) | (with_reducible apply M.var_set45) | (with_reducible refine M.var_alloc' _ _ _ ?_; first | rfl | (simp [go_sem]; done)) | (with_reducible refine M.Var.alloc ?_ _) | (with_reducible refine M.Var.drewN ?_ _) | (with_reducible refine M.Var.drew ?_) | (with_reducible refine M.Var.far ?_ _ _ ?hFar; case hFar => (first | omega | ((try simp [go_sem]) <;> omega))) | fail))) hb
    have V1_b : M.Var w1 (w.heap.size + 1) #[.int .i64 b.shape, .int .i64 b.sx, .int .i64 b.sy, .int .i64 b.mass, .int .i64 b.px, .int .i64 b.py, .int .i64 b.mx, .int .i64 b.my] := M.Var.mono (by (repeat (first | (with_reducible assumption) | (with_reducible apply M.var_set45) | (with_reducible refine M.var_alloc' _ _ _ ?_; first | rfl | (simp [go_sem]; done)) | (with_reducible refine M.Var.alloc ?_ _) | (with_reducible refine M.Var.drewN ?_ _) | (with_reducible refine M.Var.drew ?_) | (with_reducible refine M.Var.far ?_ _ _ ?hFar; case hFar => (first | omega | ((try simp [go_sem]) <;> omega))) | fail))) hb
    have q1_a_0 : w1.cell? ⟨w.heap.size, 0, none⟩ = some (.int .i64 a.shape) := V1_a.c 0 _ rfl
    have q1_a_1 : w1.cell? ⟨w.heap.size, 1, none⟩ = some (.int .i64 a.sx) := V1_a.c 1 _ rfl
    have q1_a_2 : w1.cell? ⟨w.heap.size, 2, none⟩ = some (.int .i64 a.sy) := V1_a.c 2 _ rfl
    have q1_a_3 : w1.cell? ⟨w.heap.size, 3, none⟩ = some (.int .i64 a.mass) := V1_a.c 3 _ rfl
    have q1_a_4 : w1.cell? ⟨w.heap.size, 4, none⟩ = some (.int .i64 a.px) := V1_a.c 4 _ rfl
    have q1_a_5 : w1.cell? ⟨w.heap.size, 5, none⟩ = some (.int .i64 a.py) := V1_a.c 5 _ rfl
    have q1_a_6 : w1.cell? ⟨w.heap.size, 6, none⟩ = some (.int .i64 a.mx) := V1_a.c 6 _ rfl
    have q1_a_7 : w1.cell? ⟨w.heap.size, 7, none⟩ = some (.int .i64 a.my) := V1_a.c 7 _ rfl
    have f1_a := V1_a.2.2; have L1_a := V1_a.lt; have N1_a := Nat.ne_of_gt L1_a; have M1_a := Nat.ne_of_lt L1_a
    have HV1_a := Lib.hid V1_a
    have q1_b_0 : w1.cell? ⟨w.heap.size + 1, 0, none⟩ = some (.int .i64 b.shape) := V1_b.c 0 _ rfl
    have q1_b_1 : w1.cell? ⟨w.heap.size + 1, 1, none⟩ = some (.int .i64 b.sx) := V1_b.c 1 _ rfl
    have q1_b_2 : w1.cell? ⟨w.heap.size + 1, 2, none⟩ = some (.int .i64 b.sy) := V1_b.c 2 _ rfl
    have q1_b_3 : w1.cell? ⟨w.heap.size + 1, 3, none⟩ = some (.int .i64 b.mass) := V1_b.c 3 _ rfl
    have q1_b_4 : w1.cell? ⟨w.heap.size + 1, 4, none⟩ = some (.int .i64 b.px) := V1_b.c 4 _ rfl
    have q1_b_5 : w1.cell? ⟨w.heap.size + 1, 5, none⟩ = some (.int .i64 b.py) := V1_b.c 5 _ rfl
    have q1_b_6 : w1.cell? ⟨w.heap.size + 1, 6, none⟩ = some (.int .i64 b.mx) := V1_b.c 6 _ rfl
    have q1_b_7 : w1.cell? ⟨w.heap.size + 1, 7, none⟩ = some (.int .i64 b.my) := V1_b.c 7 _ rfl
    have f1_b := V1_b.2.2; have L1_b := V1_b.lt; have N1_b := Nat.ne_of_gt L1_b; have M1_b := Nat.ne_of_lt L1_b
    have HV1_b := Lib.hid V1_b
    have S1 := G1.size; clear hb
    go_wp2_with fail
    (with_reducible refine (c0.out _).mono ?_); rintro en w2 ⟨rfl, hb⟩
    have G2 : Below w.heap.size w w2 := Below.trans (by (repeat (with_reducible refine M.Below.drewN ?_ _)); go_grown) (hb.mono (by go_size))
    have V2_a : M.Var w2 (w.heap.size) #[.int .i64 a.shape, .int .i64 a.sx, .int .i64 a.sy, .int .i64 a.mass, .int .i64 a.px, .int .i64 a.py, .int .i64 a.mx, .int .i64 a.my] := M.Var.mono (by (repeat (first | (with_reducible assumption) | (with_reducible apply M.var_set45) | (with_reducible refine M.var_alloc' _ _ _ ?_; first | rfl | (simp [go_sem]; done)) | (with_reducible refine M.Var.alloc ?_ _) | (with_reducible refine M.Var.drewN ?_ _) | (with_reducible refine M.Var.drew ?_) | (with_reducible refine M.Var.far ?_ _ _ ?hFar; case hFar => (first | omega | ((try simp [go_sem]) <;> omega))) | fail))) hb
    have V2_b : M.Var w2 (w.heap.size + 1) #[.int .i64 b.shape, .int .i64 b.sx, .int .i64 b.sy, .int .i64 b.mass, .int .i64 b.px, .int .i64 b.py, .int .i64 b.mx, .int .i64 b.my] := M.Var.mono (by (repeat (first | (with_reducible assumption) | (with_reducible apply M.var_set45) | (with_reducible refine M.var_alloc' _ _ _ ?_; first | rfl | (simp [go_sem]; done)) | (with_reducible refine M.Var.alloc ?_ _) | (with_reducible refine M.Var.drewN ?_ _) | (with_reducible refine M.Var.drew ?_) | (with_reducible refine M.Var.far ?_ _ _ ?hFar; case hFar => (first | omega | ((try simp [go_sem]) <;> omega))) | fail))) hb
    have q2_a_0 : w2.cell? ⟨w.heap.size, 0, none⟩ = some (.int .i64 a.shape) := V2_a.c 0 _ rfl
    have q2_a_1 : w2.cell? ⟨w.heap.size, 1, none⟩ = some (.int .i64 a.sx) := V2_a.c 1 _ rfl
    have q2_a_2 : w2.cell? ⟨w.heap.size, 2, none⟩ = some (.int .i64 a.sy) := V2_a.c 2 _ rfl
    have q2_a_3 : w2.cell? ⟨w.heap.size, 3, none⟩ = some (.int .i64 a.mass) := V2_a.c 3 _ rfl
    have q2_a_4 : w2.cell? ⟨w.heap.size, 4, none⟩ = some (.int .i64 a.px) := V2_a.c 4 _ rfl
    have q2_a_5 : w2.cell? ⟨w.heap.size, 5, none⟩ = some (.int .i64 a.py) := V2_a.c 5 _ rfl
    have q2_a_6 : w2.cell? ⟨w.heap.size, 6, none⟩ = some (.int .i64 a.mx) := V2_a.c 6 _ rfl
    have q2_a_7 : w2.cell? ⟨w.heap.size, 7, none⟩ = some (.int .i64 a.my) := V2_a.c 7 _ rfl
    have f2_a := V2_a.2.2; have L2_a := V2_a.lt; have N2_a := Nat.ne_of_gt L2_a; have M2_a := Nat.ne_of_lt L2_a
    have HV2_a := Lib.hid V2_a
    have q2_b_0 : w2.cell? ⟨w.heap.size + 1, 0, none⟩ = some (.int .i64 b.shape) := V2_b.c 0 _ rfl
    have q2_b_1 : w2.cell? ⟨w.heap.size + 1, 1, none⟩ = some (.int .i64 b.sx) := V2_b.c 1 _ rfl
    have q2_b_2 : w2.cell? ⟨w.heap.size + 1, 2, none⟩ = some (.int .i64 b.sy) := V2_b.c 2 _ rfl
    have q2_b_3 : w2.cell? ⟨w.heap.size + 1, 3, none⟩ = some (.int .i64 b.mass) := V2_b.c 3 _ rfl
    have q2_b_4 : w2.cell? ⟨w.heap.size + 1, 4, none⟩ = some (.int .i64 b.px) := V2_b.c 4 _ rfl
    have q2_b_5 : w2.cell? ⟨w.heap.size + 1, 5, none⟩ = some (.int .i64 b.py) := V2_b.c 5 _ rfl
    have q2_b_6 : w2.cell? ⟨w.heap.size + 1, 6, none⟩ = some (.int .i64 b.mx) := V2_b.c 6 _ rfl
    have q2_b_7 : w2.cell? ⟨w.heap.size + 1, 7, none⟩ = some (.int .i64 b.my) := V2_b.c 7 _ rfl
    have f2_b := V2_b.2.2; have L2_b := V2_b.lt; have N2_b := Nat.ne_of_gt L2_b; have M2_b := Nat.ne_of_lt L2_b
    have HV2_b := Lib.hid V2_b
    have S2 := G2.size; clear hb
    go_wp2_with fail
    go_ret
    exact ⟨rfl, by (repeat (with_reducible refine M.Below.drewN ?_ _)); go_grown⟩
  cases R2
  · have C1 := Lib.hid c1; have C2 := Lib.hid c2
    clear c1 c2 l1 l2 s1 s2
    go_enter Try.func4, Try.ntmps4
    go_wp2_with fail
    (with_reducible refine (C1.out _).mono ?_); rintro en w1 ⟨rfl, hb⟩
    have G1 : Below w.heap.size w w1 := Below.trans (by (repeat (with_reducible refine M.Below.drewN ?_ _)); go_grown) (hb.mono (by go_size))
    have V1_a : M.Var w1 (w.heap.size) #[.int .i64 a.shape, .int .i64 a.sx, .int .i64 a.sy, .int .i64 a.mass, .int .i64 a.px, .int .i64 a.py, .int .i64 a.mx, .int .i64 a.my] := M.Var.mono (by (repeat (first | (with_reducible assumption) | (with_reducible apply M.var_set45) | (with_reducible refine M.var_alloc' _ _ _ ?_; first | rfl | (simp [go_sem]; done)) | (with_reducible refine M.Var.alloc ?_ _) | (with_reducible refine M.Var.drewN ?_ _) | (with_reducible refine M.Var.drew ?_) | (with_reducible refine M.Var.far ?_ _ _ ?hFar; case hFar => (first | omega | ((try simp [go_sem]) <;> omega))) | fail))) hb
    have V1_b : M.Var w1 (w.heap.size + 1) #[.int .i64 b.shape, .int .i64 b.sx, .int .i64 b.sy, .int .i64 b.mass, .int .i64 b.px, .int .i64 b.py, .int .i64 b.mx, .int .i64 b.my] := M.Var.mono (by (repeat (first | (with_reducible assumption) | (with_reducible apply M.var_set45) | (with_reducible refine M.var_alloc' _ _ _ ?_; first | rfl | (simp [go_sem]; done)) | (with_reducible refine M.Var.alloc ?_ _) | (with_reducible refine M.Var.drewN ?_ _) | (with_reducible refine M.Var.drew ?_) | (with_reducible refine M.Var.far ?_ _ _ ?hFar; case hFar => (first | omega | ((try simp [go_sem]) <;> omega))) | fail))) hb
    have q1_a_0 : w1.cell? ⟨w.heap.size, 0, none⟩ = some (.int .i64 a.shape) := V1_a.c 0 _ rfl
    have q1_a_1 : w1.cell? ⟨w.heap.size, 1, none⟩ = some (.int .i64 a.sx) := V1_a.c 1 _ rfl
    have q1_a_2 : w1.cell? ⟨w.heap.size, 2, none⟩ = some (.int .i64 a.sy) := V1_a.c 2 _ rfl
    have q1_a_3 : w1.cell? ⟨w.heap.size, 3, none⟩ = some (.int .i64 a.mass) := V1_a.c 3 _ rfl
    have q1_a_4 : w1.cell? ⟨w.heap.size, 4, none⟩ = some (.int .i64 a.px) := V1_a.c 4 _ rfl
    have q1_a_5 : w1.cell? ⟨w.heap.size, 5, none⟩ = some (.int .i64 a.py) := V1_a.c 5 _ rfl
    have q1_a_6 : w1.cell? ⟨w.heap.size, 6, none⟩ = some (.int .i64 a.mx) := V1_a.c 6 _ rfl
    have q1_a_7 : w1.cell? ⟨w.heap.size, 7, none⟩ = some (.int .i64 a.my) := V1_a.c 7 _ rfl
    have f1_a := V1_a.2.2; have L1_a := V1_a.lt; have N1_a := Nat.ne_of_gt L1_a; have M1_a := Nat.ne_of_lt L1_a
    have HV1_a := Lib.hid V1_a
    have q1_b_0 : w1.cell? ⟨w.heap.size + 1, 0, none⟩ = some (.int .i64 b.shape) := V1_b.c 0 _ rfl
    have q1_b_1 : w1.cell? ⟨w.heap.size + 1, 1, none⟩ = some (.int .i64 b.sx) := V1_b.c 1 _ rfl
    have q1_b_2 : w1.cell? ⟨w.heap.size + 1, 2, none⟩ = some (.int .i64 b.sy) := V1_b.c 2 _ rfl
    have q1_b_3 : w1.cell? ⟨w.heap.size + 1, 3, none⟩ = some (.int .i64 b.mass) := V1_b.c 3 _ rfl
    have q1_b_4 : w1.cell? ⟨w.heap.size + 1, 4, none⟩ = some (.int .i64 b.px) := V1_b.c 4 _ rfl
    have q1_b_5 : w1.cell? ⟨w.heap.size + 1, 5, none⟩ = some (.int .i64 b.py) := V1_b.c 5 _ rfl
    have q1_b_6 : w1.cell? ⟨w.heap.size + 1, 6, none⟩ = some (.int .i64 b.mx) := V1_b.c 6 _ rfl
    have q1_b_7 : w1.cell? ⟨w.heap.size + 1, 7, none⟩ = some (.int .i64 b.my) := V1_b.c 7 _ rfl
    have f1_b := V1_b.2.2; have L1_b := V1_b.lt; have N1_b := Nat.ne_of_gt L1_b; have M1_b := Nat.ne_of_lt L1_b
    have HV1_b := Lib.hid V1_b
    have S1 := G1.size; clear hb
    go_wp2_with fail
    (with_reducible refine (C2.out _).mono ?_); rintro en w2 ⟨rfl, hb⟩
    have G2 : Below w.heap.size w w2 := Below.trans (by (repeat (with_reducible refine M.Below.drewN ?_ _)); go_grown) (hb.mono (by go_size))
    have V2_a : M.Var w2 (w.heap.size) #[.int .i64 a.shape, .int .i64 a.sx, .int .i64 a.sy, .int .i64 a.mass, .int .i64 a.px, .int .i64 a.py, .int .i64 a.mx, .int .i64 a.my] := M.Var.mono (by (repeat (first | (with_reducible assumption) | (with_reducible apply M.var_set45) | (with_reducible refine M.var_alloc' _ _ _ ?_; first | rfl | (simp [go_sem]; done)) | (with_reducible refine M.Var.alloc ?_ _) | (with_reducible refine M.Var.drewN ?_ _) | (with_reducible refine M.Var.drew ?_) | (with_reducible refine M.Var.far ?_ _ _ ?hFar; case hFar => (first | omega | ((try simp [go_sem]) <;> omega))) | fail))) hb
    have V2_b : M.Var w2 (w.heap.size + 1) #[.int .i64 b.shape, .int .i64 b.sx, .int .i64 b.sy, .int .i64 b.mass, .int .i64 b.px, .int .i64 b.py, .int .i64 b.mx, .int .i64 b.my] := M.Var.mono (by (repeat (first | (with_reducible assumption) | (with_reducible apply M.var_set45) | (with_reducible refine M.var_alloc' _ _ _ ?_; first | rfl | (simp [go_sem]; done)) | (with_reducible refine M.Var.alloc ?_ _) | (with_reducible refine M.Var.drewN ?_ _) | (with_reducible refine M.Var.drew ?_) | (with_reducible refine M.Var.far ?_ _ _ ?hFar; case hFar => (first | omega | ((try simp [go_sem]) <;> omega))) | fail))) hb
    have q2_a_0 : w2.cell? ⟨w.heap.size, 0, none⟩ = some (.int .i64 a.shape) := V2_a.c 0 _ rfl
    have q2_a_1 : w2.cell? ⟨w.heap.size, 1, none⟩ = some (.int .i64 a.sx) := V2_a.c 1 _ rfl
    have q2_a_2 : w2.cell? ⟨w.heap.size, 2, none⟩ = some (.int .i64 a.sy) := V2_a.c 2 _ rfl
    have q2_a_3 : w2.cell? ⟨w.heap.size, 3, none⟩ = some (.int .i64 a.mass) := V2_a.c 3 _ rfl
    have q2_a_4 : w2.cell? ⟨w.heap.size, 4, none⟩ = some (.int .i64 a.px) := V2_a.c 4 _ rfl
    have q2_a_5 : w2.cell? ⟨w.heap.size, 5, none⟩ = some (.int .i64 a.py) := V2_a.c 5 _ rfl
    have q2_a_6 : w2.cell? ⟨w.heap.size, 6, none⟩ = some (.int .i64 a.mx) := V2_a.c 6 _ rfl
    have q2_a_7 : w2.cell? ⟨w.heap.size, 7, none⟩ = some (.int .i64 a.my) := V2_a.c 7 _ rfl
    have f2_a := V2_a.2.2; have L2_a := V2_a.lt; have N2_a := Nat.ne_of_gt L2_a; have M2_a := Nat.ne_of_lt L2_a
    have HV2_a := Lib.hid V2_a
    have q2_b_0 : w2.cell? ⟨w.heap.size + 1, 0, none⟩ = some (.int .i64 b.shape) := V2_b.c 0 _ rfl
    have q2_b_1 : w2.cell? ⟨w.heap.size + 1, 1, none⟩ = some (.int .i64 b.sx) := V2_b.c 1 _ rfl
    have q2_b_2 : w2.cell? ⟨w.heap.size + 1, 2, none⟩ = some (.int .i64 b.sy) := V2_b.c 2 _ rfl
    have q2_b_3 : w2.cell? ⟨w.heap.size + 1, 3, none⟩ = some (.int .i64 b.mass) := V2_b.c 3 _ rfl
    have q2_b_4 : w2.cell? ⟨w.heap.size + 1, 4, none⟩ = some (.int .i64 b.px) := V2_b.c 4 _ rfl
    have q2_b_5 : w2.cell? ⟨w.heap.size + 1, 5, none⟩ = some (.int .i64 b.py) := V2_b.c 5 _ rfl
    have q2_b_6 : w2.cell? ⟨w.heap.size + 1, 6, none⟩ = some (.int .i64 b.mx) := V2_b.c 6 _ rfl
    have q2_b_7 : w2.cell? ⟨w.heap.size + 1, 7, none⟩ = some (.int .i64 b.my) := V2_b.c 7 _ rfl
    have f2_b := V2_b.2.2; have L2_b := V2_b.lt; have N2_b := Nat.ne_of_gt L2_b; have M2_b := Nat.ne_of_lt L2_b
    have HV2_b := Lib.hid V2_b
    have S2 := G2.size; clear hb
    go_wp2_with fail
    (with_reducible refine (c0.out _).mono ?_); rintro en w3 ⟨rfl, hb⟩
    have G3 : Below w.heap.size w w3 := Below.trans (by (repeat (with_reducible refine M.Below.drewN ?_ _)); go_grown) (hb.mono (by go_size))
    have V3_a : M.Var w3 (w.heap.size) #[.int .i64 a.shape, .int .i64 a.sx, .int .i64 a.sy, .int .i64 a.mass, .int .i64 a.px, .int .i64 a.py, .int .i64 a.mx, .int .i64 a.my] := M.Var.mono (by (repeat (first | (with_reducible assumption) | (with_reducible apply M.var_set45) | (with_reducible refine M.var_alloc' _ _ _ ?_; first | rfl | (simp [go_sem]; done)) | (with_reducible refine M.Var.alloc ?_ _) | (with_reducible refine M.Var.drewN ?_ _) | (with_reducible refine M.Var.drew ?_) | (with_reducible refine M.Var.far ?_ _ _ ?hFar; case hFar => (first | omega | ((try simp [go_sem]) <;> omega))) | fail))) hb
    have V3_b : M.Var w3 (w.heap.size + 1) #[.int .i64 b.shape, .int .i64 b.sx, .int .i64 b.sy, .int .i64 b.mass, .int .i64 b.px, .int .i64 b.py, .int .i64 b.mx, .int .i64 b.my] := M.Var.mono (by (repeat (first | (with_reducible assumption) | (with_reducible apply M.var_set45) | (with_reducible refine M.var_alloc' _ _ _ ?_; first | rfl | (simp [go_sem]; done)) | (with_reducible refine M.Var.alloc ?_ _) | (with_reducible refine M.Var.drewN ?_ _) | (with_reducible refine M.Var.drew ?_) | (with_reducible refine M.Var.far ?_ _ _ ?hFar; case hFar => (first | omega | ((try simp [go_sem]) <;> omega))) | fail))) hb
    have q3_a_0 : w3.cell? ⟨w.heap.size, 0, none⟩ = some (.int .i64 a.shape) := V3_a.c 0 _ rfl
    have q3_a_1 : w3.cell? ⟨w.heap.size, 1, none⟩ = some (.int .i64 a.sx) := V3_a.c 1 _ rfl
    have q3_a_2 : w3.cell? ⟨w.heap.size, 2, none⟩ = some (.int .i64 a.sy) := V3_a.c 2 _ rfl
    have q3_a_3 : w3.cell? ⟨w.heap.size, 3, none⟩ = some (.int .i64 a.mass) := V3_a.c 3 _ rfl
    have q3_a_4 : w3.cell? ⟨w.heap.size, 4, none⟩ = some (.int .i64 a.px) := V3_a.c 4 _ rfl
    have q3_a_5 : w3.cell? ⟨w.heap.size, 5, none⟩ = some (.int .i64 a.py) := V3_a.c 5 _ rfl
    have q3_a_6 : w3.cell? ⟨w.heap.size, 6, none⟩ = some (.int .i64 a.mx) := V3_a.c 6 _ rfl
    have q3_a_7 : w3.cell? ⟨w.heap.size, 7, none⟩ = some (.int .i64 a.my) := V3_a.c 7 _ rfl
    have f3_a := V3_a.2.2; have L3_a := V3_a.lt; have N3_a := Nat.ne_of_gt L3_a; have M3_a := Nat.ne_of_lt L3_a
    have HV3_a := Lib.hid V3_a
    have q3_b_0 : w3.cell? ⟨w.heap.size + 1, 0, none⟩ = some (.int .i64 b.shape) := V3_b.c 0 _ rfl
    have q3_b_1 : w3.cell? ⟨w.heap.size + 1, 1, none⟩ = some (.int .i64 b.sx) := V3_b.c 1 _ rfl
    have q3_b_2 : w3.cell? ⟨w.heap.size + 1, 2, none⟩ = some (.int .i64 b.sy) := V3_b.c 2 _ rfl
    have q3_b_3 : w3.cell? ⟨w.heap.size + 1, 3, none⟩ = some (.int .i64 b.mass) := V3_b.c 3 _ rfl
    have q3_b_4 : w3.cell? ⟨w.heap.size + 1, 4, none⟩ = some (.int .i64 b.px) := V3_b.c 4 _ rfl
    have q3_b_5 : w3.cell? ⟨w.heap.size + 1, 5, none⟩ = some (.int .i64 b.py) := V3_b.c 5 _ rfl
    have q3_b_6 : w3.cell? ⟨w.heap.size + 1, 6, none⟩ = some (.int .i64 b.mx) := V3_b.c 6 _ rfl
    have q3_b_7 : w3.cell? ⟨w.heap.size + 1, 7, none⟩ = some (.int .i64 b.my) := V3_b.c 7 _ rfl
    have f3_b := V3_b.2.2; have L3_b := V3_b.lt; have N3_b := Nat.ne_of_gt L3_b; have M3_b := Nat.ne_of_lt L3_b
    have HV3_b := Lib.hid V3_b
    have S3 := G3.size; clear hb
    go_wp2_with fail
    go_ret
    exact ⟨rfl, by (repeat (with_reducible refine M.Below.drewN ?_ _)); go_grown⟩
  have C1 := Lib.hid c1; have C2 := Lib.hid c2
  replace l1 := l1 rfl; replace l2 := l2 rfl; replace s1 := s1 rfl; replace s2 := s2 rfl
  clear c1 c2
  have bx1 := boxX_lo l1
  have bx2 := boxX_lo l2
  have km : (hitV a b).2 = true → meetB (boxV a) (boxV b) = true := fun h => hit_meets l1 l2 h
  have kd := hit_both a b l1 l2
  have kp : (hitV a b).2 = true → 0 < (hitV a b).1.d := fun h => hit_deep l1 l2 h
  have kc : a.shape = 2 → b.shape = 2 → (hitV a b).2 = (meetB (boxV a) (boxV b) && !edgeB (boxV a) (boxV b)) := fun h k => hit_crates l1 l2 h k
  have e1 := hitX_lo l1 l2
  have e2 := hitX_lo l2 l1
  clear l1 l2 s1 s2
  generalize boxV a = X at *
  generalize boxV b = Y at *
  generalize hitV a b = V1 at *
  generalize hitV b a = V2 at *
  obtain ⟨q1, t⟩ := V1
  obtain ⟨q2, t2⟩ := V2
  dsimp only at km kd kp kc
  obtain ⟨rfl, kd⟩ := kd
  have BA := Lib.hid (bounds_ok a ha X bx1)
  have BB := Lib.hid (bounds_ok b hB Y bx2)
  have cm := refMeet_x X Y
  unfold edgeB at kc
  generalize meetB X Y = mt at *
  have CM := Lib.hid cm
  have E1 := Lib.hid e1; have E2 := Lib.hid e2; have KM := Lib.hid km; have KD := Lib.hid kd; have KP := Lib.hid kp; have KC := Lib.hid kc
  clear bx1 bx2 cm e1 e2 km kd kp kc
  go_enter Try.func4, Try.ntmps4
  go_wp2_with fail
  (with_reducible refine (C1.out _).mono ?_); rintro en w1 ⟨rfl, hb⟩
  have G1 : Below w.heap.size w w1 := Below.trans (by (repeat (with_reducible refine M.Below.drewN ?_ _)); go_grown) (hb.mono (by go_size))
  have V1_a : M.Var w1 (w.heap.size) #[.int .i64 a.shape, .int .i64 a.sx, .int .i64 a.sy, .int .i64 a.mass, .int .i64 a.px, .int .i64 a.py, .int .i64 a.mx, .int .i64 a.my] := M.Var.mono (by (repeat (first | (with_reducible assumption) | (with_reducible apply M.var_set45) | (with_reducible refine M.var_alloc' _ _ _ ?_; first | rfl | (simp [go_sem]; done)) | (with_reducible refine M.Var.alloc ?_ _) | (with_reducible refine M.Var.drewN ?_ _) | (with_reducible refine M.Var.drew ?_) | (with_reducible refine M.Var.far ?_ _ _ ?hFar; case hFar => (first | omega | ((try simp [go_sem]) <;> omega))) | fail))) hb
  have V1_b : M.Var w1 (w.heap.size + 1) #[.int .i64 b.shape, .int .i64 b.sx, .int .i64 b.sy, .int .i64 b.mass, .int .i64 b.px, .int .i64 b.py, .int .i64 b.mx, .int .i64 b.my] := M.Var.mono (by (repeat (first | (with_reducible assumption) | (with_reducible apply M.var_set45) | (with_reducible refine M.var_alloc' _ _ _ ?_; first | rfl | (simp [go_sem]; done)) | (with_reducible refine M.Var.alloc ?_ _) | (with_reducible refine M.Var.drewN ?_ _) | (with_reducible refine M.Var.drew ?_) | (with_reducible refine M.Var.far ?_ _ _ ?hFar; case hFar => (first | omega | ((try simp [go_sem]) <;> omega))) | fail))) hb
  have q1_a_0 : w1.cell? ⟨w.heap.size, 0, none⟩ = some (.int .i64 a.shape) := V1_a.c 0 _ rfl
  have q1_a_1 : w1.cell? ⟨w.heap.size, 1, none⟩ = some (.int .i64 a.sx) := V1_a.c 1 _ rfl
  have q1_a_2 : w1.cell? ⟨w.heap.size, 2, none⟩ = some (.int .i64 a.sy) := V1_a.c 2 _ rfl
  have q1_a_3 : w1.cell? ⟨w.heap.size, 3, none⟩ = some (.int .i64 a.mass) := V1_a.c 3 _ rfl
  have q1_a_4 : w1.cell? ⟨w.heap.size, 4, none⟩ = some (.int .i64 a.px) := V1_a.c 4 _ rfl
  have q1_a_5 : w1.cell? ⟨w.heap.size, 5, none⟩ = some (.int .i64 a.py) := V1_a.c 5 _ rfl
  have q1_a_6 : w1.cell? ⟨w.heap.size, 6, none⟩ = some (.int .i64 a.mx) := V1_a.c 6 _ rfl
  have q1_a_7 : w1.cell? ⟨w.heap.size, 7, none⟩ = some (.int .i64 a.my) := V1_a.c 7 _ rfl
  have f1_a := V1_a.2.2; have L1_a := V1_a.lt; have N1_a := Nat.ne_of_gt L1_a; have M1_a := Nat.ne_of_lt L1_a
  have HV1_a := Lib.hid V1_a
  have q1_b_0 : w1.cell? ⟨w.heap.size + 1, 0, none⟩ = some (.int .i64 b.shape) := V1_b.c 0 _ rfl
  have q1_b_1 : w1.cell? ⟨w.heap.size + 1, 1, none⟩ = some (.int .i64 b.sx) := V1_b.c 1 _ rfl
  have q1_b_2 : w1.cell? ⟨w.heap.size + 1, 2, none⟩ = some (.int .i64 b.sy) := V1_b.c 2 _ rfl
  have q1_b_3 : w1.cell? ⟨w.heap.size + 1, 3, none⟩ = some (.int .i64 b.mass) := V1_b.c 3 _ rfl
  have q1_b_4 : w1.cell? ⟨w.heap.size + 1, 4, none⟩ = some (.int .i64 b.px) := V1_b.c 4 _ rfl
  have q1_b_5 : w1.cell? ⟨w.heap.size + 1, 5, none⟩ = some (.int .i64 b.py) := V1_b.c 5 _ rfl
  have q1_b_6 : w1.cell? ⟨w.heap.size + 1, 6, none⟩ = some (.int .i64 b.mx) := V1_b.c 6 _ rfl
  have q1_b_7 : w1.cell? ⟨w.heap.size + 1, 7, none⟩ = some (.int .i64 b.my) := V1_b.c 7 _ rfl
  have f1_b := V1_b.2.2; have L1_b := V1_b.lt; have N1_b := Nat.ne_of_gt L1_b; have M1_b := Nat.ne_of_lt L1_b
  have HV1_b := Lib.hid V1_b
  have S1 := G1.size; clear hb
  go_wp2_with fail
  (with_reducible refine (C2.out _).mono ?_); rintro en w2 ⟨rfl, hb⟩
  have G2 : Below w.heap.size w w2 := Below.trans (by (repeat (with_reducible refine M.Below.drewN ?_ _)); go_grown) (hb.mono (by go_size))
  have V2_a : M.Var w2 (w.heap.size) #[.int .i64 a.shape, .int .i64 a.sx, .int .i64 a.sy, .int .i64 a.mass, .int .i64 a.px, .int .i64 a.py, .int .i64 a.mx, .int .i64 a.my] := M.Var.mono (by (repeat (first | (with_reducible assumption) | (with_reducible apply M.var_set45) | (with_reducible refine M.var_alloc' _ _ _ ?_; first | rfl | (simp [go_sem]; done)) | (with_reducible refine M.Var.alloc ?_ _) | (with_reducible refine M.Var.drewN ?_ _) | (with_reducible refine M.Var.drew ?_) | (with_reducible refine M.Var.far ?_ _ _ ?hFar; case hFar => (first | omega | ((try simp [go_sem]) <;> omega))) | fail))) hb
  have V2_b : M.Var w2 (w.heap.size + 1) #[.int .i64 b.shape, .int .i64 b.sx, .int .i64 b.sy, .int .i64 b.mass, .int .i64 b.px, .int .i64 b.py, .int .i64 b.mx, .int .i64 b.my] := M.Var.mono (by (repeat (first | (with_reducible assumption) | (with_reducible apply M.var_set45) | (with_reducible refine M.var_alloc' _ _ _ ?_; first | rfl | (simp [go_sem]; done)) | (with_reducible refine M.Var.alloc ?_ _) | (with_reducible refine M.Var.drewN ?_ _) | (with_reducible refine M.Var.drew ?_) | (with_reducible refine M.Var.far ?_ _ _ ?hFar; case hFar => (first | omega | ((try simp [go_sem]) <;> omega))) | fail))) hb
  have q2_a_0 : w2.cell? ⟨w.heap.size, 0, none⟩ = some (.int .i64 a.shape) := V2_a.c 0 _ rfl
  have q2_a_1 : w2.cell? ⟨w.heap.size, 1, none⟩ = some (.int .i64 a.sx) := V2_a.c 1 _ rfl
  have q2_a_2 : w2.cell? ⟨w.heap.size, 2, none⟩ = some (.int .i64 a.sy) := V2_a.c 2 _ rfl
  have q2_a_3 : w2.cell? ⟨w.heap.size, 3, none⟩ = some (.int .i64 a.mass) := V2_a.c 3 _ rfl
  have q2_a_4 : w2.cell? ⟨w.heap.size, 4, none⟩ = some (.int .i64 a.px) := V2_a.c 4 _ rfl
  have q2_a_5 : w2.cell? ⟨w.heap.size, 5, none⟩ = some (.int .i64 a.py) := V2_a.c 5 _ rfl
  have q2_a_6 : w2.cell? ⟨w.heap.size, 6, none⟩ = some (.int .i64 a.mx) := V2_a.c 6 _ rfl
  have q2_a_7 : w2.cell? ⟨w.heap.size, 7, none⟩ = some (.int .i64 a.my) := V2_a.c 7 _ rfl
  have f2_a := V2_a.2.2; have L2_a := V2_a.lt; have N2_a := Nat.ne_of_gt L2_a; have M2_a := Nat.ne_of_lt L2_a
  have HV2_a := Lib.hid V2_a
  have q2_b_0 : w2.cell? ⟨w.heap.size + 1, 0, none⟩ = some (.int .i64 b.shape) := V2_b.c 0 _ rfl
  have q2_b_1 : w2.cell? ⟨w.heap.size + 1, 1, none⟩ = some (.int .i64 b.sx) := V2_b.c 1 _ rfl
  have q2_b_2 : w2.cell? ⟨w.heap.size + 1, 2, none⟩ = some (.int .i64 b.sy) := V2_b.c 2 _ rfl
  have q2_b_3 : w2.cell? ⟨w.heap.size + 1, 3, none⟩ = some (.int .i64 b.mass) := V2_b.c 3 _ rfl
  have q2_b_4 : w2.cell? ⟨w.heap.size + 1, 4, none⟩ = some (.int .i64 b.px) := V2_b.c 4 _ rfl
  have q2_b_5 : w2.cell? ⟨w.heap.size + 1, 5, none⟩ = some (.int .i64 b.py) := V2_b.c 5 _ rfl
  have q2_b_6 : w2.cell? ⟨w.heap.size + 1, 6, none⟩ = some (.int .i64 b.mx) := V2_b.c 6 _ rfl
  have q2_b_7 : w2.cell? ⟨w.heap.size + 1, 7, none⟩ = some (.int .i64 b.my) := V2_b.c 7 _ rfl
  have f2_b := V2_b.2.2; have L2_b := V2_b.lt; have N2_b := Nat.ne_of_gt L2_b; have M2_b := Nat.ne_of_lt L2_b
  have HV2_b := Lib.hid V2_b
  clear V1_a HV1_a f1_a L1_a N1_a M1_a q1_a_0 q1_a_1 q1_a_2 q1_a_3 q1_a_4 q1_a_5 q1_a_6 q1_a_7 V1_b HV1_b f1_b L1_b N1_b M1_b q1_b_0 q1_b_1 q1_b_2 q1_b_3 q1_b_4 q1_b_5 q1_b_6 q1_b_7
  have S2 := G2.size; clear hb
  go_wp2_with fail
  (with_reducible refine (c0.out _).mono ?_); rintro en w3 ⟨rfl, hb⟩
  have G3 : Below w.heap.size w w3 := Below.trans (by (repeat (with_reducible refine M.Below.drewN ?_ _)); go_grown) (hb.mono (by go_size))
  have V3_a : M.Var w3 (w.heap.size) #[.int .i64 a.shape, .int .i64 a.sx, .int .i64 a.sy, .int .i64 a.mass, .int .i64 a.px, .int .i64 a.py, .int .i64 a.mx, .int .i64 a.my] := M.Var.mono (by (repeat (first | (with_reducible assumption) | (with_reducible apply M.var_set45) | (with_reducible refine M.var_alloc' _ _ _ ?_; first | rfl | (simp [go_sem]; done)) | (with_reducible refine M.Var.alloc ?_ _) | (with_reducible refine M.Var.drewN ?_ _) | (with_reducible refine M.Var.drew ?_) | (with_reducible refine M.Var.far ?_ _ _ ?hFar; case hFar => (first | omega | ((try simp [go_sem]) <;> omega))) | fail))) hb
  have V3_b : M.Var w3 (w.heap.size + 1) #[.int .i64 b.shape, .int .i64 b.sx, .int .i64 b.sy, .int .i64 b.mass, .int .i64 b.px, .int .i64 b.py, .int .i64 b.mx, .int .i64 b.my] := M.Var.mono (by (repeat (first | (with_reducible assumption) | (with_reducible apply M.var_set45) | (with_reducible refine M.var_alloc' _ _ _ ?_; first | rfl | (simp [go_sem]; done)) | (with_reducible refine M.Var.alloc ?_ _) | (with_reducible refine M.Var.drewN ?_ _) | (with_reducible refine M.Var.drew ?_) | (with_reducible refine M.Var.far ?_ _ _ ?hFar; case hFar => (first | omega | ((try simp [go_sem]) <;> omega))) | fail))) hb
  have q3_a_0 : w3.cell? ⟨w.heap.size, 0, none⟩ = some (.int .i64 a.shape) := V3_a.c 0 _ rfl
  have q3_a_1 : w3.cell? ⟨w.heap.size, 1, none⟩ = some (.int .i64 a.sx) := V3_a.c 1 _ rfl
  have q3_a_2 : w3.cell? ⟨w.heap.size, 2, none⟩ = some (.int .i64 a.sy) := V3_a.c 2 _ rfl
  have q3_a_3 : w3.cell? ⟨w.heap.size, 3, none⟩ = some (.int .i64 a.mass) := V3_a.c 3 _ rfl
  have q3_a_4 : w3.cell? ⟨w.heap.size, 4, none⟩ = some (.int .i64 a.px) := V3_a.c 4 _ rfl
  have q3_a_5 : w3.cell? ⟨w.heap.size, 5, none⟩ = some (.int .i64 a.py) := V3_a.c 5 _ rfl
  have q3_a_6 : w3.cell? ⟨w.heap.size, 6, none⟩ = some (.int .i64 a.mx) := V3_a.c 6 _ rfl
  have q3_a_7 : w3.cell? ⟨w.heap.size, 7, none⟩ = some (.int .i64 a.my) := V3_a.c 7 _ rfl
  have f3_a := V3_a.2.2; have L3_a := V3_a.lt; have N3_a := Nat.ne_of_gt L3_a; have M3_a := Nat.ne_of_lt L3_a
  have HV3_a := Lib.hid V3_a
  have q3_b_0 : w3.cell? ⟨w.heap.size + 1, 0, none⟩ = some (.int .i64 b.shape) := V3_b.c 0 _ rfl
  have q3_b_1 : w3.cell? ⟨w.heap.size + 1, 1, none⟩ = some (.int .i64 b.sx) := V3_b.c 1 _ rfl
  have q3_b_2 : w3.cell? ⟨w.heap.size + 1, 2, none⟩ = some (.int .i64 b.sy) := V3_b.c 2 _ rfl
  have q3_b_3 : w3.cell? ⟨w.heap.size + 1, 3, none⟩ = some (.int .i64 b.mass) := V3_b.c 3 _ rfl
  have q3_b_4 : w3.cell? ⟨w.heap.size + 1, 4, none⟩ = some (.int .i64 b.px) := V3_b.c 4 _ rfl
  have q3_b_5 : w3.cell? ⟨w.heap.size + 1, 5, none⟩ = some (.int .i64 b.py) := V3_b.c 5 _ rfl
  have q3_b_6 : w3.cell? ⟨w.heap.size + 1, 6, none⟩ = some (.int .i64 b.mx) := V3_b.c 6 _ rfl
  have q3_b_7 : w3.cell? ⟨w.heap.size + 1, 7, none⟩ = some (.int .i64 b.my) := V3_b.c 7 _ rfl
  have f3_b := V3_b.2.2; have L3_b := V3_b.lt; have N3_b := Nat.ne_of_gt L3_b; have M3_b := Nat.ne_of_lt L3_b
  have HV3_b := Lib.hid V3_b
  clear V2_a HV2_a f2_a L2_a N2_a M2_a q2_a_0 q2_a_1 q2_a_2 q2_a_3 q2_a_4 q2_a_5 q2_a_6 q2_a_7 V2_b HV2_b f2_b L2_b N2_b M2_b q2_b_0 q2_b_1 q2_b_2 q2_b_3 q2_b_4 q2_b_5 q2_b_6 q2_b_7
  have S3 := G3.size; clear hb
  go_wp2_with fail
  go_cut [6, 7] from 28 (fun s6 s7 wc => ∃ (g1 : Nat) (g2 : Nat), s6 = .pointer (some ⟨g1, 0, none⟩) ∧ s7 = .pointer (some ⟨g2, 0, none⟩) ∧ w3.heap.size < g1 ∧ w3.heap.size < g2 ∧ g1 ≠ g2 ∧ Hid (Below w.heap.size w wc) ∧ M.Var wc (w.heap.size) #[.int .i64 a.shape, .int .i64 a.sx, .int .i64 a.sy, .int .i64 a.mass, .int .i64 a.px, .int .i64 a.py, .int .i64 a.mx, .int .i64 a.my] ∧ M.Var wc (w.heap.size + 1) #[.int .i64 b.shape, .int .i64 b.sx, .int .i64 b.sy, .int .i64 b.mass, .int .i64 b.px, .int .i64 b.py, .int .i64 b.mx, .int .i64 b.my] ∧ M.Var wc (w3.heap.size) #[.int .i64 0] ∧ M.Var wc (g1) #[.int .i64 X.lx, .int .i64 X.ly, .int .i64 X.hx, .int .i64 X.hy] ∧ M.Var wc (g2) #[.int .i64 Y.lx, .int .i64 Y.ly, .int .i64 Y.hx, .int .i64 Y.hy])
  case first =>
    have zz1 : ∀ m : Nat, w.heap.size < m → ¬ w.heap.size = m + 1 := fun m h => by omega
    have zz2 : ∀ m : Nat, w.heap.size < m → ¬ m + 1 = w.heap.size := fun m h => by omega
    have zz3 : ∀ m : Nat, w.heap.size < m → ¬ w.heap.size = m + 1 + 1 := fun m h => by omega
    have zz4 : ∀ m : Nat, w.heap.size < m → ¬ m + 1 + 1 = w.heap.size := fun m h => by omega
    go_region_held2 (fun w' => w'.cell? ⟨w.heap.size, 0, none⟩ = some (.int .i64 a.shape) ∧ w'.cell? ⟨w.heap.size, 1, none⟩ = some (.int .i64 a.sx) ∧ w'.cell? ⟨w.heap.size, 2, none⟩ = some (.int .i64 a.sy) ∧ w'.cell? ⟨w.heap.size, 3, none⟩ = some (.int .i64 a.mass) ∧ w'.cell? ⟨w.heap.size, 4, none⟩ = some (.int .i64 a.px) ∧ w'.cell? ⟨w.heap.size, 5, none⟩ = some (.int .i64 a.py) ∧ w'.cell? ⟨w.heap.size, 6, none⟩ = some (.int .i64 a.mx) ∧ w'.cell? ⟨w.heap.size, 7, none⟩ = some (.int .i64 a.my) ∧ w'.cell? ⟨w.heap.size + 1, 0, none⟩ = some (.int .i64 b.shape) ∧ w'.cell? ⟨w.heap.size + 1, 1, none⟩ = some (.int .i64 b.sx) ∧ w'.cell? ⟨w.heap.size + 1, 2, none⟩ = some (.int .i64 b.sy) ∧ w'.cell? ⟨w.heap.size + 1, 3, none⟩ = some (.int .i64 b.mass) ∧ w'.cell? ⟨w.heap.size + 1, 4, none⟩ = some (.int .i64 b.px) ∧ w'.cell? ⟨w.heap.size + 1, 5, none⟩ = some (.int .i64 b.py) ∧ w'.cell? ⟨w.heap.size + 1, 6, none⟩ = some (.int .i64 b.mx) ∧ w'.cell? ⟨w.heap.size + 1, 7, none⟩ = some (.int .i64 b.my) ∧ w'.cell? ⟨w3.heap.size, 0, none⟩ = some (.int .i64 0)) ((refine (fun (hS_a : M.Var _ (w.heap.size) #[.int .i64 a.shape, .int .i64 a.sx, .int .i64 a.sy, .int .i64 a.mass, .int .i64 a.px, .int .i64 a.py, .int .i64 a.mx, .int .i64 a.my]) (hS_b : M.Var _ (w.heap.size + 1) #[.int .i64 b.shape, .int .i64 b.sx, .int .i64 b.sy, .int .i64 b.mass, .int .i64 b.px, .int .i64 b.py, .int .i64 b.mx, .int .i64 b.my]) (hS_c : M.Var _ (w3.heap.size) #[.int .i64 0]) => ⟨hS_a.c 0 _ rfl, hS_a.c 1 _ rfl, hS_a.c 2 _ rfl, hS_a.c 3 _ rfl, hS_a.c 4 _ rfl, hS_a.c 5 _ rfl, hS_a.c 6 _ rfl, hS_a.c 7 _ rfl, hS_b.c 0 _ rfl, hS_b.c 1 _ rfl, hS_b.c 2 _ rfl, hS_b.c 3 _ rfl, hS_b.c 4 _ rfl, hS_b.c 5 _ rfl, hS_b.c 6 _ rfl, hS_b.c 7 _ rfl, hS_c.c 0 _ rfl⟩) ?_ ?_ ?_ <;> (repeat (first | (with_reducible assumption) | (with_reducible apply M.var_setBx) | (with_reducible apply M.var_setHt) | (with_reducible apply M.var_setB) | (with_reducible apply M.var_setI) | (with_reducible apply M.var_setV) | (with_reducible refine M.var_alloc' _ _ _ ?_; first | rfl | (focus (simp [go_sem]; done))) | (with_reducible refine M.Var.alloc ?_ _) | (with_reducible refine M.Var.drewN ?_ _) | (with_reducible refine M.Var.drew ?_) | (with_reducible refine M.Var.far ?_ _ _ ?hFar; case hFar => (first | omega | ((try simp [go_sem]) <;> omega))) | fail))))
      (first
      | (go_at_call 21; (with_reducible refine (BA.out (w3.heap.size) _ (by (repeat (first | (with_reducible assumption) | (with_reducible apply M.var_setBx) | (with_reducible apply M.var_setHt) | (with_reducible apply M.var_setB) | (with_reducible apply M.var_setI) | (with_reducible apply M.var_setV) | (with_reducible refine M.var_alloc' _ _ _ ?_; first | rfl | (focus (simp [go_sem]; done))) | (with_reducible refine M.Var.alloc ?_ _) | (with_reducible refine M.Var.drewN ?_ _) | (with_reducible refine M.Var.drew ?_) | (with_reducible refine M.Var.far ?_ _ _ ?hFar; case hFar => (first | omega | ((try simp [go_sem]) <;> omega))) | fail)))).mono ?_); rintro en w4 ⟨rfl, hb⟩
         have G4 : Below w.heap.size w w4 := Below.trans (by (repeat (with_reducible refine M.Below.drewN ?_ _)); go_grown) (hb.mono (by go_size))
         have V4_a : M.Var w4 (w.heap.size) #[.int .i64 a.shape, .int .i64 a.sx, .int .i64 a.sy, .int .i64 a.mass, .int .i64 a.px, .int .i64 a.py, .int .i64 a.mx, .int .i64 a.my] := M.Var.mono (b := w.heap.size) (cs := #[.int .i64 a.shape, .int .i64 a.sx, .int .i64 a.sy, .int .i64 a.mass, .int .i64 a.px, .int .i64 a.py, .int .i64 a.mx, .int .i64 a.my]) (by (repeat (first | (with_reducible assumption) | (with_reducible apply M.var_setBx) | (with_reducible apply M.var_setHt) | (with_reducible apply M.var_setB) | (with_reducible apply M.var_setI) | (with_reducible apply M.var_setV) | (with_reducible refine M.var_alloc' _ _ _ ?_; first | rfl | (focus (simp [go_sem]; done))) | (with_reducible refine M.Var.alloc ?_ _) | (with_reducible refine M.Var.drewN ?_ _) | (with_reducible refine M.Var.drew ?_) | (with_reducible refine M.Var.far ?_ _ _ ?hFar; case hFar => (first | omega | ((try simp [go_sem]) <;> omega))) | fail))) hb
         have q4_a_0 : w4.cell? ⟨w.heap.size, 0, none⟩ = some (.int .i64 a.shape) := V4_a.c 0 _ rfl
         have q4_a_1 : w4.cell? ⟨w.heap.size, 1, none⟩ = some (.int .i64 a.sx) := V4_a.c 1 _ rfl
         have q4_a_2 : w4.cell? ⟨w.heap.size, 2, none⟩ = some (.int .i64 a.sy) := V4_a.c 2 _ rfl
         have q4_a_3 : w4.cell? ⟨w.heap.size, 3, none⟩ = some (.int .i64 a.mass) := V4_a.c 3 _ rfl
         have q4_a_4 : w4.cell? ⟨w.heap.size, 4, none⟩ = some (.int .i64 a.px) := V4_a.c 4 _ rfl
         have q4_a_5 : w4.cell? ⟨w.heap.size, 5, none⟩ = some (.int .i64 a.py) := V4_a.c 5 _ rfl
         have q4_a_6 : w4.cell? ⟨w.heap.size, 6, none⟩ = some (.int .i64 a.mx) := V4_a.c 6 _ rfl
         have q4_a_7 : w4.cell? ⟨w.heap.size, 7, none⟩ = some (.int .i64 a.my) := V4_a.c 7 _ rfl
         have f4_a := V4_a.2.2
         have L4_a := V4_a.lt
         have N4_a := Nat.ne_of_gt L4_a
         have M4_a := Nat.ne_of_lt L4_a
         have V4_b : M.Var w4 (w.heap.size + 1) #[.int .i64 b.shape, .int .i64 b.sx, .int .i64 b.sy, .int .i64 b.mass, .int .i64 b.px, .int .i64 b.py, .int .i64 b.mx, .int .i64 b.my] := M.Var.mono (b := w.heap.size + 1) (cs := #[.int .i64 b.shape, .int .i64 b.sx, .int .i64 b.sy, .int .i64 b.mass, .int .i64 b.px, .int .i64 b.py, .int .i64 b.mx, .int .i64 b.my]) (by (repeat (first | (with_reducible assumption) | (with_reducible apply M.var_setBx) | (with_reducible apply M.var_setHt) | (with_reducible apply M.var_setB) | (with_reducible apply M.var_setI) | (with_reducible apply M.var_setV) | (with_reducible refine M.var_alloc' _ _ _ ?_; first | rfl | (focus (simp [go_sem]; done))) | (with_reducible refine M.Var.alloc ?_ _) | (with_reducible refine M.Var.drewN ?_ _) | (with_reducible refine M.Var.drew ?_) | (with_reducible refine M.Var.far ?_ _ _ ?hFar; case hFar => (first | omega | ((try simp [go_sem]) <;> omega))) | fail))) hb
         have q4_b_0 : w4.cell? ⟨w.heap.size + 1, 0, none⟩ = some (.int .i64 b.shape) := V4_b.c 0 _ rfl
         have q4_b_1 : w4.cell? ⟨w.heap.size + 1, 1, none⟩ = some (.int .i64 b.sx) := V4_b.c 1 _ rfl
         have q4_b_2 : w4.cell? ⟨w.heap.size + 1, 2, none⟩ = some (.int .i64 b.sy) := V4_b.c 2 _ rfl
         have q4_b_3 : w4.cell? ⟨w.heap.size + 1, 3, none⟩ = some (.int .i64 b.mass) := V4_b.c 3 _ rfl
         have q4_b_4 : w4.cell? ⟨w.heap.size + 1, 4, none⟩ = some (.int .i64 b.px) := V4_b.c 4 _ rfl
         have q4_b_5 : w4.cell? ⟨w.heap.size + 1, 5, none⟩ = some (.int .i64 b.py) := V4_b.c 5 _ rfl
         have q4_b_6 : w4.cell? ⟨w.heap.size + 1, 6, none⟩ = some (.int .i64 b.mx) := V4_b.c 6 _ rfl
         have q4_b_7 : w4.cell? ⟨w.heap.size + 1, 7, none⟩ = some (.int .i64 b.my) := V4_b.c 7 _ rfl
         have f4_b := V4_b.2.2
         have L4_b := V4_b.lt
         have N4_b := Nat.ne_of_gt L4_b
         have M4_b := Nat.ne_of_lt L4_b
         have V4_c : M.Var w4 (w3.heap.size) #[.int .i64 0] := M.Var.mono (b := w3.heap.size) (cs := #[.int .i64 0]) (by (repeat (first | (with_reducible assumption) | (with_reducible apply M.var_setBx) | (with_reducible apply M.var_setHt) | (with_reducible apply M.var_setB) | (with_reducible apply M.var_setI) | (with_reducible apply M.var_setV) | (with_reducible refine M.var_alloc' _ _ _ ?_; first | rfl | (focus (simp [go_sem]; done))) | (with_reducible refine M.Var.alloc ?_ _) | (with_reducible refine M.Var.drewN ?_ _) | (with_reducible refine M.Var.drew ?_) | (with_reducible refine M.Var.far ?_ _ _ ?hFar; case hFar => (first | omega | ((try simp [go_sem]) <;> omega))) | fail))) hb
         have q4_c_0 : w4.cell? ⟨w3.heap.size, 0, none⟩ = some (.int .i64 0) := V4_c.c 0 _ rfl
         have f4_c := V4_c.2.2
         have L4_c := V4_c.lt
         have N4_c := Nat.ne_of_gt L4_c
         have M4_c := Nat.ne_of_lt L4_c
         try (refine M.opt (T := M.Var w4 (w3.heap.size + 1) #[.int .i64 0, .int .i64 0, .int .i64 0, .int .i64 0]) ?_ ?_; refine M.Var.mono (b := w3.heap.size + 1) (cs := #[.int .i64 0, .int .i64 0, .int .i64 0, .int .i64 0]) ?_ hb; (repeat (first | (with_reducible assumption) | (with_reducible apply M.var_setBx) | (with_reducible apply M.var_setHt) | (with_reducible apply M.var_setB) | (with_reducible apply M.var_setI) | (with_reducible apply M.var_setV) | (with_reducible refine M.var_alloc' _ _ _ ?_; first | rfl | (focus (simp [go_sem]; done))) | (with_reducible refine M.Var.alloc ?_ _) | (with_reducible refine M.Var.drewN ?_ _) | (with_reducible refine M.Var.drew ?_) | (with_reducible refine M.Var.far ?_ _ _ ?hFar; case hFar => (first | omega | ((try simp [go_sem]) <;> omega))) | fail)); intro V4_o0; have q4_o0_0 : w4.cell? ⟨w3.heap.size + 1, 0, none⟩ = some (.int .i64 0) := V4_o0.c 0 _ rfl; have q4_o0_1 : w4.cell? ⟨w3.heap.size + 1, 1, none⟩ = some (.int .i64 0) := V4_o0.c 1 _ rfl; have q4_o0_2 : w4.cell? ⟨w3.heap.size + 1, 2, none⟩ = some (.int .i64 0) := V4_o0.c 2 _ rfl; have q4_o0_3 : w4.cell? ⟨w3.heap.size + 1, 3, none⟩ = some (.int .i64 0) := V4_o0.c 3 _ rfl; have f4_o0 := V4_o0.2.2; have L4_o0 := V4_o0.lt; have N4_o0 := Nat.ne_of_gt L4_o0; have M4_o0 := Nat.ne_of_lt L4_o0)
         try (refine M.opt (T := M.Var w4 (w3.heap.size + 1 + 1) #[.int .i64 0, .int .i64 0, .int .i64 0, .int .i64 0]) ?_ ?_; refine M.Var.mono (b := w3.heap.size + 1 + 1) (cs := #[.int .i64 0, .int .i64 0, .int .i64 0, .int .i64 0]) ?_ hb; (repeat (first | (with_reducible assumption) | (with_reducible apply M.var_setBx) | (with_reducible apply M.var_setHt) | (with_reducible apply M.var_setB) | (with_reducible apply M.var_setI) | (with_reducible apply M.var_setV) | (with_reducible refine M.var_alloc' _ _ _ ?_; first | rfl | (focus (simp [go_sem]; done))) | (with_reducible refine M.Var.alloc ?_ _) | (with_reducible refine M.Var.drewN ?_ _) | (with_reducible refine M.Var.drew ?_) | (with_reducible refine M.Var.far ?_ _ _ ?hFar; case hFar => (first | omega | ((try simp [go_sem]) <;> omega))) | fail)); intro V4_o1; have q4_o1_0 : w4.cell? ⟨w3.heap.size + 1 + 1, 0, none⟩ = some (.int .i64 0) := V4_o1.c 0 _ rfl; have q4_o1_1 : w4.cell? ⟨w3.heap.size + 1 + 1, 1, none⟩ = some (.int .i64 0) := V4_o1.c 1 _ rfl; have q4_o1_2 : w4.cell? ⟨w3.heap.size + 1 + 1, 2, none⟩ = some (.int .i64 0) := V4_o1.c 2 _ rfl; have q4_o1_3 : w4.cell? ⟨w3.heap.size + 1 + 1, 3, none⟩ = some (.int .i64 0) := V4_o1.c 3 _ rfl; have f4_o1 := V4_o1.2.2; have L4_o1 := V4_o1.lt; have N4_o1 := Nat.ne_of_gt L4_o1; have M4_o1 := Nat.ne_of_lt L4_o1)
         try (refine M.opt (T := M.Var w4 (w4.heap.size) #[.int .i64 0, .int .i64 0, .int .i64 0, .int .i64 0]) ?_ ?_; refine M.Var.mono (b := w4.heap.size) (cs := #[.int .i64 0, .int .i64 0, .int .i64 0, .int .i64 0]) ?_ hb; (repeat (first | (with_reducible assumption) | (with_reducible apply M.var_setBx) | (with_reducible apply M.var_setHt) | (with_reducible apply M.var_setB) | (with_reducible apply M.var_setI) | (with_reducible apply M.var_setV) | (with_reducible refine M.var_alloc' _ _ _ ?_; first | rfl | (focus (simp [go_sem]; done))) | (with_reducible refine M.Var.alloc ?_ _) | (with_reducible refine M.Var.drewN ?_ _) | (with_reducible refine M.Var.drew ?_) | (with_reducible refine M.Var.far ?_ _ _ ?hFar; case hFar => (first | omega | ((try simp [go_sem]) <;> omega))) | fail)); intro V4_o2; have q4_o2_0 : w4.cell? ⟨w4.heap.size, 0, none⟩ = some (.int .i64 0) := V4_o2.c 0 _ rfl; have q4_o2_1 : w4.cell? ⟨w4.heap.size, 1, none⟩ = some (.int .i64 0) := V4_o2.c 1 _ rfl; have q4_o2_2 : w4.cell? ⟨w4.heap.size, 2, none⟩ = some (.int .i64 0) := V4_o2.c 2 _ rfl; have q4_o2_3 : w4.cell? ⟨w4.heap.size, 3, none⟩ = some (.int .i64 0) := V4_o2.c 3 _ rfl; have f4_o2 := V4_o2.2.2; have L4_o2 := V4_o2.lt; have N4_o2 := Nat.ne_of_gt L4_o2; have M4_o2 := Nat.ne_of_lt L4_o2)
         try (refine M.opt (T := M.Var w4 (w4.heap.size + 1) #[.int .i64 0, .int .i64 0, .int .i64 0, .int .i64 0]) ?_ ?_; refine M.Var.mono (b := w4.heap.size + 1) (cs := #[.int .i64 0, .int .i64 0, .int .i64 0, .int .i64 0]) ?_ hb; (repeat (first | (with_reducible assumption) | (with_reducible apply M.var_setBx) | (with_reducible apply M.var_setHt) | (with_reducible apply M.var_setB) | (with_reducible apply M.var_setI) | (with_reducible apply M.var_setV) | (with_reducible refine M.var_alloc' _ _ _ ?_; first | rfl | (focus (simp [go_sem]; done))) | (with_reducible refine M.Var.alloc ?_ _) | (with_reducible refine M.Var.drewN ?_ _) | (with_reducible refine M.Var.drew ?_) | (with_reducible refine M.Var.far ?_ _ _ ?hFar; case hFar => (first | omega | ((try simp [go_sem]) <;> omega))) | fail)); intro V4_o3; have q4_o3_0 : w4.cell? ⟨w4.heap.size + 1, 0, none⟩ = some (.int .i64 0) := V4_o3.c 0 _ rfl; have q4_o3_1 : w4.cell? ⟨w4.heap.size + 1, 1, none⟩ = some (.int .i64 0) := V4_o3.c 1 _ rfl; have q4_o3_2 : w4.cell? ⟨w4.heap.size + 1, 2, none⟩ = some (.int .i64 0) := V4_o3.c 2 _ rfl; have q4_o3_3 : w4.cell? ⟨w4.heap.size + 1, 3, none⟩ = some (.int .i64 0) := V4_o3.c 3 _ rfl; have f4_o3 := V4_o3.2.2; have L4_o3 := V4_o3.lt; have N4_o3 := Nat.ne_of_gt L4_o3; have M4_o3 := Nat.ne_of_lt L4_o3)
         try (refine M.opt (T := M.Var w4 (w5.heap.size) #[.int .i64 0, .int .i64 0, .int .i64 0, .int .i64 0]) ?_ ?_; refine M.Var.mono (b := w5.heap.size) (cs := #[.int .i64 0, .int .i64 0, .int .i64 0, .int .i64 0]) ?_ hb; (repeat (first | (with_reducible assumption) | (with_reducible apply M.var_setBx) | (with_reducible apply M.var_setHt) | (with_reducible apply M.var_setB) | (with_reducible apply M.var_setI) | (with_reducible apply M.var_setV) | (with_reducible refine M.var_alloc' _ _ _ ?_; first | rfl | (focus (simp [go_sem]; done))) | (with_reducible refine M.Var.alloc ?_ _) | (with_reducible refine M.Var.drewN ?_ _) | (with_reducible refine M.Var.drew ?_) | (with_reducible refine M.Var.far ?_ _ _ ?hFar; case hFar => (first | omega | ((try simp [go_sem]) <;> omega))) | fail)); intro V4_o4; have q4_o4_0 : w4.cell? ⟨w5.heap.size, 0, none⟩ = some (.int .i64 0) := V4_o4.c 0 _ rfl; have q4_o4_1 : w4.cell? ⟨w5.heap.size, 1, none⟩ = some (.int .i64 0) := V4_o4.c 1 _ rfl; have q4_o4_2 : w4.cell? ⟨w5.heap.size, 2, none⟩ = some (.int .i64 0) := V4_o4.c 2 _ rfl; have q4_o4_3 : w4.cell? ⟨w5.heap.size, 3, none⟩ = some (.int .i64 0) := V4_o4.c 3 _ rfl; have f4_o4 := V4_o4.2.2; have L4_o4 := V4_o4.lt; have N4_o4 := Nat.ne_of_gt L4_o4; have M4_o4 := Nat.ne_of_lt L4_o4)
         try (refine M.opt (T := M.Var w4 (w5.heap.size + 1) #[.int .i64 0, .int .i64 0, .int .i64 0, .int .i64 0]) ?_ ?_; refine M.Var.mono (b := w5.heap.size + 1) (cs := #[.int .i64 0, .int .i64 0, .int .i64 0, .int .i64 0]) ?_ hb; (repeat (first | (with_reducible assumption) | (with_reducible apply M.var_setBx) | (with_reducible apply M.var_setHt) | (with_reducible apply M.var_setB) | (with_reducible apply M.var_setI) | (with_reducible apply M.var_setV) | (with_reducible refine M.var_alloc' _ _ _ ?_; first | rfl | (focus (simp [go_sem]; done))) | (with_reducible refine M.Var.alloc ?_ _) | (with_reducible refine M.Var.drewN ?_ _) | (with_reducible refine M.Var.drew ?_) | (with_reducible refine M.Var.far ?_ _ _ ?hFar; case hFar => (first | omega | ((try simp [go_sem]) <;> omega))) | fail)); intro V4_o5; have q4_o5_0 : w4.cell? ⟨w5.heap.size + 1, 0, none⟩ = some (.int .i64 0) := V4_o5.c 0 _ rfl; have q4_o5_1 : w4.cell? ⟨w5.heap.size + 1, 1, none⟩ = some (.int .i64 0) := V4_o5.c 1 _ rfl; have q4_o5_2 : w4.cell? ⟨w5.heap.size + 1, 2, none⟩ = some (.int .i64 0) := V4_o5.c 2 _ rfl; have q4_o5_3 : w4.cell? ⟨w5.heap.size + 1, 3, none⟩ = some (.int .i64 0) := V4_o5.c 3 _ rfl; have f4_o5 := V4_o5.2.2; have L4_o5 := V4_o5.lt; have N4_o5 := Nat.ne_of_gt L4_o5; have M4_o5 := Nat.ne_of_lt L4_o5)
         clear V3_a HV3_a f3_a q3_a_0 q3_a_1 q3_a_2 q3_a_3 q3_a_4 q3_a_5 q3_a_6 q3_a_7 V3_b HV3_b f3_b q3_b_0 q3_b_1 q3_b_2 q3_b_3 q3_b_4 q3_b_5 q3_b_6 q3_b_7
         have S4 := G4.size
         have HG4 := Lib.hid G4; clear G4 hb)
      | (go_at_call 21; (with_reducible refine (BB.out (w3.heap.size) _ (by (repeat (first | (with_reducible assumption) | (with_reducible apply M.var_setBx) | (with_reducible apply M.var_setHt) | (with_reducible apply M.var_setB) | (with_reducible apply M.var_setI) | (with_reducible apply M.var_setV) | (with_reducible refine M.var_alloc' _ _ _ ?_; first | rfl | (focus (simp [go_sem]; done))) | (with_reducible refine M.Var.alloc ?_ _) | (with_reducible refine M.Var.drewN ?_ _) | (with_reducible refine M.Var.drew ?_) | (with_reducible refine M.Var.far ?_ _ _ ?hFar; case hFar => (first | omega | ((try simp [go_sem]) <;> omega))) | fail)))).mono ?_); rintro en w5 ⟨rfl, hb⟩
         have G5 : Below w.heap.size w w5 := Below.trans (by have G := HG4.out; (repeat (with_reducible refine M.Below.drewN ?_ _)); go_grown) (hb.mono (by go_size))
         have V5_a : M.Var w5 (w.heap.size) #[.int .i64 a.shape, .int .i64 a.sx, .int .i64 a.sy, .int .i64 a.mass, .int .i64 a.px, .int .i64 a.py, .int .i64 a.mx, .int .i64 a.my] := M.Var.mono (b := w.heap.size) (cs := #[.int .i64 a.shape, .int .i64 a.sx, .int .i64 a.sy, .int .i64 a.mass, .int .i64 a.px, .int .i64 a.py, .int .i64 a.mx, .int .i64 a.my]) (by (repeat (first | (with_reducible assumption) | (with_reducible apply M.var_setBx) | (with_reducible apply M.var_setHt) | (with_reducible apply M.var_setB) | (with_reducible apply M.var_setI) | (with_reducible apply M.var_setV) | (with_reducible refine M.var_alloc' _ _ _ ?_; first | rfl | (focus (simp [go_sem]; done))) | (with_reducible refine M.Var.alloc ?_ _) | (with_reducible refine M.Var.drewN ?_ _) | (with_reducible refine M.Var.drew ?_) | (with_reducible refine M.Var.far ?_ _ _ ?hFar; case hFar => (first | omega | ((try simp [go_sem]) <;> omega))) | fail))) hb
         have q5_a_0 : w5.cell? ⟨w.heap.size, 0, none⟩ = some (.int .i64 a.shape) := V5_a.c 0 _ rfl
         have q5_a_1 : w5.cell? ⟨w.heap.size, 1, none⟩ = some (.int .i64 a.sx) := V5_a.c 1 _ rfl
         have q5_a_2 : w5.cell? ⟨w.heap.size, 2, none⟩ = some (.int .i64 a.sy) := V5_a.c 2 _ rfl
         have q5_a_3 : w5.cell? ⟨w.heap.size, 3, none⟩ = some (.int .i64 a.mass) := V5_a.c 3 _ rfl
         have q5_a_4 : w5.cell? ⟨w.heap.size, 4, none⟩ = some (.int .i64 a.px) := V5_a.c 4 _ rfl
         have q5_a_5 : w5.cell? ⟨w.heap.size, 5, none⟩ = some (.int .i64 a.py) := V5_a.c 5 _ rfl
         have q5_a_6 : w5.cell? ⟨w.heap.size, 6, none⟩ = some (.int .i64 a.mx) := V5_a.c 6 _ rfl
         have q5_a_7 : w5.cell? ⟨w.heap.size, 7, none⟩ = some (.int .i64 a.my) := V5_a.c 7 _ rfl
         have f5_a := V5_a.2.2
         have L5_a := V5_a.lt
         have N5_a := Nat.ne_of_gt L5_a
         have M5_a := Nat.ne_of_lt L5_a
         have V5_b : M.Var w5 (w.heap.size + 1) #[.int .i64 b.shape, .int .i64 b.sx, .int .i64 b.sy, .int .i64 b.mass, .int .i64 b.px, .int .i64 b.py, .int .i64 b.mx, .int .i64 b.my] := M.Var.mono (b := w.heap.size + 1) (cs := #[.int .i64 b.shape, .int .i64 b.sx, .int .i64 b.sy, .int .i64 b.mass, .int .i64 b.px, .int .i64 b.py, .int .i64 b.mx, .int .i64 b.my]) (by (repeat (first | (with_reducible assumption) | (with_reducible apply M.var_setBx) | (with_reducible apply M.var_setHt) | (with_reducible apply M.var_setB) | (with_reducible apply M.var_setI) | (with_reducible apply M.var_setV) | (with_reducible refine M.var_alloc' _ _ _ ?_; first | rfl | (focus (simp [go_sem]; done))) | (with_reducible refine M.Var.alloc ?_ _) | (with_reducible refine M.Var.drewN ?_ _) | (with_reducible refine M.Var.drew ?_) | (with_reducible refine M.Var.far ?_ _ _ ?hFar; case hFar => (first | omega | ((try simp [go_sem]) <;> omega))) | fail))) hb
         have q5_b_0 : w5.cell? ⟨w.heap.size + 1, 0, none⟩ = some (.int .i64 b.shape) := V5_b.c 0 _ rfl
         have q5_b_1 : w5.cell? ⟨w.heap.size + 1, 1, none⟩ = some (.int .i64 b.sx) := V5_b.c 1 _ rfl
         have q5_b_2 : w5.cell? ⟨w.heap.size + 1, 2, none⟩ = some (.int .i64 b.sy) := V5_b.c 2 _ rfl
         have q5_b_3 : w5.cell? ⟨w.heap.size + 1, 3, none⟩ = some (.int .i64 b.mass) := V5_b.c 3 _ rfl
         have q5_b_4 : w5.cell? ⟨w.heap.size + 1, 4, none⟩ = some (.int .i64 b.px) := V5_b.c 4 _ rfl
         have q5_b_5 : w5.cell? ⟨w.heap.size + 1, 5, none⟩ = some (.int .i64 b.py) := V5_b.c 5 _ rfl
         have q5_b_6 : w5.cell? ⟨w.heap.size + 1, 6, none⟩ = some (.int .i64 b.mx) := V5_b.c 6 _ rfl
         have q5_b_7 : w5.cell? ⟨w.heap.size + 1, 7, none⟩ = some (.int .i64 b.my) := V5_b.c 7 _ rfl
         have f5_b := V5_b.2.2
         have L5_b := V5_b.lt
         have N5_b := Nat.ne_of_gt L5_b
         have M5_b := Nat.ne_of_lt L5_b
         have V5_c : M.Var w5 (w3.heap.size) #[.int .i64 0] := M.Var.mono (b := w3.heap.size) (cs := #[.int .i64 0]) (by (repeat (first | (with_reducible assumption) | (with_reducible apply M.var_setBx) | (with_reducible apply M.var_setHt) | (with_reducible apply M.var_setB) | (with_reducible apply M.var_setI) | (with_reducible apply M.var_setV) | (with_reducible refine M.var_alloc' _ _ _ ?_; first | rfl | (focus (simp [go_sem]; done))) | (with_reducible refine M.Var.alloc ?_ _) | (with_reducible refine M.Var.drewN ?_ _) | (with_reducible refine M.Var.drew ?_) | (with_reducible refine M.Var.far ?_ _ _ ?hFar; case hFar => (first | omega | ((try simp [go_sem]) <;> omega))) | fail))) hb
         have q5_c_0 : w5.cell? ⟨w3.heap.size, 0, none⟩ = some (.int .i64 0) := V5_c.c 0 _ rfl
         have f5_c := V5_c.2.2
         have L5_c := V5_c.lt
         have N5_c := Nat.ne_of_gt L5_c
         have M5_c := Nat.ne_of_lt L5_c
         try (refine M.opt (T := M.Var w5 (w3.heap.size + 1) #[.int .i64 0, .int .i64 0, .int .i64 0, .int .i64 0]) ?_ ?_; refine M.Var.mono (b := w3.heap.size + 1) (cs := #[.int .i64 0, .int .i64 0, .int .i64 0, .int .i64 0]) ?_ hb; (repeat (first | (with_reducible assumption) | (with_reducible apply M.var_setBx) | (with_reducible apply M.var_setHt) | (with_reducible apply M.var_setB) | (with_reducible apply M.var_setI) | (with_reducible apply M.var_setV) | (with_reducible refine M.var_alloc' _ _ _ ?_; first | rfl | (focus (simp [go_sem]; done))) | (with_reducible refine M.Var.alloc ?_ _) | (with_reducible refine M.Var.drewN ?_ _) | (with_reducible refine M.Var.drew ?_) | (with_reducible refine M.Var.far ?_ _ _ ?hFar; case hFar => (first | omega | ((try simp [go_sem]) <;> omega))) | fail)); intro V5_o0; have q5_o0_0 : w5.cell? ⟨w3.heap.size + 1, 0, none⟩ = some (.int .i64 0) := V5_o0.c 0 _ rfl; have q5_o0_1 : w5.cell? ⟨w3.heap.size + 1, 1, none⟩ = some (.int .i64 0) := V5_o0.c 1 _ rfl; have q5_o0_2 : w5.cell? ⟨w3.heap.size + 1, 2, none⟩ = some (.int .i64 0) := V5_o0.c 2 _ rfl; have q5_o0_3 : w5.cell? ⟨w3.heap.size + 1, 3, none⟩ = some (.int .i64 0) := V5_o0.c 3 _ rfl; have f5_o0 := V5_o0.2.2; have L5_o0 := V5_o0.lt; have N5_o0 := Nat.ne_of_gt L5_o0; have M5_o0 := Nat.ne_of_lt L5_o0)
         try (refine M.opt (T := M.Var w5 (w3.heap.size + 1 + 1) #[.int .i64 0, .int .i64 0, .int .i64 0, .int .i64 0]) ?_ ?_; refine M.Var.mono (b := w3.heap.size + 1 + 1) (cs := #[.int .i64 0, .int .i64 0, .int .i64 0, .int .i64 0]) ?_ hb; (repeat (first | (with_reducible assumption) | (with_reducible apply M.var_setBx) | (with_reducible apply M.var_setHt) | (with_reducible apply M.var_setB) | (with_reducible apply M.var_setI) | (with_reducible apply M.var_setV) | (with_reducible refine M.var_alloc' _ _ _ ?_; first | rfl | (focus (simp [go_sem]; done))) | (with_reducible refine M.Var.alloc ?_ _) | (with_reducible refine M.Var.drewN ?_ _) | (with_reducible refine M.Var.drew ?_) | (with_reducible refine M.Var.far ?_ _ _ ?hFar; case hFar => (first | omega | ((try simp [go_sem]) <;> omega))) | fail)); intro V5_o1; have q5_o1_0 : w5.cell? ⟨w3.heap.size + 1 + 1, 0, none⟩ = some (.int .i64 0) := V5_o1.c 0 _ rfl; have q5_o1_1 : w5.cell? ⟨w3.heap.size + 1 + 1, 1, none⟩ = some (.int .i64 0) := V5_o1.c 1 _ rfl; have q5_o1_2 : w5.cell? ⟨w3.heap.size + 1 + 1, 2, none⟩ = some (.int .i64 0) := V5_o1.c 2 _ rfl; have q5_o1_3 : w5.cell? ⟨w3.heap.size + 1 + 1, 3, none⟩ = some (.int .i64 0) := V5_o1.c 3 _ rfl; have f5_o1 := V5_o1.2.2; have L5_o1 := V5_o1.lt; have N5_o1 := Nat.ne_of_gt L5_o1; have M5_o1 := Nat.ne_of_lt L5_o1)
         try (refine M.opt (T := M.Var w5 (w4.heap.size) #[.int .i64 0, .int .i64 0, .int .i64 0, .int .i64 0]) ?_ ?_; refine M.Var.mono (b := w4.heap.size) (cs := #[.int .i64 0, .int .i64 0, .int .i64 0, .int .i64 0]) ?_ hb; (repeat (first | (with_reducible assumption) | (with_reducible apply M.var_setBx) | (with_reducible apply M.var_setHt) | (with_reducible apply M.var_setB) | (with_reducible apply M.var_setI) | (with_reducible apply M.var_setV) | (with_reducible refine M.var_alloc' _ _ _ ?_; first | rfl | (focus (simp [go_sem]; done))) | (with_reducible refine M.Var.alloc ?_ _) | (with_reducible refine M.Var.drewN ?_ _) | (with_reducible refine M.Var.drew ?_) | (with_reducible refine M.Var.far ?_ _ _ ?hFar; case hFar => (first | omega | ((try simp [go_sem]) <;> omega))) | fail)); intro V5_o2; have q5_o2_0 : w5.cell? ⟨w4.heap.size, 0, none⟩ = some (.int .i64 0) := V5_o2.c 0 _ rfl; have q5_o2_1 : w5.cell? ⟨w4.heap.size, 1, none⟩ = some (.int .i64 0) := V5_o2.c 1 _ rfl; have q5_o2_2 : w5.cell? ⟨w4.heap.size, 2, none⟩ = some (.int .i64 0) := V5_o2.c 2 _ rfl; have q5_o2_3 : w5.cell? ⟨w4.heap.size, 3, none⟩ = some (.int .i64 0) := V5_o2.c 3 _ rfl; have f5_o2 := V5_o2.2.2; have L5_o2 := V5_o2.lt; have N5_o2 := Nat.ne_of_gt L5_o2; have M5_o2 := Nat.ne_of_lt L5_o2)
         try (refine M.opt (T := M.Var w5 (w4.heap.size + 1) #[.int .i64 0, .int .i64 0, .int .i64 0, .int .i64 0]) ?_ ?_; refine M.Var.mono (b := w4.heap.size + 1) (cs := #[.int .i64 0, .int .i64 0, .int .i64 0, .int .i64 0]) ?_ hb; (repeat (first | (with_reducible assumption) | (with_reducible apply M.var_setBx) | (with_reducible apply M.var_setHt) | (with_reducible apply M.var_setB) | (with_reducible apply M.var_setI) | (with_reducible apply M.var_setV) | (with_reducible refine M.var_alloc' _ _ _ ?_; first | rfl | (focus (simp [go_sem]; done))) | (with_reducible refine M.Var.alloc ?_ _) | (with_reducible refine M.Var.drewN ?_ _) | (with_reducible refine M.Var.drew ?_) | (with_reducible refine M.Var.far ?_ _ _ ?hFar; case hFar => (first | omega | ((try simp [go_sem]) <;> omega))) | fail)); intro V5_o3; have q5_o3_0 : w5.cell? ⟨w4.heap.size + 1, 0, none⟩ = some (.int .i64 0) := V5_o3.c 0 _ rfl; have q5_o3_1 : w5.cell? ⟨w4.heap.size + 1, 1, none⟩ = some (.int .i64 0) := V5_o3.c 1 _ rfl; have q5_o3_2 : w5.cell? ⟨w4.heap.size + 1, 2, none⟩ = some (.int .i64 0) := V5_o3.c 2 _ rfl; have q5_o3_3 : w5.cell? ⟨w4.heap.size + 1, 3, none⟩ = some (.int .i64 0) := V5_o3.c 3 _ rfl; have f5_o3 := V5_o3.2.2; have L5_o3 := V5_o3.lt; have N5_o3 := Nat.ne_of_gt L5_o3; have M5_o3 := Nat.ne_of_lt L5_o3)
         try (refine M.opt (T := M.Var w5 (w5.heap.size) #[.int .i64 0, .int .i64 0, .int .i64 0, .int .i64 0]) ?_ ?_; refine M.Var.mono (b := w5.heap.size) (cs := #[.int .i64 0, .int .i64 0, .int .i64 0, .int .i64 0]) ?_ hb; (repeat (first | (with_reducible assumption) | (with_reducible apply M.var_setBx) | (with_reducible apply M.var_setHt) | (with_reducible apply M.var_setB) | (with_reducible apply M.var_setI) | (with_reducible apply M.var_setV) | (with_reducible refine M.var_alloc' _ _ _ ?_; first | rfl | (focus (simp [go_sem]; done))) | (with_reducible refine M.Var.alloc ?_ _) | (with_reducible refine M.Var.drewN ?_ _) | (with_reducible refine M.Var.drew ?_) | (with_reducible refine M.Var.far ?_ _ _ ?hFar; case hFar => (first | omega | ((try simp [go_sem]) <;> omega))) | fail)); intro V5_o4; have q5_o4_0 : w5.cell? ⟨w5.heap.size, 0, none⟩ = some (.int .i64 0) := V5_o4.c 0 _ rfl; have q5_o4_1 : w5.cell? ⟨w5.heap.size, 1, none⟩ = some (.int .i64 0) := V5_o4.c 1 _ rfl; have q5_o4_2 : w5.cell? ⟨w5.heap.size, 2, none⟩ = some (.int .i64 0) := V5_o4.c 2 _ rfl; have q5_o4_3 : w5.cell? ⟨w5.heap.size, 3, none⟩ = some (.int .i64 0) := V5_o4.c 3 _ rfl; have f5_o4 := V5_o4.2.2; have L5_o4 := V5_o4.lt; have N5_o4 := Nat.ne_of_gt L5_o4; have M5_o4 := Nat.ne_of_lt L5_o4)
         try (refine M.opt (T := M.Var w5 (w5.heap.size + 1) #[.int .i64 0, .int .i64 0, .int .i64 0, .int .i64 0]) ?_ ?_; refine M.Var.mono (b := w5.heap.size + 1) (cs := #[.int .i64 0, .int .i64 0, .int .i64 0, .int .i64 0]) ?_ hb; (repeat (first | (with_reducible assumption) | (with_reducible apply M.var_setBx) | (with_reducible apply M.var_setHt) | (with_reducible apply M.var_setB) | (with_reducible apply M.var_setI) | (with_reducible apply M.var_setV) | (with_reducible refine M.var_alloc' _ _ _ ?_; first | rfl | (focus (simp [go_sem]; done))) | (with_reducible refine M.Var.alloc ?_ _) | (with_reducible refine M.Var.drewN ?_ _) | (with_reducible refine M.Var.drew ?_) | (with_reducible refine M.Var.far ?_ _ _ ?hFar; case hFar => (first | omega | ((try simp [go_sem]) <;> omega))) | fail)); intro V5_o5; have q5_o5_0 : w5.cell? ⟨w5.heap.size + 1, 0, none⟩ = some (.int .i64 0) := V5_o5.c 0 _ rfl; have q5_o5_1 : w5.cell? ⟨w5.heap.size + 1, 1, none⟩ = some (.int .i64 0) := V5_o5.c 1 _ rfl; have q5_o5_2 : w5.cell? ⟨w5.heap.size + 1, 2, none⟩ = some (.int .i64 0) := V5_o5.c 2 _ rfl; have q5_o5_3 : w5.cell? ⟨w5.heap.size + 1, 3, none⟩ = some (.int .i64 0) := V5_o5.c 3 _ rfl; have f5_o5 := V5_o5.2.2; have L5_o5 := V5_o5.lt; have N5_o5 := Nat.ne_of_gt L5_o5; have M5_o5 := Nat.ne_of_lt L5_o5)
         clear V4_a f4_a q4_a_0 q4_a_1 q4_a_2 q4_a_3 q4_a_4 q4_a_5 q4_a_6 q4_a_7 V4_b f4_b q4_b_0 q4_b_1 q4_b_2 q4_b_3 q4_b_4 q4_b_5 q4_b_6 q4_b_7 V4_c f4_c q4_c_0
         try clear V4_o0
         try clear f4_o0
         try clear q4_o0_0
         try clear q4_o0_1
         try clear q4_o0_2
         try clear q4_o0_3
         try clear V4_o1
         try clear f4_o1
         try clear q4_o1_0
         try clear q4_o1_1
         try clear q4_o1_2
         try clear q4_o1_3
         try clear V4_o2
         try clear f4_o2
         try clear q4_o2_0
         try clear q4_o2_1
         try clear q4_o2_2
         try clear q4_o2_3
         try clear V4_o3
         try clear f4_o3
         try clear q4_o3_0
         try clear q4_o3_1
         try clear q4_o3_2
         try clear q4_o3_3
         try clear V4_o4
         try clear f4_o4
         try clear q4_o4_0
         try clear q4_o4_1
         try clear q4_o4_2
         try clear q4_o4_3
         try clear V4_o5
         try clear f4_o5
         try clear q4_o5_0
         try clear q4_o5_1
         try clear q4_o5_2
         try clear q4_o5_3
         have S5 := G5.size
         have HG5 := Lib.hid G5; clear G5 hb)
      )
    all_goals
      go_wp2_with (with_reducible refine M.stopPost ?_)
      go_meet
      case rel => exact ⟨_, _, rfl, rfl, by omega, by omega, by omega, Lib.hid (by have G := HG5.out; (repeat (with_reducible refine M.Below.drewN ?_ _)); go_grown), by (repeat (first | (with_reducible assumption) | (with_reducible apply M.var_setBx) | (with_reducible apply M.var_setHt) | (with_reducible apply M.var_setB) | (with_reducible apply M.var_setI) | (with_reducible apply M.var_setV) | (with_reducible refine M.var_alloc' _ _ _ ?_; first | rfl | (focus (simp [go_sem]; done))) | (with_reducible refine M.Var.alloc ?_ _) | (with_reducible refine M.Var.drewN ?_ _) | (with_reducible refine M.Var.drew ?_) | (with_reducible refine M.Var.far ?_ _ _ ?hFar; case hFar => (first | omega | ((try simp [go_sem]) <;> omega))) | fail)), by (repeat (first | (with_reducible assumption) | (with_reducible apply M.var_setBx) | (with_reducible apply M.var_setHt) | (with_reducible apply M.var_setB) | (with_reducible apply M.var_setI) | (with_reducible apply M.var_setV) | (with_reducible refine M.var_alloc' _ _ _ ?_; first | rfl | (focus (simp [go_sem]; done))) | (with_reducible refine M.Var.alloc ?_ _) | (with_reducible refine M.Var.drewN ?_ _) | (with_reducible refine M.Var.drew ?_) | (with_reducible refine M.Var.far ?_ _ _ ?hFar; case hFar => (first | omega | ((try simp [go_sem]) <;> omega))) | fail)), by (repeat (first | (with_reducible assumption) | (with_reducible apply M.var_setBx) | (with_reducible apply M.var_setHt) | (with_reducible apply M.var_setB) | (with_reducible apply M.var_setI) | (with_reducible apply M.var_setV) | (with_reducible refine M.var_alloc' _ _ _ ?_; first | rfl | (focus (simp [go_sem]; done))) | (with_reducible refine M.Var.alloc ?_ _) | (with_reducible refine M.Var.drewN ?_ _) | (with_reducible refine M.Var.drew ?_) | (with_reducible refine M.Var.far ?_ _ _ ?hFar; case hFar => (first | omega | ((try simp [go_sem]) <;> omega))) | fail)), by (repeat (first | (with_reducible assumption) | (with_reducible apply M.var_setBx) | (with_reducible apply M.var_setHt) | (with_reducible apply M.var_setB) | (with_reducible apply M.var_setI) | (with_reducible apply M.var_setV) | (with_reducible refine M.var_alloc' _ _ _ ?_; first | rfl | (focus (simp [go_sem]; done))) | (with_reducible refine M.Var.alloc ?_ _) | (with_reducible refine M.Var.drewN ?_ _) | (with_reducible refine M.Var.drew ?_) | (with_reducible refine M.Var.far ?_ _ _ ?hFar; case hFar => (first | omega | ((try simp [go_sem]) <;> omega))) | fail)), by (repeat (first | (with_reducible assumption) | (with_reducible apply M.var_setBx) | (with_reducible apply M.var_setHt) | (with_reducible apply M.var_setB) | (with_reducible apply M.var_setI) | (with_reducible apply M.var_setV) | (with_reducible refine M.var_alloc' _ _ _ ?_; first | rfl | (focus (simp [go_sem]; done))) | (with_reducible refine M.Var.alloc ?_ _) | (with_reducible refine M.Var.drewN ?_ _) | (with_reducible refine M.Var.drew ?_) | (with_reducible refine M.Var.far ?_ _ _ ?hFar; case hFar => (first | omega | ((try simp [go_sem]) <;> omega))) | fail))⟩
  case rest =>
    have S3 : w.heap.size + 1 < w3.heap.size := by omega
    obtain ⟨g1, g2, rfl, rfl, hg1, hg2, hne, HGc, Vc_a, Vc_b, Vc_c, Vc_x, Vc_y⟩ := hcut
    have Sc : w.heap.size ≤ wc.heap.size := HGc.out.size
    clear V3_a HV3_a f3_a q3_a_0 q3_a_1 q3_a_2 q3_a_3 q3_a_4 q3_a_5 q3_a_6 q3_a_7 V3_b HV3_b f3_b q3_b_0 q3_b_1 q3_b_2 q3_b_3 q3_b_4 q3_b_5 q3_b_6 q3_b_7
    have qc_a_0 : wc.cell? ⟨w.heap.size, 0, none⟩ = some (.int .i64 a.shape) := Vc_a.c 0 _ rfl
    have qc_a_1 : wc.cell? ⟨w.heap.size, 1, none⟩ = some (.int .i64 a.sx) := Vc_a.c 1 _ rfl
    have qc_a_2 : wc.cell? ⟨w.heap.size, 2, none⟩ = some (.int .i64 a.sy) := Vc_a.c 2 _ rfl
    have qc_a_3 : wc.cell? ⟨w.heap.size, 3, none⟩ = some (.int .i64 a.mass) := Vc_a.c 3 _ rfl
    have qc_a_4 : wc.cell? ⟨w.heap.size, 4, none⟩ = some (.int .i64 a.px) := Vc_a.c 4 _ rfl
    have qc_a_5 : wc.cell? ⟨w.heap.size, 5, none⟩ = some (.int .i64 a.py) := Vc_a.c 5 _ rfl
    have qc_a_6 : wc.cell? ⟨w.heap.size, 6, none⟩ = some (.int .i64 a.mx) := Vc_a.c 6 _ rfl
    have qc_a_7 : wc.cell? ⟨w.heap.size, 7, none⟩ = some (.int .i64 a.my) := Vc_a.c 7 _ rfl
    have fc_a := Vc_a.2.2; have Lc_a := Vc_a.lt; have Nc_a := Nat.ne_of_gt Lc_a; have Mc_a := Nat.ne_of_lt Lc_a
    have qc_b_0 : wc.cell? ⟨w.heap.size + 1, 0, none⟩ = some (.int .i64 b.shape) := Vc_b.c 0 _ rfl
    have qc_b_1 : wc.cell? ⟨w.heap.size + 1, 1, none⟩ = some (.int .i64 b.sx) := Vc_b.c 1 _ rfl
    have qc_b_2 : wc.cell? ⟨w.heap.size + 1, 2, none⟩ = some (.int .i64 b.sy) := Vc_b.c 2 _ rfl
    have qc_b_3 : wc.cell? ⟨w.heap.size + 1, 3, none⟩ = some (.int .i64 b.mass) := Vc_b.c 3 _ rfl
    have qc_b_4 : wc.cell? ⟨w.heap.size + 1, 4, none⟩ = some (.int .i64 b.px) := Vc_b.c 4 _ rfl
    have qc_b_5 : wc.cell? ⟨w.heap.size + 1, 5, none⟩ = some (.int .i64 b.py) := Vc_b.c 5 _ rfl
    have qc_b_6 : wc.cell? ⟨w.heap.size + 1, 6, none⟩ = some (.int .i64 b.mx) := Vc_b.c 6 _ rfl
    have qc_b_7 : wc.cell? ⟨w.heap.size + 1, 7, none⟩ = some (.int .i64 b.my) := Vc_b.c 7 _ rfl
    have fc_b := Vc_b.2.2; have Lc_b := Vc_b.lt; have Nc_b := Nat.ne_of_gt Lc_b; have Mc_b := Nat.ne_of_lt Lc_b
    have qc_c_0 : wc.cell? ⟨w3.heap.size, 0, none⟩ = some (.int .i64 0) := Vc_c.c 0 _ rfl
    have fc_c := Vc_c.2.2; have Lc_c := Vc_c.lt; have Nc_c := Nat.ne_of_gt Lc_c; have Mc_c := Nat.ne_of_lt Lc_c
    have qc_x_0 : wc.cell? ⟨g1, 0, none⟩ = some (.int .i64 X.lx) := Vc_x.c 0 _ rfl
    have qc_x_1 : wc.cell? ⟨g1, 1, none⟩ = some (.int .i64 X.ly) := Vc_x.c 1 _ rfl
    have qc_x_2 : wc.cell? ⟨g1, 2, none⟩ = some (.int .i64 X.hx) := Vc_x.c 2 _ rfl
    have qc_x_3 : wc.cell? ⟨g1, 3, none⟩ = some (.int .i64 X.hy) := Vc_x.c 3 _ rfl
    have fc_x := Vc_x.2.2; have Lc_x := Vc_x.lt; have Nc_x := Nat.ne_of_gt Lc_x; have Mc_x := Nat.ne_of_lt Lc_x
    have qc_y_0 : wc.cell? ⟨g2, 0, none⟩ = some (.int .i64 Y.lx) := Vc_y.c 0 _ rfl
    have qc_y_1 : wc.cell? ⟨g2, 1, none⟩ = some (.int .i64 Y.ly) := Vc_y.c 1 _ rfl
    have qc_y_2 : wc.cell? ⟨g2, 2, none⟩ = some (.int .i64 Y.hx) := Vc_y.c 2 _ rfl
    have qc_y_3 : wc.cell? ⟨g2, 3, none⟩ = some (.int .i64 Y.hy) := Vc_y.c 3 _ rfl
    have fc_y := Vc_y.2.2; have Lc_y := Vc_y.lt; have Nc_y := Nat.ne_of_gt Lc_y; have Mc_y := Nat.ne_of_lt Lc_y
    go_wp2_with (with_reducible refine M.stopPost ?_)
    (with_reducible refine (CM.out _).mono ?_); rintro en w6 ⟨rfl, hb⟩
    have G6 : Below w.heap.size w w6 := Below.trans (by have G := HGc.out; (repeat (with_reducible refine M.Below.drewN ?_ _)); go_grown) (hb.mono (by go_size))
    have V6_a : M.Var w6 (w.heap.size) #[.int .i64 a.shape, .int .i64 a.sx, .int .i64 a.sy, .int .i64 a.mass, .int .i64 a.px, .int .i64 a.py, .int .i64 a.mx, .int .i64 a.my] := M.Var.mono (by (repeat (first | (with_reducible assumption) | (with_reducible apply M.var_set45) | (with_reducible refine M.var_alloc' _ _ _ ?_; first | rfl | (simp [go_sem]; done)) | (with_reducible refine M.Var.alloc ?_ _) | (with_reducible refine M.Var.drewN ?_ _) | (with_reducible refine M.Var.drew ?_) | (with_reducible refine M.Var.far ?_ _ _ ?hFar; case hFar => (first | omega | ((try simp [go_sem]) <;> omega))) | fail))) hb
    have V6_b : M.Var w6 (w.heap.size + 1) #[.int .i64 b.shape, .int .i64 b.sx, .int .i64 b.sy, .int .i64 b.mass, .int .i64 b.px, .int .i64 b.py, .int .i64 b.mx, .int .i64 b.my] := M.Var.mono (by (repeat (first | (with_reducible assumption) | (with_reducible apply M.var_set45) | (with_reducible refine M.var_alloc' _ _ _ ?_; first | rfl | (simp [go_sem]; done)) | (with_reducible refine M.Var.alloc ?_ _) | (with_reducible refine M.Var.drewN ?_ _) | (with_reducible refine M.Var.drew ?_) | (with_reducible refine M.Var.far ?_ _ _ ?hFar; case hFar => (first | omega | ((try simp [go_sem]) <;> omega))) | fail))) hb
    have V6_c : M.Var w6 (w3.heap.size) #[.int .i64 0] := M.Var.mono (by (repeat (first | (with_reducible assumption) | (with_reducible apply M.var_set45) | (with_reducible refine M.var_alloc' _ _ _ ?_; first | rfl | (simp [go_sem]; done)) | (with_reducible refine M.Var.alloc ?_ _) | (with_reducible refine M.Var.drewN ?_ _) | (with_reducible refine M.Var.drew ?_) | (with_reducible refine M.Var.far ?_ _ _ ?hFar; case hFar => (first | omega | ((try simp [go_sem]) <;> omega))) | fail))) hb
    have V6_x : M.Var w6 (g1) #[.int .i64 X.lx, .int .i64 X.ly, .int .i64 X.hx, .int .i64 X.hy] := M.Var.mono (by (repeat (first | (with_reducible assumption) | (with_reducible apply M.var_set45) | (with_reducible refine M.var_alloc' _ _ _ ?_; first | rfl | (simp [go_sem]; done)) | (with_reducible refine M.Var.alloc ?_ _) | (with_reducible refine M.Var.drewN ?_ _) | (with_reducible refine M.Var.drew ?_) | (with_reducible refine M.Var.far ?_ _ _ ?hFar; case hFar => (first | omega | ((try simp [go_sem]) <;> omega))) | fail))) hb
    have V6_y : M.Var w6 (g2) #[.int .i64 Y.lx, .int .i64 Y.ly, .int .i64 Y.hx, .int .i64 Y.hy] := M.Var.mono (by (repeat (first | (with_reducible assumption) | (with_reducible apply M.var_set45) | (with_reducible refine M.var_alloc' _ _ _ ?_; first | rfl | (simp [go_sem]; done)) | (with_reducible refine M.Var.alloc ?_ _) | (with_reducible refine M.Var.drewN ?_ _) | (with_reducible refine M.Var.drew ?_) | (with_reducible refine M.Var.far ?_ _ _ ?hFar; case hFar => (first | omega | ((try simp [go_sem]) <;> omega))) | fail))) hb
    have q6_a_0 : w6.cell? ⟨w.heap.size, 0, none⟩ = some (.int .i64 a.shape) := V6_a.c 0 _ rfl
    have q6_a_1 : w6.cell? ⟨w.heap.size, 1, none⟩ = some (.int .i64 a.sx) := V6_a.c 1 _ rfl
    have q6_a_2 : w6.cell? ⟨w.heap.size, 2, none⟩ = some (.int .i64 a.sy) := V6_a.c 2 _ rfl
    have q6_a_3 : w6.cell? ⟨w.heap.size, 3, none⟩ = some (.int .i64 a.mass) := V6_a.c 3 _ rfl
    have q6_a_4 : w6.cell? ⟨w.heap.size, 4, none⟩ = some (.int .i64 a.px) := V6_a.c 4 _ rfl
    have q6_a_5 : w6.cell? ⟨w.heap.size, 5, none⟩ = some (.int .i64 a.py) := V6_a.c 5 _ rfl
    have q6_a_6 : w6.cell? ⟨w.heap.size, 6, none⟩ = some (.int .i64 a.mx) := V6_a.c 6 _ rfl
    have q6_a_7 : w6.cell? ⟨w.heap.size, 7, none⟩ = some (.int .i64 a.my) := V6_a.c 7 _ rfl
    have f6_a := V6_a.2.2; have L6_a := V6_a.lt; have N6_a := Nat.ne_of_gt L6_a; have M6_a := Nat.ne_of_lt L6_a
    have HV6_a := Lib.hid V6_a
    have q6_b_0 : w6.cell? ⟨w.heap.size + 1, 0, none⟩ = some (.int .i64 b.shape) := V6_b.c 0 _ rfl
    have q6_b_1 : w6.cell? ⟨w.heap.size + 1, 1, none⟩ = some (.int .i64 b.sx) := V6_b.c 1 _ rfl
    have q6_b_2 : w6.cell? ⟨w.heap.size + 1, 2, none⟩ = some (.int .i64 b.sy) := V6_b.c 2 _ rfl
    have q6_b_3 : w6.cell? ⟨w.heap.size + 1, 3, none⟩ = some (.int .i64 b.mass) := V6_b.c 3 _ rfl
    have q6_b_4 : w6.cell? ⟨w.heap.size + 1, 4, none⟩ = some (.int .i64 b.px) := V6_b.c 4 _ rfl
    have q6_b_5 : w6.cell? ⟨w.heap.size + 1, 5, none⟩ = some (.int .i64 b.py) := V6_b.c 5 _ rfl
    have q6_b_6 : w6.cell? ⟨w.heap.size + 1, 6, none⟩ = some (.int .i64 b.mx) := V6_b.c 6 _ rfl
    have q6_b_7 : w6.cell? ⟨w.heap.size + 1, 7, none⟩ = some (.int .i64 b.my) := V6_b.c 7 _ rfl
    have f6_b := V6_b.2.2; have L6_b := V6_b.lt; have N6_b := Nat.ne_of_gt L6_b; have M6_b := Nat.ne_of_lt L6_b
    have HV6_b := Lib.hid V6_b
    have q6_c_0 : w6.cell? ⟨w3.heap.size, 0, none⟩ = some (.int .i64 0) := V6_c.c 0 _ rfl
    have f6_c := V6_c.2.2; have L6_c := V6_c.lt; have N6_c := Nat.ne_of_gt L6_c; have M6_c := Nat.ne_of_lt L6_c
    have HV6_c := Lib.hid V6_c
    have q6_x_0 : w6.cell? ⟨g1, 0, none⟩ = some (.int .i64 X.lx) := V6_x.c 0 _ rfl
    have q6_x_1 : w6.cell? ⟨g1, 1, none⟩ = some (.int .i64 X.ly) := V6_x.c 1 _ rfl
    have q6_x_2 : w6.cell? ⟨g1, 2, none⟩ = some (.int .i64 X.hx) := V6_x.c 2 _ rfl
    have q6_x_3 : w6.cell? ⟨g1, 3, none⟩ = some (.int .i64 X.hy) := V6_x.c 3 _ rfl
    have f6_x := V6_x.2.2; have L6_x := V6_x.lt; have N6_x := Nat.ne_of_gt L6_x; have M6_x := Nat.ne_of_lt L6_x
    have HV6_x := Lib.hid V6_x
    have q6_y_0 : w6.cell? ⟨g2, 0, none⟩ = some (.int .i64 Y.lx) := V6_y.c 0 _ rfl
    have q6_y_1 : w6.cell? ⟨g2, 1, none⟩ = some (.int .i64 Y.ly) := V6_y.c 1 _ rfl
    have q6_y_2 : w6.cell? ⟨g2, 2, none⟩ = some (.int .i64 Y.hx) := V6_y.c 2 _ rfl
    have q6_y_3 : w6.cell? ⟨g2, 3, none⟩ = some (.int .i64 Y.hy) := V6_y.c 3 _ rfl
    have f6_y := V6_y.2.2; have L6_y := V6_y.lt; have N6_y := Nat.ne_of_gt L6_y; have M6_y := Nat.ne_of_lt L6_y
    have HV6_y := Lib.hid V6_y
    clear Vc_a fc_a Lc_a Nc_a Mc_a qc_a_0 qc_a_1 qc_a_2 qc_a_3 qc_a_4 qc_a_5 qc_a_6 qc_a_7 Vc_b fc_b Lc_b Nc_b Mc_b qc_b_0 qc_b_1 qc_b_2 qc_b_3 qc_b_4 qc_b_5 qc_b_6 qc_b_7 Vc_c fc_c Lc_c Nc_c Mc_c qc_c_0 Vc_x fc_x Lc_x Nc_x Mc_x qc_x_0 qc_x_1 qc_x_2 qc_x_3 Vc_y fc_y Lc_y Nc_y Mc_y qc_y_0 qc_y_1 qc_y_2 qc_y_3
    have S6 := G6.size; clear hb
    go_wp2_with fail
    refine (try_c 23 #[.pointer (some ⟨w.heap.size, 0, none⟩), .pointer (some ⟨w.heap.size + 1, 0, none⟩), .pointer (some ⟨w6.heap.size + 1 + 1, 0, none⟩), .pointer (some ⟨w6.heap.size, 0, none⟩), .pointer (some ⟨w6.heap.size + 1 + 1 + 1, 0, none⟩), .pointer (some ⟨w6.heap.size + 1, 0, none⟩)] _ (0) (usHt (w6.heap.size + 1 + 1) (.ok q1) ++ usB (w6.heap.size) (.ok t) ++ usHt (w6.heap.size + 1 + 1 + 1) (.ok q2) ++ usB (w6.heap.size + 1) (.ok t)) (fun _ => rfl) ?_ ?_).mono ?_
    · intro u hu; (try simp only [List.mem_append] at hu); (repeat' (obtain hu | hu := (hu : _ ∨ _))); all_goals (first | with_reducible rw [M.cell_block1 hu] | with_reducible rw [M.usBx_block hu] | with_reducible rw [M.usV_block hu] | with_reducible rw [M.usI_block hu] | with_reducible rw [M.usHt_block hu] | with_reducible rw [M.usBd_block hu] | with_reducible rw [M.usB_block hu] | rw [M.cell_block1 hu] | (exfalso; simp at hu; done)); all_goals ((try simp [go_sem]) <;> omega)
    · intro w1' hb; exact (cloBoth _ _ _ _ _ _ a b ha hB q1 q2 t t E1.out E2.out w1' (M.Var.mono (b := w.heap.size) (cs := #[.int .i64 a.shape, .int .i64 a.sx, .int .i64 a.sy, .int .i64 a.mass, .int .i64 a.px, .int .i64 a.py, .int .i64 a.mx, .int .i64 a.my]) (by (repeat (first | (with_reducible assumption) | (with_reducible apply M.var_set45) | (with_reducible refine M.var_alloc' _ _ _ ?_; first | rfl | (simp [go_sem]; done)) | (with_reducible refine M.Var.alloc ?_ _) | (with_reducible refine M.Var.drewN ?_ _) | (with_reducible refine M.Var.drew ?_) | (with_reducible refine M.Var.far ?_ _ _ ?hFar; case hFar => (first | omega | ((try simp [go_sem]) <;> omega))) | fail))) hb) (M.Var.mono (b := w.heap.size + 1) (cs := #[.int .i64 b.shape, .int .i64 b.sx, .int .i64 b.sy, .int .i64 b.mass, .int .i64 b.px, .int .i64 b.py, .int .i64 b.mx, .int .i64 b.my]) (by (repeat (first | (with_reducible assumption) | (with_reducible apply M.var_set45) | (with_reducible refine M.var_alloc' _ _ _ ?_; first | rfl | (simp [go_sem]; done)) | (with_reducible refine M.Var.alloc ?_ _) | (with_reducible refine M.Var.drewN ?_ _) | (with_reducible refine M.Var.drew ?_) | (with_reducible refine M.Var.far ?_ _ _ ?hFar; case hFar => (first | omega | ((try simp [go_sem]) <;> omega))) | fail))) hb) (M.Var.mono (b := w6.heap.size + 1 + 1) (cs := #[.int .i64 0, .int .i64 0, .int .i64 0]) (by (repeat (first | (with_reducible assumption) | (with_reducible apply M.var_set45) | (with_reducible refine M.var_alloc' _ _ _ ?_; first | rfl | (simp [go_sem]; done)) | (with_reducible refine M.Var.alloc ?_ _) | (with_reducible refine M.Var.drewN ?_ _) | (with_reducible refine M.Var.drew ?_) | (with_reducible refine M.Var.far ?_ _ _ ?hFar; case hFar => (first | omega | ((try simp [go_sem]) <;> omega))) | fail))) hb) (M.Var.mono (b := w6.heap.size) (cs := #[.bool false]) (by (repeat (first | (with_reducible assumption) | (with_reducible apply M.var_set45) | (with_reducible refine M.var_alloc' _ _ _ ?_; first | rfl | (simp [go_sem]; done)) | (with_reducible refine M.Var.alloc ?_ _) | (with_reducible refine M.Var.drewN ?_ _) | (with_reducible refine M.Var.drew ?_) | (with_reducible refine M.Var.far ?_ _ _ ?hFar; case hFar => (first | omega | ((try simp [go_sem]) <;> omega))) | fail))) hb) (M.Var.mono (b := w6.heap.size + 1 + 1 + 1) (cs := #[.int .i64 0, .int .i64 0, .int .i64 0]) (by (repeat (first | (with_reducible assumption) | (with_reducible apply M.var_set45) | (with_reducible refine M.var_alloc' _ _ _ ?_; first | rfl | (simp [go_sem]; done)) | (with_reducible refine M.Var.alloc ?_ _) | (with_reducible refine M.Var.drewN ?_ _) | (with_reducible refine M.Var.drew ?_) | (with_reducible refine M.Var.far ?_ _ _ ?hFar; case hFar => (first | omega | ((try simp [go_sem]) <;> omega))) | fail))) hb) (M.Var.mono (b := w6.heap.size + 1) (cs := #[.bool false]) (by (repeat (first | (with_reducible assumption) | (with_reducible apply M.var_set45) | (with_reducible refine M.var_alloc' _ _ _ ?_; first | rfl | (simp [go_sem]; done)) | (with_reducible refine M.Var.alloc ?_ _) | (with_reducible refine M.Var.drewN ?_ _) | (with_reducible refine M.Var.drew ?_) | (with_reducible refine M.Var.far ?_ _ _ ?hFar; case hFar => (first | omega | ((try simp [go_sem]) <;> omega))) | fail))) hb) (by omega) (by omega) (by omega) (by omega) (by omega)).mono fun e w' h => h
    rintro en w7 ⟨rfl, hb⟩
    have G7 : Below w.heap.size w w7 := by refine Below.trans ?_ (hb.mono (by go_size)); exact M.below_sets_own _ (by have G := HGc.out; (repeat (with_reducible refine M.Below.drewN ?_ _)); go_grown) (by intro u hu; (try simp only [List.mem_append] at hu); (repeat' (obtain hu | hu := (hu : _ ∨ _))); all_goals (first | with_reducible rw [M.cell_block1 hu] | with_reducible rw [M.usBx_block hu] | with_reducible rw [M.usV_block hu] | with_reducible rw [M.usI_block hu] | with_reducible rw [M.usHt_block hu] | with_reducible rw [M.usBd_block hu] | with_reducible rw [M.usB_block hu] | rw [M.cell_block1 hu] | (exfalso; simp at hu; done)); all_goals ((try simp [go_sem]) <;> omega))
    have V7_a : M.Var w7 (w.heap.size) #[.int .i64 a.shape, .int .i64 a.sx, .int .i64 a.sy, .int .i64 a.mass, .int .i64 a.px, .int .i64 a.py, .int .i64 a.mx, .int .i64 a.my] := by refine M.Var.mono' ?_ (M.sets_size _ _) hb; (try simp only [M.sets_append]); exact (M.var_sets_far _ (M.var_sets_far _ (M.var_sets_far _ (M.var_sets_far _ (by (repeat (first | (with_reducible assumption) | (with_reducible apply M.var_set45) | (with_reducible refine M.var_alloc' _ _ _ ?_; first | rfl | (simp [go_sem]; done)) | (with_reducible refine M.Var.alloc ?_ _) | (with_reducible refine M.Var.drewN ?_ _) | (with_reducible refine M.Var.drew ?_) | (with_reducible refine M.Var.far ?_ _ _ ?hFar; case hFar => (first | omega | ((try simp [go_sem]) <;> omega))) | fail)) : M.Var _ (w.heap.size) #[.int .i64 a.shape, .int .i64 a.sx, .int .i64 a.sy, .int .i64 a.mass, .int .i64 a.px, .int .i64 a.py, .int .i64 a.mx, .int .i64 a.my]) (by intro u hu; all_goals (first | with_reducible rw [M.cell_block1 hu] | with_reducible rw [M.usBx_block hu] | with_reducible rw [M.usV_block hu] | with_reducible rw [M.usI_block hu] | with_reducible rw [M.usHt_block hu] | with_reducible rw [M.usBd_block hu] | with_reducible rw [M.usB_block hu] | rw [M.cell_block1 hu] | (exfalso; simp at hu; done)); all_goals ((try simp [go_sem]) <;> omega))) (by intro u hu; all_goals (first | with_reducible rw [M.cell_block1 hu] | with_reducible rw [M.usBx_block hu] | with_reducible rw [M.usV_block hu] | with_reducible rw [M.usI_block hu] | with_reducible rw [M.usHt_block hu] | with_reducible rw [M.usBd_block hu] | with_reducible rw [M.usB_block hu] | rw [M.cell_block1 hu] | (exfalso; simp at hu; done)); all_goals ((try simp [go_sem]) <;> omega))) (by intro u hu; all_goals (first | with_reducible rw [M.cell_block1 hu] | with_reducible rw [M.usBx_block hu] | with_reducible rw [M.usV_block hu] | with_reducible rw [M.usI_block hu] | with_reducible rw [M.usHt_block hu] | with_reducible rw [M.usBd_block hu] | with_reducible rw [M.usB_block hu] | rw [M.cell_block1 hu] | (exfalso; simp at hu; done)); all_goals ((try simp [go_sem]) <;> omega))) (by intro u hu; all_goals (first | with_reducible rw [M.cell_block1 hu] | with_reducible rw [M.usBx_block hu] | with_reducible rw [M.usV_block hu] | with_reducible rw [M.usI_block hu] | with_reducible rw [M.usHt_block hu] | with_reducible rw [M.usBd_block hu] | with_reducible rw [M.usB_block hu] | rw [M.cell_block1 hu] | (exfalso; simp at hu; done)); all_goals ((try simp [go_sem]) <;> omega)))
    have V7_b : M.Var w7 (w.heap.size + 1) #[.int .i64 b.shape, .int .i64 b.sx, .int .i64 b.sy, .int .i64 b.mass, .int .i64 b.px, .int .i64 b.py, .int .i64 b.mx, .int .i64 b.my] := by refine M.Var.mono' ?_ (M.sets_size _ _) hb; (try simp only [M.sets_append]); exact (M.var_sets_far _ (M.var_sets_far _ (M.var_sets_far _ (M.var_sets_far _ (by (repeat (first | (with_reducible assumption) | (with_reducible apply M.var_set45) | (with_reducible refine M.var_alloc' _ _ _ ?_; first | rfl | (simp [go_sem]; done)) | (with_reducible refine M.Var.alloc ?_ _) | (with_reducible refine M.Var.drewN ?_ _) | (with_reducible refine M.Var.drew ?_) | (with_reducible refine M.Var.far ?_ _ _ ?hFar; case hFar => (first | omega | ((try simp [go_sem]) <;> omega))) | fail)) : M.Var _ (w.heap.size + 1) #[.int .i64 b.shape, .int .i64 b.sx, .int .i64 b.sy, .int .i64 b.mass, .int .i64 b.px, .int .i64 b.py, .int .i64 b.mx, .int .i64 b.my]) (by intro u hu; all_goals (first | with_reducible rw [M.cell_block1 hu] | with_reducible rw [M.usBx_block hu] | with_reducible rw [M.usV_block hu] | with_reducible rw [M.usI_block hu] | with_reducible rw [M.usHt_block hu] | with_reducible rw [M.usBd_block hu] | with_reducible rw [M.usB_block hu] | rw [M.cell_block1 hu] | (exfalso; simp at hu; done)); all_goals ((try simp [go_sem]) <;> omega))) (by intro u hu; all_goals (first | with_reducible rw [M.cell_block1 hu] | with_reducible rw [M.usBx_block hu] | with_reducible rw [M.usV_block hu] | with_reducible rw [M.usI_block hu] | with_reducible rw [M.usHt_block hu] | with_reducible rw [M.usBd_block hu] | with_reducible rw [M.usB_block hu] | rw [M.cell_block1 hu] | (exfalso; simp at hu; done)); all_goals ((try simp [go_sem]) <;> omega))) (by intro u hu; all_goals (first | with_reducible rw [M.cell_block1 hu] | with_reducible rw [M.usBx_block hu] | with_reducible rw [M.usV_block hu] | with_reducible rw [M.usI_block hu] | with_reducible rw [M.usHt_block hu] | with_reducible rw [M.usBd_block hu] | with_reducible rw [M.usB_block hu] | rw [M.cell_block1 hu] | (exfalso; simp at hu; done)); all_goals ((try simp [go_sem]) <;> omega))) (by intro u hu; all_goals (first | with_reducible rw [M.cell_block1 hu] | with_reducible rw [M.usBx_block hu] | with_reducible rw [M.usV_block hu] | with_reducible rw [M.usI_block hu] | with_reducible rw [M.usHt_block hu] | with_reducible rw [M.usBd_block hu] | with_reducible rw [M.usB_block hu] | rw [M.cell_block1 hu] | (exfalso; simp at hu; done)); all_goals ((try simp [go_sem]) <;> omega)))
    have V7_c : M.Var w7 (w3.heap.size) #[.int .i64 0] := by refine M.Var.mono' ?_ (M.sets_size _ _) hb; (try simp only [M.sets_append]); exact (M.var_sets_far _ (M.var_sets_far _ (M.var_sets_far _ (M.var_sets_far _ (by (repeat (first | (with_reducible assumption) | (with_reducible apply M.var_set45) | (with_reducible refine M.var_alloc' _ _ _ ?_; first | rfl | (simp [go_sem]; done)) | (with_reducible refine M.Var.alloc ?_ _) | (with_reducible refine M.Var.drewN ?_ _) | (with_reducible refine M.Var.drew ?_) | (with_reducible refine M.Var.far ?_ _ _ ?hFar; case hFar => (first | omega | ((try simp [go_sem]) <;> omega))) | fail)) : M.Var _ (w3.heap.size) #[.int .i64 0]) (by intro u hu; all_goals (first | with_reducible rw [M.cell_block1 hu] | with_reducible rw [M.usBx_block hu] | with_reducible rw [M.usV_block hu] | with_reducible rw [M.usI_block hu] | with_reducible rw [M.usHt_block hu] | with_reducible rw [M.usBd_block hu] | with_reducible rw [M.usB_block hu] | rw [M.cell_block1 hu] | (exfalso; simp at hu; done)); all_goals ((try simp [go_sem]) <;> omega))) (by intro u hu; all_goals (first | with_reducible rw [M.cell_block1 hu] | with_reducible rw [M.usBx_block hu] | with_reducible rw [M.usV_block hu] | with_reducible rw [M.usI_block hu] | with_reducible rw [M.usHt_block hu] | with_reducible rw [M.usBd_block hu] | with_reducible rw [M.usB_block hu] | rw [M.cell_block1 hu] | (exfalso; simp at hu; done)); all_goals ((try simp [go_sem]) <;> omega))) (by intro u hu; all_goals (first | with_reducible rw [M.cell_block1 hu] | with_reducible rw [M.usBx_block hu] | with_reducible rw [M.usV_block hu] | with_reducible rw [M.usI_block hu] | with_reducible rw [M.usHt_block hu] | with_reducible rw [M.usBd_block hu] | with_reducible rw [M.usB_block hu] | rw [M.cell_block1 hu] | (exfalso; simp at hu; done)); all_goals ((try simp [go_sem]) <;> omega))) (by intro u hu; all_goals (first | with_reducible rw [M.cell_block1 hu] | with_reducible rw [M.usBx_block hu] | with_reducible rw [M.usV_block hu] | with_reducible rw [M.usI_block hu] | with_reducible rw [M.usHt_block hu] | with_reducible rw [M.usBd_block hu] | with_reducible rw [M.usB_block hu] | rw [M.cell_block1 hu] | (exfalso; simp at hu; done)); all_goals ((try simp [go_sem]) <;> omega)))
    have V7_x : M.Var w7 (g1) #[.int .i64 X.lx, .int .i64 X.ly, .int .i64 X.hx, .int .i64 X.hy] := by refine M.Var.mono' ?_ (M.sets_size _ _) hb; (try simp only [M.sets_append]); exact (M.var_sets_far _ (M.var_sets_far _ (M.var_sets_far _ (M.var_sets_far _ (by (repeat (first | (with_reducible assumption) | (with_reducible apply M.var_set45) | (with_reducible refine M.var_alloc' _ _ _ ?_; first | rfl | (simp [go_sem]; done)) | (with_reducible refine M.Var.alloc ?_ _) | (with_reducible refine M.Var.drewN ?_ _) | (with_reducible refine M.Var.drew ?_) | (with_reducible refine M.Var.far ?_ _ _ ?hFar; case hFar => (first | omega | ((try simp [go_sem]) <;> omega))) | fail)) : M.Var _ (g1) #[.int .i64 X.lx, .int .i64 X.ly, .int .i64 X.hx, .int .i64 X.hy]) (by intro u hu; all_goals (first | with_reducible rw [M.cell_block1 hu] | with_reducible rw [M.usBx_block hu] | with_reducible rw [M.usV_block hu] | with_reducible rw [M.usI_block hu] | with_reducible rw [M.usHt_block hu] | with_reducible rw [M.usBd_block hu] | with_reducible rw [M.usB_block hu] | rw [M.cell_block1 hu] | (exfalso; simp at hu; done)); all_goals ((try simp [go_sem]) <;> omega))) (by intro u hu; all_goals (first | with_reducible rw [M.cell_block1 hu] | with_reducible rw [M.usBx_block hu] | with_reducible rw [M.usV_block hu] | with_reducible rw [M.usI_block hu] | with_reducible rw [M.usHt_block hu] | with_reducible rw [M.usBd_block hu] | with_reducible rw [M.usB_block hu] | rw [M.cell_block1 hu] | (exfalso; simp at hu; done)); all_goals ((try simp [go_sem]) <;> omega))) (by intro u hu; all_goals (first | with_reducible rw [M.cell_block1 hu] | with_reducible rw [M.usBx_block hu] | with_reducible rw [M.usV_block hu] | with_reducible rw [M.usI_block hu] | with_reducible rw [M.usHt_block hu] | with_reducible rw [M.usBd_block hu] | with_reducible rw [M.usB_block hu] | rw [M.cell_block1 hu] | (exfalso; simp at hu; done)); all_goals ((try simp [go_sem]) <;> omega))) (by intro u hu; all_goals (first | with_reducible rw [M.cell_block1 hu] | with_reducible rw [M.usBx_block hu] | with_reducible rw [M.usV_block hu] | with_reducible rw [M.usI_block hu] | with_reducible rw [M.usHt_block hu] | with_reducible rw [M.usBd_block hu] | with_reducible rw [M.usB_block hu] | rw [M.cell_block1 hu] | (exfalso; simp at hu; done)); all_goals ((try simp [go_sem]) <;> omega)))
    have V7_y : M.Var w7 (g2) #[.int .i64 Y.lx, .int .i64 Y.ly, .int .i64 Y.hx, .int .i64 Y.hy] := by refine M.Var.mono' ?_ (M.sets_size _ _) hb; (try simp only [M.sets_append]); exact (M.var_sets_far _ (M.var_sets_far _ (M.var_sets_far _ (M.var_sets_far _ (by (repeat (first | (with_reducible assumption) | (with_reducible apply M.var_set45) | (with_reducible refine M.var_alloc' _ _ _ ?_; first | rfl | (simp [go_sem]; done)) | (with_reducible refine M.Var.alloc ?_ _) | (with_reducible refine M.Var.drewN ?_ _) | (with_reducible refine M.Var.drew ?_) | (with_reducible refine M.Var.far ?_ _ _ ?hFar; case hFar => (first | omega | ((try simp [go_sem]) <;> omega))) | fail)) : M.Var _ (g2) #[.int .i64 Y.lx, .int .i64 Y.ly, .int .i64 Y.hx, .int .i64 Y.hy]) (by intro u hu; all_goals (first | with_reducible rw [M.cell_block1 hu] | with_reducible rw [M.usBx_block hu] | with_reducible rw [M.usV_block hu] | with_reducible rw [M.usI_block hu] | with_reducible rw [M.usHt_block hu] | with_reducible rw [M.usBd_block hu] | with_reducible rw [M.usB_block hu] | rw [M.cell_block1 hu] | (exfalso; simp at hu; done)); all_goals ((try simp [go_sem]) <;> omega))) (by intro u hu; all_goals (first | with_reducible rw [M.cell_block1 hu] | with_reducible rw [M.usBx_block hu] | with_reducible rw [M.usV_block hu] | with_reducible rw [M.usI_block hu] | with_reducible rw [M.usHt_block hu] | with_reducible rw [M.usBd_block hu] | with_reducible rw [M.usB_block hu] | rw [M.cell_block1 hu] | (exfalso; simp at hu; done)); all_goals ((try simp [go_sem]) <;> omega))) (by intro u hu; all_goals (first | with_reducible rw [M.cell_block1 hu] | with_reducible rw [M.usBx_block hu] | with_reducible rw [M.usV_block hu] | with_reducible rw [M.usI_block hu] | with_reducible rw [M.usHt_block hu] | with_reducible rw [M.usBd_block hu] | with_reducible rw [M.usB_block hu] | rw [M.cell_block1 hu] | (exfalso; simp at hu; done)); all_goals ((try simp [go_sem]) <;> omega))) (by intro u hu; all_goals (first | with_reducible rw [M.cell_block1 hu] | with_reducible rw [M.usBx_block hu] | with_reducible rw [M.usV_block hu] | with_reducible rw [M.usI_block hu] | with_reducible rw [M.usHt_block hu] | with_reducible rw [M.usBd_block hu] | with_reducible rw [M.usB_block hu] | rw [M.cell_block1 hu] | (exfalso; simp at hu; done)); all_goals ((try simp [go_sem]) <;> omega)))
    have V7_p : M.Var w7 (w6.heap.size) #[.bool t] := by refine M.Var.mono' ?_ (M.sets_size _ _) hb; (try simp only [M.sets_append]); exact (M.var_sets_far _ (M.var_sets_far _ (M.var_setB (M.var_sets_far _ (by (repeat (first | (with_reducible assumption) | (with_reducible apply M.var_set45) | (with_reducible refine M.var_alloc' _ _ _ ?_; first | rfl | (simp [go_sem]; done)) | (with_reducible refine M.Var.alloc ?_ _) | (with_reducible refine M.Var.drewN ?_ _) | (with_reducible refine M.Var.drew ?_) | (with_reducible refine M.Var.far ?_ _ _ ?hFar; case hFar => (first | omega | ((try simp [go_sem]) <;> omega))) | fail)) : M.Var _ (w6.heap.size) #[.bool false]) (by intro u hu; all_goals (first | with_reducible rw [M.cell_block1 hu] | with_reducible rw [M.usBx_block hu] | with_reducible rw [M.usV_block hu] | with_reducible rw [M.usI_block hu] | with_reducible rw [M.usHt_block hu] | with_reducible rw [M.usBd_block hu] | with_reducible rw [M.usB_block hu] | rw [M.cell_block1 hu] | (exfalso; simp at hu; done)); all_goals ((try simp [go_sem]) <;> omega))) _) (by intro u hu; all_goals (first | with_reducible rw [M.cell_block1 hu] | with_reducible rw [M.usBx_block hu] | with_reducible rw [M.usV_block hu] | with_reducible rw [M.usI_block hu] | with_reducible rw [M.usHt_block hu] | with_reducible rw [M.usBd_block hu] | with_reducible rw [M.usB_block hu] | rw [M.cell_block1 hu] | (exfalso; simp at hu; done)); all_goals ((try simp [go_sem]) <;> omega))) (by intro u hu; all_goals (first | with_reducible rw [M.cell_block1 hu] | with_reducible rw [M.usBx_block hu] | with_reducible rw [M.usV_block hu] | with_reducible rw [M.usI_block hu] | with_reducible rw [M.usHt_block hu] | with_reducible rw [M.usBd_block hu] | with_reducible rw [M.usB_block hu] | rw [M.cell_block1 hu] | (exfalso; simp at hu; done)); all_goals ((try simp [go_sem]) <;> omega)))
    have V7_q : M.Var w7 (w6.heap.size + 1) #[.bool t] := by refine M.Var.mono' ?_ (M.sets_size _ _) hb; (try simp only [M.sets_append]); exact (M.var_setB (M.var_sets_far _ (M.var_sets_far _ (M.var_sets_far _ (by (repeat (first | (with_reducible assumption) | (with_reducible apply M.var_set45) | (with_reducible refine M.var_alloc' _ _ _ ?_; first | rfl | (simp [go_sem]; done)) | (with_reducible refine M.Var.alloc ?_ _) | (with_reducible refine M.Var.drewN ?_ _) | (with_reducible refine M.Var.drew ?_) | (with_reducible refine M.Var.far ?_ _ _ ?hFar; case hFar => (first | omega | ((try simp [go_sem]) <;> omega))) | fail)) : M.Var _ (w6.heap.size + 1) #[.bool false]) (by intro u hu; all_goals (first | with_reducible rw [M.cell_block1 hu] | with_reducible rw [M.usBx_block hu] | with_reducible rw [M.usV_block hu] | with_reducible rw [M.usI_block hu] | with_reducible rw [M.usHt_block hu] | with_reducible rw [M.usBd_block hu] | with_reducible rw [M.usB_block hu] | rw [M.cell_block1 hu] | (exfalso; simp at hu; done)); all_goals ((try simp [go_sem]) <;> omega))) (by intro u hu; all_goals (first | with_reducible rw [M.cell_block1 hu] | with_reducible rw [M.usBx_block hu] | with_reducible rw [M.usV_block hu] | with_reducible rw [M.usI_block hu] | with_reducible rw [M.usHt_block hu] | with_reducible rw [M.usBd_block hu] | with_reducible rw [M.usB_block hu] | rw [M.cell_block1 hu] | (exfalso; simp at hu; done)); all_goals ((try simp [go_sem]) <;> omega))) (by intro u hu; all_goals (first | with_reducible rw [M.cell_block1 hu] | with_reducible rw [M.usBx_block hu] | with_reducible rw [M.usV_block hu] | with_reducible rw [M.usI_block hu] | with_reducible rw [M.usHt_block hu] | with_reducible rw [M.usBd_block hu] | with_reducible rw [M.usB_block hu] | rw [M.cell_block1 hu] | (exfalso; simp at hu; done)); all_goals ((try simp [go_sem]) <;> omega))) _)
    have V7_h : M.Var w7 (w6.heap.size + 1 + 1) #[.int .i64 q1.nx, .int .i64 q1.ny, .int .i64 q1.d] := by refine M.Var.mono' ?_ (M.sets_size _ _) hb; (try simp only [M.sets_append]); exact (M.var_sets_far _ (M.var_sets_far _ (M.var_sets_far _ (M.var_setHt (by (repeat (first | (with_reducible assumption) | (with_reducible apply M.var_set45) | (with_reducible refine M.var_alloc' _ _ _ ?_; first | rfl | (simp [go_sem]; done)) | (with_reducible refine M.Var.alloc ?_ _) | (with_reducible refine M.Var.drewN ?_ _) | (with_reducible refine M.Var.drew ?_) | (with_reducible refine M.Var.far ?_ _ _ ?hFar; case hFar => (first | omega | ((try simp [go_sem]) <;> omega))) | fail)) : M.Var _ (w6.heap.size + 1 + 1) #[.int .i64 0, .int .i64 0, .int .i64 0]) _ _ _) (by intro u hu; all_goals (first | with_reducible rw [M.cell_block1 hu] | with_reducible rw [M.usBx_block hu] | with_reducible rw [M.usV_block hu] | with_reducible rw [M.usI_block hu] | with_reducible rw [M.usHt_block hu] | with_reducible rw [M.usBd_block hu] | with_reducible rw [M.usB_block hu] | rw [M.cell_block1 hu] | (exfalso; simp at hu; done)); all_goals ((try simp [go_sem]) <;> omega))) (by intro u hu; all_goals (first | with_reducible rw [M.cell_block1 hu] | with_reducible rw [M.usBx_block hu] | with_reducible rw [M.usV_block hu] | with_reducible rw [M.usI_block hu] | with_reducible rw [M.usHt_block hu] | with_reducible rw [M.usBd_block hu] | with_reducible rw [M.usB_block hu] | rw [M.cell_block1 hu] | (exfalso; simp at hu; done)); all_goals ((try simp [go_sem]) <;> omega))) (by intro u hu; all_goals (first | with_reducible rw [M.cell_block1 hu] | with_reducible rw [M.usBx_block hu] | with_reducible rw [M.usV_block hu] | with_reducible rw [M.usI_block hu] | with_reducible rw [M.usHt_block hu] | with_reducible rw [M.usBd_block hu] | with_reducible rw [M.usB_block hu] | rw [M.cell_block1 hu] | (exfalso; simp at hu; done)); all_goals ((try simp [go_sem]) <;> omega)))
    have V7_g : M.Var w7 (w6.heap.size + 1 + 1 + 1) #[.int .i64 q2.nx, .int .i64 q2.ny, .int .i64 q2.d] := by refine M.Var.mono' ?_ (M.sets_size _ _) hb; (try simp only [M.sets_append]); exact (M.var_sets_far _ (M.var_setHt (M.var_sets_far _ (M.var_sets_far _ (by (repeat (first | (with_reducible assumption) | (with_reducible apply M.var_set45) | (with_reducible refine M.var_alloc' _ _ _ ?_; first | rfl | (simp [go_sem]; done)) | (with_reducible refine M.Var.alloc ?_ _) | (with_reducible refine M.Var.drewN ?_ _) | (with_reducible refine M.Var.drew ?_) | (with_reducible refine M.Var.far ?_ _ _ ?hFar; case hFar => (first | omega | ((try simp [go_sem]) <;> omega))) | fail)) : M.Var _ (w6.heap.size + 1 + 1 + 1) #[.int .i64 0, .int .i64 0, .int .i64 0]) (by intro u hu; all_goals (first | with_reducible rw [M.cell_block1 hu] | with_reducible rw [M.usBx_block hu] | with_reducible rw [M.usV_block hu] | with_reducible rw [M.usI_block hu] | with_reducible rw [M.usHt_block hu] | with_reducible rw [M.usBd_block hu] | with_reducible rw [M.usB_block hu] | rw [M.cell_block1 hu] | (exfalso; simp at hu; done)); all_goals ((try simp [go_sem]) <;> omega))) (by intro u hu; all_goals (first | with_reducible rw [M.cell_block1 hu] | with_reducible rw [M.usBx_block hu] | with_reducible rw [M.usV_block hu] | with_reducible rw [M.usI_block hu] | with_reducible rw [M.usHt_block hu] | with_reducible rw [M.usBd_block hu] | with_reducible rw [M.usB_block hu] | rw [M.cell_block1 hu] | (exfalso; simp at hu; done)); all_goals ((try simp [go_sem]) <;> omega))) _ _ _) (by intro u hu; all_goals (first | with_reducible rw [M.cell_block1 hu] | with_reducible rw [M.usBx_block hu] | with_reducible rw [M.usV_block hu] | with_reducible rw [M.usI_block hu] | with_reducible rw [M.usHt_block hu] | with_reducible rw [M.usBd_block hu] | with_reducible rw [M.usB_block hu] | rw [M.cell_block1 hu] | (exfalso; simp at hu; done)); all_goals ((try simp [go_sem]) <;> omega)))
    have q7_a_0 : w7.cell? ⟨w.heap.size, 0, none⟩ = some (.int .i64 a.shape) := V7_a.c 0 _ rfl
    have q7_a_1 : w7.cell? ⟨w.heap.size, 1, none⟩ = some (.int .i64 a.sx) := V7_a.c 1 _ rfl
    have q7_a_2 : w7.cell? ⟨w.heap.size, 2, none⟩ = some (.int .i64 a.sy) := V7_a.c 2 _ rfl
    have q7_a_3 : w7.cell? ⟨w.heap.size, 3, none⟩ = some (.int .i64 a.mass) := V7_a.c 3 _ rfl
    have q7_a_4 : w7.cell? ⟨w.heap.size, 4, none⟩ = some (.int .i64 a.px) := V7_a.c 4 _ rfl
    have q7_a_5 : w7.cell? ⟨w.heap.size, 5, none⟩ = some (.int .i64 a.py) := V7_a.c 5 _ rfl
    have q7_a_6 : w7.cell? ⟨w.heap.size, 6, none⟩ = some (.int .i64 a.mx) := V7_a.c 6 _ rfl
    have q7_a_7 : w7.cell? ⟨w.heap.size, 7, none⟩ = some (.int .i64 a.my) := V7_a.c 7 _ rfl
    have f7_a := V7_a.2.2; have L7_a := V7_a.lt; have N7_a := Nat.ne_of_gt L7_a; have M7_a := Nat.ne_of_lt L7_a
    have HV7_a := Lib.hid V7_a
    have q7_b_0 : w7.cell? ⟨w.heap.size + 1, 0, none⟩ = some (.int .i64 b.shape) := V7_b.c 0 _ rfl
    have q7_b_1 : w7.cell? ⟨w.heap.size + 1, 1, none⟩ = some (.int .i64 b.sx) := V7_b.c 1 _ rfl
    have q7_b_2 : w7.cell? ⟨w.heap.size + 1, 2, none⟩ = some (.int .i64 b.sy) := V7_b.c 2 _ rfl
    have q7_b_3 : w7.cell? ⟨w.heap.size + 1, 3, none⟩ = some (.int .i64 b.mass) := V7_b.c 3 _ rfl
    have q7_b_4 : w7.cell? ⟨w.heap.size + 1, 4, none⟩ = some (.int .i64 b.px) := V7_b.c 4 _ rfl
    have q7_b_5 : w7.cell? ⟨w.heap.size + 1, 5, none⟩ = some (.int .i64 b.py) := V7_b.c 5 _ rfl
    have q7_b_6 : w7.cell? ⟨w.heap.size + 1, 6, none⟩ = some (.int .i64 b.mx) := V7_b.c 6 _ rfl
    have q7_b_7 : w7.cell? ⟨w.heap.size + 1, 7, none⟩ = some (.int .i64 b.my) := V7_b.c 7 _ rfl
    have f7_b := V7_b.2.2; have L7_b := V7_b.lt; have N7_b := Nat.ne_of_gt L7_b; have M7_b := Nat.ne_of_lt L7_b
    have HV7_b := Lib.hid V7_b
    have q7_c_0 : w7.cell? ⟨w3.heap.size, 0, none⟩ = some (.int .i64 0) := V7_c.c 0 _ rfl
    have f7_c := V7_c.2.2; have L7_c := V7_c.lt; have N7_c := Nat.ne_of_gt L7_c; have M7_c := Nat.ne_of_lt L7_c
    have HV7_c := Lib.hid V7_c
    have q7_x_0 : w7.cell? ⟨g1, 0, none⟩ = some (.int .i64 X.lx) := V7_x.c 0 _ rfl
    have q7_x_1 : w7.cell? ⟨g1, 1, none⟩ = some (.int .i64 X.ly) := V7_x.c 1 _ rfl
    have q7_x_2 : w7.cell? ⟨g1, 2, none⟩ = some (.int .i64 X.hx) := V7_x.c 2 _ rfl
    have q7_x_3 : w7.cell? ⟨g1, 3, none⟩ = some (.int .i64 X.hy) := V7_x.c 3 _ rfl
    have f7_x := V7_x.2.2; have L7_x := V7_x.lt; have N7_x := Nat.ne_of_gt L7_x; have M7_x := Nat.ne_of_lt L7_x
    have HV7_x := Lib.hid V7_x
    have q7_y_0 : w7.cell? ⟨g2, 0, none⟩ = some (.int .i64 Y.lx) := V7_y.c 0 _ rfl
    have q7_y_1 : w7.cell? ⟨g2, 1, none⟩ = some (.int .i64 Y.ly) := V7_y.c 1 _ rfl
    have q7_y_2 : w7.cell? ⟨g2, 2, none⟩ = some (.int .i64 Y.hx) := V7_y.c 2 _ rfl
    have q7_y_3 : w7.cell? ⟨g2, 3, none⟩ = some (.int .i64 Y.hy) := V7_y.c 3 _ rfl
    have f7_y := V7_y.2.2; have L7_y := V7_y.lt; have N7_y := Nat.ne_of_gt L7_y; have M7_y := Nat.ne_of_lt L7_y
    have HV7_y := Lib.hid V7_y
    have q7_p_0 : w7.cell? ⟨w6.heap.size, 0, none⟩ = some (.bool t) := V7_p.c 0 _ rfl
    have f7_p := V7_p.2.2; have L7_p := V7_p.lt; have N7_p := Nat.ne_of_gt L7_p; have M7_p := Nat.ne_of_lt L7_p
    have HV7_p := Lib.hid V7_p
    have q7_q_0 : w7.cell? ⟨w6.heap.size + 1, 0, none⟩ = some (.bool t) := V7_q.c 0 _ rfl
    have f7_q := V7_q.2.2; have L7_q := V7_q.lt; have N7_q := Nat.ne_of_gt L7_q; have M7_q := Nat.ne_of_lt L7_q
    have HV7_q := Lib.hid V7_q
    have q7_h_0 : w7.cell? ⟨w6.heap.size + 1 + 1, 0, none⟩ = some (.int .i64 q1.nx) := V7_h.c 0 _ rfl
    have q7_h_1 : w7.cell? ⟨w6.heap.size + 1 + 1, 1, none⟩ = some (.int .i64 q1.ny) := V7_h.c 1 _ rfl
    have q7_h_2 : w7.cell? ⟨w6.heap.size + 1 + 1, 2, none⟩ = some (.int .i64 q1.d) := V7_h.c 2 _ rfl
    have f7_h := V7_h.2.2; have L7_h := V7_h.lt; have N7_h := Nat.ne_of_gt L7_h; have M7_h := Nat.ne_of_lt L7_h
    have HV7_h := Lib.hid V7_h
    have q7_g_0 : w7.cell? ⟨w6.heap.size + 1 + 1 + 1, 0, none⟩ = some (.int .i64 q2.nx) := V7_g.c 0 _ rfl
    have q7_g_1 : w7.cell? ⟨w6.heap.size + 1 + 1 + 1, 1, none⟩ = some (.int .i64 q2.ny) := V7_g.c 1 _ rfl
    have q7_g_2 : w7.cell? ⟨w6.heap.size + 1 + 1 + 1, 2, none⟩ = some (.int .i64 q2.d) := V7_g.c 2 _ rfl
    have f7_g := V7_g.2.2; have L7_g := V7_g.lt; have N7_g := Nat.ne_of_gt L7_g; have M7_g := Nat.ne_of_lt L7_g
    have HV7_g := Lib.hid V7_g
    clear V6_a HV6_a f6_a q6_a_0 q6_a_1 q6_a_2 q6_a_3 q6_a_4 q6_a_5 q6_a_6 q6_a_7 V6_b HV6_b f6_b q6_b_0 q6_b_1 q6_b_2 q6_b_3 q6_b_4 q6_b_5 q6_b_6 q6_b_7 V6_c HV6_c f6_c q6_c_0 V6_x HV6_x f6_x q6_x_0 q6_x_1 q6_x_2 q6_x_3 V6_y HV6_y f6_y q6_y_0 q6_y_1 q6_y_2 q6_y_3
    have S7 := G7.size; clear hb
    skip
    cases t
    · by_cases s1 : a.shape = 2
      · have r1 := beq_iff_eq.2 s1
        by_cases s2 : b.shape = 2
        · have r2 := beq_iff_eq.2 s2
          have kc := KC.out s1 s2
          clear s1 s2
          cases mt
          · clear kc
            by_cases x0 : X.lx = Y.hx
            · have y0 := beq_iff_eq.2 x0
              clear x0
              go_wp2_with fail
              go_ret
              exact ⟨rfl, by have G := HGc.out; (repeat (with_reducible refine M.Below.drewN ?_ _)); go_grown⟩
            have y0 := beq_eq_false_iff_ne.2 x0
            clear x0
            by_cases x1 : Y.lx = X.hx
            · have y1 := beq_iff_eq.2 x1
              clear x1
              go_wp2_with fail
              go_ret
              exact ⟨rfl, by have G := HGc.out; (repeat (with_reducible refine M.Below.drewN ?_ _)); go_grown⟩
            have y1 := beq_eq_false_iff_ne.2 x1
            clear x1
            by_cases x2 : X.ly = Y.hy
            · have y2 := beq_iff_eq.2 x2
              clear x2
              go_wp2_with fail
              go_ret
              exact ⟨rfl, by have G := HGc.out; (repeat (with_reducible refine M.Below.drewN ?_ _)); go_grown⟩
            have y2 := beq_eq_false_iff_ne.2 x2
            clear x2
            by_cases x3 : Y.ly = X.hy
            · have y3 := beq_iff_eq.2 x3
              clear x3
              go_wp2_with fail
              go_ret
              exact ⟨rfl, by have G := HGc.out; (repeat (with_reducible refine M.Below.drewN ?_ _)); go_grown⟩
            have y3 := beq_eq_false_iff_ne.2 x3
            clear x3
            go_wp2_with fail
            go_ret
            exact ⟨rfl, by have G := HGc.out; (repeat (with_reducible refine M.Below.drewN ?_ _)); go_grown⟩
          · skip
            by_cases x0 : X.lx = Y.hx
            · have y0 := beq_iff_eq.2 x0
              clear kc
              clear x0
              go_wp2_with fail
              go_ret
              exact ⟨rfl, by have G := HGc.out; (repeat (with_reducible refine M.Below.drewN ?_ _)); go_grown⟩
            have y0 := beq_eq_false_iff_ne.2 x0
            clear x0
            by_cases x1 : Y.lx = X.hx
            · have y1 := beq_iff_eq.2 x1
              clear kc
              clear x1
              go_wp2_with fail
              go_ret
              exact ⟨rfl, by have G := HGc.out; (repeat (with_reducible refine M.Below.drewN ?_ _)); go_grown⟩
            have y1 := beq_eq_false_iff_ne.2 x1
            clear x1
            by_cases x2 : X.ly = Y.hy
            · have y2 := beq_iff_eq.2 x2
              clear kc
              clear x2
              go_wp2_with fail
              go_ret
              exact ⟨rfl, by have G := HGc.out; (repeat (with_reducible refine M.Below.drewN ?_ _)); go_grown⟩
            have y2 := beq_eq_false_iff_ne.2 x2
            clear x2
            by_cases x3 : Y.ly = X.hy
            · have y3 := beq_iff_eq.2 x3
              clear kc
              clear x3
              go_wp2_with fail
              go_ret
              exact ⟨rfl, by have G := HGc.out; (repeat (with_reducible refine M.Below.drewN ?_ _)); go_grown⟩
            have y3 := beq_eq_false_iff_ne.2 x3
            clear x3
            exfalso; simp [y0, y1, y2, y3] at kc
        · have r2 := beq_eq_false_iff_ne.2 s2
          clear s1 s2
          go_wp2_with fail
          go_ret
          exact ⟨rfl, by have G := HGc.out; (repeat (with_reducible refine M.Below.drewN ?_ _)); go_grown⟩
      · have r1 := beq_eq_false_iff_ne.2 s1
        clear s1
        go_wp2_with fail
        go_ret
        exact ⟨rfl, by have G := HGc.out; (repeat (with_reducible refine M.Below.drewN ?_ _)); go_grown⟩
    · obtain rfl := KM.out rfl
      have kd2 := bne_eq_false_iff_eq.2 KD.out
      have kp2 := KP.out rfl
      by_cases s1 : a.shape = 2
      · have r1 := beq_iff_eq.2 s1
        by_cases s2 : b.shape = 2
        · have r2 := beq_iff_eq.2 s2
          have kc := KC.out s1 s2
          clear s1 s2
          have kf : (X.lx == Y.hx) = false ∧ (Y.lx == X.hx) = false ∧ (X.ly == Y.hy) = false ∧ (Y.ly == X.hy) = false := by
            revert kc
            cases (X.lx == Y.hx) <;> cases (Y.lx == X.hx) <;> cases (X.ly == Y.hy) <;> cases (Y.ly == X.hy) <;> decide
          obtain ⟨y0, y1, y2, y3⟩ := kf
          clear kc
          go_wp2_with fail
          go_ret
          exact ⟨rfl, by have G := HGc.out; (repeat (with_reducible refine M.Below.drewN ?_ _)); go_grown⟩
        · have r2 := beq_eq_false_iff_ne.2 s2
          clear s1 s2
          go_wp2_with fail
          go_ret
          exact ⟨rfl, by have G := HGc.out; (repeat (with_reducible refine M.Below.drewN ?_ _)); go_grown⟩
      · have r1 := beq_eq_false_iff_ne.2 s1
        clear s1
        go_wp2_with fail
        go_ret
        exact ⟨rfl, by have G := HGc.out; (repeat (with_reducible refine M.Below.drewN ?_ _)); go_grown⟩

theorem lifted (os : Os) (started : os.Started) (H : Type) (enc : TypeId × Value → H) :
    ReturnsInHanded {} Try.checked os 4 .any (Rows.touchBothSpec.pre6 enc Try.prog Try.f4 Rows.touchBothRow.domain false) (Rows.touchBothSpec.post enc Try.prog Try.f4 false true false false) := by
  refine returnsInHanded_of_change (C := Try.checked) own started (by kernel_rfl) Try.func4
    (ChangeSpec.witness6 (enc := enc) (C := Try.checked) false ⟨#[], #[.agg #[.int .i64 0, .int .i64 0, .int .i64 0, .int .i64 0, .int .i64 0, .int .i64 0, .int .i64 0, .int .i64 0], .agg #[.int .i64 0, .int .i64 0, .int .i64 0, .int .i64 0, .int .i64 0, .int .i64 0, .int .i64 0, .int .i64 0]], []⟩ 8 (by kernel_rfl) (by kernel_rfl) (by kernel_rfl) (by kernel_rfl)) ?_
  intro W base args ds gs before hval0 hW hcnd _
  have hval : ∀ (j : Nat) t v, Try.f4.params[j]? = some t → args[j]? = some v → Value.okWide Try.prog W .any base t v := hval0
  have hW' := hW
  obtain ⟨p, q, hA0, hV, rfl, hfz, hnd⟩ := hW
  have hA : DataW.TrodAll enc Try.prog W 0 (fun _ => true) true Try.f4.params.toList args.toList ds p := hA0
  rw [Try.params4] at hA hval
  obtain ⟨v0, vs0, d0, ds0, p0, q0, hargs, rfl, rfl, h0, r0⟩ := trodAll_cons hA
  obtain ⟨v1, vs1, d1, ds1, p1, q1, rfl, rfl, rfl, h1, r1⟩ := trodAll_cons r0
  obtain ⟨rfl, rfl, rfl⟩ := trodAll_nil r1
  obtain rfl : args = #[v0, v1] := by cases args; simp_all
  obtain ⟨rfl, rfl⟩ := trodVars_none hV
  obtain ⟨a, rfl, rfl, rfl, wa⟩ := open_body (hval 0 26 v0 rfl rfl) h0
  obtain ⟨b, rfl, rfl, rfl, wb⟩ := open_body (hval 1 26 v1 rfl rfl) h1
  clear hA0 hval0
  simp only [List.append_nil] at hW'
  refine (walk W a wa.ok b wb.ok).mono fun e W' ⟨he, hg⟩ => ?_
  subst he
  exact ⟨_, rfl, post_below (pa := []) (pv := []) hW' (fun _ _ _ => (trodAll_cons_mk (shut_bool Try.underlying4 _) trodAll_mk0)) (fun sp hsp => (trodAll_cons_mk (shut_body wa) (trodAll_cons_mk (shut_body wb) trodAll_mk0))) (fun _ _ => rfl) rfl
    hg (ok_one (by kernel_rfl) rfl (okWide_bool_mk Try.underlying4 _))⟩

theorem closed : joinedFacts Try.prog 4 Try.f4 Rows.touchBothSpec Rows.touchBothRow = true := by
  unfold joinedFacts
  rw [fact_laid, fact_maps, fact_keys, fact_heard, fact_stops, fact_knobs, fact_enter, fact_lifts, fact_make]
  kernel_rfl

theorem over : Rows.touchBothRow.holds Try.pinned (OpenSpec.ofChange Rows.touchBothSpec) :=
  OpenClaim.holds_of_wide 4 Try.f4 rfl rfl rfl rfl rfl rfl rfl ⟨rfl, rfl, rfl, rfl, rfl⟩ rfl rfl rfl rfl rfl (by kernel_rfl) Try.func4 closed
    (of_decide_eq_true (by kernel_rfl)) (by unfold Func.isWrapper; first | (rw [if_pos (by decide +kernel)]; kernel_rfl) | (rw [if_neg (by decide +kernel)]; exact ⟨rfl, rfl⟩))
    (fun os started H enc _ => lifted os started H enc)

/-- The statement. -/
theorem proved : Rows.TouchBothSaid :=
  over
#print axioms proved
end Go.Proofs.Ytcaibieaobhheaa.touchBoth
