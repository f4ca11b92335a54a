/- For every two bodies, contact and length PushFixed returns true: a body without mass is never moved, nor pushed. -/
import Derived.Test.YtcaibieaobhheaaRows
import Derived.WalkKit
import Derived.ProofKit
import Derived.OpenShut
import Derived.Test.YtcaibieaobhheaaFacts
import Derived.Test.YtcaibieaobhheaaArgs
import Derived.Test.YtcaibieaobhheaaWPushFixedA
import Derived.Test.YtcaibieaobhheaaWPushFixedB
import Derived.Test.YtcaibieaobhheaaRefRight
import Derived.Test.YtcaibieaobhheaaTouchMath
import Derived.Test.YtcaibieaobhheaaClo11b
import Derived.Test.YtcaibieaobhheaaPushMath
import Derived.Test.YtcaibieaobhheaaPushAlive
import Derived.Deep.RegionHeld2
import Derived.Deep.DrawnRows
namespace Go.Proofs.Ytcaibieaobhheaa.pushFixed
open Go.ChangeShapes Go.WideShapes Go.ChangeAt Go.RowKit M
set_option maxRecDepth 100000
set_option maxHeartbeats 8000000
set_option linter.unusedVariables false
set_option linter.unusedSimpArgs false
attribute [local go_sem ↓] Go.wp_at_zero Go.wp_at_succ
theorem own : ownKnob Try.prog.godebug = none := by kernel_rfl

/-- The walk: the Go text returns true; of what was there nothing turns. -/
theorem walk (w : World) (a : Bd) (ha : a.ok) (b : Bd) (hb : b.ok) (h : Ht) (hh : h.ok) (l : Int) (hl : I64 l) :
    Calls Try.prog 10 #[.agg #[.int .i64 a.shape, .int .i64 a.sx, .int .i64 a.sy, .int .i64 a.mass, .int .i64 a.px, .int .i64 a.py, .int .i64 a.mx, .int .i64 a.my], .agg #[.int .i64 b.shape, .int .i64 b.sx, .int .i64 b.sy, .int .i64 b.mass, .int .i64 b.px, .int .i64 b.py, .int .i64 b.mx, .int .i64 b.my], .agg #[.int .i64 h.nx, .int .i64 h.ny, .int .i64 h.d], .int .i64 l] w fun e w' => e = .returned (.bool true) ∧ Bw w w' := by
  have c0 := Lib.hid alive11_c
  have hB := hb
  have c1 := refRight_x a
  have c2 := refRight_x b
  have l1 := fun h : rightB a = true => lo_of_right h
  have l2 := fun h : rightB b = true => lo_of_right h
  have s1 := fun h : rightB a = true => rightB_spec h
  have s2 := fun h : rightB b = true => rightB_spec h
  generalize hR1 : rightB a = R1 at *
  generalize hR2 : rightB b = R2 at *
  cases R1
  · have C1 := Lib.hid c1
    clear c1 c2 l1 l2 s1 s2
    go_enter Try.func10, Try.ntmps10
    go_wp2_with fail
    (with_reducible refine (C1.out _).mono ?_); rintro en w1 ⟨rfl, hb⟩
    have G1 : Below w.heap.size w w1 := Below.trans (by (repeat (with_reducible refine M.Below.drewN ?_ _)); go_grown) (hb.mono (by go_size))
    have V1_a : M.Var w1 (w.heap.size) #[.int .i64 a.shape, .int .i64 a.sx, .int .i64 a.sy, .int .i64 a.mass, .int .i64 a.px, .int .i64 a.py, .int .i64 a.mx, .int .i64 a.my] := M.Var.mono (by (repeat (first | (with_reducible assumption) | (with_reducible apply M.var_set45) | (with_reducible refine M.var_alloc' _ _ _ ?_; first | rfl | (simp [go_sem]; done)) | (with_reducible refine M.Var.alloc ?_ _) | (with_reducible refine M.Var.drewN ?_ _) | (with_reducible refine M.Var.drew ?_) | (with_reducible refine M.Var.far ?_ _ _ ?hFar; case hFar => (first | omega | ((try simp [go_sem]) <;> omega))) | fail))) hb
    have V1_b : M.Var w1 (w.heap.size + 1) #[.int .i64 b.shape, .int .i64 b.sx, .int .i64 b.sy, .int .i64 b.mass, .int .i64 b.px, .int .i64 b.py, .int .i64 b.mx, .int .i64 b.my] := M.Var.mono (by (repeat (first | (with_reducible assumption) | (with_reducible apply M.var_set45) | (with_reducible refine M.var_alloc' _ _ _ ?_; first | rfl | (simp [go_sem]; done)) | (with_reducible refine M.Var.alloc ?_ _) | (with_reducible refine M.Var.drewN ?_ _) | (with_reducible refine M.Var.drew ?_) | (with_reducible refine M.Var.far ?_ _ _ ?hFar; case hFar => (first | omega | ((try simp [go_sem]) <;> omega))) | fail))) hb
    have V1_h : M.Var w1 (w.heap.size + 1 + 1) #[.int .i64 h.nx, .int .i64 h.ny, .int .i64 h.d] := M.Var.mono (by (repeat (first | (with_reducible assumption) | (with_reducible apply M.var_set45) | (with_reducible refine M.var_alloc' _ _ _ ?_; first | rfl | (simp [go_sem]; done)) | (with_reducible refine M.Var.alloc ?_ _) | (with_reducible refine M.Var.drewN ?_ _) | (with_reducible refine M.Var.drew ?_) | (with_reducible refine M.Var.far ?_ _ _ ?hFar; case hFar => (first | omega | ((try simp [go_sem]) <;> omega))) | fail))) hb
    have V1_l : M.Var w1 (w.heap.size + 1 + 1 + 1) #[.int .i64 l] := M.Var.mono (by (repeat (first | (with_reducible assumption) | (with_reducible apply M.var_set45) | (with_reducible refine M.var_alloc' _ _ _ ?_; first | rfl | (simp [go_sem]; done)) | (with_reducible refine M.Var.alloc ?_ _) | (with_reducible refine M.Var.drewN ?_ _) | (with_reducible refine M.Var.drew ?_) | (with_reducible refine M.Var.far ?_ _ _ ?hFar; case hFar => (first | omega | ((try simp [go_sem]) <;> omega))) | fail))) hb
    have q1_a_0 : w1.cell? ⟨w.heap.size, 0, none⟩ = some (.int .i64 a.shape) := V1_a.c 0 _ rfl
    have q1_a_1 : w1.cell? ⟨w.heap.size, 1, none⟩ = some (.int .i64 a.sx) := V1_a.c 1 _ rfl
    have q1_a_2 : w1.cell? ⟨w.heap.size, 2, none⟩ = some (.int .i64 a.sy) := V1_a.c 2 _ rfl
    have q1_a_3 : w1.cell? ⟨w.heap.size, 3, none⟩ = some (.int .i64 a.mass) := V1_a.c 3 _ rfl
    have q1_a_4 : w1.cell? ⟨w.heap.size, 4, none⟩ = some (.int .i64 a.px) := V1_a.c 4 _ rfl
    have q1_a_5 : w1.cell? ⟨w.heap.size, 5, none⟩ = some (.int .i64 a.py) := V1_a.c 5 _ rfl
    have q1_a_6 : w1.cell? ⟨w.heap.size, 6, none⟩ = some (.int .i64 a.mx) := V1_a.c 6 _ rfl
    have q1_a_7 : w1.cell? ⟨w.heap.size, 7, none⟩ = some (.int .i64 a.my) := V1_a.c 7 _ rfl
    have f1_a := V1_a.2.2; have L1_a := V1_a.lt; have N1_a := Nat.ne_of_gt L1_a; have M1_a := Nat.ne_of_lt L1_a
    have HV1_a := Lib.hid V1_a
    have q1_b_0 : w1.cell? ⟨w.heap.size + 1, 0, none⟩ = some (.int .i64 b.shape) := V1_b.c 0 _ rfl
    have q1_b_1 : w1.cell? ⟨w.heap.size + 1, 1, none⟩ = some (.int .i64 b.sx) := V1_b.c 1 _ rfl
    have q1_b_2 : w1.cell? ⟨w.heap.size + 1, 2, none⟩ = some (.int .i64 b.sy) := V1_b.c 2 _ rfl
    have q1_b_3 : w1.cell? ⟨w.heap.size + 1, 3, none⟩ = some (.int .i64 b.mass) := V1_b.c 3 _ rfl
    have q1_b_4 : w1.cell? ⟨w.heap.size + 1, 4, none⟩ = some (.int .i64 b.px) := V1_b.c 4 _ rfl
    have q1_b_5 : w1.cell? ⟨w.heap.size + 1, 5, none⟩ = some (.int .i64 b.py) := V1_b.c 5 _ rfl
    have q1_b_6 : w1.cell? ⟨w.heap.size + 1, 6, none⟩ = some (.int .i64 b.mx) := V1_b.c 6 _ rfl
    have q1_b_7 : w1.cell? ⟨w.heap.size + 1, 7, none⟩ = some (.int .i64 b.my) := V1_b.c 7 _ rfl
    have f1_b := V1_b.2.2; have L1_b := V1_b.lt; have N1_b := Nat.ne_of_gt L1_b; have M1_b := Nat.ne_of_lt L1_b
    have HV1_b := Lib.hid V1_b
    have q1_h_0 : w1.cell? ⟨w.heap.size + 1 + 1, 0, none⟩ = some (.int .i64 h.nx) := V1_h.c 0 _ rfl
    have q1_h_1 : w1.cell? ⟨w.heap.size + 1 + 1, 1, none⟩ = some (.int .i64 h.ny) := V1_h.c 1 _ rfl
    have q1_h_2 : w1.cell? ⟨w.heap.size + 1 + 1, 2, none⟩ = some (.int .i64 h.d) := V1_h.c 2 _ rfl
    have f1_h := V1_h.2.2; have L1_h := V1_h.lt; have N1_h := Nat.ne_of_gt L1_h; have M1_h := Nat.ne_of_lt L1_h
    have HV1_h := Lib.hid V1_h
    have q1_l_0 : w1.cell? ⟨w.heap.size + 1 + 1 + 1, 0, none⟩ = some (.int .i64 l) := V1_l.c 0 _ rfl
    have f1_l := V1_l.2.2; have L1_l := V1_l.lt; have N1_l := Nat.ne_of_gt L1_l; have M1_l := Nat.ne_of_lt L1_l
    have HV1_l := Lib.hid V1_l
    have S1 := G1.size; clear hb
    go_wp2_with fail
    (with_reducible refine (c0.out _).mono ?_); rintro en w2 ⟨rfl, hb⟩
    have G2 : Below w.heap.size w w2 := Below.trans (by (repeat (with_reducible refine M.Below.drewN ?_ _)); go_grown) (hb.mono (by go_size))
    have V2_a : M.Var w2 (w.heap.size) #[.int .i64 a.shape, .int .i64 a.sx, .int .i64 a.sy, .int .i64 a.mass, .int .i64 a.px, .int .i64 a.py, .int .i64 a.mx, .int .i64 a.my] := M.Var.mono (by (repeat (first | (with_reducible assumption) | (with_reducible apply M.var_set45) | (with_reducible refine M.var_alloc' _ _ _ ?_; first | rfl | (simp [go_sem]; done)) | (with_reducible refine M.Var.alloc ?_ _) | (with_reducible refine M.Var.drewN ?_ _) | (with_reducible refine M.Var.drew ?_) | (with_reducible refine M.Var.far ?_ _ _ ?hFar; case hFar => (first | omega | ((try simp [go_sem]) <;> omega))) | fail))) hb
    have V2_b : M.Var w2 (w.heap.size + 1) #[.int .i64 b.shape, .int .i64 b.sx, .int .i64 b.sy, .int .i64 b.mass, .int .i64 b.px, .int .i64 b.py, .int .i64 b.mx, .int .i64 b.my] := M.Var.mono (by (repeat (first | (with_reducible assumption) | (with_reducible apply M.var_set45) | (with_reducible refine M.var_alloc' _ _ _ ?_; first | rfl | (simp [go_sem]; done)) | (with_reducible refine M.Var.alloc ?_ _) | (with_reducible refine M.Var.drewN ?_ _) | (with_reducible refine M.Var.drew ?_) | (with_reducible refine M.Var.far ?_ _ _ ?hFar; case hFar => (first | omega | ((try simp [go_sem]) <;> omega))) | fail))) hb
    have V2_h : M.Var w2 (w.heap.size + 1 + 1) #[.int .i64 h.nx, .int .i64 h.ny, .int .i64 h.d] := M.Var.mono (by (repeat (first | (with_reducible assumption) | (with_reducible apply M.var_set45) | (with_reducible refine M.var_alloc' _ _ _ ?_; first | rfl | (simp [go_sem]; done)) | (with_reducible refine M.Var.alloc ?_ _) | (with_reducible refine M.Var.drewN ?_ _) | (with_reducible refine M.Var.drew ?_) | (with_reducible refine M.Var.far ?_ _ _ ?hFar; case hFar => (first | omega | ((try simp [go_sem]) <;> omega))) | fail))) hb
    have V2_l : M.Var w2 (w.heap.size + 1 + 1 + 1) #[.int .i64 l] := M.Var.mono (by (repeat (first | (with_reducible assumption) | (with_reducible apply M.var_set45) | (with_reducible refine M.var_alloc' _ _ _ ?_; first | rfl | (simp [go_sem]; done)) | (with_reducible refine M.Var.alloc ?_ _) | (with_reducible refine M.Var.drewN ?_ _) | (with_reducible refine M.Var.drew ?_) | (with_reducible refine M.Var.far ?_ _ _ ?hFar; case hFar => (first | omega | ((try simp [go_sem]) <;> omega))) | fail))) hb
    have q2_a_0 : w2.cell? ⟨w.heap.size, 0, none⟩ = some (.int .i64 a.shape) := V2_a.c 0 _ rfl
    have q2_a_1 : w2.cell? ⟨w.heap.size, 1, none⟩ = some (.int .i64 a.sx) := V2_a.c 1 _ rfl
    have q2_a_2 : w2.cell? ⟨w.heap.size, 2, none⟩ = some (.int .i64 a.sy) := V2_a.c 2 _ rfl
    have q2_a_3 : w2.cell? ⟨w.heap.size, 3, none⟩ = some (.int .i64 a.mass) := V2_a.c 3 _ rfl
    have q2_a_4 : w2.cell? ⟨w.heap.size, 4, none⟩ = some (.int .i64 a.px) := V2_a.c 4 _ rfl
    have q2_a_5 : w2.cell? ⟨w.heap.size, 5, none⟩ = some (.int .i64 a.py) := V2_a.c 5 _ rfl
    have q2_a_6 : w2.cell? ⟨w.heap.size, 6, none⟩ = some (.int .i64 a.mx) := V2_a.c 6 _ rfl
    have q2_a_7 : w2.cell? ⟨w.heap.size, 7, none⟩ = some (.int .i64 a.my) := V2_a.c 7 _ rfl
    have f2_a := V2_a.2.2; have L2_a := V2_a.lt; have N2_a := Nat.ne_of_gt L2_a; have M2_a := Nat.ne_of_lt L2_a
    have HV2_a := Lib.hid V2_a
    have q2_b_0 : w2.cell? ⟨w.heap.size + 1, 0, none⟩ = some (.int .i64 b.shape) := V2_b.c 0 _ rfl
    have q2_b_1 : w2.cell? ⟨w.heap.size + 1, 1, none⟩ = some (.int .i64 b.sx) := V2_b.c 1 _ rfl
    have q2_b_2 : w2.cell? ⟨w.heap.size + 1, 2, none⟩ = some (.int .i64 b.sy) := V2_b.c 2 _ rfl
    have q2_b_3 : w2.cell? ⟨w.heap.size + 1, 3, none⟩ = some (.int .i64 b.mass) := V2_b.c 3 _ rfl
    have q2_b_4 : w2.cell? ⟨w.heap.size + 1, 4, none⟩ = some (.int .i64 b.px) := V2_b.c 4 _ rfl
    have q2_b_5 : w2.cell? ⟨w.heap.size + 1, 5, none⟩ = some (.int .i64 b.py) := V2_b.c 5 _ rfl
    have q2_b_6 : w2.cell? ⟨w.heap.size + 1, 6, none⟩ = some (.int .i64 b.mx) := V2_b.c 6 _ rfl
    have q2_b_7 : w2.cell? ⟨w.heap.size + 1, 7, none⟩ = some (.int .i64 b.my) := V2_b.c 7 _ rfl
    have f2_b := V2_b.2.2; have L2_b := V2_b.lt; have N2_b := Nat.ne_of_gt L2_b; have M2_b := Nat.ne_of_lt L2_b
    have HV2_b := Lib.hid V2_b
    have q2_h_0 : w2.cell? ⟨w.heap.size + 1 + 1, 0, none⟩ = some (.int .i64 h.nx) := V2_h.c 0 _ rfl
    have q2_h_1 : w2.cell? ⟨w.heap.size + 1 + 1, 1, none⟩ = some (.int .i64 h.ny) := V2_h.c 1 _ rfl
    have q2_h_2 : w2.cell? ⟨w.heap.size + 1 + 1, 2, none⟩ = some (.int .i64 h.d) := V2_h.c 2 _ rfl
    have f2_h := V2_h.2.2; have L2_h := V2_h.lt; have N2_h := Nat.ne_of_gt L2_h; have M2_h := Nat.ne_of_lt L2_h
    have HV2_h := Lib.hid V2_h
    have q2_l_0 : w2.cell? ⟨w.heap.size + 1 + 1 + 1, 0, none⟩ = some (.int .i64 l) := V2_l.c 0 _ rfl
    have f2_l := V2_l.2.2; have L2_l := V2_l.lt; have N2_l := Nat.ne_of_gt L2_l; have M2_l := Nat.ne_of_lt L2_l
    have HV2_l := Lib.hid V2_l
    have S2 := G2.size; clear hb
    go_wp2_with fail
    go_ret
    exact ⟨rfl, by (repeat (with_reducible refine M.Below.drewN ?_ _)); go_grown⟩
  cases R2
  · have C1 := Lib.hid c1; have C2 := Lib.hid c2
    clear c1 c2 l1 l2 s1 s2
    go_enter Try.func10, Try.ntmps10
    go_wp2_with fail
    (with_reducible refine (C1.out _).mono ?_); rintro en w1 ⟨rfl, hb⟩
    have G1 : Below w.heap.size w w1 := Below.trans (by (repeat (with_reducible refine M.Below.drewN ?_ _)); go_grown) (hb.mono (by go_size))
    have V1_a : M.Var w1 (w.heap.size) #[.int .i64 a.shape, .int .i64 a.sx, .int .i64 a.sy, .int .i64 a.mass, .int .i64 a.px, .int .i64 a.py, .int .i64 a.mx, .int .i64 a.my] := M.Var.mono (by (repeat (first | (with_reducible assumption) | (with_reducible apply M.var_set45) | (with_reducible refine M.var_alloc' _ _ _ ?_; first | rfl | (simp [go_sem]; done)) | (with_reducible refine M.Var.alloc ?_ _) | (with_reducible refine M.Var.drewN ?_ _) | (with_reducible refine M.Var.drew ?_) | (with_reducible refine M.Var.far ?_ _ _ ?hFar; case hFar => (first | omega | ((try simp [go_sem]) <;> omega))) | fail))) hb
    have V1_b : M.Var w1 (w.heap.size + 1) #[.int .i64 b.shape, .int .i64 b.sx, .int .i64 b.sy, .int .i64 b.mass, .int .i64 b.px, .int .i64 b.py, .int .i64 b.mx, .int .i64 b.my] := M.Var.mono (by (repeat (first | (with_reducible assumption) | (with_reducible apply M.var_set45) | (with_reducible refine M.var_alloc' _ _ _ ?_; first | rfl | (simp [go_sem]; done)) | (with_reducible refine M.Var.alloc ?_ _) | (with_reducible refine M.Var.drewN ?_ _) | (with_reducible refine M.Var.drew ?_) | (with_reducible refine M.Var.far ?_ _ _ ?hFar; case hFar => (first | omega | ((try simp [go_sem]) <;> omega))) | fail))) hb
    have V1_h : M.Var w1 (w.heap.size + 1 + 1) #[.int .i64 h.nx, .int .i64 h.ny, .int .i64 h.d] := M.Var.mono (by (repeat (first | (with_reducible assumption) | (with_reducible apply M.var_set45) | (with_reducible refine M.var_alloc' _ _ _ ?_; first | rfl | (simp [go_sem]; done)) | (with_reducible refine M.Var.alloc ?_ _) | (with_reducible refine M.Var.drewN ?_ _) | (with_reducible refine M.Var.drew ?_) | (with_reducible refine M.Var.far ?_ _ _ ?hFar; case hFar => (first | omega | ((try simp [go_sem]) <;> omega))) | fail))) hb
    have V1_l : M.Var w1 (w.heap.size + 1 + 1 + 1) #[.int .i64 l] := M.Var.mono (by (repeat (first | (with_reducible assumption) | (with_reducible apply M.var_set45) | (with_reducible refine M.var_alloc' _ _ _ ?_; first | rfl | (simp [go_sem]; done)) | (with_reducible refine M.Var.alloc ?_ _) | (with_reducible refine M.Var.drewN ?_ _) | (with_reducible refine M.Var.drew ?_) | (with_reducible refine M.Var.far ?_ _ _ ?hFar; case hFar => (first | omega | ((try simp [go_sem]) <;> omega))) | fail))) hb
    have q1_a_0 : w1.cell? ⟨w.heap.size, 0, none⟩ = some (.int .i64 a.shape) := V1_a.c 0 _ rfl
    have q1_a_1 : w1.cell? ⟨w.heap.size, 1, none⟩ = some (.int .i64 a.sx) := V1_a.c 1 _ rfl
    have q1_a_2 : w1.cell? ⟨w.heap.size, 2, none⟩ = some (.int .i64 a.sy) := V1_a.c 2 _ rfl
    have q1_a_3 : w1.cell? ⟨w.heap.size, 3, none⟩ = some (.int .i64 a.mass) := V1_a.c 3 _ rfl
    have q1_a_4 : w1.cell? ⟨w.heap.size, 4, none⟩ = some (.int .i64 a.px) := V1_a.c 4 _ rfl
    have q1_a_5 : w1.cell? ⟨w.heap.size, 5, none⟩ = some (.int .i64 a.py) := V1_a.c 5 _ rfl
    have q1_a_6 : w1.cell? ⟨w.heap.size, 6, none⟩ = some (.int .i64 a.mx) := V1_a.c 6 _ rfl
    have q1_a_7 : w1.cell? ⟨w.heap.size, 7, none⟩ = some (.int .i64 a.my) := V1_a.c 7 _ rfl
    have f1_a := V1_a.2.2; have L1_a := V1_a.lt; have N1_a := Nat.ne_of_gt L1_a; have M1_a := Nat.ne_of_lt L1_a
    have HV1_a := Lib.hid V1_a
    have q1_b_0 : w1.cell? ⟨w.heap.size + 1, 0, none⟩ = some (.int .i64 b.shape) := V1_b.c 0 _ rfl
    have q1_b_1 : w1.cell? ⟨w.heap.size + 1, 1, none⟩ = some (.int .i64 b.sx) := V1_b.c 1 _ rfl
    have q1_b_2 : w1.cell? ⟨w.heap.size + 1, 2, none⟩ = some (.int .i64 b.sy) := V1_b.c 2 _ rfl
    have q1_b_3 : w1.cell? ⟨w.heap.size + 1, 3, none⟩ = some (.int .i64 b.mass) := V1_b.c 3 _ rfl
    have q1_b_4 : w1.cell? ⟨w.heap.size + 1, 4, none⟩ = some (.int .i64 b.px) := V1_b.c 4 _ rfl
    have q1_b_5 : w1.cell? ⟨w.heap.size + 1, 5, none⟩ = some (.int .i64 b.py) := V1_b.c 5 _ rfl
    have q1_b_6 : w1.cell? ⟨w.heap.size + 1, 6, none⟩ = some (.int .i64 b.mx) := V1_b.c 6 _ rfl
    have q1_b_7 : w1.cell? ⟨w.heap.size + 1, 7, none⟩ = some (.int .i64 b.my) := V1_b.c 7 _ rfl
    have f1_b := V1_b.2.2; have L1_b := V1_b.lt; have N1_b := Nat.ne_of_gt L1_b; have M1_b := Nat.ne_of_lt L1_b
    have HV1_b := Lib.hid V1_b
    have q1_h_0 : w1.cell? ⟨w.heap.size + 1 + 1, 0, none⟩ = some (.int .i64 h.nx) := V1_h.c 0 _ rfl
    have q1_h_1 : w1.cell? ⟨w.heap.size + 1 + 1, 1, none⟩ = some (.int .i64 h.ny) := V1_h.c 1 _ rfl
    have q1_h_2 : w1.cell? ⟨w.heap.size + 1 + 1, 2, none⟩ = some (.int .i64 h.d) := V1_h.c 2 _ rfl
    have f1_h := V1_h.2.2; have L1_h := V1_h.lt; have N1_h := Nat.ne_of_gt L1_h; have M1_h := Nat.ne_of_lt L1_h
    have HV1_h := Lib.hid V1_h
    have q1_l_0 : w1.cell? ⟨w.heap.size + 1 + 1 + 1, 0, none⟩ = some (.int .i64 l) := V1_l.c 0 _ rfl
    have f1_l := V1_l.2.2; have L1_l := V1_l.lt; have N1_l := Nat.ne_of_gt L1_l; have M1_l := Nat.ne_of_lt L1_l
    have HV1_l := Lib.hid V1_l
    have S1 := G1.size; clear hb
    go_wp2_with fail
    (with_reducible refine (C2.out _).mono ?_); rintro en w2 ⟨rfl, hb⟩
    have G2 : Below w.heap.size w w2 := Below.trans (by (repeat (with_reducible refine M.Below.drewN ?_ _)); go_grown) (hb.mono (by go_size))
    have V2_a : M.Var w2 (w.heap.size) #[.int .i64 a.shape, .int .i64 a.sx, .int .i64 a.sy, .int .i64 a.mass, .int .i64 a.px, .int .i64 a.py, .int .i64 a.mx, .int .i64 a.my] := M.Var.mono (by (repeat (first | (with_reducible assumption) | (with_reducible apply M.var_set45) | (with_reducible refine M.var_alloc' _ _ _ ?_; first | rfl | (simp [go_sem]; done)) | (with_reducible refine M.Var.alloc ?_ _) | (with_reducible refine M.Var.drewN ?_ _) | (with_reducible refine M.Var.drew ?_) | (with_reducible refine M.Var.far ?_ _ _ ?hFar; case hFar => (first | omega | ((try simp [go_sem]) <;> omega))) | fail))) hb
    have V2_b : M.Var w2 (w.heap.size + 1) #[.int .i64 b.shape, .int .i64 b.sx, .int .i64 b.sy, .int .i64 b.mass, .int .i64 b.px, .int .i64 b.py, .int .i64 b.mx, .int .i64 b.my] := M.Var.mono (by (repeat (first | (with_reducible assumption) | (with_reducible apply M.var_set45) | (with_reducible refine M.var_alloc' _ _ _ ?_; first | rfl | (simp [go_sem]; done)) | (with_reducible refine M.Var.alloc ?_ _) | (with_reducible refine M.Var.drewN ?_ _) | (with_reducible refine M.Var.drew ?_) | (with_reducible refine M.Var.far ?_ _ _ ?hFar; case hFar => (first | omega | ((try simp [go_sem]) <;> omega))) | fail))) hb
    have V2_h : M.Var w2 (w.heap.size + 1 + 1) #[.int .i64 h.nx, .int .i64 h.ny, .int .i64 h.d] := M.Var.mono (by (repeat (first | (with_reducible assumption) | (with_reducible apply M.var_set45) | (with_reducible refine M.var_alloc' _ _ _ ?_; first | rfl | (simp [go_sem]; done)) | (with_reducible refine M.Var.alloc ?_ _) | (with_reducible refine M.Var.drewN ?_ _) | (with_reducible refine M.Var.drew ?_) | (with_reducible refine M.Var.far ?_ _ _ ?hFar; case hFar => (first | omega | ((try simp [go_sem]) <;> omega))) | fail))) hb
    have V2_l : M.Var w2 (w.heap.size + 1 + 1 + 1) #[.int .i64 l] := M.Var.mono (by (repeat (first | (with_reducible assumption) | (with_reducible apply M.var_set45) | (with_reducible refine M.var_alloc' _ _ _ ?_; first | rfl | (simp [go_sem]; done)) | (with_reducible refine M.Var.alloc ?_ _) | (with_reducible refine M.Var.drewN ?_ _) | (with_reducible refine M.Var.drew ?_) | (with_reducible refine M.Var.far ?_ _ _ ?hFar; case hFar => (first | omega | ((try simp [go_sem]) <;> omega))) | fail))) hb
    have q2_a_0 : w2.cell? ⟨w.heap.size, 0, none⟩ = some (.int .i64 a.shape) := V2_a.c 0 _ rfl
    have q2_a_1 : w2.cell? ⟨w.heap.size, 1, none⟩ = some (.int .i64 a.sx) := V2_a.c 1 _ rfl
    have q2_a_2 : w2.cell? ⟨w.heap.size, 2, none⟩ = some (.int .i64 a.sy) := V2_a.c 2 _ rfl
    have q2_a_3 : w2.cell? ⟨w.heap.size, 3, none⟩ = some (.int .i64 a.mass) := V2_a.c 3 _ rfl
    have q2_a_4 : w2.cell? ⟨w.heap.size, 4, none⟩ = some (.int .i64 a.px) := V2_a.c 4 _ rfl
    have q2_a_5 : w2.cell? ⟨w.heap.size, 5, none⟩ = some (.int .i64 a.py) := V2_a.c 5 _ rfl
    have q2_a_6 : w2.cell? ⟨w.heap.size, 6, none⟩ = some (.int .i64 a.mx) := V2_a.c 6 _ rfl
    have q2_a_7 : w2.cell? ⟨w.heap.size, 7, none⟩ = some (.int .i64 a.my) := V2_a.c 7 _ rfl
    have f2_a := V2_a.2.2; have L2_a := V2_a.lt; have N2_a := Nat.ne_of_gt L2_a; have M2_a := Nat.ne_of_lt L2_a
    have HV2_a := Lib.hid V2_a
    have q2_b_0 : w2.cell? ⟨w.heap.size + 1, 0, none⟩ = some (.int .i64 b.shape) := V2_b.c 0 _ rfl
    have q2_b_1 : w2.cell? ⟨w.heap.size + 1, 1, none⟩ = some (.int .i64 b.sx) := V2_b.c 1 _ rfl
    have q2_b_2 : w2.cell? ⟨w.heap.size + 1, 2, none⟩ = some (.int .i64 b.sy) := V2_b.c 2 _ rfl
    have q2_b_3 : w2.cell? ⟨w.heap.size + 1, 3, none⟩ = some (.int .i64 b.mass) := V2_b.c 3 _ rfl
    have q2_b_4 : w2.cell? ⟨w.heap.size + 1, 4, none⟩ = some (.int .i64 b.px) := V2_b.c 4 _ rfl
    have q2_b_5 : w2.cell? ⟨w.heap.size + 1, 5, none⟩ = some (.int .i64 b.py) := V2_b.c 5 _ rfl
    have q2_b_6 : w2.cell? ⟨w.heap.size + 1, 6, none⟩ = some (.int .i64 b.mx) := V2_b.c 6 _ rfl
    have q2_b_7 : w2.cell? ⟨w.heap.size + 1, 7, none⟩ = some (.int .i64 b.my) := V2_b.c 7 _ rfl
    have f2_b := V2_b.2.2; have L2_b := V2_b.lt; have N2_b := Nat.ne_of_gt L2_b; have M2_b := Nat.ne_of_lt L2_b
    have HV2_b := Lib.hid V2_b
    have q2_h_0 : w2.cell? ⟨w.heap.size + 1 + 1, 0, none⟩ = some (.int .i64 h.nx) := V2_h.c 0 _ rfl
    have q2_h_1 : w2.cell? ⟨w.heap.size + 1 + 1, 1, none⟩ = some (.int .i64 h.ny) := V2_h.c 1 _ rfl
    have q2_h_2 : w2.cell? ⟨w.heap.size + 1 + 1, 2, none⟩ = some (.int .i64 h.d) := V2_h.c 2 _ rfl
    have f2_h := V2_h.2.2; have L2_h := V2_h.lt; have N2_h := Nat.ne_of_gt L2_h; have M2_h := Nat.ne_of_lt L2_h
    have HV2_h := Lib.hid V2_h
    have q2_l_0 : w2.cell? ⟨w.heap.size + 1 + 1 + 1, 0, none⟩ = some (.int .i64 l) := V2_l.c 0 _ rfl
    have f2_l := V2_l.2.2; have L2_l := V2_l.lt; have N2_l := Nat.ne_of_gt L2_l; have M2_l := Nat.ne_of_lt L2_l
    have HV2_l := Lib.hid V2_l
    have S2 := G2.size; clear hb
    go_wp2_with fail
    (with_reducible refine (c0.out _).mono ?_); rintro en w3 ⟨rfl, hb⟩
    have G3 : Below w.heap.size w w3 := Below.trans (by (repeat (with_reducible refine M.Below.drewN ?_ _)); go_grown) (hb.mono (by go_size))
    have V3_a : M.Var w3 (w.heap.size) #[.int .i64 a.shape, .int .i64 a.sx, .int .i64 a.sy, .int .i64 a.mass, .int .i64 a.px, .int .i64 a.py, .int .i64 a.mx, .int .i64 a.my] := M.Var.mono (by (repeat (first | (with_reducible assumption) | (with_reducible apply M.var_set45) | (with_reducible refine M.var_alloc' _ _ _ ?_; first | rfl | (simp [go_sem]; done)) | (with_reducible refine M.Var.alloc ?_ _) | (with_reducible refine M.Var.drewN ?_ _) | (with_reducible refine M.Var.drew ?_) | (with_reducible refine M.Var.far ?_ _ _ ?hFar; case hFar => (first | omega | ((try simp [go_sem]) <;> omega))) | fail))) hb
    have V3_b : M.Var w3 (w.heap.size + 1) #[.int .i64 b.shape, .int .i64 b.sx, .int .i64 b.sy, .int .i64 b.mass, .int .i64 b.px, .int .i64 b.py, .int .i64 b.mx, .int .i64 b.my] := M.Var.mono (by (repeat (first | (with_reducible assumption) | (with_reducible apply M.var_set45) | (with_reducible refine M.var_alloc' _ _ _ ?_; first | rfl | (simp [go_sem]; done)) | (with_reducible refine M.Var.alloc ?_ _) | (with_reducible refine M.Var.drewN ?_ _) | (with_reducible refine M.Var.drew ?_) | (with_reducible refine M.Var.far ?_ _ _ ?hFar; case hFar => (first | omega | ((try simp [go_sem]) <;> omega))) | fail))) hb
    have V3_h : M.Var w3 (w.heap.size + 1 + 1) #[.int .i64 h.nx, .int .i64 h.ny, .int .i64 h.d] := M.Var.mono (by (repeat (first | (with_reducible assumption) | (with_reducible apply M.var_set45) | (with_reducible refine M.var_alloc' _ _ _ ?_; first | rfl | (simp [go_sem]; done)) | (with_reducible refine M.Var.alloc ?_ _) | (with_reducible refine M.Var.drewN ?_ _) | (with_reducible refine M.Var.drew ?_) | (with_reducible refine M.Var.far ?_ _ _ ?hFar; case hFar => (first | omega | ((try simp [go_sem]) <;> omega))) | fail))) hb
    have V3_l : M.Var w3 (w.heap.size + 1 + 1 + 1) #[.int .i64 l] := M.Var.mono (by (repeat (first | (with_reducible assumption) | (with_reducible apply M.var_set45) | (with_reducible refine M.var_alloc' _ _ _ ?_; first | rfl | (simp [go_sem]; done)) | (with_reducible refine M.Var.alloc ?_ _) | (with_reducible refine M.Var.drewN ?_ _) | (with_reducible refine M.Var.drew ?_) | (with_reducible refine M.Var.far ?_ _ _ ?hFar; case hFar => (first | omega | ((try simp [go_sem]) <;> omega))) | fail))) hb
    have q3_a_0 : w3.cell? ⟨w.heap.size, 0, none⟩ = some (.int .i64 a.shape) := V3_a.c 0 _ rfl
    have q3_a_1 : w3.cell? ⟨w.heap.size, 1, none⟩ = some (.int .i64 a.sx) := V3_a.c 1 _ rfl
    have q3_a_2 : w3.cell? ⟨w.heap.size, 2, none⟩ = some (.int .i64 a.sy) := V3_a.c 2 _ rfl
    have q3_a_3 : w3.cell? ⟨w.heap.size, 3, none⟩ = some (.int .i64 a.mass) := V3_a.c 3 _ rfl
    have q3_a_4 : w3.cell? ⟨w.heap.size, 4, none⟩ = some (.int .i64 a.px) := V3_a.c 4 _ rfl
    have q3_a_5 : w3.cell? ⟨w.heap.size, 5, none⟩ = some (.int .i64 a.py) := V3_a.c 5 _ rfl
    have q3_a_6 : w3.cell? ⟨w.heap.size, 6, none⟩ = some (.int .i64 a.mx) := V3_a.c 6 _ rfl
    have q3_a_7 : w3.cell? ⟨w.heap.size, 7, none⟩ = some (.int .i64 a.my) := V3_a.c 7 _ rfl
    have f3_a := V3_a.2.2; have L3_a := V3_a.lt; have N3_a := Nat.ne_of_gt L3_a; have M3_a := Nat.ne_of_lt L3_a
    have HV3_a := Lib.hid V3_a
    have q3_b_0 : w3.cell? ⟨w.heap.size + 1, 0, none⟩ = some (.int .i64 b.shape) := V3_b.c 0 _ rfl
    have q3_b_1 : w3.cell? ⟨w.heap.size + 1, 1, none⟩ = some (.int .i64 b.sx) := V3_b.c 1 _ rfl
    have q3_b_2 : w3.cell? ⟨w.heap.size + 1, 2, none⟩ = some (.int .i64 b.sy) := V3_b.c 2 _ rfl
    have q3_b_3 : w3.cell? ⟨w.heap.size + 1, 3, none⟩ = some (.int .i64 b.mass) := V3_b.c 3 _ rfl
    have q3_b_4 : w3.cell? ⟨w.heap.size + 1, 4, none⟩ = some (.int .i64 b.px) := V3_b.c 4 _ rfl
    have q3_b_5 : w3.cell? ⟨w.heap.size + 1, 5, none⟩ = some (.int .i64 b.py) := V3_b.c 5 _ rfl
    have q3_b_6 : w3.cell? ⟨w.heap.size + 1, 6, none⟩ = some (.int .i64 b.mx) := V3_b.c 6 _ rfl
    have q3_b_7 : w3.cell? ⟨w.heap.size + 1, 7, none⟩ = some (.int .i64 b.my) := V3_b.c 7 _ rfl
    have f3_b := V3_b.2.2; have L3_b := V3_b.lt; have N3_b := Nat.ne_of_gt L3_b; have M3_b := Nat.ne_of_lt L3_b
    have HV3_b := Lib.hid V3_b
    have q3_h_0 : w3.cell? ⟨w.heap.size + 1 + 1, 0, none⟩ = some (.int .i64 h.nx) := V3_h.c 0 _ rfl
    have q3_h_1 : w3.cell? ⟨w.heap.size + 1 + 1, 1, none⟩ = some (.int .i64 h.ny) := V3_h.c 1 _ rfl
    have q3_h_2 : w3.cell? ⟨w.heap.size + 1 + 1, 2, none⟩ = some (.int .i64 h.d) := V3_h.c 2 _ rfl
    have f3_h := V3_h.2.2; have L3_h := V3_h.lt; have N3_h := Nat.ne_of_gt L3_h; have M3_h := Nat.ne_of_lt L3_h
    have HV3_h := Lib.hid V3_h
    have q3_l_0 : w3.cell? ⟨w.heap.size + 1 + 1 + 1, 0, none⟩ = some (.int .i64 l) := V3_l.c 0 _ rfl
    have f3_l := V3_l.2.2; have L3_l := V3_l.lt; have N3_l := Nat.ne_of_gt L3_l; have M3_l := Nat.ne_of_lt L3_l
    have HV3_l := Lib.hid V3_l
    have S3 := G3.size; clear hb
    go_wp2_with fail
    go_ret
    exact ⟨rfl, by (repeat (with_reducible refine M.Below.drewN ?_ _)); go_grown⟩
  have C1 := Lib.hid c1; have C2 := Lib.hid c2
  replace l1 := l1 rfl; replace l2 := l2 rfl; replace s1 := s1 rfl; replace s2 := s2 rfl
  clear c1 c2
  clear l1 l2 s1 s2
  by_cases h1 : a.mass = 0
  rotate_left
  · have k1 := bne_iff_ne.2 h1; have k1' := beq_eq_false_iff_ne.2 h1
    clear h1
    go_enter Try.func10, Try.ntmps10
    go_wp2_with fail
    (with_reducible refine (C1.out _).mono ?_); rintro en w1 ⟨rfl, hb⟩
    have G1 : Below w.heap.size w w1 := Below.trans (by (repeat (with_reducible refine M.Below.drewN ?_ _)); go_grown) (hb.mono (by go_size))
    have V1_a : M.Var w1 (w.heap.size) #[.int .i64 a.shape, .int .i64 a.sx, .int .i64 a.sy, .int .i64 a.mass, .int .i64 a.px, .int .i64 a.py, .int .i64 a.mx, .int .i64 a.my] := M.Var.mono (by (repeat (first | (with_reducible assumption) | (with_reducible apply M.var_set45) | (with_reducible refine M.var_alloc' _ _ _ ?_; first | rfl | (simp [go_sem]; done)) | (with_reducible refine M.Var.alloc ?_ _) | (with_reducible refine M.Var.drewN ?_ _) | (with_reducible refine M.Var.drew ?_) | (with_reducible refine M.Var.far ?_ _ _ ?hFar; case hFar => (first | omega | ((try simp [go_sem]) <;> omega))) | fail))) hb
    have V1_b : M.Var w1 (w.heap.size + 1) #[.int .i64 b.shape, .int .i64 b.sx, .int .i64 b.sy, .int .i64 b.mass, .int .i64 b.px, .int .i64 b.py, .int .i64 b.mx, .int .i64 b.my] := M.Var.mono (by (repeat (first | (with_reducible assumption) | (with_reducible apply M.var_set45) | (with_reducible refine M.var_alloc' _ _ _ ?_; first | rfl | (simp [go_sem]; done)) | (with_reducible refine M.Var.alloc ?_ _) | (with_reducible refine M.Var.drewN ?_ _) | (with_reducible refine M.Var.drew ?_) | (with_reducible refine M.Var.far ?_ _ _ ?hFar; case hFar => (first | omega | ((try simp [go_sem]) <;> omega))) | fail))) hb
    have V1_h : M.Var w1 (w.heap.size + 1 + 1) #[.int .i64 h.nx, .int .i64 h.ny, .int .i64 h.d] := M.Var.mono (by (repeat (first | (with_reducible assumption) | (with_reducible apply M.var_set45) | (with_reducible refine M.var_alloc' _ _ _ ?_; first | rfl | (simp [go_sem]; done)) | (with_reducible refine M.Var.alloc ?_ _) | (with_reducible refine M.Var.drewN ?_ _) | (with_reducible refine M.Var.drew ?_) | (with_reducible refine M.Var.far ?_ _ _ ?hFar; case hFar => (first | omega | ((try simp [go_sem]) <;> omega))) | fail))) hb
    have V1_l : M.Var w1 (w.heap.size + 1 + 1 + 1) #[.int .i64 l] := M.Var.mono (by (repeat (first | (with_reducible assumption) | (with_reducible apply M.var_set45) | (with_reducible refine M.var_alloc' _ _ _ ?_; first | rfl | (simp [go_sem]; done)) | (with_reducible refine M.Var.alloc ?_ _) | (with_reducible refine M.Var.drewN ?_ _) | (with_reducible refine M.Var.drew ?_) | (with_reducible refine M.Var.far ?_ _ _ ?hFar; case hFar => (first | omega | ((try simp [go_sem]) <;> omega))) | fail))) hb
    have q1_a_0 : w1.cell? ⟨w.heap.size, 0, none⟩ = some (.int .i64 a.shape) := V1_a.c 0 _ rfl
    have q1_a_1 : w1.cell? ⟨w.heap.size, 1, none⟩ = some (.int .i64 a.sx) := V1_a.c 1 _ rfl
    have q1_a_2 : w1.cell? ⟨w.heap.size, 2, none⟩ = some (.int .i64 a.sy) := V1_a.c 2 _ rfl
    have q1_a_3 : w1.cell? ⟨w.heap.size, 3, none⟩ = some (.int .i64 a.mass) := V1_a.c 3 _ rfl
    have q1_a_4 : w1.cell? ⟨w.heap.size, 4, none⟩ = some (.int .i64 a.px) := V1_a.c 4 _ rfl
    have q1_a_5 : w1.cell? ⟨w.heap.size, 5, none⟩ = some (.int .i64 a.py) := V1_a.c 5 _ rfl
    have q1_a_6 : w1.cell? ⟨w.heap.size, 6, none⟩ = some (.int .i64 a.mx) := V1_a.c 6 _ rfl
    have q1_a_7 : w1.cell? ⟨w.heap.size, 7, none⟩ = some (.int .i64 a.my) := V1_a.c 7 _ rfl
    have f1_a := V1_a.2.2; have L1_a := V1_a.lt; have N1_a := Nat.ne_of_gt L1_a; have M1_a := Nat.ne_of_lt L1_a
    have HV1_a := Lib.hid V1_a
    have q1_b_0 : w1.cell? ⟨w.heap.size + 1, 0, none⟩ = some (.int .i64 b.shape) := V1_b.c 0 _ rfl
    have q1_b_1 : w1.cell? ⟨w.heap.size + 1, 1, none⟩ = some (.int .i64 b.sx) := V1_b.c 1 _ rfl
    have q1_b_2 : w1.cell? ⟨w.heap.size + 1, 2, none⟩ = some (.int .i64 b.sy) := V1_b.c 2 _ rfl
    have q1_b_3 : w1.cell? ⟨w.heap.size + 1, 3, none⟩ = some (.int .i64 b.mass) := V1_b.c 3 _ rfl
    have q1_b_4 : w1.cell? ⟨w.heap.size + 1, 4, none⟩ = some (.int .i64 b.px) := V1_b.c 4 _ rfl
    have q1_b_5 : w1.cell? ⟨w.heap.size + 1, 5, none⟩ = some (.int .i64 b.py) := V1_b.c 5 _ rfl
    have q1_b_6 : w1.cell? ⟨w.heap.size + 1, 6, none⟩ = some (.int .i64 b.mx) := V1_b.c 6 _ rfl
    have q1_b_7 : w1.cell? ⟨w.heap.size + 1, 7, none⟩ = some (.int .i64 b.my) := V1_b.c 7 _ rfl
    have f1_b := V1_b.2.2; have L1_b := V1_b.lt; have N1_b := Nat.ne_of_gt L1_b; have M1_b := Nat.ne_of_lt L1_b
    have HV1_b := Lib.hid V1_b
    have q1_h_0 : w1.cell? ⟨w.heap.size + 1 + 1, 0, none⟩ = some (.int .i64 h.nx) := V1_h.c 0 _ rfl
    have q1_h_1 : w1.cell? ⟨w.heap.size + 1 + 1, 1, none⟩ = some (.int .i64 h.ny) := V1_h.c 1 _ rfl
    have q1_h_2 : w1.cell? ⟨w.heap.size + 1 + 1, 2, none⟩ = some (.int .i64 h.d) := V1_h.c 2 _ rfl
    have f1_h := V1_h.2.2; have L1_h := V1_h.lt; have N1_h := Nat.ne_of_gt L1_h; have M1_h := Nat.ne_of_lt L1_h
    have HV1_h := Lib.hid V1_h
    have q1_l_0 : w1.cell? ⟨w.heap.size + 1 + 1 + 1, 0, none⟩ = some (.int .i64 l) := V1_l.c 0 _ rfl
    have f1_l := V1_l.2.2; have L1_l := V1_l.lt; have N1_l := Nat.ne_of_gt L1_l; have M1_l := Nat.ne_of_lt L1_l
    have HV1_l := Lib.hid V1_l
    have S1 := G1.size; clear hb
    go_wp2_with fail
    (with_reducible refine (C2.out _).mono ?_); rintro en w2 ⟨rfl, hb⟩
    have G2 : Below w.heap.size w w2 := Below.trans (by (repeat (with_reducible refine M.Below.drewN ?_ _)); go_grown) (hb.mono (by go_size))
    have V2_a : M.Var w2 (w.heap.size) #[.int .i64 a.shape, .int .i64 a.sx, .int .i64 a.sy, .int .i64 a.mass, .int .i64 a.px, .int .i64 a.py, .int .i64 a.mx, .int .i64 a.my] := M.Var.mono (by (repeat (first | (with_reducible assumption) | (with_reducible apply M.var_set45) | (with_reducible refine M.var_alloc' _ _ _ ?_; first | rfl | (simp [go_sem]; done)) | (with_reducible refine M.Var.alloc ?_ _) | (with_reducible refine M.Var.drewN ?_ _) | (with_reducible refine M.Var.drew ?_) | (with_reducible refine M.Var.far ?_ _ _ ?hFar; case hFar => (first | omega | ((try simp [go_sem]) <;> omega))) | fail))) hb
    have V2_b : M.Var w2 (w.heap.size + 1) #[.int .i64 b.shape, .int .i64 b.sx, .int .i64 b.sy, .int .i64 b.mass, .int .i64 b.px, .int .i64 b.py, .int .i64 b.mx, .int .i64 b.my] := M.Var.mono (by (repeat (first | (with_reducible assumption) | (with_reducible apply M.var_set45) | (with_reducible refine M.var_alloc' _ _ _ ?_; first | rfl | (simp [go_sem]; done)) | (with_reducible refine M.Var.alloc ?_ _) | (with_reducible refine M.Var.drewN ?_ _) | (with_reducible refine M.Var.drew ?_) | (with_reducible refine M.Var.far ?_ _ _ ?hFar; case hFar => (first | omega | ((try simp [go_sem]) <;> omega))) | fail))) hb
    have V2_h : M.Var w2 (w.heap.size + 1 + 1) #[.int .i64 h.nx, .int .i64 h.ny, .int .i64 h.d] := M.Var.mono (by (repeat (first | (with_reducible assumption) | (with_reducible apply M.var_set45) | (with_reducible refine M.var_alloc' _ _ _ ?_; first | rfl | (simp [go_sem]; done)) | (with_reducible refine M.Var.alloc ?_ _) | (with_reducible refine M.Var.drewN ?_ _) | (with_reducible refine M.Var.drew ?_) | (with_reducible refine M.Var.far ?_ _ _ ?hFar; case hFar => (first | omega | ((try simp [go_sem]) <;> omega))) | fail))) hb
    have V2_l : M.Var w2 (w.heap.size + 1 + 1 + 1) #[.int .i64 l] := M.Var.mono (by (repeat (first | (with_reducible assumption) | (with_reducible apply M.var_set45) | (with_reducible refine M.var_alloc' _ _ _ ?_; first | rfl | (simp [go_sem]; done)) | (with_reducible refine M.Var.alloc ?_ _) | (with_reducible refine M.Var.drewN ?_ _) | (with_reducible refine M.Var.drew ?_) | (with_reducible refine M.Var.far ?_ _ _ ?hFar; case hFar => (first | omega | ((try simp [go_sem]) <;> omega))) | fail))) hb
    have q2_a_0 : w2.cell? ⟨w.heap.size, 0, none⟩ = some (.int .i64 a.shape) := V2_a.c 0 _ rfl
    have q2_a_1 : w2.cell? ⟨w.heap.size, 1, none⟩ = some (.int .i64 a.sx) := V2_a.c 1 _ rfl
    have q2_a_2 : w2.cell? ⟨w.heap.size, 2, none⟩ = some (.int .i64 a.sy) := V2_a.c 2 _ rfl
    have q2_a_3 : w2.cell? ⟨w.heap.size, 3, none⟩ = some (.int .i64 a.mass) := V2_a.c 3 _ rfl
    have q2_a_4 : w2.cell? ⟨w.heap.size, 4, none⟩ = some (.int .i64 a.px) := V2_a.c 4 _ rfl
    have q2_a_5 : w2.cell? ⟨w.heap.size, 5, none⟩ = some (.int .i64 a.py) := V2_a.c 5 _ rfl
    have q2_a_6 : w2.cell? ⟨w.heap.size, 6, none⟩ = some (.int .i64 a.mx) := V2_a.c 6 _ rfl
    have q2_a_7 : w2.cell? ⟨w.heap.size, 7, none⟩ = some (.int .i64 a.my) := V2_a.c 7 _ rfl
    have f2_a := V2_a.2.2; have L2_a := V2_a.lt; have N2_a := Nat.ne_of_gt L2_a; have M2_a := Nat.ne_of_lt L2_a
    have HV2_a := Lib.hid V2_a
    have q2_b_0 : w2.cell? ⟨w.heap.size + 1, 0, none⟩ = some (.int .i64 b.shape) := V2_b.c 0 _ rfl
    have q2_b_1 : w2.cell? ⟨w.heap.size + 1, 1, none⟩ = some (.int .i64 b.sx) := V2_b.c 1 _ rfl
    have q2_b_2 : w2.cell? ⟨w.heap.size + 1, 2, none⟩ = some (.int .i64 b.sy) := V2_b.c 2 _ rfl
    have q2_b_3 : w2.cell? ⟨w.heap.size + 1, 3, none⟩ = some (.int .i64 b.mass) := V2_b.c 3 _ rfl
    have q2_b_4 : w2.cell? ⟨w.heap.size + 1, 4, none⟩ = some (.int .i64 b.px) := V2_b.c 4 _ rfl
    have q2_b_5 : w2.cell? ⟨w.heap.size + 1, 5, none⟩ = some (.int .i64 b.py) := V2_b.c 5 _ rfl
    have q2_b_6 : w2.cell? ⟨w.heap.size + 1, 6, none⟩ = some (.int .i64 b.mx) := V2_b.c 6 _ rfl
    have q2_b_7 : w2.cell? ⟨w.heap.size + 1, 7, none⟩ = some (.int .i64 b.my) := V2_b.c 7 _ rfl
    have f2_b := V2_b.2.2; have L2_b := V2_b.lt; have N2_b := Nat.ne_of_gt L2_b; have M2_b := Nat.ne_of_lt L2_b
    have HV2_b := Lib.hid V2_b
    have q2_h_0 : w2.cell? ⟨w.heap.size + 1 + 1, 0, none⟩ = some (.int .i64 h.nx) := V2_h.c 0 _ rfl
    have q2_h_1 : w2.cell? ⟨w.heap.size + 1 + 1, 1, none⟩ = some (.int .i64 h.ny) := V2_h.c 1 _ rfl
    have q2_h_2 : w2.cell? ⟨w.heap.size + 1 + 1, 2, none⟩ = some (.int .i64 h.d) := V2_h.c 2 _ rfl
    have f2_h := V2_h.2.2; have L2_h := V2_h.lt; have N2_h := Nat.ne_of_gt L2_h; have M2_h := Nat.ne_of_lt L2_h
    have HV2_h := Lib.hid V2_h
    have q2_l_0 : w2.cell? ⟨w.heap.size + 1 + 1 + 1, 0, none⟩ = some (.int .i64 l) := V2_l.c 0 _ rfl
    have f2_l := V2_l.2.2; have L2_l := V2_l.lt; have N2_l := Nat.ne_of_gt L2_l; have M2_l := Nat.ne_of_lt L2_l
    have HV2_l := Lib.hid V2_l
    have S2 := G2.size; clear hb
    go_wp2_with fail
    (with_reducible refine (c0.out _).mono ?_); rintro en w3 ⟨rfl, hb⟩
    have G3 : Below w.heap.size w w3 := Below.trans (by (repeat (with_reducible refine M.Below.drewN ?_ _)); go_grown) (hb.mono (by go_size))
    have V3_a : M.Var w3 (w.heap.size) #[.int .i64 a.shape, .int .i64 a.sx, .int .i64 a.sy, .int .i64 a.mass, .int .i64 a.px, .int .i64 a.py, .int .i64 a.mx, .int .i64 a.my] := M.Var.mono (by (repeat (first | (with_reducible assumption) | (with_reducible apply M.var_set45) | (with_reducible refine M.var_alloc' _ _ _ ?_; first | rfl | (simp [go_sem]; done)) | (with_reducible refine M.Var.alloc ?_ _) | (with_reducible refine M.Var.drewN ?_ _) | (with_reducible refine M.Var.drew ?_) | (with_reducible refine M.Var.far ?_ _ _ ?hFar; case hFar => (first | omega | ((try simp [go_sem]) <;> omega))) | fail))) hb
    have V3_b : M.Var w3 (w.heap.size + 1) #[.int .i64 b.shape, .int .i64 b.sx, .int .i64 b.sy, .int .i64 b.mass, .int .i64 b.px, .int .i64 b.py, .int .i64 b.mx, .int .i64 b.my] := M.Var.mono (by (repeat (first | (with_reducible assumption) | (with_reducible apply M.var_set45) | (with_reducible refine M.var_alloc' _ _ _ ?_; first | rfl | (simp [go_sem]; done)) | (with_reducible refine M.Var.alloc ?_ _) | (with_reducible refine M.Var.drewN ?_ _) | (with_reducible refine M.Var.drew ?_) | (with_reducible refine M.Var.far ?_ _ _ ?hFar; case hFar => (first | omega | ((try simp [go_sem]) <;> omega))) | fail))) hb
    have V3_h : M.Var w3 (w.heap.size + 1 + 1) #[.int .i64 h.nx, .int .i64 h.ny, .int .i64 h.d] := M.Var.mono (by (repeat (first | (with_reducible assumption) | (with_reducible apply M.var_set45) | (with_reducible refine M.var_alloc' _ _ _ ?_; first | rfl | (simp [go_sem]; done)) | (with_reducible refine M.Var.alloc ?_ _) | (with_reducible refine M.Var.drewN ?_ _) | (with_reducible refine M.Var.drew ?_) | (with_reducible refine M.Var.far ?_ _ _ ?hFar; case hFar => (first | omega | ((try simp [go_sem]) <;> omega))) | fail))) hb
    have V3_l : M.Var w3 (w.heap.size + 1 + 1 + 1) #[.int .i64 l] := M.Var.mono (by (repeat (first | (with_reducible assumption) | (with_reducible apply M.var_set45) | (with_reducible refine M.var_alloc' _ _ _ ?_; first | rfl | (simp [go_sem]; done)) | (with_reducible refine M.Var.alloc ?_ _) | (with_reducible refine M.Var.drewN ?_ _) | (with_reducible refine M.Var.drew ?_) | (with_reducible refine M.Var.far ?_ _ _ ?hFar; case hFar => (first | omega | ((try simp [go_sem]) <;> omega))) | fail))) hb
    have q3_a_0 : w3.cell? ⟨w.heap.size, 0, none⟩ = some (.int .i64 a.shape) := V3_a.c 0 _ rfl
    have q3_a_1 : w3.cell? ⟨w.heap.size, 1, none⟩ = some (.int .i64 a.sx) := V3_a.c 1 _ rfl
    have q3_a_2 : w3.cell? ⟨w.heap.size, 2, none⟩ = some (.int .i64 a.sy) := V3_a.c 2 _ rfl
    have q3_a_3 : w3.cell? ⟨w.heap.size, 3, none⟩ = some (.int .i64 a.mass) := V3_a.c 3 _ rfl
    have q3_a_4 : w3.cell? ⟨w.heap.size, 4, none⟩ = some (.int .i64 a.px) := V3_a.c 4 _ rfl
    have q3_a_5 : w3.cell? ⟨w.heap.size, 5, none⟩ = some (.int .i64 a.py) := V3_a.c 5 _ rfl
    have q3_a_6 : w3.cell? ⟨w.heap.size, 6, none⟩ = some (.int .i64 a.mx) := V3_a.c 6 _ rfl
    have q3_a_7 : w3.cell? ⟨w.heap.size, 7, none⟩ = some (.int .i64 a.my) := V3_a.c 7 _ rfl
    have f3_a := V3_a.2.2; have L3_a := V3_a.lt; have N3_a := Nat.ne_of_gt L3_a; have M3_a := Nat.ne_of_lt L3_a
    have HV3_a := Lib.hid V3_a
    have q3_b_0 : w3.cell? ⟨w.heap.size + 1, 0, none⟩ = some (.int .i64 b.shape) := V3_b.c 0 _ rfl
    have q3_b_1 : w3.cell? ⟨w.heap.size + 1, 1, none⟩ = some (.int .i64 b.sx) := V3_b.c 1 _ rfl
    have q3_b_2 : w3.cell? ⟨w.heap.size + 1, 2, none⟩ = some (.int .i64 b.sy) := V3_b.c 2 _ rfl
    have q3_b_3 : w3.cell? ⟨w.heap.size + 1, 3, none⟩ = some (.int .i64 b.mass) := V3_b.c 3 _ rfl
    have q3_b_4 : w3.cell? ⟨w.heap.size + 1, 4, none⟩ = some (.int .i64 b.px) := V3_b.c 4 _ rfl
    have q3_b_5 : w3.cell? ⟨w.heap.size + 1, 5, none⟩ = some (.int .i64 b.py) := V3_b.c 5 _ rfl
    have q3_b_6 : w3.cell? ⟨w.heap.size + 1, 6, none⟩ = some (.int .i64 b.mx) := V3_b.c 6 _ rfl
    have q3_b_7 : w3.cell? ⟨w.heap.size + 1, 7, none⟩ = some (.int .i64 b.my) := V3_b.c 7 _ rfl
    have f3_b := V3_b.2.2; have L3_b := V3_b.lt; have N3_b := Nat.ne_of_gt L3_b; have M3_b := Nat.ne_of_lt L3_b
    have HV3_b := Lib.hid V3_b
    have q3_h_0 : w3.cell? ⟨w.heap.size + 1 + 1, 0, none⟩ = some (.int .i64 h.nx) := V3_h.c 0 _ rfl
    have q3_h_1 : w3.cell? ⟨w.heap.size + 1 + 1, 1, none⟩ = some (.int .i64 h.ny) := V3_h.c 1 _ rfl
    have q3_h_2 : w3.cell? ⟨w.heap.size + 1 + 1, 2, none⟩ = some (.int .i64 h.d) := V3_h.c 2 _ rfl
    have f3_h := V3_h.2.2; have L3_h := V3_h.lt; have N3_h := Nat.ne_of_gt L3_h; have M3_h := Nat.ne_of_lt L3_h
    have HV3_h := Lib.hid V3_h
    have q3_l_0 : w3.cell? ⟨w.heap.size + 1 + 1 + 1, 0, none⟩ = some (.int .i64 l) := V3_l.c 0 _ rfl
    have f3_l := V3_l.2.2; have L3_l := V3_l.lt; have N3_l := Nat.ne_of_gt L3_l; have M3_l := Nat.ne_of_lt L3_l
    have HV3_l := Lib.hid V3_l
    have S3 := G3.size; clear hb
    go_wp2_with fail
    go_ret
    exact ⟨rfl, by (repeat (with_reducible refine M.Below.drewN ?_ _)); go_grown⟩
  have k1 := bne_eq_false_iff_eq.2 h1; have k1' := beq_iff_eq.2 h1
  replace h1 := Lib.hid h1
  by_cases h2 : b.mass = 0
  · exact walkA w a ha b hB h hh l hl hR1 hR2 h1.out h2
  · exact walkB w a ha b hB h hh l hl hR1 hR2 h1.out h2

theorem lifted (os : Os) (started : os.Started) (H : Type) (enc : TypeId × Value → H) :
    ReturnsInHanded {} Try.checked os 10 .any (Rows.pushFixedSpec.pre6 enc Try.prog Try.f10 Rows.pushFixedRow.domain false) (Rows.pushFixedSpec.post enc Try.prog Try.f10 false true false false) := by
  refine returnsInHanded_of_change (C := Try.checked) own started (by kernel_rfl) Try.func10
    (ChangeSpec.witness6 (enc := enc) (C := Try.checked) false ⟨#[], #[.agg #[.int .i64 0, .int .i64 0, .int .i64 0, .int .i64 0, .int .i64 0, .int .i64 0, .int .i64 0, .int .i64 0], .agg #[.int .i64 0, .int .i64 0, .int .i64 0, .int .i64 0, .int .i64 0, .int .i64 0, .int .i64 0, .int .i64 0], .agg #[.int .i64 0, .int .i64 0, .int .i64 0], .int .i64 0], []⟩ 8 (by kernel_rfl) (by kernel_rfl) (by kernel_rfl) (by kernel_rfl)) ?_
  intro W base args ds gs before hval0 hW hcnd _
  have hval : ∀ (j : Nat) t v, Try.f10.params[j]? = some t → args[j]? = some v → Value.okWide Try.prog W .any base t v := hval0
  have hW' := hW
  obtain ⟨p, q, hA0, hV, rfl, hfz, hnd⟩ := hW
  have hA : DataW.TrodAll enc Try.prog W 0 (fun _ => true) true Try.f10.params.toList args.toList ds p := hA0
  rw [Try.params10] at hA hval
  obtain ⟨v0, vs0, d0, ds0, p0, q0, hargs, rfl, rfl, h0, r0⟩ := trodAll_cons hA
  obtain ⟨v1, vs1, d1, ds1, p1, q1, rfl, rfl, rfl, h1, r1⟩ := trodAll_cons r0
  obtain ⟨v2, vs2, d2, ds2, p2, q2, rfl, rfl, rfl, h2, r2⟩ := trodAll_cons r1
  obtain ⟨v3, vs3, d3, ds3, p3, q3, rfl, rfl, rfl, h3, r3⟩ := trodAll_cons r2
  obtain ⟨rfl, rfl, rfl⟩ := trodAll_nil r3
  obtain rfl : args = #[v0, v1, v2, v3] := by cases args; simp_all
  obtain ⟨rfl, rfl⟩ := trodVars_none hV
  obtain ⟨a, rfl, rfl, rfl, wa⟩ := open_body (hval 0 26 v0 rfl rfl) h0
  obtain ⟨b, rfl, rfl, rfl, wb⟩ := open_body (hval 1 26 v1 rfl rfl) h1
  obtain ⟨h, rfl, rfl, rfl, wh0, wh1, wh2⟩ := open_hit (hval 2 30 v2 rfl rfl) h2
  obtain ⟨l, rfl, rfl, rfl, wl⟩ := open_int Try.underlying22 (hval 3 22 v3 rfl rfl) h3
  clear hA0 hval0
  simp only [List.append_nil] at hW'
  refine (walk W a wa.ok b wb.ok h ⟨i64_wf wh0, i64_wf wh1, i64_wf wh2⟩ l (i64_wf wl)).mono fun e W' ⟨he, hg⟩ => ?_
  subst he
  exact ⟨_, rfl, post_below (pa := []) (pv := []) hW' (fun _ _ _ => (trodAll_cons_mk (shut_bool Try.underlying4 _) trodAll_mk0)) (fun sp hsp => (trodAll_cons_mk (shut_body wa) (trodAll_cons_mk (shut_body wb) (trodAll_cons_mk (shut_hit wh0 wh1 wh2) (trodAll_cons_mk (shut_int Try.underlying22 wl) trodAll_mk0))))) (fun _ _ => rfl) rfl
    hg (ok_one (by kernel_rfl) rfl (okWide_bool_mk Try.underlying4 _))⟩

theorem closed : joinedFacts Try.prog 10 Try.f10 Rows.pushFixedSpec Rows.pushFixedRow = true := by
  unfold joinedFacts
  rw [fact_laid, fact_maps, fact_keys, fact_heard, fact_stops, fact_knobs, fact_enter, fact_lifts, fact_make]
  kernel_rfl

theorem over : Rows.pushFixedRow.holds Try.pinned (OpenSpec.ofChange Rows.pushFixedSpec) :=
  OpenClaim.holds_of_wide 10 Try.f10 rfl rfl rfl rfl rfl rfl rfl ⟨rfl, rfl, rfl, rfl, rfl⟩ rfl rfl rfl rfl rfl (by kernel_rfl) Try.func10 closed
    (of_decide_eq_true (by kernel_rfl)) (by unfold Func.isWrapper; first | (rw [if_pos (by decide +kernel)]; kernel_rfl) | (rw [if_neg (by decide +kernel)]; exact ⟨rfl, rfl⟩))
    (fun os started H enc _ => lifted os started H enc)

/-- The statement. -/
theorem proved : Rows.PushFixedSaid :=
  over
#print axioms proved
end Go.Proofs.Ytcaibieaobhheaa.pushFixed
