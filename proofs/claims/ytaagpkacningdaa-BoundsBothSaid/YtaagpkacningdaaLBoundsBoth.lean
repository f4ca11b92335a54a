/- For every two boxes and every place BoundsBoth returns true: the box around two has both, and is no greater than it must be. -/
import Derived.Test.YtaagpkacningdaaRows
import Derived.WalkKit
import Derived.ProofKit
import Derived.OpenShut
import Derived.Test.YtaagpkacningdaaFacts
import Derived.Test.YtaagpkacningdaaArgs
import Derived.Test.YtaagpkacningdaaBoundsAlive
import Derived.Deep.DrawnRows
namespace Go.Proofs.Ytaagpkacningdaa.boundsBoth
open Go.ChangeShapes Go.WideShapes Go.ChangeAt Go.RowKit M
set_option maxRecDepth 100000
set_option maxHeartbeats 8000000
set_option linter.unusedVariables false
set_option linter.unusedSimpArgs false
attribute [local go_sem ↓] Go.wp_at_zero Go.wp_at_succ
theorem own : ownKnob Try.prog.godebug = none := by kernel_rfl
theorem both_comm (x y : Bx) : bothBx y x = bothBx x y := by
  unfold bothBx; rw [Int.min_comm, Int.min_comm y.ly, Int.max_comm, Int.max_comm y.hy]
theorem both_self (x : Bx) : bothBx x x = x := by
  cases x; unfold bothBx; simp
theorem both_again (x y : Bx) : bothBx (bothBx x y) x = bothBx x y := by
  unfold bothBx; dsimp only; congr 1 <;> omega
theorem both_in (x y : Bx) (v : V) (h : inBx v x = true ∨ inBx v y = true) : inBx v (bothBx x y) = true := by
  unfold inBx bothBx at *; simp only [Bool.and_eq_true, decide_eq_true_eq] at *; omega
theorem both_sides (x y : Bx) : ((bothBx x y).lx = x.lx ∨ (bothBx x y).lx = y.lx) ∧ ((bothBx x y).hy = x.hy ∨ (bothBx x y).hy = y.hy) := by
  unfold bothBx; dsimp only; omega
theorem ors {a b c : Int} (h : a = b ∨ a = c) : (a == b) = true ∨ ((a == b) = false ∧ (a == c) = true) := by
  by_cases e : a = b
  · exact .inl (beq_iff_eq.2 e)
  · exact .inr ⟨beq_eq_false_iff_ne.2 e, beq_iff_eq.2 (h.resolve_left e)⟩
/-- The walk: the Go text returns true; of what was there nothing turns. -/
theorem walk (x : Bx) (hx : x.ok) (y : Bx) (hy : y.ok) (v1 v2 : Int) (hv1 : I64 v1) (hv2 : I64 v2) (w : World) :
    Calls Try.prog 7 #[.agg #[.int .i64 x.lx, .int .i64 x.ly, .int .i64 x.hx, .int .i64 x.hy], .agg #[.int .i64 y.lx, .int .i64 y.ly, .int .i64 y.hx, .int .i64 y.hy], .agg #[.int .i64 v1, .int .i64 v2]] w fun e w' => e = .returned (.bool true) ∧ Bw w w' := by
  have c0 := Lib.hid alive8_c
  have c1 := both_bx_x x y
  have c2 := both_bx_x y x
  have c3 := both_bx_x x x
  have c4 := both_bx_x (bothBx x y) x
  have c5 := in_bx_x v1 v2 x
  have c6 := in_bx_x v1 v2 y
  have c7 := in_bx_x v1 v2 (bothBx x y)
  rw [both_comm] at c2
  rw [both_self] at c3
  rw [both_again] at c4
  have hi := both_in x y (v1, v2)
  obtain ⟨s1, s2⟩ := both_sides x y
  generalize bothBx x y = q at *
  generalize inBx (v1, v2) x = i1 at *
  generalize inBx (v1, v2) y = i2 at *
  generalize inBx (v1, v2) q = i3 at *
  have key : (i1 = true ∧ i3 = true) ∨ (i1 = false ∧ i2 = true ∧ i3 = true) ∨ (i1 = false ∧ i2 = false) := by
    cases i1 <;> cases i2 <;> simp_all
  have t1 := ors s1
  have t2 := ors s2
  clear hi s1 s2
  have C1 := Lib.hid c1; have C2 := Lib.hid c2; have C3 := Lib.hid c3; have C4 := Lib.hid c4
  clear c1 c2 c3 c4
  rcases key with ⟨rfl, rfl⟩ | ⟨rfl, rfl, rfl⟩ | ⟨rfl, rfl⟩
  all_goals
    rcases t1 with t1 | ⟨t1, t3⟩
  all_goals
    rcases t2 with t2 | ⟨t2, t4⟩
  · skip
    have C5 := Lib.hid c5; have C6 := Lib.hid c6; have C7 := Lib.hid c7
    clear c5 c6 c7
    go_enter Try.func7, Try.ntmps7
    go_wp2_with fail
    (with_reducible refine (c0.out _).mono ?_); rintro en w1 ⟨rfl, hb⟩
    have G1 : Below w.heap.size w w1 := Below.trans (by (repeat (with_reducible refine M.Below.drewN ?_ _)); go_grown) (hb.mono (by go_size))
    have V1_x : M.Var w1 (w.heap.size) #[.int .i64 x.lx, .int .i64 x.ly, .int .i64 x.hx, .int .i64 x.hy] := M.Var.mono (by (repeat (first | (with_reducible assumption) | exact M.var_alloc' _ _ _ (by first | rfl | simp [go_sem]) | (with_reducible refine M.Var.alloc ?_ _) | (with_reducible refine M.Var.drewN ?_ _) | (with_reducible refine M.Var.drew ?_) | (with_reducible refine M.Var.far ?_ _ _ (by first | omega | (simp [go_sem] <;> omega)))))) hb
    have V1_y : M.Var w1 (w.heap.size + 1) #[.int .i64 y.lx, .int .i64 y.ly, .int .i64 y.hx, .int .i64 y.hy] := M.Var.mono (by (repeat (first | (with_reducible assumption) | exact M.var_alloc' _ _ _ (by first | rfl | simp [go_sem]) | (with_reducible refine M.Var.alloc ?_ _) | (with_reducible refine M.Var.drewN ?_ _) | (with_reducible refine M.Var.drew ?_) | (with_reducible refine M.Var.far ?_ _ _ (by first | omega | (simp [go_sem] <;> omega)))))) hb
    have V1_v : M.Var w1 (w.heap.size + 1 + 1) #[.int .i64 v1, .int .i64 v2] := M.Var.mono (by (repeat (first | (with_reducible assumption) | exact M.var_alloc' _ _ _ (by first | rfl | simp [go_sem]) | (with_reducible refine M.Var.alloc ?_ _) | (with_reducible refine M.Var.drewN ?_ _) | (with_reducible refine M.Var.drew ?_) | (with_reducible refine M.Var.far ?_ _ _ (by first | omega | (simp [go_sem] <;> omega)))))) hb
    have q1_x_0 := V1_x.c 0 _ rfl
    have q1_x_1 := V1_x.c 1 _ rfl
    have q1_x_2 := V1_x.c 2 _ rfl
    have q1_x_3 := V1_x.c 3 _ rfl
    have f1_x := V1_x.2.2; have L1_x := V1_x.lt; have N1_x := Nat.ne_of_gt L1_x; have M1_x := Nat.ne_of_lt L1_x
    have HV1_x := Lib.hid V1_x
    have q1_y_0 := V1_y.c 0 _ rfl
    have q1_y_1 := V1_y.c 1 _ rfl
    have q1_y_2 := V1_y.c 2 _ rfl
    have q1_y_3 := V1_y.c 3 _ rfl
    have f1_y := V1_y.2.2; have L1_y := V1_y.lt; have N1_y := Nat.ne_of_gt L1_y; have M1_y := Nat.ne_of_lt L1_y
    have HV1_y := Lib.hid V1_y
    have q1_v_0 := V1_v.c 0 _ rfl
    have q1_v_1 := V1_v.c 1 _ rfl
    have f1_v := V1_v.2.2; have L1_v := V1_v.lt; have N1_v := Nat.ne_of_gt L1_v; have M1_v := Nat.ne_of_lt L1_v
    have HV1_v := Lib.hid V1_v
    have S1 := G1.size; clear hb
    go_wp2_with fail
    (with_reducible refine (C1.out _).mono ?_); rintro en w2 ⟨rfl, hb⟩
    have G2 : Below w.heap.size w w2 := Below.trans (by (repeat (with_reducible refine M.Below.drewN ?_ _)); go_grown) (hb.mono (by go_size))
    have V2_x : M.Var w2 (w.heap.size) #[.int .i64 x.lx, .int .i64 x.ly, .int .i64 x.hx, .int .i64 x.hy] := M.Var.mono (by (repeat (first | (with_reducible assumption) | exact M.var_alloc' _ _ _ (by first | rfl | simp [go_sem]) | (with_reducible refine M.Var.alloc ?_ _) | (with_reducible refine M.Var.drewN ?_ _) | (with_reducible refine M.Var.drew ?_) | (with_reducible refine M.Var.far ?_ _ _ (by first | omega | (simp [go_sem] <;> omega)))))) hb
    have V2_y : M.Var w2 (w.heap.size + 1) #[.int .i64 y.lx, .int .i64 y.ly, .int .i64 y.hx, .int .i64 y.hy] := M.Var.mono (by (repeat (first | (with_reducible assumption) | exact M.var_alloc' _ _ _ (by first | rfl | simp [go_sem]) | (with_reducible refine M.Var.alloc ?_ _) | (with_reducible refine M.Var.drewN ?_ _) | (with_reducible refine M.Var.drew ?_) | (with_reducible refine M.Var.far ?_ _ _ (by first | omega | (simp [go_sem] <;> omega)))))) hb
    have V2_v : M.Var w2 (w.heap.size + 1 + 1) #[.int .i64 v1, .int .i64 v2] := M.Var.mono (by (repeat (first | (with_reducible assumption) | exact M.var_alloc' _ _ _ (by first | rfl | simp [go_sem]) | (with_reducible refine M.Var.alloc ?_ _) | (with_reducible refine M.Var.drewN ?_ _) | (with_reducible refine M.Var.drew ?_) | (with_reducible refine M.Var.far ?_ _ _ (by first | omega | (simp [go_sem] <;> omega)))))) hb
    have q2_x_0 := V2_x.c 0 _ rfl
    have q2_x_1 := V2_x.c 1 _ rfl
    have q2_x_2 := V2_x.c 2 _ rfl
    have q2_x_3 := V2_x.c 3 _ rfl
    have f2_x := V2_x.2.2; have L2_x := V2_x.lt; have N2_x := Nat.ne_of_gt L2_x; have M2_x := Nat.ne_of_lt L2_x
    have HV2_x := Lib.hid V2_x
    have q2_y_0 := V2_y.c 0 _ rfl
    have q2_y_1 := V2_y.c 1 _ rfl
    have q2_y_2 := V2_y.c 2 _ rfl
    have q2_y_3 := V2_y.c 3 _ rfl
    have f2_y := V2_y.2.2; have L2_y := V2_y.lt; have N2_y := Nat.ne_of_gt L2_y; have M2_y := Nat.ne_of_lt L2_y
    have HV2_y := Lib.hid V2_y
    have q2_v_0 := V2_v.c 0 _ rfl
    have q2_v_1 := V2_v.c 1 _ rfl
    have f2_v := V2_v.2.2; have L2_v := V2_v.lt; have N2_v := Nat.ne_of_gt L2_v; have M2_v := Nat.ne_of_lt L2_v
    have HV2_v := Lib.hid V2_v
    have S2 := G2.size; clear hb
    go_wp2_with fail
    refine M.wp_region_later (fun w' => M.Var w' (w.heap.size) #[.int .i64 x.lx, .int .i64 x.ly, .int .i64 x.hx, .int .i64 x.hy] ∧ M.Var w' (w.heap.size + 1) #[.int .i64 y.lx, .int .i64 y.ly, .int .i64 y.hx, .int .i64 y.hy] ∧ M.Var w' (w.heap.size + 1 + 1) #[.int .i64 v1, .int .i64 v2] ∧ M.Var w' (w2.heap.size) #[.int .i64 q.lx, .int .i64 q.ly, .int .i64 q.hx, .int .i64 q.hy] ∧ True) (by kernel_rfl) (by kernel_rfl) (fun w' hb => ⟨M.Var.mono (by (repeat (first | (with_reducible assumption) | exact M.var_alloc' _ _ _ (by first | rfl | simp [go_sem]) | (with_reducible refine M.Var.alloc ?_ _) | (with_reducible refine M.Var.drewN ?_ _) | (with_reducible refine M.Var.drew ?_) | (with_reducible refine M.Var.far ?_ _ _ (by first | omega | (simp [go_sem] <;> omega))))) : M.Var _ (w.heap.size) #[.int .i64 x.lx, .int .i64 x.ly, .int .i64 x.hx, .int .i64 x.hy]) hb, M.Var.mono (by (repeat (first | (with_reducible assumption) | exact M.var_alloc' _ _ _ (by first | rfl | simp [go_sem]) | (with_reducible refine M.Var.alloc ?_ _) | (with_reducible refine M.Var.drewN ?_ _) | (with_reducible refine M.Var.drew ?_) | (with_reducible refine M.Var.far ?_ _ _ (by first | omega | (simp [go_sem] <;> omega))))) : M.Var _ (w.heap.size + 1) #[.int .i64 y.lx, .int .i64 y.ly, .int .i64 y.hx, .int .i64 y.hy]) hb, M.Var.mono (by (repeat (first | (with_reducible assumption) | exact M.var_alloc' _ _ _ (by first | rfl | simp [go_sem]) | (with_reducible refine M.Var.alloc ?_ _) | (with_reducible refine M.Var.drewN ?_ _) | (with_reducible refine M.Var.drew ?_) | (with_reducible refine M.Var.far ?_ _ _ (by first | omega | (simp [go_sem] <;> omega))))) : M.Var _ (w.heap.size + 1 + 1) #[.int .i64 v1, .int .i64 v2]) hb, M.Var.mono (by (repeat (first | (with_reducible assumption) | exact M.var_alloc' _ _ _ (by first | rfl | simp [go_sem]) | (with_reducible refine M.Var.alloc ?_ _) | (with_reducible refine M.Var.drewN ?_ _) | (with_reducible refine M.Var.drew ?_) | (with_reducible refine M.Var.far ?_ _ _ (by first | omega | (simp [go_sem] <;> omega))))) : M.Var _ (w2.heap.size) #[.int .i64 q.lx, .int .i64 q.ly, .int .i64 q.hx, .int .i64 q.hy]) hb, trivial⟩) ?_
    intro hS
    have z3_x_0 := fun p => (hS p).1.c 0 _ rfl
    have z3_x_1 := fun p => (hS p).1.c 1 _ rfl
    have z3_x_2 := fun p => (hS p).1.c 2 _ rfl
    have z3_x_3 := fun p => (hS p).1.c 3 _ rfl
    have z3_y_0 := fun p => (hS p).2.1.c 0 _ rfl
    have z3_y_1 := fun p => (hS p).2.1.c 1 _ rfl
    have z3_y_2 := fun p => (hS p).2.1.c 2 _ rfl
    have z3_y_3 := fun p => (hS p).2.1.c 3 _ rfl
    have z3_v_0 := fun p => (hS p).2.2.1.c 0 _ rfl
    have z3_v_1 := fun p => (hS p).2.2.1.c 1 _ rfl
    have z3_b_0 := fun p => (hS p).2.2.2.1.c 0 _ rfl
    have z3_b_1 := fun p => (hS p).2.2.2.1.c 1 _ rfl
    have z3_b_2 := fun p => (hS p).2.2.2.1.c 2 _ rfl
    have z3_b_3 := fun p => (hS p).2.2.2.1.c 3 _ rfl
    have HS := Lib.hid hS; clear hS
    repeat (go_big_quiet_step ((first
          | (go_at_call 53; with_reducible exact M.later_of (C2.out _))
          | (go_at_call 53; with_reducible exact M.later_of (C3.out _))
          | (go_at_call 43; with_reducible exact M.later_of (C5.out _))
          | (go_at_call 43; with_reducible exact M.later_of (C6.out _))
          | (go_at_call 43; with_reducible exact M.later_of (C7.out _))
      )))
    refine wpQuiet_nil ?_
    intro w3 hw'
    obtain ⟨pL, hL⟩ := hw'
    have hb := pL.h; rw [← hL] at hb; clear hL pL
    have G3 : Below w.heap.size w w3 := Below.trans (by (repeat (with_reducible refine M.Below.drewN ?_ _)); go_grown) (hb.mono (by go_size))
    have V3_x : M.Var w3 (w.heap.size) #[.int .i64 x.lx, .int .i64 x.ly, .int .i64 x.hx, .int .i64 x.hy] := M.Var.mono (by (repeat (first | (with_reducible assumption) | exact M.var_alloc' _ _ _ (by first | rfl | simp [go_sem]) | (with_reducible refine M.Var.alloc ?_ _) | (with_reducible refine M.Var.drewN ?_ _) | (with_reducible refine M.Var.drew ?_) | (with_reducible refine M.Var.far ?_ _ _ (by first | omega | (simp [go_sem] <;> omega)))))) hb
    have V3_y : M.Var w3 (w.heap.size + 1) #[.int .i64 y.lx, .int .i64 y.ly, .int .i64 y.hx, .int .i64 y.hy] := M.Var.mono (by (repeat (first | (with_reducible assumption) | exact M.var_alloc' _ _ _ (by first | rfl | simp [go_sem]) | (with_reducible refine M.Var.alloc ?_ _) | (with_reducible refine M.Var.drewN ?_ _) | (with_reducible refine M.Var.drew ?_) | (with_reducible refine M.Var.far ?_ _ _ (by first | omega | (simp [go_sem] <;> omega)))))) hb
    have V3_v : M.Var w3 (w.heap.size + 1 + 1) #[.int .i64 v1, .int .i64 v2] := M.Var.mono (by (repeat (first | (with_reducible assumption) | exact M.var_alloc' _ _ _ (by first | rfl | simp [go_sem]) | (with_reducible refine M.Var.alloc ?_ _) | (with_reducible refine M.Var.drewN ?_ _) | (with_reducible refine M.Var.drew ?_) | (with_reducible refine M.Var.far ?_ _ _ (by first | omega | (simp [go_sem] <;> omega)))))) hb
    have V3_b : M.Var w3 (w2.heap.size) #[.int .i64 q.lx, .int .i64 q.ly, .int .i64 q.hx, .int .i64 q.hy] := M.Var.mono (by (repeat (first | (with_reducible assumption) | exact M.var_alloc' _ _ _ (by first | rfl | simp [go_sem]) | (with_reducible refine M.Var.alloc ?_ _) | (with_reducible refine M.Var.drewN ?_ _) | (with_reducible refine M.Var.drew ?_) | (with_reducible refine M.Var.far ?_ _ _ (by first | omega | (simp [go_sem] <;> omega)))))) hb
    have q3_x_0 := V3_x.c 0 _ rfl
    have q3_x_1 := V3_x.c 1 _ rfl
    have q3_x_2 := V3_x.c 2 _ rfl
    have q3_x_3 := V3_x.c 3 _ rfl
    have f3_x := V3_x.2.2; have L3_x := V3_x.lt; have N3_x := Nat.ne_of_gt L3_x; have M3_x := Nat.ne_of_lt L3_x
    have HV3_x := Lib.hid V3_x
    have q3_y_0 := V3_y.c 0 _ rfl
    have q3_y_1 := V3_y.c 1 _ rfl
    have q3_y_2 := V3_y.c 2 _ rfl
    have q3_y_3 := V3_y.c 3 _ rfl
    have f3_y := V3_y.2.2; have L3_y := V3_y.lt; have N3_y := Nat.ne_of_gt L3_y; have M3_y := Nat.ne_of_lt L3_y
    have HV3_y := Lib.hid V3_y
    have q3_v_0 := V3_v.c 0 _ rfl
    have q3_v_1 := V3_v.c 1 _ rfl
    have f3_v := V3_v.2.2; have L3_v := V3_v.lt; have N3_v := Nat.ne_of_gt L3_v; have M3_v := Nat.ne_of_lt L3_v
    have HV3_v := Lib.hid V3_v
    have q3_b_0 := V3_b.c 0 _ rfl
    have q3_b_1 := V3_b.c 1 _ rfl
    have q3_b_2 := V3_b.c 2 _ rfl
    have q3_b_3 := V3_b.c 3 _ rfl
    have f3_b := V3_b.2.2; have L3_b := V3_b.lt; have N3_b := Nat.ne_of_gt L3_b; have M3_b := Nat.ne_of_lt L3_b
    have HV3_b := Lib.hid V3_b
    have S3 := G3.size; clear hb
    clear z3_x_0 z3_x_1 z3_x_2 z3_x_3 z3_y_0 z3_y_1 z3_y_2 z3_y_3 z3_v_0 z3_v_1 z3_b_0 z3_b_1 z3_b_2 z3_b_3 HS
    go_wp2_with fail
    refine M.wp_region_later (fun w' => M.Var w' (w.heap.size) #[.int .i64 x.lx, .int .i64 x.ly, .int .i64 x.hx, .int .i64 x.hy] ∧ M.Var w' (w.heap.size + 1) #[.int .i64 y.lx, .int .i64 y.ly, .int .i64 y.hx, .int .i64 y.hy] ∧ M.Var w' (w2.heap.size) #[.int .i64 q.lx, .int .i64 q.ly, .int .i64 q.hx, .int .i64 q.hy] ∧ True) (by kernel_rfl) (by kernel_rfl) (fun w' hb => ⟨M.Var.mono (by (repeat (first | (with_reducible assumption) | exact M.var_alloc' _ _ _ (by first | rfl | simp [go_sem]) | (with_reducible refine M.Var.alloc ?_ _) | (with_reducible refine M.Var.drewN ?_ _) | (with_reducible refine M.Var.drew ?_) | (with_reducible refine M.Var.far ?_ _ _ (by first | omega | (simp [go_sem] <;> omega))))) : M.Var _ (w.heap.size) #[.int .i64 x.lx, .int .i64 x.ly, .int .i64 x.hx, .int .i64 x.hy]) hb, M.Var.mono (by (repeat (first | (with_reducible assumption) | exact M.var_alloc' _ _ _ (by first | rfl | simp [go_sem]) | (with_reducible refine M.Var.alloc ?_ _) | (with_reducible refine M.Var.drewN ?_ _) | (with_reducible refine M.Var.drew ?_) | (with_reducible refine M.Var.far ?_ _ _ (by first | omega | (simp [go_sem] <;> omega))))) : M.Var _ (w.heap.size + 1) #[.int .i64 y.lx, .int .i64 y.ly, .int .i64 y.hx, .int .i64 y.hy]) hb, M.Var.mono (by (repeat (first | (with_reducible assumption) | exact M.var_alloc' _ _ _ (by first | rfl | simp [go_sem]) | (with_reducible refine M.Var.alloc ?_ _) | (with_reducible refine M.Var.drewN ?_ _) | (with_reducible refine M.Var.drew ?_) | (with_reducible refine M.Var.far ?_ _ _ (by first | omega | (simp [go_sem] <;> omega))))) : M.Var _ (w2.heap.size) #[.int .i64 q.lx, .int .i64 q.ly, .int .i64 q.hx, .int .i64 q.hy]) hb, trivial⟩) ?_
    intro hS
    have z4_x_0 := fun p => (hS p).1.c 0 _ rfl
    have z4_x_1 := fun p => (hS p).1.c 1 _ rfl
    have z4_x_2 := fun p => (hS p).1.c 2 _ rfl
    have z4_x_3 := fun p => (hS p).1.c 3 _ rfl
    have z4_y_0 := fun p => (hS p).2.1.c 0 _ rfl
    have z4_y_1 := fun p => (hS p).2.1.c 1 _ rfl
    have z4_y_2 := fun p => (hS p).2.1.c 2 _ rfl
    have z4_y_3 := fun p => (hS p).2.1.c 3 _ rfl
    have z4_b_0 := fun p => (hS p).2.2.1.c 0 _ rfl
    have z4_b_1 := fun p => (hS p).2.2.1.c 1 _ rfl
    have z4_b_2 := fun p => (hS p).2.2.1.c 2 _ rfl
    have z4_b_3 := fun p => (hS p).2.2.1.c 3 _ rfl
    have HS := Lib.hid hS; clear hS
    repeat (go_big_quiet_step ((first
          | (go_at_call 53; with_reducible exact M.later_of (C4.out _))
      )))
    refine wpQuiet_nil ?_
    intro w4 hw'
    obtain ⟨pL, hL⟩ := hw'
    have hb := pL.h; rw [← hL] at hb; clear hL pL
    have G4 : Below w.heap.size w w4 := Below.trans (by (repeat (with_reducible refine M.Below.drewN ?_ _)); go_grown) (hb.mono (by go_size))
    have V4_x : M.Var w4 (w.heap.size) #[.int .i64 x.lx, .int .i64 x.ly, .int .i64 x.hx, .int .i64 x.hy] := M.Var.mono (by (repeat (first | (with_reducible assumption) | exact M.var_alloc' _ _ _ (by first | rfl | simp [go_sem]) | (with_reducible refine M.Var.alloc ?_ _) | (with_reducible refine M.Var.drewN ?_ _) | (with_reducible refine M.Var.drew ?_) | (with_reducible refine M.Var.far ?_ _ _ (by first | omega | (simp [go_sem] <;> omega)))))) hb
    have V4_y : M.Var w4 (w.heap.size + 1) #[.int .i64 y.lx, .int .i64 y.ly, .int .i64 y.hx, .int .i64 y.hy] := M.Var.mono (by (repeat (first | (with_reducible assumption) | exact M.var_alloc' _ _ _ (by first | rfl | simp [go_sem]) | (with_reducible refine M.Var.alloc ?_ _) | (with_reducible refine M.Var.drewN ?_ _) | (with_reducible refine M.Var.drew ?_) | (with_reducible refine M.Var.far ?_ _ _ (by first | omega | (simp [go_sem] <;> omega)))))) hb
    have V4_v : M.Var w4 (w.heap.size + 1 + 1) #[.int .i64 v1, .int .i64 v2] := M.Var.mono (by (repeat (first | (with_reducible assumption) | exact M.var_alloc' _ _ _ (by first | rfl | simp [go_sem]) | (with_reducible refine M.Var.alloc ?_ _) | (with_reducible refine M.Var.drewN ?_ _) | (with_reducible refine M.Var.drew ?_) | (with_reducible refine M.Var.far ?_ _ _ (by first | omega | (simp [go_sem] <;> omega)))))) hb
    have V4_b : M.Var w4 (w2.heap.size) #[.int .i64 q.lx, .int .i64 q.ly, .int .i64 q.hx, .int .i64 q.hy] := M.Var.mono (by (repeat (first | (with_reducible assumption) | exact M.var_alloc' _ _ _ (by first | rfl | simp [go_sem]) | (with_reducible refine M.Var.alloc ?_ _) | (with_reducible refine M.Var.drewN ?_ _) | (with_reducible refine M.Var.drew ?_) | (with_reducible refine M.Var.far ?_ _ _ (by first | omega | (simp [go_sem] <;> omega)))))) hb
    have q4_x_0 := V4_x.c 0 _ rfl
    have q4_x_1 := V4_x.c 1 _ rfl
    have q4_x_2 := V4_x.c 2 _ rfl
    have q4_x_3 := V4_x.c 3 _ rfl
    have f4_x := V4_x.2.2; have L4_x := V4_x.lt; have N4_x := Nat.ne_of_gt L4_x; have M4_x := Nat.ne_of_lt L4_x
    have HV4_x := Lib.hid V4_x
    have q4_y_0 := V4_y.c 0 _ rfl
    have q4_y_1 := V4_y.c 1 _ rfl
    have q4_y_2 := V4_y.c 2 _ rfl
    have q4_y_3 := V4_y.c 3 _ rfl
    have f4_y := V4_y.2.2; have L4_y := V4_y.lt; have N4_y := Nat.ne_of_gt L4_y; have M4_y := Nat.ne_of_lt L4_y
    have HV4_y := Lib.hid V4_y
    have q4_v_0 := V4_v.c 0 _ rfl
    have q4_v_1 := V4_v.c 1 _ rfl
    have f4_v := V4_v.2.2; have L4_v := V4_v.lt; have N4_v := Nat.ne_of_gt L4_v; have M4_v := Nat.ne_of_lt L4_v
    have HV4_v := Lib.hid V4_v
    have q4_b_0 := V4_b.c 0 _ rfl
    have q4_b_1 := V4_b.c 1 _ rfl
    have q4_b_2 := V4_b.c 2 _ rfl
    have q4_b_3 := V4_b.c 3 _ rfl
    have f4_b := V4_b.2.2; have L4_b := V4_b.lt; have N4_b := Nat.ne_of_gt L4_b; have M4_b := Nat.ne_of_lt L4_b
    have HV4_b := Lib.hid V4_b
    have S4 := G4.size; clear hb
    clear z4_x_0 z4_x_1 z4_x_2 z4_x_3 z4_y_0 z4_y_1 z4_y_2 z4_y_3 z4_b_0 z4_b_1 z4_b_2 z4_b_3 HS
    go_wp2_with fail
    go_ret
    exact ⟨rfl, by (repeat (with_reducible refine M.Below.drewN ?_ _)); go_grown⟩
  · skip
    have C5 := Lib.hid c5; have C6 := Lib.hid c6; have C7 := Lib.hid c7
    clear c5 c6 c7
    go_enter Try.func7, Try.ntmps7
    go_wp2_with fail
    (with_reducible refine (c0.out _).mono ?_); rintro en w1 ⟨rfl, hb⟩
    have G1 : Below w.heap.size w w1 := Below.trans (by (repeat (with_reducible refine M.Below.drewN ?_ _)); go_grown) (hb.mono (by go_size))
    have V1_x : M.Var w1 (w.heap.size) #[.int .i64 x.lx, .int .i64 x.ly, .int .i64 x.hx, .int .i64 x.hy] := M.Var.mono (by (repeat (first | (with_reducible assumption) | exact M.var_alloc' _ _ _ (by first | rfl | simp [go_sem]) | (with_reducible refine M.Var.alloc ?_ _) | (with_reducible refine M.Var.drewN ?_ _) | (with_reducible refine M.Var.drew ?_) | (with_reducible refine M.Var.far ?_ _ _ (by first | omega | (simp [go_sem] <;> omega)))))) hb
    have V1_y : M.Var w1 (w.heap.size + 1) #[.int .i64 y.lx, .int .i64 y.ly, .int .i64 y.hx, .int .i64 y.hy] := M.Var.mono (by (repeat (first | (with_reducible assumption) | exact M.var_alloc' _ _ _ (by first | rfl | simp [go_sem]) | (with_reducible refine M.Var.alloc ?_ _) | (with_reducible refine M.Var.drewN ?_ _) | (with_reducible refine M.Var.drew ?_) | (with_reducible refine M.Var.far ?_ _ _ (by first | omega | (simp [go_sem] <;> omega)))))) hb
    have V1_v : M.Var w1 (w.heap.size + 1 + 1) #[.int .i64 v1, .int .i64 v2] := M.Var.mono (by (repeat (first | (with_reducible assumption) | exact M.var_alloc' _ _ _ (by first | rfl | simp [go_sem]) | (with_reducible refine M.Var.alloc ?_ _) | (with_reducible refine M.Var.drewN ?_ _) | (with_reducible refine M.Var.drew ?_) | (with_reducible refine M.Var.far ?_ _ _ (by first | omega | (simp [go_sem] <;> omega)))))) hb
    have q1_x_0 := V1_x.c 0 _ rfl
    have q1_x_1 := V1_x.c 1 _ rfl
    have q1_x_2 := V1_x.c 2 _ rfl
    have q1_x_3 := V1_x.c 3 _ rfl
    have f1_x := V1_x.2.2; have L1_x := V1_x.lt; have N1_x := Nat.ne_of_gt L1_x; have M1_x := Nat.ne_of_lt L1_x
    have HV1_x := Lib.hid V1_x
    have q1_y_0 := V1_y.c 0 _ rfl
    have q1_y_1 := V1_y.c 1 _ rfl
    have q1_y_2 := V1_y.c 2 _ rfl
    have q1_y_3 := V1_y.c 3 _ rfl
    have f1_y := V1_y.2.2; have L1_y := V1_y.lt; have N1_y := Nat.ne_of_gt L1_y; have M1_y := Nat.ne_of_lt L1_y
    have HV1_y := Lib.hid V1_y
    have q1_v_0 := V1_v.c 0 _ rfl
    have q1_v_1 := V1_v.c 1 _ rfl
    have f1_v := V1_v.2.2; have L1_v := V1_v.lt; have N1_v := Nat.ne_of_gt L1_v; have M1_v := Nat.ne_of_lt L1_v
    have HV1_v := Lib.hid V1_v
    have S1 := G1.size; clear hb
    go_wp2_with fail
    (with_reducible refine (C1.out _).mono ?_); rintro en w2 ⟨rfl, hb⟩
    have G2 : Below w.heap.size w w2 := Below.trans (by (repeat (with_reducible refine M.Below.drewN ?_ _)); go_grown) (hb.mono (by go_size))
    have V2_x : M.Var w2 (w.heap.size) #[.int .i64 x.lx, .int .i64 x.ly, .int .i64 x.hx, .int .i64 x.hy] := M.Var.mono (by (repeat (first | (with_reducible assumption) | exact M.var_alloc' _ _ _ (by first | rfl | simp [go_sem]) | (with_reducible refine M.Var.alloc ?_ _) | (with_reducible refine M.Var.drewN ?_ _) | (with_reducible refine M.Var.drew ?_) | (with_reducible refine M.Var.far ?_ _ _ (by first | omega | (simp [go_sem] <;> omega)))))) hb
    have V2_y : M.Var w2 (w.heap.size + 1) #[.int .i64 y.lx, .int .i64 y.ly, .int .i64 y.hx, .int .i64 y.hy] := M.Var.mono (by (repeat (first | (with_reducible assumption) | exact M.var_alloc' _ _ _ (by first | rfl | simp [go_sem]) | (with_reducible refine M.Var.alloc ?_ _) | (with_reducible refine M.Var.drewN ?_ _) | (with_reducible refine M.Var.drew ?_) | (with_reducible refine M.Var.far ?_ _ _ (by first | omega | (simp [go_sem] <;> omega)))))) hb
    have V2_v : M.Var w2 (w.heap.size + 1 + 1) #[.int .i64 v1, .int .i64 v2] := M.Var.mono (by (repeat (first | (with_reducible assumption) | exact M.var_alloc' _ _ _ (by first | rfl | simp [go_sem]) | (with_reducible refine M.Var.alloc ?_ _) | (with_reducible refine M.Var.drewN ?_ _) | (with_reducible refine M.Var.drew ?_) | (with_reducible refine M.Var.far ?_ _ _ (by first | omega | (simp [go_sem] <;> omega)))))) hb
    have q2_x_0 := V2_x.c 0 _ rfl
    have q2_x_1 := V2_x.c 1 _ rfl
    have q2_x_2 := V2_x.c 2 _ rfl
    have q2_x_3 := V2_x.c 3 _ rfl
    have f2_x := V2_x.2.2; have L2_x := V2_x.lt; have N2_x := Nat.ne_of_gt L2_x; have M2_x := Nat.ne_of_lt L2_x
    have HV2_x := Lib.hid V2_x
    have q2_y_0 := V2_y.c 0 _ rfl
    have q2_y_1 := V2_y.c 1 _ rfl
    have q2_y_2 := V2_y.c 2 _ rfl
    have q2_y_3 := V2_y.c 3 _ rfl
    have f2_y := V2_y.2.2; have L2_y := V2_y.lt; have N2_y := Nat.ne_of_gt L2_y; have M2_y := Nat.ne_of_lt L2_y
    have HV2_y := Lib.hid V2_y
    have q2_v_0 := V2_v.c 0 _ rfl
    have q2_v_1 := V2_v.c 1 _ rfl
    have f2_v := V2_v.2.2; have L2_v := V2_v.lt; have N2_v := Nat.ne_of_gt L2_v; have M2_v := Nat.ne_of_lt L2_v
    have HV2_v := Lib.hid V2_v
    have S2 := G2.size; clear hb
    go_wp2_with fail
    refine M.wp_region_later (fun w' => M.Var w' (w.heap.size) #[.int .i64 x.lx, .int .i64 x.ly, .int .i64 x.hx, .int .i64 x.hy] ∧ M.Var w' (w.heap.size + 1) #[.int .i64 y.lx, .int .i64 y.ly, .int .i64 y.hx, .int .i64 y.hy] ∧ M.Var w' (w.heap.size + 1 + 1) #[.int .i64 v1, .int .i64 v2] ∧ M.Var w' (w2.heap.size) #[.int .i64 q.lx, .int .i64 q.ly, .int .i64 q.hx, .int .i64 q.hy] ∧ True) (by kernel_rfl) (by kernel_rfl) (fun w' hb => ⟨M.Var.mono (by (repeat (first | (with_reducible assumption) | exact M.var_alloc' _ _ _ (by first | rfl | simp [go_sem]) | (with_reducible refine M.Var.alloc ?_ _) | (with_reducible refine M.Var.drewN ?_ _) | (with_reducible refine M.Var.drew ?_) | (with_reducible refine M.Var.far ?_ _ _ (by first | omega | (simp [go_sem] <;> omega))))) : M.Var _ (w.heap.size) #[.int .i64 x.lx, .int .i64 x.ly, .int .i64 x.hx, .int .i64 x.hy]) hb, M.Var.mono (by (repeat (first | (with_reducible assumption) | exact M.var_alloc' _ _ _ (by first | rfl | simp [go_sem]) | (with_reducible refine M.Var.alloc ?_ _) | (with_reducible refine M.Var.drewN ?_ _) | (with_reducible refine M.Var.drew ?_) | (with_reducible refine M.Var.far ?_ _ _ (by first | omega | (simp [go_sem] <;> omega))))) : M.Var _ (w.heap.size + 1) #[.int .i64 y.lx, .int .i64 y.ly, .int .i64 y.hx, .int .i64 y.hy]) hb, M.Var.mono (by (repeat (first | (with_reducible assumption) | exact M.var_alloc' _ _ _ (by first | rfl | simp [go_sem]) | (with_reducible refine M.Var.alloc ?_ _) | (with_reducible refine M.Var.drewN ?_ _) | (with_reducible refine M.Var.drew ?_) | (with_reducible refine M.Var.far ?_ _ _ (by first | omega | (simp [go_sem] <;> omega))))) : M.Var _ (w.heap.size + 1 + 1) #[.int .i64 v1, .int .i64 v2]) hb, M.Var.mono (by (repeat (first | (with_reducible assumption) | exact M.var_alloc' _ _ _ (by first | rfl | simp [go_sem]) | (with_reducible refine M.Var.alloc ?_ _) | (with_reducible refine M.Var.drewN ?_ _) | (with_reducible refine M.Var.drew ?_) | (with_reducible refine M.Var.far ?_ _ _ (by first | omega | (simp [go_sem] <;> omega))))) : M.Var _ (w2.heap.size) #[.int .i64 q.lx, .int .i64 q.ly, .int .i64 q.hx, .int .i64 q.hy]) hb, trivial⟩) ?_
    intro hS
    have z3_x_0 := fun p => (hS p).1.c 0 _ rfl
    have z3_x_1 := fun p => (hS p).1.c 1 _ rfl
    have z3_x_2 := fun p => (hS p).1.c 2 _ rfl
    have z3_x_3 := fun p => (hS p).1.c 3 _ rfl
    have z3_y_0 := fun p => (hS p).2.1.c 0 _ rfl
    have z3_y_1 := fun p => (hS p).2.1.c 1 _ rfl
    have z3_y_2 := fun p => (hS p).2.1.c 2 _ rfl
    have z3_y_3 := fun p => (hS p).2.1.c 3 _ rfl
    have z3_v_0 := fun p => (hS p).2.2.1.c 0 _ rfl
    have z3_v_1 := fun p => (hS p).2.2.1.c 1 _ rfl
    have z3_b_0 := fun p => (hS p).2.2.2.1.c 0 _ rfl
    have z3_b_1 := fun p => (hS p).2.2.2.1.c 1 _ rfl
    have z3_b_2 := fun p => (hS p).2.2.2.1.c 2 _ rfl
    have z3_b_3 := fun p => (hS p).2.2.2.1.c 3 _ rfl
    have HS := Lib.hid hS; clear hS
    repeat (go_big_quiet_step ((first
          | (go_at_call 53; with_reducible exact M.later_of (C2.out _))
          | (go_at_call 53; with_reducible exact M.later_of (C3.out _))
          | (go_at_call 43; with_reducible exact M.later_of (C5.out _))
          | (go_at_call 43; with_reducible exact M.later_of (C6.out _))
          | (go_at_call 43; with_reducible exact M.later_of (C7.out _))
      )))
    refine wpQuiet_nil ?_
    intro w3 hw'
    obtain ⟨pL, hL⟩ := hw'
    have hb := pL.h; rw [← hL] at hb; clear hL pL
    have G3 : Below w.heap.size w w3 := Below.trans (by (repeat (with_reducible refine M.Below.drewN ?_ _)); go_grown) (hb.mono (by go_size))
    have V3_x : M.Var w3 (w.heap.size) #[.int .i64 x.lx, .int .i64 x.ly, .int .i64 x.hx, .int .i64 x.hy] := M.Var.mono (by (repeat (first | (with_reducible assumption) | exact M.var_alloc' _ _ _ (by first | rfl | simp [go_sem]) | (with_reducible refine M.Var.alloc ?_ _) | (with_reducible refine M.Var.drewN ?_ _) | (with_reducible refine M.Var.drew ?_) | (with_reducible refine M.Var.far ?_ _ _ (by first | omega | (simp [go_sem] <;> omega)))))) hb
    have V3_y : M.Var w3 (w.heap.size + 1) #[.int .i64 y.lx, .int .i64 y.ly, .int .i64 y.hx, .int .i64 y.hy] := M.Var.mono (by (repeat (first | (with_reducible assumption) | exact M.var_alloc' _ _ _ (by first | rfl | simp [go_sem]) | (with_reducible refine M.Var.alloc ?_ _) | (with_reducible refine M.Var.drewN ?_ _) | (with_reducible refine M.Var.drew ?_) | (with_reducible refine M.Var.far ?_ _ _ (by first | omega | (simp [go_sem] <;> omega)))))) hb
    have V3_v : M.Var w3 (w.heap.size + 1 + 1) #[.int .i64 v1, .int .i64 v2] := M.Var.mono (by (repeat (first | (with_reducible assumption) | exact M.var_alloc' _ _ _ (by first | rfl | simp [go_sem]) | (with_reducible refine M.Var.alloc ?_ _) | (with_reducible refine M.Var.drewN ?_ _) | (with_reducible refine M.Var.drew ?_) | (with_reducible refine M.Var.far ?_ _ _ (by first | omega | (simp [go_sem] <;> omega)))))) hb
    have V3_b : M.Var w3 (w2.heap.size) #[.int .i64 q.lx, .int .i64 q.ly, .int .i64 q.hx, .int .i64 q.hy] := M.Var.mono (by (repeat (first | (with_reducible assumption) | exact M.var_alloc' _ _ _ (by first | rfl | simp [go_sem]) | (with_reducible refine M.Var.alloc ?_ _) | (with_reducible refine M.Var.drewN ?_ _) | (with_reducible refine M.Var.drew ?_) | (with_reducible refine M.Var.far ?_ _ _ (by first | omega | (simp [go_sem] <;> omega)))))) hb
    have q3_x_0 := V3_x.c 0 _ rfl
    have q3_x_1 := V3_x.c 1 _ rfl
    have q3_x_2 := V3_x.c 2 _ rfl
    have q3_x_3 := V3_x.c 3 _ rfl
    have f3_x := V3_x.2.2; have L3_x := V3_x.lt; have N3_x := Nat.ne_of_gt L3_x; have M3_x := Nat.ne_of_lt L3_x
    have HV3_x := Lib.hid V3_x
    have q3_y_0 := V3_y.c 0 _ rfl
    have q3_y_1 := V3_y.c 1 _ rfl
    have q3_y_2 := V3_y.c 2 _ rfl
    have q3_y_3 := V3_y.c 3 _ rfl
    have f3_y := V3_y.2.2; have L3_y := V3_y.lt; have N3_y := Nat.ne_of_gt L3_y; have M3_y := Nat.ne_of_lt L3_y
    have HV3_y := Lib.hid V3_y
    have q3_v_0 := V3_v.c 0 _ rfl
    have q3_v_1 := V3_v.c 1 _ rfl
    have f3_v := V3_v.2.2; have L3_v := V3_v.lt; have N3_v := Nat.ne_of_gt L3_v; have M3_v := Nat.ne_of_lt L3_v
    have HV3_v := Lib.hid V3_v
    have q3_b_0 := V3_b.c 0 _ rfl
    have q3_b_1 := V3_b.c 1 _ rfl
    have q3_b_2 := V3_b.c 2 _ rfl
    have q3_b_3 := V3_b.c 3 _ rfl
    have f3_b := V3_b.2.2; have L3_b := V3_b.lt; have N3_b := Nat.ne_of_gt L3_b; have M3_b := Nat.ne_of_lt L3_b
    have HV3_b := Lib.hid V3_b
    have S3 := G3.size; clear hb
    clear z3_x_0 z3_x_1 z3_x_2 z3_x_3 z3_y_0 z3_y_1 z3_y_2 z3_y_3 z3_v_0 z3_v_1 z3_b_0 z3_b_1 z3_b_2 z3_b_3 HS
    go_wp2_with fail
    refine M.wp_region_later (fun w' => M.Var w' (w.heap.size) #[.int .i64 x.lx, .int .i64 x.ly, .int .i64 x.hx, .int .i64 x.hy] ∧ M.Var w' (w.heap.size + 1) #[.int .i64 y.lx, .int .i64 y.ly, .int .i64 y.hx, .int .i64 y.hy] ∧ M.Var w' (w2.heap.size) #[.int .i64 q.lx, .int .i64 q.ly, .int .i64 q.hx, .int .i64 q.hy] ∧ True) (by kernel_rfl) (by kernel_rfl) (fun w' hb => ⟨M.Var.mono (by (repeat (first | (with_reducible assumption) | exact M.var_alloc' _ _ _ (by first | rfl | simp [go_sem]) | (with_reducible refine M.Var.alloc ?_ _) | (with_reducible refine M.Var.drewN ?_ _) | (with_reducible refine M.Var.drew ?_) | (with_reducible refine M.Var.far ?_ _ _ (by first | omega | (simp [go_sem] <;> omega))))) : M.Var _ (w.heap.size) #[.int .i64 x.lx, .int .i64 x.ly, .int .i64 x.hx, .int .i64 x.hy]) hb, M.Var.mono (by (repeat (first | (with_reducible assumption) | exact M.var_alloc' _ _ _ (by first | rfl | simp [go_sem]) | (with_reducible refine M.Var.alloc ?_ _) | (with_reducible refine M.Var.drewN ?_ _) | (with_reducible refine M.Var.drew ?_) | (with_reducible refine M.Var.far ?_ _ _ (by first | omega | (simp [go_sem] <;> omega))))) : M.Var _ (w.heap.size + 1) #[.int .i64 y.lx, .int .i64 y.ly, .int .i64 y.hx, .int .i64 y.hy]) hb, M.Var.mono (by (repeat (first | (with_reducible assumption) | exact M.var_alloc' _ _ _ (by first | rfl | simp [go_sem]) | (with_reducible refine M.Var.alloc ?_ _) | (with_reducible refine M.Var.drewN ?_ _) | (with_reducible refine M.Var.drew ?_) | (with_reducible refine M.Var.far ?_ _ _ (by first | omega | (simp [go_sem] <;> omega))))) : M.Var _ (w2.heap.size) #[.int .i64 q.lx, .int .i64 q.ly, .int .i64 q.hx, .int .i64 q.hy]) hb, trivial⟩) ?_
    intro hS
    have z4_x_0 := fun p => (hS p).1.c 0 _ rfl
    have z4_x_1 := fun p => (hS p).1.c 1 _ rfl
    have z4_x_2 := fun p => (hS p).1.c 2 _ rfl
    have z4_x_3 := fun p => (hS p).1.c 3 _ rfl
    have z4_y_0 := fun p => (hS p).2.1.c 0 _ rfl
    have z4_y_1 := fun p => (hS p).2.1.c 1 _ rfl
    have z4_y_2 := fun p => (hS p).2.1.c 2 _ rfl
    have z4_y_3 := fun p => (hS p).2.1.c 3 _ rfl
    have z4_b_0 := fun p => (hS p).2.2.1.c 0 _ rfl
    have z4_b_1 := fun p => (hS p).2.2.1.c 1 _ rfl
    have z4_b_2 := fun p => (hS p).2.2.1.c 2 _ rfl
    have z4_b_3 := fun p => (hS p).2.2.1.c 3 _ rfl
    have HS := Lib.hid hS; clear hS
    repeat (go_big_quiet_step ((first
          | (go_at_call 53; with_reducible exact M.later_of (C4.out _))
      )))
    refine wpQuiet_nil ?_
    intro w4 hw'
    obtain ⟨pL, hL⟩ := hw'
    have hb := pL.h; rw [← hL] at hb; clear hL pL
    have G4 : Below w.heap.size w w4 := Below.trans (by (repeat (with_reducible refine M.Below.drewN ?_ _)); go_grown) (hb.mono (by go_size))
    have V4_x : M.Var w4 (w.heap.size) #[.int .i64 x.lx, .int .i64 x.ly, .int .i64 x.hx, .int .i64 x.hy] := M.Var.mono (by (repeat (first | (with_reducible assumption) | exact M.var_alloc' _ _ _ (by first | rfl | simp [go_sem]) | (with_reducible refine M.Var.alloc ?_ _) | (with_reducible refine M.Var.drewN ?_ _) | (with_reducible refine M.Var.drew ?_) | (with_reducible refine M.Var.far ?_ _ _ (by first | omega | (simp [go_sem] <;> omega)))))) hb
    have V4_y : M.Var w4 (w.heap.size + 1) #[.int .i64 y.lx, .int .i64 y.ly, .int .i64 y.hx, .int .i64 y.hy] := M.Var.mono (by (repeat (first | (with_reducible assumption) | exact M.var_alloc' _ _ _ (by first | rfl | simp [go_sem]) | (with_reducible refine M.Var.alloc ?_ _) | (with_reducible refine M.Var.drewN ?_ _) | (with_reducible refine M.Var.drew ?_) | (with_reducible refine M.Var.far ?_ _ _ (by first | omega | (simp [go_sem] <;> omega)))))) hb
    have V4_v : M.Var w4 (w.heap.size + 1 + 1) #[.int .i64 v1, .int .i64 v2] := M.Var.mono (by (repeat (first | (with_reducible assumption) | exact M.var_alloc' _ _ _ (by first | rfl | simp [go_sem]) | (with_reducible refine M.Var.alloc ?_ _) | (with_reducible refine M.Var.drewN ?_ _) | (with_reducible refine M.Var.drew ?_) | (with_reducible refine M.Var.far ?_ _ _ (by first | omega | (simp [go_sem] <;> omega)))))) hb
    have V4_b : M.Var w4 (w2.heap.size) #[.int .i64 q.lx, .int .i64 q.ly, .int .i64 q.hx, .int .i64 q.hy] := M.Var.mono (by (repeat (first | (with_reducible assumption) | exact M.var_alloc' _ _ _ (by first | rfl | simp [go_sem]) | (with_reducible refine M.Var.alloc ?_ _) | (with_reducible refine M.Var.drewN ?_ _) | (with_reducible refine M.Var.drew ?_) | (with_reducible refine M.Var.far ?_ _ _ (by first | omega | (simp [go_sem] <;> omega)))))) hb
    have q4_x_0 := V4_x.c 0 _ rfl
    have q4_x_1 := V4_x.c 1 _ rfl
    have q4_x_2 := V4_x.c 2 _ rfl
    have q4_x_3 := V4_x.c 3 _ rfl
    have f4_x := V4_x.2.2; have L4_x := V4_x.lt; have N4_x := Nat.ne_of_gt L4_x; have M4_x := Nat.ne_of_lt L4_x
    have HV4_x := Lib.hid V4_x
    have q4_y_0 := V4_y.c 0 _ rfl
    have q4_y_1 := V4_y.c 1 _ rfl
    have q4_y_2 := V4_y.c 2 _ rfl
    have q4_y_3 := V4_y.c 3 _ rfl
    have f4_y := V4_y.2.2; have L4_y := V4_y.lt; have N4_y := Nat.ne_of_gt L4_y; have M4_y := Nat.ne_of_lt L4_y
    have HV4_y := Lib.hid V4_y
    have q4_v_0 := V4_v.c 0 _ rfl
    have q4_v_1 := V4_v.c 1 _ rfl
    have f4_v := V4_v.2.2; have L4_v := V4_v.lt; have N4_v := Nat.ne_of_gt L4_v; have M4_v := Nat.ne_of_lt L4_v
    have HV4_v := Lib.hid V4_v
    have q4_b_0 := V4_b.c 0 _ rfl
    have q4_b_1 := V4_b.c 1 _ rfl
    have q4_b_2 := V4_b.c 2 _ rfl
    have q4_b_3 := V4_b.c 3 _ rfl
    have f4_b := V4_b.2.2; have L4_b := V4_b.lt; have N4_b := Nat.ne_of_gt L4_b; have M4_b := Nat.ne_of_lt L4_b
    have HV4_b := Lib.hid V4_b
    have S4 := G4.size; clear hb
    clear z4_x_0 z4_x_1 z4_x_2 z4_x_3 z4_y_0 z4_y_1 z4_y_2 z4_y_3 z4_b_0 z4_b_1 z4_b_2 z4_b_3 HS
    go_wp2_with fail
    go_ret
    exact ⟨rfl, by (repeat (with_reducible refine M.Below.drewN ?_ _)); go_grown⟩
  · skip
    have C5 := Lib.hid c5; have C6 := Lib.hid c6; have C7 := Lib.hid c7
    clear c5 c6 c7
    go_enter Try.func7, Try.ntmps7
    go_wp2_with fail
    (with_reducible refine (c0.out _).mono ?_); rintro en w1 ⟨rfl, hb⟩
    have G1 : Below w.heap.size w w1 := Below.trans (by (repeat (with_reducible refine M.Below.drewN ?_ _)); go_grown) (hb.mono (by go_size))
    have V1_x : M.Var w1 (w.heap.size) #[.int .i64 x.lx, .int .i64 x.ly, .int .i64 x.hx, .int .i64 x.hy] := M.Var.mono (by (repeat (first | (with_reducible assumption) | exact M.var_alloc' _ _ _ (by first | rfl | simp [go_sem]) | (with_reducible refine M.Var.alloc ?_ _) | (with_reducible refine M.Var.drewN ?_ _) | (with_reducible refine M.Var.drew ?_) | (with_reducible refine M.Var.far ?_ _ _ (by first | omega | (simp [go_sem] <;> omega)))))) hb
    have V1_y : M.Var w1 (w.heap.size + 1) #[.int .i64 y.lx, .int .i64 y.ly, .int .i64 y.hx, .int .i64 y.hy] := M.Var.mono (by (repeat (first | (with_reducible assumption) | exact M.var_alloc' _ _ _ (by first | rfl | simp [go_sem]) | (with_reducible refine M.Var.alloc ?_ _) | (with_reducible refine M.Var.drewN ?_ _) | (with_reducible refine M.Var.drew ?_) | (with_reducible refine M.Var.far ?_ _ _ (by first | omega | (simp [go_sem] <;> omega)))))) hb
    have V1_v : M.Var w1 (w.heap.size + 1 + 1) #[.int .i64 v1, .int .i64 v2] := M.Var.mono (by (repeat (first | (with_reducible assumption) | exact M.var_alloc' _ _ _ (by first | rfl | simp [go_sem]) | (with_reducible refine M.Var.alloc ?_ _) | (with_reducible refine M.Var.drewN ?_ _) | (with_reducible refine M.Var.drew ?_) | (with_reducible refine M.Var.far ?_ _ _ (by first | omega | (simp [go_sem] <;> omega)))))) hb
    have q1_x_0 := V1_x.c 0 _ rfl
    have q1_x_1 := V1_x.c 1 _ rfl
    have q1_x_2 := V1_x.c 2 _ rfl
    have q1_x_3 := V1_x.c 3 _ rfl
    have f1_x := V1_x.2.2; have L1_x := V1_x.lt; have N1_x := Nat.ne_of_gt L1_x; have M1_x := Nat.ne_of_lt L1_x
    have HV1_x := Lib.hid V1_x
    have q1_y_0 := V1_y.c 0 _ rfl
    have q1_y_1 := V1_y.c 1 _ rfl
    have q1_y_2 := V1_y.c 2 _ rfl
    have q1_y_3 := V1_y.c 3 _ rfl
    have f1_y := V1_y.2.2; have L1_y := V1_y.lt; have N1_y := Nat.ne_of_gt L1_y; have M1_y := Nat.ne_of_lt L1_y
    have HV1_y := Lib.hid V1_y
    have q1_v_0 := V1_v.c 0 _ rfl
    have q1_v_1 := V1_v.c 1 _ rfl
    have f1_v := V1_v.2.2; have L1_v := V1_v.lt; have N1_v := Nat.ne_of_gt L1_v; have M1_v := Nat.ne_of_lt L1_v
    have HV1_v := Lib.hid V1_v
    have S1 := G1.size; clear hb
    go_wp2_with fail
    (with_reducible refine (C1.out _).mono ?_); rintro en w2 ⟨rfl, hb⟩
    have G2 : Below w.heap.size w w2 := Below.trans (by (repeat (with_reducible refine M.Below.drewN ?_ _)); go_grown) (hb.mono (by go_size))
    have V2_x : M.Var w2 (w.heap.size) #[.int .i64 x.lx, .int .i64 x.ly, .int .i64 x.hx, .int .i64 x.hy] := M.Var.mono (by (repeat (first | (with_reducible assumption) | exact M.var_alloc' _ _ _ (by first | rfl | simp [go_sem]) | (with_reducible refine M.Var.alloc ?_ _) | (with_reducible refine M.Var.drewN ?_ _) | (with_reducible refine M.Var.drew ?_) | (with_reducible refine M.Var.far ?_ _ _ (by first | omega | (simp [go_sem] <;> omega)))))) hb
    have V2_y : M.Var w2 (w.heap.size + 1) #[.int .i64 y.lx, .int .i64 y.ly, .int .i64 y.hx, .int .i64 y.hy] := M.Var.mono (by (repeat (first | (with_reducible assumption) | exact M.var_alloc' _ _ _ (by first | rfl | simp [go_sem]) | (with_reducible refine M.Var.alloc ?_ _) | (with_reducible refine M.Var.drewN ?_ _) | (with_reducible refine M.Var.drew ?_) | (with_reducible refine M.Var.far ?_ _ _ (by first | omega | (simp [go_sem] <;> omega)))))) hb
    have V2_v : M.Var w2 (w.heap.size + 1 + 1) #[.int .i64 v1, .int .i64 v2] := M.Var.mono (by (repeat (first | (with_reducible assumption) | exact M.var_alloc' _ _ _ (by first | rfl | simp [go_sem]) | (with_reducible refine M.Var.alloc ?_ _) | (with_reducible refine M.Var.drewN ?_ _) | (with_reducible refine M.Var.drew ?_) | (with_reducible refine M.Var.far ?_ _ _ (by first | omega | (simp [go_sem] <;> omega)))))) hb
    have q2_x_0 := V2_x.c 0 _ rfl
    have q2_x_1 := V2_x.c 1 _ rfl
    have q2_x_2 := V2_x.c 2 _ rfl
    have q2_x_3 := V2_x.c 3 _ rfl
    have f2_x := V2_x.2.2; have L2_x := V2_x.lt; have N2_x := Nat.ne_of_gt L2_x; have M2_x := Nat.ne_of_lt L2_x
    have HV2_x := Lib.hid V2_x
    have q2_y_0 := V2_y.c 0 _ rfl
    have q2_y_1 := V2_y.c 1 _ rfl
    have q2_y_2 := V2_y.c 2 _ rfl
    have q2_y_3 := V2_y.c 3 _ rfl
    have f2_y := V2_y.2.2; have L2_y := V2_y.lt; have N2_y := Nat.ne_of_gt L2_y; have M2_y := Nat.ne_of_lt L2_y
    have HV2_y := Lib.hid V2_y
    have q2_v_0 := V2_v.c 0 _ rfl
    have q2_v_1 := V2_v.c 1 _ rfl
    have f2_v := V2_v.2.2; have L2_v := V2_v.lt; have N2_v := Nat.ne_of_gt L2_v; have M2_v := Nat.ne_of_lt L2_v
    have HV2_v := Lib.hid V2_v
    have S2 := G2.size; clear hb
    go_wp2_with fail
    refine M.wp_region_later (fun w' => M.Var w' (w.heap.size) #[.int .i64 x.lx, .int .i64 x.ly, .int .i64 x.hx, .int .i64 x.hy] ∧ M.Var w' (w.heap.size + 1) #[.int .i64 y.lx, .int .i64 y.ly, .int .i64 y.hx, .int .i64 y.hy] ∧ M.Var w' (w.heap.size + 1 + 1) #[.int .i64 v1, .int .i64 v2] ∧ M.Var w' (w2.heap.size) #[.int .i64 q.lx, .int .i64 q.ly, .int .i64 q.hx, .int .i64 q.hy] ∧ True) (by kernel_rfl) (by kernel_rfl) (fun w' hb => ⟨M.Var.mono (by (repeat (first | (with_reducible assumption) | exact M.var_alloc' _ _ _ (by first | rfl | simp [go_sem]) | (with_reducible refine M.Var.alloc ?_ _) | (with_reducible refine M.Var.drewN ?_ _) | (with_reducible refine M.Var.drew ?_) | (with_reducible refine M.Var.far ?_ _ _ (by first | omega | (simp [go_sem] <;> omega))))) : M.Var _ (w.heap.size) #[.int .i64 x.lx, .int .i64 x.ly, .int .i64 x.hx, .int .i64 x.hy]) hb, M.Var.mono (by (repeat (first | (with_reducible assumption) | exact M.var_alloc' _ _ _ (by first | rfl | simp [go_sem]) | (with_reducible refine M.Var.alloc ?_ _) | (with_reducible refine M.Var.drewN ?_ _) | (with_reducible refine M.Var.drew ?_) | (with_reducible refine M.Var.far ?_ _ _ (by first | omega | (simp [go_sem] <;> omega))))) : M.Var _ (w.heap.size + 1) #[.int .i64 y.lx, .int .i64 y.ly, .int .i64 y.hx, .int .i64 y.hy]) hb, M.Var.mono (by (repeat (first | (with_reducible assumption) | exact M.var_alloc' _ _ _ (by first | rfl | simp [go_sem]) | (with_reducible refine M.Var.alloc ?_ _) | (with_reducible refine M.Var.drewN ?_ _) | (with_reducible refine M.Var.drew ?_) | (with_reducible refine M.Var.far ?_ _ _ (by first | omega | (simp [go_sem] <;> omega))))) : M.Var _ (w.heap.size + 1 + 1) #[.int .i64 v1, .int .i64 v2]) hb, M.Var.mono (by (repeat (first | (with_reducible assumption) | exact M.var_alloc' _ _ _ (by first | rfl | simp [go_sem]) | (with_reducible refine M.Var.alloc ?_ _) | (with_reducible refine M.Var.drewN ?_ _) | (with_reducible refine M.Var.drew ?_) | (with_reducible refine M.Var.far ?_ _ _ (by first | omega | (simp [go_sem] <;> omega))))) : M.Var _ (w2.heap.size) #[.int .i64 q.lx, .int .i64 q.ly, .int .i64 q.hx, .int .i64 q.hy]) hb, trivial⟩) ?_
    intro hS
    have z3_x_0 := fun p => (hS p).1.c 0 _ rfl
    have z3_x_1 := fun p => (hS p).1.c 1 _ rfl
    have z3_x_2 := fun p => (hS p).1.c 2 _ rfl
    have z3_x_3 := fun p => (hS p).1.c 3 _ rfl
    have z3_y_0 := fun p => (hS p).2.1.c 0 _ rfl
    have z3_y_1 := fun p => (hS p).2.1.c 1 _ rfl
    have z3_y_2 := fun p => (hS p).2.1.c 2 _ rfl
    have z3_y_3 := fun p => (hS p).2.1.c 3 _ rfl
    have z3_v_0 := fun p => (hS p).2.2.1.c 0 _ rfl
    have z3_v_1 := fun p => (hS p).2.2.1.c 1 _ rfl
    have z3_b_0 := fun p => (hS p).2.2.2.1.c 0 _ rfl
    have z3_b_1 := fun p => (hS p).2.2.2.1.c 1 _ rfl
    have z3_b_2 := fun p => (hS p).2.2.2.1.c 2 _ rfl
    have z3_b_3 := fun p => (hS p).2.2.2.1.c 3 _ rfl
    have HS := Lib.hid hS; clear hS
    repeat (go_big_quiet_step ((first
          | (go_at_call 53; with_reducible exact M.later_of (C2.out _))
          | (go_at_call 53; with_reducible exact M.later_of (C3.out _))
          | (go_at_call 43; with_reducible exact M.later_of (C5.out _))
          | (go_at_call 43; with_reducible exact M.later_of (C6.out _))
          | (go_at_call 43; with_reducible exact M.later_of (C7.out _))
      )))
    refine wpQuiet_nil ?_
    intro w3 hw'
    obtain ⟨pL, hL⟩ := hw'
    have hb := pL.h; rw [← hL] at hb; clear hL pL
    have G3 : Below w.heap.size w w3 := Below.trans (by (repeat (with_reducible refine M.Below.drewN ?_ _)); go_grown) (hb.mono (by go_size))
    have V3_x : M.Var w3 (w.heap.size) #[.int .i64 x.lx, .int .i64 x.ly, .int .i64 x.hx, .int .i64 x.hy] := M.Var.mono (by (repeat (first | (with_reducible assumption) | exact M.var_alloc' _ _ _ (by first | rfl | simp [go_sem]) | (with_reducible refine M.Var.alloc ?_ _) | (with_reducible refine M.Var.drewN ?_ _) | (with_reducible refine M.Var.drew ?_) | (with_reducible refine M.Var.far ?_ _ _ (by first | omega | (simp [go_sem] <;> omega)))))) hb
    have V3_y : M.Var w3 (w.heap.size + 1) #[.int .i64 y.lx, .int .i64 y.ly, .int .i64 y.hx, .int .i64 y.hy] := M.Var.mono (by (repeat (first | (with_reducible assumption) | exact M.var_alloc' _ _ _ (by first | rfl | simp [go_sem]) | (with_reducible refine M.Var.alloc ?_ _) | (with_reducible refine M.Var.drewN ?_ _) | (with_reducible refine M.Var.drew ?_) | (with_reducible refine M.Var.far ?_ _ _ (by first | omega | (simp [go_sem] <;> omega)))))) hb
    have V3_v : M.Var w3 (w.heap.size + 1 + 1) #[.int .i64 v1, .int .i64 v2] := M.Var.mono (by (repeat (first | (with_reducible assumption) | exact M.var_alloc' _ _ _ (by first | rfl | simp [go_sem]) | (with_reducible refine M.Var.alloc ?_ _) | (with_reducible refine M.Var.drewN ?_ _) | (with_reducible refine M.Var.drew ?_) | (with_reducible refine M.Var.far ?_ _ _ (by first | omega | (simp [go_sem] <;> omega)))))) hb
    have V3_b : M.Var w3 (w2.heap.size) #[.int .i64 q.lx, .int .i64 q.ly, .int .i64 q.hx, .int .i64 q.hy] := M.Var.mono (by (repeat (first | (with_reducible assumption) | exact M.var_alloc' _ _ _ (by first | rfl | simp [go_sem]) | (with_reducible refine M.Var.alloc ?_ _) | (with_reducible refine M.Var.drewN ?_ _) | (with_reducible refine M.Var.drew ?_) | (with_reducible refine M.Var.far ?_ _ _ (by first | omega | (simp [go_sem] <;> omega)))))) hb
    have q3_x_0 := V3_x.c 0 _ rfl
    have q3_x_1 := V3_x.c 1 _ rfl
    have q3_x_2 := V3_x.c 2 _ rfl
    have q3_x_3 := V3_x.c 3 _ rfl
    have f3_x := V3_x.2.2; have L3_x := V3_x.lt; have N3_x := Nat.ne_of_gt L3_x; have M3_x := Nat.ne_of_lt L3_x
    have HV3_x := Lib.hid V3_x
    have q3_y_0 := V3_y.c 0 _ rfl
    have q3_y_1 := V3_y.c 1 _ rfl
    have q3_y_2 := V3_y.c 2 _ rfl
    have q3_y_3 := V3_y.c 3 _ rfl
    have f3_y := V3_y.2.2; have L3_y := V3_y.lt; have N3_y := Nat.ne_of_gt L3_y; have M3_y := Nat.ne_of_lt L3_y
    have HV3_y := Lib.hid V3_y
    have q3_v_0 := V3_v.c 0 _ rfl
    have q3_v_1 := V3_v.c 1 _ rfl
    have f3_v := V3_v.2.2; have L3_v := V3_v.lt; have N3_v := Nat.ne_of_gt L3_v; have M3_v := Nat.ne_of_lt L3_v
    have HV3_v := Lib.hid V3_v
    have q3_b_0 := V3_b.c 0 _ rfl
    have q3_b_1 := V3_b.c 1 _ rfl
    have q3_b_2 := V3_b.c 2 _ rfl
    have q3_b_3 := V3_b.c 3 _ rfl
    have f3_b := V3_b.2.2; have L3_b := V3_b.lt; have N3_b := Nat.ne_of_gt L3_b; have M3_b := Nat.ne_of_lt L3_b
    have HV3_b := Lib.hid V3_b
    have S3 := G3.size; clear hb
    clear z3_x_0 z3_x_1 z3_x_2 z3_x_3 z3_y_0 z3_y_1 z3_y_2 z3_y_3 z3_v_0 z3_v_1 z3_b_0 z3_b_1 z3_b_2 z3_b_3 HS
    go_wp2_with fail
    refine M.wp_region_later (fun w' => M.Var w' (w.heap.size) #[.int .i64 x.lx, .int .i64 x.ly, .int .i64 x.hx, .int .i64 x.hy] ∧ M.Var w' (w.heap.size + 1) #[.int .i64 y.lx, .int .i64 y.ly, .int .i64 y.hx, .int .i64 y.hy] ∧ M.Var w' (w2.heap.size) #[.int .i64 q.lx, .int .i64 q.ly, .int .i64 q.hx, .int .i64 q.hy] ∧ True) (by kernel_rfl) (by kernel_rfl) (fun w' hb => ⟨M.Var.mono (by (repeat (first | (with_reducible assumption) | exact M.var_alloc' _ _ _ (by first | rfl | simp [go_sem]) | (with_reducible refine M.Var.alloc ?_ _) | (with_reducible refine M.Var.drewN ?_ _) | (with_reducible refine M.Var.drew ?_) | (with_reducible refine M.Var.far ?_ _ _ (by first | omega | (simp [go_sem] <;> omega))))) : M.Var _ (w.heap.size) #[.int .i64 x.lx, .int .i64 x.ly, .int .i64 x.hx, .int .i64 x.hy]) hb, M.Var.mono (by (repeat (first | (with_reducible assumption) | exact M.var_alloc' _ _ _ (by first | rfl | simp [go_sem]) | (with_reducible refine M.Var.alloc ?_ _) | (with_reducible refine M.Var.drewN ?_ _) | (with_reducible refine M.Var.drew ?_) | (with_reducible refine M.Var.far ?_ _ _ (by first | omega | (simp [go_sem] <;> omega))))) : M.Var _ (w.heap.size + 1) #[.int .i64 y.lx, .int .i64 y.ly, .int .i64 y.hx, .int .i64 y.hy]) hb, M.Var.mono (by (repeat (first | (with_reducible assumption) | exact M.var_alloc' _ _ _ (by first | rfl | simp [go_sem]) | (with_reducible refine M.Var.alloc ?_ _) | (with_reducible refine M.Var.drewN ?_ _) | (with_reducible refine M.Var.drew ?_) | (with_reducible refine M.Var.far ?_ _ _ (by first | omega | (simp [go_sem] <;> omega))))) : M.Var _ (w2.heap.size) #[.int .i64 q.lx, .int .i64 q.ly, .int .i64 q.hx, .int .i64 q.hy]) hb, trivial⟩) ?_
    intro hS
    have z4_x_0 := fun p => (hS p).1.c 0 _ rfl
    have z4_x_1 := fun p => (hS p).1.c 1 _ rfl
    have z4_x_2 := fun p => (hS p).1.c 2 _ rfl
    have z4_x_3 := fun p => (hS p).1.c 3 _ rfl
    have z4_y_0 := fun p => (hS p).2.1.c 0 _ rfl
    have z4_y_1 := fun p => (hS p).2.1.c 1 _ rfl
    have z4_y_2 := fun p => (hS p).2.1.c 2 _ rfl
    have z4_y_3 := fun p => (hS p).2.1.c 3 _ rfl
    have z4_b_0 := fun p => (hS p).2.2.1.c 0 _ rfl
    have z4_b_1 := fun p => (hS p).2.2.1.c 1 _ rfl
    have z4_b_2 := fun p => (hS p).2.2.1.c 2 _ rfl
    have z4_b_3 := fun p => (hS p).2.2.1.c 3 _ rfl
    have HS := Lib.hid hS; clear hS
    repeat (go_big_quiet_step ((first
          | (go_at_call 53; with_reducible exact M.later_of (C4.out _))
      )))
    refine wpQuiet_nil ?_
    intro w4 hw'
    obtain ⟨pL, hL⟩ := hw'
    have hb := pL.h; rw [← hL] at hb; clear hL pL
    have G4 : Below w.heap.size w w4 := Below.trans (by (repeat (with_reducible refine M.Below.drewN ?_ _)); go_grown) (hb.mono (by go_size))
    have V4_x : M.Var w4 (w.heap.size) #[.int .i64 x.lx, .int .i64 x.ly, .int .i64 x.hx, .int .i64 x.hy] := M.Var.mono (by (repeat (first | (with_reducible assumption) | exact M.var_alloc' _ _ _ (by first | rfl | simp [go_sem]) | (with_reducible refine M.Var.alloc ?_ _) | (with_reducible refine M.Var.drewN ?_ _) | (with_reducible refine M.Var.drew ?_) | (with_reducible refine M.Var.far ?_ _ _ (by first | omega | (simp [go_sem] <;> omega)))))) hb
    have V4_y : M.Var w4 (w.heap.size + 1) #[.int .i64 y.lx, .int .i64 y.ly, .int .i64 y.hx, .int .i64 y.hy] := M.Var.mono (by (repeat (first | (with_reducible assumption) | exact M.var_alloc' _ _ _ (by first | rfl | simp [go_sem]) | (with_reducible refine M.Var.alloc ?_ _) | (with_reducible refine M.Var.drewN ?_ _) | (with_reducible refine M.Var.drew ?_) | (with_reducible refine M.Var.far ?_ _ _ (by first | omega | (simp [go_sem] <;> omega)))))) hb
    have V4_v : M.Var w4 (w.heap.size + 1 + 1) #[.int .i64 v1, .int .i64 v2] := M.Var.mono (by (repeat (first | (with_reducible assumption) | exact M.var_alloc' _ _ _ (by first | rfl | simp [go_sem]) | (with_reducible refine M.Var.alloc ?_ _) | (with_reducible refine M.Var.drewN ?_ _) | (with_reducible refine M.Var.drew ?_) | (with_reducible refine M.Var.far ?_ _ _ (by first | omega | (simp [go_sem] <;> omega)))))) hb
    have V4_b : M.Var w4 (w2.heap.size) #[.int .i64 q.lx, .int .i64 q.ly, .int .i64 q.hx, .int .i64 q.hy] := M.Var.mono (by (repeat (first | (with_reducible assumption) | exact M.var_alloc' _ _ _ (by first | rfl | simp [go_sem]) | (with_reducible refine M.Var.alloc ?_ _) | (with_reducible refine M.Var.drewN ?_ _) | (with_reducible refine M.Var.drew ?_) | (with_reducible refine M.Var.far ?_ _ _ (by first | omega | (simp [go_sem] <;> omega)))))) hb
    have q4_x_0 := V4_x.c 0 _ rfl
    have q4_x_1 := V4_x.c 1 _ rfl
    have q4_x_2 := V4_x.c 2 _ rfl
    have q4_x_3 := V4_x.c 3 _ rfl
    have f4_x := V4_x.2.2; have L4_x := V4_x.lt; have N4_x := Nat.ne_of_gt L4_x; have M4_x := Nat.ne_of_lt L4_x
    have HV4_x := Lib.hid V4_x
    have q4_y_0 := V4_y.c 0 _ rfl
    have q4_y_1 := V4_y.c 1 _ rfl
    have q4_y_2 := V4_y.c 2 _ rfl
    have q4_y_3 := V4_y.c 3 _ rfl
    have f4_y := V4_y.2.2; have L4_y := V4_y.lt; have N4_y := Nat.ne_of_gt L4_y; have M4_y := Nat.ne_of_lt L4_y
    have HV4_y := Lib.hid V4_y
    have q4_v_0 := V4_v.c 0 _ rfl
    have q4_v_1 := V4_v.c 1 _ rfl
    have f4_v := V4_v.2.2; have L4_v := V4_v.lt; have N4_v := Nat.ne_of_gt L4_v; have M4_v := Nat.ne_of_lt L4_v
    have HV4_v := Lib.hid V4_v
    have q4_b_0 := V4_b.c 0 _ rfl
    have q4_b_1 := V4_b.c 1 _ rfl
    have q4_b_2 := V4_b.c 2 _ rfl
    have q4_b_3 := V4_b.c 3 _ rfl
    have f4_b := V4_b.2.2; have L4_b := V4_b.lt; have N4_b := Nat.ne_of_gt L4_b; have M4_b := Nat.ne_of_lt L4_b
    have HV4_b := Lib.hid V4_b
    have S4 := G4.size; clear hb
    clear z4_x_0 z4_x_1 z4_x_2 z4_x_3 z4_y_0 z4_y_1 z4_y_2 z4_y_3 z4_b_0 z4_b_1 z4_b_2 z4_b_3 HS
    go_wp2_with fail
    go_ret
    exact ⟨rfl, by (repeat (with_reducible refine M.Below.drewN ?_ _)); go_grown⟩
  · skip
    have C5 := Lib.hid c5; have C6 := Lib.hid c6; have C7 := Lib.hid c7
    clear c5 c6 c7
    go_enter Try.func7, Try.ntmps7
    go_wp2_with fail
    (with_reducible refine (c0.out _).mono ?_); rintro en w1 ⟨rfl, hb⟩
    have G1 : Below w.heap.size w w1 := Below.trans (by (repeat (with_reducible refine M.Below.drewN ?_ _)); go_grown) (hb.mono (by go_size))
    have V1_x : M.Var w1 (w.heap.size) #[.int .i64 x.lx, .int .i64 x.ly, .int .i64 x.hx, .int .i64 x.hy] := M.Var.mono (by (repeat (first | (with_reducible assumption) | exact M.var_alloc' _ _ _ (by first | rfl | simp [go_sem]) | (with_reducible refine M.Var.alloc ?_ _) | (with_reducible refine M.Var.drewN ?_ _) | (with_reducible refine M.Var.drew ?_) | (with_reducible refine M.Var.far ?_ _ _ (by first | omega | (simp [go_sem] <;> omega)))))) hb
    have V1_y : M.Var w1 (w.heap.size + 1) #[.int .i64 y.lx, .int .i64 y.ly, .int .i64 y.hx, .int .i64 y.hy] := M.Var.mono (by (repeat (first | (with_reducible assumption) | exact M.var_alloc' _ _ _ (by first | rfl | simp [go_sem]) | (with_reducible refine M.Var.alloc ?_ _) | (with_reducible refine M.Var.drewN ?_ _) | (with_reducible refine M.Var.drew ?_) | (with_reducible refine M.Var.far ?_ _ _ (by first | omega | (simp [go_sem] <;> omega)))))) hb
    have V1_v : M.Var w1 (w.heap.size + 1 + 1) #[.int .i64 v1, .int .i64 v2] := M.Var.mono (by (repeat (first | (with_reducible assumption) | exact M.var_alloc' _ _ _ (by first | rfl | simp [go_sem]) | (with_reducible refine M.Var.alloc ?_ _) | (with_reducible refine M.Var.drewN ?_ _) | (with_reducible refine M.Var.drew ?_) | (with_reducible refine M.Var.far ?_ _ _ (by first | omega | (simp [go_sem] <;> omega)))))) hb
    have q1_x_0 := V1_x.c 0 _ rfl
    have q1_x_1 := V1_x.c 1 _ rfl
    have q1_x_2 := V1_x.c 2 _ rfl
    have q1_x_3 := V1_x.c 3 _ rfl
    have f1_x := V1_x.2.2; have L1_x := V1_x.lt; have N1_x := Nat.ne_of_gt L1_x; have M1_x := Nat.ne_of_lt L1_x
    have HV1_x := Lib.hid V1_x
    have q1_y_0 := V1_y.c 0 _ rfl
    have q1_y_1 := V1_y.c 1 _ rfl
    have q1_y_2 := V1_y.c 2 _ rfl
    have q1_y_3 := V1_y.c 3 _ rfl
    have f1_y := V1_y.2.2; have L1_y := V1_y.lt; have N1_y := Nat.ne_of_gt L1_y; have M1_y := Nat.ne_of_lt L1_y
    have HV1_y := Lib.hid V1_y
    have q1_v_0 := V1_v.c 0 _ rfl
    have q1_v_1 := V1_v.c 1 _ rfl
    have f1_v := V1_v.2.2; have L1_v := V1_v.lt; have N1_v := Nat.ne_of_gt L1_v; have M1_v := Nat.ne_of_lt L1_v
    have HV1_v := Lib.hid V1_v
    have S1 := G1.size; clear hb
    go_wp2_with fail
    (with_reducible refine (C1.out _).mono ?_); rintro en w2 ⟨rfl, hb⟩
    have G2 : Below w.heap.size w w2 := Below.trans (by (repeat (with_reducible refine M.Below.drewN ?_ _)); go_grown) (hb.mono (by go_size))
    have V2_x : M.Var w2 (w.heap.size) #[.int .i64 x.lx, .int .i64 x.ly, .int .i64 x.hx, .int .i64 x.hy] := M.Var.mono (by (repeat (first | (with_reducible assumption) | exact M.var_alloc' _ _ _ (by first | rfl | simp [go_sem]) | (with_reducible refine M.Var.alloc ?_ _) | (with_reducible refine M.Var.drewN ?_ _) | (with_reducible refine M.Var.drew ?_) | (with_reducible refine M.Var.far ?_ _ _ (by first | omega | (simp [go_sem] <;> omega)))))) hb
    have V2_y : M.Var w2 (w.heap.size + 1) #[.int .i64 y.lx, .int .i64 y.ly, .int .i64 y.hx, .int .i64 y.hy] := M.Var.mono (by (repeat (first | (with_reducible assumption) | exact M.var_alloc' _ _ _ (by first | rfl | simp [go_sem]) | (with_reducible refine M.Var.alloc ?_ _) | (with_reducible refine M.Var.drewN ?_ _) | (with_reducible refine M.Var.drew ?_) | (with_reducible refine M.Var.far ?_ _ _ (by first | omega | (simp [go_sem] <;> omega)))))) hb
    have V2_v : M.Var w2 (w.heap.size + 1 + 1) #[.int .i64 v1, .int .i64 v2] := M.Var.mono (by (repeat (first | (with_reducible assumption) | exact M.var_alloc' _ _ _ (by first | rfl | simp [go_sem]) | (with_reducible refine M.Var.alloc ?_ _) | (with_reducible refine M.Var.drewN ?_ _) | (with_reducible refine M.Var.drew ?_) | (with_reducible refine M.Var.far ?_ _ _ (by first | omega | (simp [go_sem] <;> omega)))))) hb
    have q2_x_0 := V2_x.c 0 _ rfl
    have q2_x_1 := V2_x.c 1 _ rfl
    have q2_x_2 := V2_x.c 2 _ rfl
    have q2_x_3 := V2_x.c 3 _ rfl
    have f2_x := V2_x.2.2; have L2_x := V2_x.lt; have N2_x := Nat.ne_of_gt L2_x; have M2_x := Nat.ne_of_lt L2_x
    have HV2_x := Lib.hid V2_x
    have q2_y_0 := V2_y.c 0 _ rfl
    have q2_y_1 := V2_y.c 1 _ rfl
    have q2_y_2 := V2_y.c 2 _ rfl
    have q2_y_3 := V2_y.c 3 _ rfl
    have f2_y := V2_y.2.2; have L2_y := V2_y.lt; have N2_y := Nat.ne_of_gt L2_y; have M2_y := Nat.ne_of_lt L2_y
    have HV2_y := Lib.hid V2_y
    have q2_v_0 := V2_v.c 0 _ rfl
    have q2_v_1 := V2_v.c 1 _ rfl
    have f2_v := V2_v.2.2; have L2_v := V2_v.lt; have N2_v := Nat.ne_of_gt L2_v; have M2_v := Nat.ne_of_lt L2_v
    have HV2_v := Lib.hid V2_v
    have S2 := G2.size; clear hb
    go_wp2_with fail
    refine M.wp_region_later (fun w' => M.Var w' (w.heap.size) #[.int .i64 x.lx, .int .i64 x.ly, .int .i64 x.hx, .int .i64 x.hy] ∧ M.Var w' (w.heap.size + 1) #[.int .i64 y.lx, .int .i64 y.ly, .int .i64 y.hx, .int .i64 y.hy] ∧ M.Var w' (w.heap.size + 1 + 1) #[.int .i64 v1, .int .i64 v2] ∧ M.Var w' (w2.heap.size) #[.int .i64 q.lx, .int .i64 q.ly, .int .i64 q.hx, .int .i64 q.hy] ∧ True) (by kernel_rfl) (by kernel_rfl) (fun w' hb => ⟨M.Var.mono (by (repeat (first | (with_reducible assumption) | exact M.var_alloc' _ _ _ (by first | rfl | simp [go_sem]) | (with_reducible refine M.Var.alloc ?_ _) | (with_reducible refine M.Var.drewN ?_ _) | (with_reducible refine M.Var.drew ?_) | (with_reducible refine M.Var.far ?_ _ _ (by first | omega | (simp [go_sem] <;> omega))))) : M.Var _ (w.heap.size) #[.int .i64 x.lx, .int .i64 x.ly, .int .i64 x.hx, .int .i64 x.hy]) hb, M.Var.mono (by (repeat (first | (with_reducible assumption) | exact M.var_alloc' _ _ _ (by first | rfl | simp [go_sem]) | (with_reducible refine M.Var.alloc ?_ _) | (with_reducible refine M.Var.drewN ?_ _) | (with_reducible refine M.Var.drew ?_) | (with_reducible refine M.Var.far ?_ _ _ (by first | omega | (simp [go_sem] <;> omega))))) : M.Var _ (w.heap.size + 1) #[.int .i64 y.lx, .int .i64 y.ly, .int .i64 y.hx, .int .i64 y.hy]) hb, M.Var.mono (by (repeat (first | (with_reducible assumption) | exact M.var_alloc' _ _ _ (by first | rfl | simp [go_sem]) | (with_reducible refine M.Var.alloc ?_ _) | (with_reducible refine M.Var.drewN ?_ _) | (with_reducible refine M.Var.drew ?_) | (with_reducible refine M.Var.far ?_ _ _ (by first | omega | (simp [go_sem] <;> omega))))) : M.Var _ (w.heap.size + 1 + 1) #[.int .i64 v1, .int .i64 v2]) hb, M.Var.mono (by (repeat (first | (with_reducible assumption) | exact M.var_alloc' _ _ _ (by first | rfl | simp [go_sem]) | (with_reducible refine M.Var.alloc ?_ _) | (with_reducible refine M.Var.drewN ?_ _) | (with_reducible refine M.Var.drew ?_) | (with_reducible refine M.Var.far ?_ _ _ (by first | omega | (simp [go_sem] <;> omega))))) : M.Var _ (w2.heap.size) #[.int .i64 q.lx, .int .i64 q.ly, .int .i64 q.hx, .int .i64 q.hy]) hb, trivial⟩) ?_
    intro hS
    have z3_x_0 := fun p => (hS p).1.c 0 _ rfl
    have z3_x_1 := fun p => (hS p).1.c 1 _ rfl
    have z3_x_2 := fun p => (hS p).1.c 2 _ rfl
    have z3_x_3 := fun p => (hS p).1.c 3 _ rfl
    have z3_y_0 := fun p => (hS p).2.1.c 0 _ rfl
    have z3_y_1 := fun p => (hS p).2.1.c 1 _ rfl
    have z3_y_2 := fun p => (hS p).2.1.c 2 _ rfl
    have z3_y_3 := fun p => (hS p).2.1.c 3 _ rfl
    have z3_v_0 := fun p => (hS p).2.2.1.c 0 _ rfl
    have z3_v_1 := fun p => (hS p).2.2.1.c 1 _ rfl
    have z3_b_0 := fun p => (hS p).2.2.2.1.c 0 _ rfl
    have z3_b_1 := fun p => (hS p).2.2.2.1.c 1 _ rfl
    have z3_b_2 := fun p => (hS p).2.2.2.1.c 2 _ rfl
    have z3_b_3 := fun p => (hS p).2.2.2.1.c 3 _ rfl
    have HS := Lib.hid hS; clear hS
    repeat (go_big_quiet_step ((first
          | (go_at_call 53; with_reducible exact M.later_of (C2.out _))
          | (go_at_call 53; with_reducible exact M.later_of (C3.out _))
          | (go_at_call 43; with_reducible exact M.later_of (C5.out _))
          | (go_at_call 43; with_reducible exact M.later_of (C6.out _))
          | (go_at_call 43; with_reducible exact M.later_of (C7.out _))
      )))
    refine wpQuiet_nil ?_
    intro w3 hw'
    obtain ⟨pL, hL⟩ := hw'
    have hb := pL.h; rw [← hL] at hb; clear hL pL
    have G3 : Below w.heap.size w w3 := Below.trans (by (repeat (with_reducible refine M.Below.drewN ?_ _)); go_grown) (hb.mono (by go_size))
    have V3_x : M.Var w3 (w.heap.size) #[.int .i64 x.lx, .int .i64 x.ly, .int .i64 x.hx, .int .i64 x.hy] := M.Var.mono (by (repeat (first | (with_reducible assumption) | exact M.var_alloc' _ _ _ (by first | rfl | simp [go_sem]) | (with_reducible refine M.Var.alloc ?_ _) | (with_reducible refine M.Var.drewN ?_ _) | (with_reducible refine M.Var.drew ?_) | (with_reducible refine M.Var.far ?_ _ _ (by first | omega | (simp [go_sem] <;> omega)))))) hb
    have V3_y : M.Var w3 (w.heap.size + 1) #[.int .i64 y.lx, .int .i64 y.ly, .int .i64 y.hx, .int .i64 y.hy] := M.Var.mono (by (repeat (first | (with_reducible assumption) | exact M.var_alloc' _ _ _ (by first | rfl | simp [go_sem]) | (with_reducible refine M.Var.alloc ?_ _) | (with_reducible refine M.Var.drewN ?_ _) | (with_reducible refine M.Var.drew ?_) | (with_reducible refine M.Var.far ?_ _ _ (by first | omega | (simp [go_sem] <;> omega)))))) hb
    have V3_v : M.Var w3 (w.heap.size + 1 + 1) #[.int .i64 v1, .int .i64 v2] := M.Var.mono (by (repeat (first | (with_reducible assumption) | exact M.var_alloc' _ _ _ (by first | rfl | simp [go_sem]) | (with_reducible refine M.Var.alloc ?_ _) | (with_reducible refine M.Var.drewN ?_ _) | (with_reducible refine M.Var.drew ?_) | (with_reducible refine M.Var.far ?_ _ _ (by first | omega | (simp [go_sem] <;> omega)))))) hb
    have V3_b : M.Var w3 (w2.heap.size) #[.int .i64 q.lx, .int .i64 q.ly, .int .i64 q.hx, .int .i64 q.hy] := M.Var.mono (by (repeat (first | (with_reducible assumption) | exact M.var_alloc' _ _ _ (by first | rfl | simp [go_sem]) | (with_reducible refine M.Var.alloc ?_ _) | (with_reducible refine M.Var.drewN ?_ _) | (with_reducible refine M.Var.drew ?_) | (with_reducible refine M.Var.far ?_ _ _ (by first | omega | (simp [go_sem] <;> omega)))))) hb
    have q3_x_0 := V3_x.c 0 _ rfl
    have q3_x_1 := V3_x.c 1 _ rfl
    have q3_x_2 := V3_x.c 2 _ rfl
    have q3_x_3 := V3_x.c 3 _ rfl
    have f3_x := V3_x.2.2; have L3_x := V3_x.lt; have N3_x := Nat.ne_of_gt L3_x; have M3_x := Nat.ne_of_lt L3_x
    have HV3_x := Lib.hid V3_x
    have q3_y_0 := V3_y.c 0 _ rfl
    have q3_y_1 := V3_y.c 1 _ rfl
    have q3_y_2 := V3_y.c 2 _ rfl
    have q3_y_3 := V3_y.c 3 _ rfl
    have f3_y := V3_y.2.2; have L3_y := V3_y.lt; have N3_y := Nat.ne_of_gt L3_y; have M3_y := Nat.ne_of_lt L3_y
    have HV3_y := Lib.hid V3_y
    have q3_v_0 := V3_v.c 0 _ rfl
    have q3_v_1 := V3_v.c 1 _ rfl
    have f3_v := V3_v.2.2; have L3_v := V3_v.lt; have N3_v := Nat.ne_of_gt L3_v; have M3_v := Nat.ne_of_lt L3_v
    have HV3_v := Lib.hid V3_v
    have q3_b_0 := V3_b.c 0 _ rfl
    have q3_b_1 := V3_b.c 1 _ rfl
    have q3_b_2 := V3_b.c 2 _ rfl
    have q3_b_3 := V3_b.c 3 _ rfl
    have f3_b := V3_b.2.2; have L3_b := V3_b.lt; have N3_b := Nat.ne_of_gt L3_b; have M3_b := Nat.ne_of_lt L3_b
    have HV3_b := Lib.hid V3_b
    have S3 := G3.size; clear hb
    clear z3_x_0 z3_x_1 z3_x_2 z3_x_3 z3_y_0 z3_y_1 z3_y_2 z3_y_3 z3_v_0 z3_v_1 z3_b_0 z3_b_1 z3_b_2 z3_b_3 HS
    go_wp2_with fail
    refine M.wp_region_later (fun w' => M.Var w' (w.heap.size) #[.int .i64 x.lx, .int .i64 x.ly, .int .i64 x.hx, .int .i64 x.hy] ∧ M.Var w' (w.heap.size + 1) #[.int .i64 y.lx, .int .i64 y.ly, .int .i64 y.hx, .int .i64 y.hy] ∧ M.Var w' (w2.heap.size) #[.int .i64 q.lx, .int .i64 q.ly, .int .i64 q.hx, .int .i64 q.hy] ∧ True) (by kernel_rfl) (by kernel_rfl) (fun w' hb => ⟨M.Var.mono (by (repeat (first | (with_reducible assumption) | exact M.var_alloc' _ _ _ (by first | rfl | simp [go_sem]) | (with_reducible refine M.Var.alloc ?_ _) | (with_reducible refine M.Var.drewN ?_ _) | (with_reducible refine M.Var.drew ?_) | (with_reducible refine M.Var.far ?_ _ _ (by first | omega | (simp [go_sem] <;> omega))))) : M.Var _ (w.heap.size) #[.int .i64 x.lx, .int .i64 x.ly, .int .i64 x.hx, .int .i64 x.hy]) hb, M.Var.mono (by (repeat (first | (with_reducible assumption) | exact M.var_alloc' _ _ _ (by first | rfl | simp [go_sem]) | (with_reducible refine M.Var.alloc ?_ _) | (with_reducible refine M.Var.drewN ?_ _) | (with_reducible refine M.Var.drew ?_) | (with_reducible refine M.Var.far ?_ _ _ (by first | omega | (simp [go_sem] <;> omega))))) : M.Var _ (w.heap.size + 1) #[.int .i64 y.lx, .int .i64 y.ly, .int .i64 y.hx, .int .i64 y.hy]) hb, M.Var.mono (by (repeat (first | (with_reducible assumption) | exact M.var_alloc' _ _ _ (by first | rfl | simp [go_sem]) | (with_reducible refine M.Var.alloc ?_ _) | (with_reducible refine M.Var.drewN ?_ _) | (with_reducible refine M.Var.drew ?_) | (with_reducible refine M.Var.far ?_ _ _ (by first | omega | (simp [go_sem] <;> omega))))) : M.Var _ (w2.heap.size) #[.int .i64 q.lx, .int .i64 q.ly, .int .i64 q.hx, .int .i64 q.hy]) hb, trivial⟩) ?_
    intro hS
    have z4_x_0 := fun p => (hS p).1.c 0 _ rfl
    have z4_x_1 := fun p => (hS p).1.c 1 _ rfl
    have z4_x_2 := fun p => (hS p).1.c 2 _ rfl
    have z4_x_3 := fun p => (hS p).1.c 3 _ rfl
    have z4_y_0 := fun p => (hS p).2.1.c 0 _ rfl
    have z4_y_1 := fun p => (hS p).2.1.c 1 _ rfl
    have z4_y_2 := fun p => (hS p).2.1.c 2 _ rfl
    have z4_y_3 := fun p => (hS p).2.1.c 3 _ rfl
    have z4_b_0 := fun p => (hS p).2.2.1.c 0 _ rfl
    have z4_b_1 := fun p => (hS p).2.2.1.c 1 _ rfl
    have z4_b_2 := fun p => (hS p).2.2.1.c 2 _ rfl
    have z4_b_3 := fun p => (hS p).2.2.1.c 3 _ rfl
    have HS := Lib.hid hS; clear hS
    repeat (go_big_quiet_step ((first
          | (go_at_call 53; with_reducible exact M.later_of (C4.out _))
      )))
    refine wpQuiet_nil ?_
    intro w4 hw'
    obtain ⟨pL, hL⟩ := hw'
    have hb := pL.h; rw [← hL] at hb; clear hL pL
    have G4 : Below w.heap.size w w4 := Below.trans (by (repeat (with_reducible refine M.Below.drewN ?_ _)); go_grown) (hb.mono (by go_size))
    have V4_x : M.Var w4 (w.heap.size) #[.int .i64 x.lx, .int .i64 x.ly, .int .i64 x.hx, .int .i64 x.hy] := M.Var.mono (by (repeat (first | (with_reducible assumption) | exact M.var_alloc' _ _ _ (by first | rfl | simp [go_sem]) | (with_reducible refine M.Var.alloc ?_ _) | (with_reducible refine M.Var.drewN ?_ _) | (with_reducible refine M.Var.drew ?_) | (with_reducible refine M.Var.far ?_ _ _ (by first | omega | (simp [go_sem] <;> omega)))))) hb
    have V4_y : M.Var w4 (w.heap.size + 1) #[.int .i64 y.lx, .int .i64 y.ly, .int .i64 y.hx, .int .i64 y.hy] := M.Var.mono (by (repeat (first | (with_reducible assumption) | exact M.var_alloc' _ _ _ (by first | rfl | simp [go_sem]) | (with_reducible refine M.Var.alloc ?_ _) | (with_reducible refine M.Var.drewN ?_ _) | (with_reducible refine M.Var.drew ?_) | (with_reducible refine M.Var.far ?_ _ _ (by first | omega | (simp [go_sem] <;> omega)))))) hb
    have V4_v : M.Var w4 (w.heap.size + 1 + 1) #[.int .i64 v1, .int .i64 v2] := M.Var.mono (by (repeat (first | (with_reducible assumption) | exact M.var_alloc' _ _ _ (by first | rfl | simp [go_sem]) | (with_reducible refine M.Var.alloc ?_ _) | (with_reducible refine M.Var.drewN ?_ _) | (with_reducible refine M.Var.drew ?_) | (with_reducible refine M.Var.far ?_ _ _ (by first | omega | (simp [go_sem] <;> omega)))))) hb
    have V4_b : M.Var w4 (w2.heap.size) #[.int .i64 q.lx, .int .i64 q.ly, .int .i64 q.hx, .int .i64 q.hy] := M.Var.mono (by (repeat (first | (with_reducible assumption) | exact M.var_alloc' _ _ _ (by first | rfl | simp [go_sem]) | (with_reducible refine M.Var.alloc ?_ _) | (with_reducible refine M.Var.drewN ?_ _) | (with_reducible refine M.Var.drew ?_) | (with_reducible refine M.Var.far ?_ _ _ (by first | omega | (simp [go_sem] <;> omega)))))) hb
    have q4_x_0 := V4_x.c 0 _ rfl
    have q4_x_1 := V4_x.c 1 _ rfl
    have q4_x_2 := V4_x.c 2 _ rfl
    have q4_x_3 := V4_x.c 3 _ rfl
    have f4_x := V4_x.2.2; have L4_x := V4_x.lt; have N4_x := Nat.ne_of_gt L4_x; have M4_x := Nat.ne_of_lt L4_x
    have HV4_x := Lib.hid V4_x
    have q4_y_0 := V4_y.c 0 _ rfl
    have q4_y_1 := V4_y.c 1 _ rfl
    have q4_y_2 := V4_y.c 2 _ rfl
    have q4_y_3 := V4_y.c 3 _ rfl
    have f4_y := V4_y.2.2; have L4_y := V4_y.lt; have N4_y := Nat.ne_of_gt L4_y; have M4_y := Nat.ne_of_lt L4_y
    have HV4_y := Lib.hid V4_y
    have q4_v_0 := V4_v.c 0 _ rfl
    have q4_v_1 := V4_v.c 1 _ rfl
    have f4_v := V4_v.2.2; have L4_v := V4_v.lt; have N4_v := Nat.ne_of_gt L4_v; have M4_v := Nat.ne_of_lt L4_v
    have HV4_v := Lib.hid V4_v
    have q4_b_0 := V4_b.c 0 _ rfl
    have q4_b_1 := V4_b.c 1 _ rfl
    have q4_b_2 := V4_b.c 2 _ rfl
    have q4_b_3 := V4_b.c 3 _ rfl
    have f4_b := V4_b.2.2; have L4_b := V4_b.lt; have N4_b := Nat.ne_of_gt L4_b; have M4_b := Nat.ne_of_lt L4_b
    have HV4_b := Lib.hid V4_b
    have S4 := G4.size; clear hb
    clear z4_x_0 z4_x_1 z4_x_2 z4_x_3 z4_y_0 z4_y_1 z4_y_2 z4_y_3 z4_b_0 z4_b_1 z4_b_2 z4_b_3 HS
    go_wp2_with fail
    go_ret
    exact ⟨rfl, by (repeat (with_reducible refine M.Below.drewN ?_ _)); go_grown⟩
  · skip
    have C5 := Lib.hid c5; have C6 := Lib.hid c6; have C7 := Lib.hid c7
    clear c5 c6 c7
    go_enter Try.func7, Try.ntmps7
    go_wp2_with fail
    (with_reducible refine (c0.out _).mono ?_); rintro en w1 ⟨rfl, hb⟩
    have G1 : Below w.heap.size w w1 := Below.trans (by (repeat (with_reducible refine M.Below.drewN ?_ _)); go_grown) (hb.mono (by go_size))
    have V1_x : M.Var w1 (w.heap.size) #[.int .i64 x.lx, .int .i64 x.ly, .int .i64 x.hx, .int .i64 x.hy] := M.Var.mono (by (repeat (first | (with_reducible assumption) | exact M.var_alloc' _ _ _ (by first | rfl | simp [go_sem]) | (with_reducible refine M.Var.alloc ?_ _) | (with_reducible refine M.Var.drewN ?_ _) | (with_reducible refine M.Var.drew ?_) | (with_reducible refine M.Var.far ?_ _ _ (by first | omega | (simp [go_sem] <;> omega)))))) hb
    have V1_y : M.Var w1 (w.heap.size + 1) #[.int .i64 y.lx, .int .i64 y.ly, .int .i64 y.hx, .int .i64 y.hy] := M.Var.mono (by (repeat (first | (with_reducible assumption) | exact M.var_alloc' _ _ _ (by first | rfl | simp [go_sem]) | (with_reducible refine M.Var.alloc ?_ _) | (with_reducible refine M.Var.drewN ?_ _) | (with_reducible refine M.Var.drew ?_) | (with_reducible refine M.Var.far ?_ _ _ (by first | omega | (simp [go_sem] <;> omega)))))) hb
    have V1_v : M.Var w1 (w.heap.size + 1 + 1) #[.int .i64 v1, .int .i64 v2] := M.Var.mono (by (repeat (first | (with_reducible assumption) | exact M.var_alloc' _ _ _ (by first | rfl | simp [go_sem]) | (with_reducible refine M.Var.alloc ?_ _) | (with_reducible refine M.Var.drewN ?_ _) | (with_reducible refine M.Var.drew ?_) | (with_reducible refine M.Var.far ?_ _ _ (by first | omega | (simp [go_sem] <;> omega)))))) hb
    have q1_x_0 := V1_x.c 0 _ rfl
    have q1_x_1 := V1_x.c 1 _ rfl
    have q1_x_2 := V1_x.c 2 _ rfl
    have q1_x_3 := V1_x.c 3 _ rfl
    have f1_x := V1_x.2.2; have L1_x := V1_x.lt; have N1_x := Nat.ne_of_gt L1_x; have M1_x := Nat.ne_of_lt L1_x
    have HV1_x := Lib.hid V1_x
    have q1_y_0 := V1_y.c 0 _ rfl
    have q1_y_1 := V1_y.c 1 _ rfl
    have q1_y_2 := V1_y.c 2 _ rfl
    have q1_y_3 := V1_y.c 3 _ rfl
    have f1_y := V1_y.2.2; have L1_y := V1_y.lt; have N1_y := Nat.ne_of_gt L1_y; have M1_y := Nat.ne_of_lt L1_y
    have HV1_y := Lib.hid V1_y
    have q1_v_0 := V1_v.c 0 _ rfl
    have q1_v_1 := V1_v.c 1 _ rfl
    have f1_v := V1_v.2.2; have L1_v := V1_v.lt; have N1_v := Nat.ne_of_gt L1_v; have M1_v := Nat.ne_of_lt L1_v
    have HV1_v := Lib.hid V1_v
    have S1 := G1.size; clear hb
    go_wp2_with fail
    (with_reducible refine (C1.out _).mono ?_); rintro en w2 ⟨rfl, hb⟩
    have G2 : Below w.heap.size w w2 := Below.trans (by (repeat (with_reducible refine M.Below.drewN ?_ _)); go_grown) (hb.mono (by go_size))
    have V2_x : M.Var w2 (w.heap.size) #[.int .i64 x.lx, .int .i64 x.ly, .int .i64 x.hx, .int .i64 x.hy] := M.Var.mono (by (repeat (first | (with_reducible assumption) | exact M.var_alloc' _ _ _ (by first | rfl | simp [go_sem]) | (with_reducible refine M.Var.alloc ?_ _) | (with_reducible refine M.Var.drewN ?_ _) | (with_reducible refine M.Var.drew ?_) | (with_reducible refine M.Var.far ?_ _ _ (by first | omega | (simp [go_sem] <;> omega)))))) hb
    have V2_y : M.Var w2 (w.heap.size + 1) #[.int .i64 y.lx, .int .i64 y.ly, .int .i64 y.hx, .int .i64 y.hy] := M.Var.mono (by (repeat (first | (with_reducible assumption) | exact M.var_alloc' _ _ _ (by first | rfl | simp [go_sem]) | (with_reducible refine M.Var.alloc ?_ _) | (with_reducible refine M.Var.drewN ?_ _) | (with_reducible refine M.Var.drew ?_) | (with_reducible refine M.Var.far ?_ _ _ (by first | omega | (simp [go_sem] <;> omega)))))) hb
    have V2_v : M.Var w2 (w.heap.size + 1 + 1) #[.int .i64 v1, .int .i64 v2] := M.Var.mono (by (repeat (first | (with_reducible assumption) | exact M.var_alloc' _ _ _ (by first | rfl | simp [go_sem]) | (with_reducible refine M.Var.alloc ?_ _) | (with_reducible refine M.Var.drewN ?_ _) | (with_reducible refine M.Var.drew ?_) | (with_reducible refine M.Var.far ?_ _ _ (by first | omega | (simp [go_sem] <;> omega)))))) hb
    have q2_x_0 := V2_x.c 0 _ rfl
    have q2_x_1 := V2_x.c 1 _ rfl
    have q2_x_2 := V2_x.c 2 _ rfl
    have q2_x_3 := V2_x.c 3 _ rfl
    have f2_x := V2_x.2.2; have L2_x := V2_x.lt; have N2_x := Nat.ne_of_gt L2_x; have M2_x := Nat.ne_of_lt L2_x
    have HV2_x := Lib.hid V2_x
    have q2_y_0 := V2_y.c 0 _ rfl
    have q2_y_1 := V2_y.c 1 _ rfl
    have q2_y_2 := V2_y.c 2 _ rfl
    have q2_y_3 := V2_y.c 3 _ rfl
    have f2_y := V2_y.2.2; have L2_y := V2_y.lt; have N2_y := Nat.ne_of_gt L2_y; have M2_y := Nat.ne_of_lt L2_y
    have HV2_y := Lib.hid V2_y
    have q2_v_0 := V2_v.c 0 _ rfl
    have q2_v_1 := V2_v.c 1 _ rfl
    have f2_v := V2_v.2.2; have L2_v := V2_v.lt; have N2_v := Nat.ne_of_gt L2_v; have M2_v := Nat.ne_of_lt L2_v
    have HV2_v := Lib.hid V2_v
    have S2 := G2.size; clear hb
    go_wp2_with fail
    refine M.wp_region_later (fun w' => M.Var w' (w.heap.size) #[.int .i64 x.lx, .int .i64 x.ly, .int .i64 x.hx, .int .i64 x.hy] ∧ M.Var w' (w.heap.size + 1) #[.int .i64 y.lx, .int .i64 y.ly, .int .i64 y.hx, .int .i64 y.hy] ∧ M.Var w' (w.heap.size + 1 + 1) #[.int .i64 v1, .int .i64 v2] ∧ M.Var w' (w2.heap.size) #[.int .i64 q.lx, .int .i64 q.ly, .int .i64 q.hx, .int .i64 q.hy] ∧ True) (by kernel_rfl) (by kernel_rfl) (fun w' hb => ⟨M.Var.mono (by (repeat (first | (with_reducible assumption) | exact M.var_alloc' _ _ _ (by first | rfl | simp [go_sem]) | (with_reducible refine M.Var.alloc ?_ _) | (with_reducible refine M.Var.drewN ?_ _) | (with_reducible refine M.Var.drew ?_) | (with_reducible refine M.Var.far ?_ _ _ (by first | omega | (simp [go_sem] <;> omega))))) : M.Var _ (w.heap.size) #[.int .i64 x.lx, .int .i64 x.ly, .int .i64 x.hx, .int .i64 x.hy]) hb, M.Var.mono (by (repeat (first | (with_reducible assumption) | exact M.var_alloc' _ _ _ (by first | rfl | simp [go_sem]) | (with_reducible refine M.Var.alloc ?_ _) | (with_reducible refine M.Var.drewN ?_ _) | (with_reducible refine M.Var.drew ?_) | (with_reducible refine M.Var.far ?_ _ _ (by first | omega | (simp [go_sem] <;> omega))))) : M.Var _ (w.heap.size + 1) #[.int .i64 y.lx, .int .i64 y.ly, .int .i64 y.hx, .int .i64 y.hy]) hb, M.Var.mono (by (repeat (first | (with_reducible assumption) | exact M.var_alloc' _ _ _ (by first | rfl | simp [go_sem]) | (with_reducible refine M.Var.alloc ?_ _) | (with_reducible refine M.Var.drewN ?_ _) | (with_reducible refine M.Var.drew ?_) | (with_reducible refine M.Var.far ?_ _ _ (by first | omega | (simp [go_sem] <;> omega))))) : M.Var _ (w.heap.size + 1 + 1) #[.int .i64 v1, .int .i64 v2]) hb, M.Var.mono (by (repeat (first | (with_reducible assumption) | exact M.var_alloc' _ _ _ (by first | rfl | simp [go_sem]) | (with_reducible refine M.Var.alloc ?_ _) | (with_reducible refine M.Var.drewN ?_ _) | (with_reducible refine M.Var.drew ?_) | (with_reducible refine M.Var.far ?_ _ _ (by first | omega | (simp [go_sem] <;> omega))))) : M.Var _ (w2.heap.size) #[.int .i64 q.lx, .int .i64 q.ly, .int .i64 q.hx, .int .i64 q.hy]) hb, trivial⟩) ?_
    intro hS
    have z3_x_0 := fun p => (hS p).1.c 0 _ rfl
    have z3_x_1 := fun p => (hS p).1.c 1 _ rfl
    have z3_x_2 := fun p => (hS p).1.c 2 _ rfl
    have z3_x_3 := fun p => (hS p).1.c 3 _ rfl
    have z3_y_0 := fun p => (hS p).2.1.c 0 _ rfl
    have z3_y_1 := fun p => (hS p).2.1.c 1 _ rfl
    have z3_y_2 := fun p => (hS p).2.1.c 2 _ rfl
    have z3_y_3 := fun p => (hS p).2.1.c 3 _ rfl
    have z3_v_0 := fun p => (hS p).2.2.1.c 0 _ rfl
    have z3_v_1 := fun p => (hS p).2.2.1.c 1 _ rfl
    have z3_b_0 := fun p => (hS p).2.2.2.1.c 0 _ rfl
    have z3_b_1 := fun p => (hS p).2.2.2.1.c 1 _ rfl
    have z3_b_2 := fun p => (hS p).2.2.2.1.c 2 _ rfl
    have z3_b_3 := fun p => (hS p).2.2.2.1.c 3 _ rfl
    have HS := Lib.hid hS; clear hS
    repeat (go_big_quiet_step ((first
          | (go_at_call 53; with_reducible exact M.later_of (C2.out _))
          | (go_at_call 53; with_reducible exact M.later_of (C3.out _))
          | (go_at_call 43; with_reducible exact M.later_of (C5.out _))
          | (go_at_call 43; with_reducible exact M.later_of (C6.out _))
          | (go_at_call 43; with_reducible exact M.later_of (C7.out _))
      )))
    refine wpQuiet_nil ?_
    intro w3 hw'
    obtain ⟨pL, hL⟩ := hw'
    have hb := pL.h; rw [← hL] at hb; clear hL pL
    have G3 : Below w.heap.size w w3 := Below.trans (by (repeat (with_reducible refine M.Below.drewN ?_ _)); go_grown) (hb.mono (by go_size))
    have V3_x : M.Var w3 (w.heap.size) #[.int .i64 x.lx, .int .i64 x.ly, .int .i64 x.hx, .int .i64 x.hy] := M.Var.mono (by (repeat (first | (with_reducible assumption) | exact M.var_alloc' _ _ _ (by first | rfl | simp [go_sem]) | (with_reducible refine M.Var.alloc ?_ _) | (with_reducible refine M.Var.drewN ?_ _) | (with_reducible refine M.Var.drew ?_) | (with_reducible refine M.Var.far ?_ _ _ (by first | omega | (simp [go_sem] <;> omega)))))) hb
    have V3_y : M.Var w3 (w.heap.size + 1) #[.int .i64 y.lx, .int .i64 y.ly, .int .i64 y.hx, .int .i64 y.hy] := M.Var.mono (by (repeat (first | (with_reducible assumption) | exact M.var_alloc' _ _ _ (by first | rfl | simp [go_sem]) | (with_reducible refine M.Var.alloc ?_ _) | (with_reducible refine M.Var.drewN ?_ _) | (with_reducible refine M.Var.drew ?_) | (with_reducible refine M.Var.far ?_ _ _ (by first | omega | (simp [go_sem] <;> omega)))))) hb
    have V3_v : M.Var w3 (w.heap.size + 1 + 1) #[.int .i64 v1, .int .i64 v2] := M.Var.mono (by (repeat (first | (with_reducible assumption) | exact M.var_alloc' _ _ _ (by first | rfl | simp [go_sem]) | (with_reducible refine M.Var.alloc ?_ _) | (with_reducible refine M.Var.drewN ?_ _) | (with_reducible refine M.Var.drew ?_) | (with_reducible refine M.Var.far ?_ _ _ (by first | omega | (simp [go_sem] <;> omega)))))) hb
    have V3_b : M.Var w3 (w2.heap.size) #[.int .i64 q.lx, .int .i64 q.ly, .int .i64 q.hx, .int .i64 q.hy] := M.Var.mono (by (repeat (first | (with_reducible assumption) | exact M.var_alloc' _ _ _ (by first | rfl | simp [go_sem]) | (with_reducible refine M.Var.alloc ?_ _) | (with_reducible refine M.Var.drewN ?_ _) | (with_reducible refine M.Var.drew ?_) | (with_reducible refine M.Var.far ?_ _ _ (by first | omega | (simp [go_sem] <;> omega)))))) hb
    have q3_x_0 := V3_x.c 0 _ rfl
    have q3_x_1 := V3_x.c 1 _ rfl
    have q3_x_2 := V3_x.c 2 _ rfl
    have q3_x_3 := V3_x.c 3 _ rfl
    have f3_x := V3_x.2.2; have L3_x := V3_x.lt; have N3_x := Nat.ne_of_gt L3_x; have M3_x := Nat.ne_of_lt L3_x
    have HV3_x := Lib.hid V3_x
    have q3_y_0 := V3_y.c 0 _ rfl
    have q3_y_1 := V3_y.c 1 _ rfl
    have q3_y_2 := V3_y.c 2 _ rfl
    have q3_y_3 := V3_y.c 3 _ rfl
    have f3_y := V3_y.2.2; have L3_y := V3_y.lt; have N3_y := Nat.ne_of_gt L3_y; have M3_y := Nat.ne_of_lt L3_y
    have HV3_y := Lib.hid V3_y
    have q3_v_0 := V3_v.c 0 _ rfl
    have q3_v_1 := V3_v.c 1 _ rfl
    have f3_v := V3_v.2.2; have L3_v := V3_v.lt; have N3_v := Nat.ne_of_gt L3_v; have M3_v := Nat.ne_of_lt L3_v
    have HV3_v := Lib.hid V3_v
    have q3_b_0 := V3_b.c 0 _ rfl
    have q3_b_1 := V3_b.c 1 _ rfl
    have q3_b_2 := V3_b.c 2 _ rfl
    have q3_b_3 := V3_b.c 3 _ rfl
    have f3_b := V3_b.2.2; have L3_b := V3_b.lt; have N3_b := Nat.ne_of_gt L3_b; have M3_b := Nat.ne_of_lt L3_b
    have HV3_b := Lib.hid V3_b
    have S3 := G3.size; clear hb
    clear z3_x_0 z3_x_1 z3_x_2 z3_x_3 z3_y_0 z3_y_1 z3_y_2 z3_y_3 z3_v_0 z3_v_1 z3_b_0 z3_b_1 z3_b_2 z3_b_3 HS
    go_wp2_with fail
    refine M.wp_region_later (fun w' => M.Var w' (w.heap.size) #[.int .i64 x.lx, .int .i64 x.ly, .int .i64 x.hx, .int .i64 x.hy] ∧ M.Var w' (w.heap.size + 1) #[.int .i64 y.lx, .int .i64 y.ly, .int .i64 y.hx, .int .i64 y.hy] ∧ M.Var w' (w2.heap.size) #[.int .i64 q.lx, .int .i64 q.ly, .int .i64 q.hx, .int .i64 q.hy] ∧ True) (by kernel_rfl) (by kernel_rfl) (fun w' hb => ⟨M.Var.mono (by (repeat (first | (with_reducible assumption) | exact M.var_alloc' _ _ _ (by first | rfl | simp [go_sem]) | (with_reducible refine M.Var.alloc ?_ _) | (with_reducible refine M.Var.drewN ?_ _) | (with_reducible refine M.Var.drew ?_) | (with_reducible refine M.Var.far ?_ _ _ (by first | omega | (simp [go_sem] <;> omega))))) : M.Var _ (w.heap.size) #[.int .i64 x.lx, .int .i64 x.ly, .int .i64 x.hx, .int .i64 x.hy]) hb, M.Var.mono (by (repeat (first | (with_reducible assumption) | exact M.var_alloc' _ _ _ (by first | rfl | simp [go_sem]) | (with_reducible refine M.Var.alloc ?_ _) | (with_reducible refine M.Var.drewN ?_ _) | (with_reducible refine M.Var.drew ?_) | (with_reducible refine M.Var.far ?_ _ _ (by first | omega | (simp [go_sem] <;> omega))))) : M.Var _ (w.heap.size + 1) #[.int .i64 y.lx, .int .i64 y.ly, .int .i64 y.hx, .int .i64 y.hy]) hb, M.Var.mono (by (repeat (first | (with_reducible assumption) | exact M.var_alloc' _ _ _ (by first | rfl | simp [go_sem]) | (with_reducible refine M.Var.alloc ?_ _) | (with_reducible refine M.Var.drewN ?_ _) | (with_reducible refine M.Var.drew ?_) | (with_reducible refine M.Var.far ?_ _ _ (by first | omega | (simp [go_sem] <;> omega))))) : M.Var _ (w2.heap.size) #[.int .i64 q.lx, .int .i64 q.ly, .int .i64 q.hx, .int .i64 q.hy]) hb, trivial⟩) ?_
    intro hS
    have z4_x_0 := fun p => (hS p).1.c 0 _ rfl
    have z4_x_1 := fun p => (hS p).1.c 1 _ rfl
    have z4_x_2 := fun p => (hS p).1.c 2 _ rfl
    have z4_x_3 := fun p => (hS p).1.c 3 _ rfl
    have z4_y_0 := fun p => (hS p).2.1.c 0 _ rfl
    have z4_y_1 := fun p => (hS p).2.1.c 1 _ rfl
    have z4_y_2 := fun p => (hS p).2.1.c 2 _ rfl
    have z4_y_3 := fun p => (hS p).2.1.c 3 _ rfl
    have z4_b_0 := fun p => (hS p).2.2.1.c 0 _ rfl
    have z4_b_1 := fun p => (hS p).2.2.1.c 1 _ rfl
    have z4_b_2 := fun p => (hS p).2.2.1.c 2 _ rfl
    have z4_b_3 := fun p => (hS p).2.2.1.c 3 _ rfl
    have HS := Lib.hid hS; clear hS
    repeat (go_big_quiet_step ((first
          | (go_at_call 53; with_reducible exact M.later_of (C4.out _))
      )))
    refine wpQuiet_nil ?_
    intro w4 hw'
    obtain ⟨pL, hL⟩ := hw'
    have hb := pL.h; rw [← hL] at hb; clear hL pL
    have G4 : Below w.heap.size w w4 := Below.trans (by (repeat (with_reducible refine M.Below.drewN ?_ _)); go_grown) (hb.mono (by go_size))
    have V4_x : M.Var w4 (w.heap.size) #[.int .i64 x.lx, .int .i64 x.ly, .int .i64 x.hx, .int .i64 x.hy] := M.Var.mono (by (repeat (first | (with_reducible assumption) | exact M.var_alloc' _ _ _ (by first | rfl | simp [go_sem]) | (with_reducible refine M.Var.alloc ?_ _) | (with_reducible refine M.Var.drewN ?_ _) | (with_reducible refine M.Var.drew ?_) | (with_reducible refine M.Var.far ?_ _ _ (by first | omega | (simp [go_sem] <;> omega)))))) hb
    have V4_y : M.Var w4 (w.heap.size + 1) #[.int .i64 y.lx, .int .i64 y.ly, .int .i64 y.hx, .int .i64 y.hy] := M.Var.mono (by (repeat (first | (with_reducible assumption) | exact M.var_alloc' _ _ _ (by first | rfl | simp [go_sem]) | (with_reducible refine M.Var.alloc ?_ _) | (with_reducible refine M.Var.drewN ?_ _) | (with_reducible refine M.Var.drew ?_) | (with_reducible refine M.Var.far ?_ _ _ (by first | omega | (simp [go_sem] <;> omega)))))) hb
    have V4_v : M.Var w4 (w.heap.size + 1 + 1) #[.int .i64 v1, .int .i64 v2] := M.Var.mono (by (repeat (first | (with_reducible assumption) | exact M.var_alloc' _ _ _ (by first | rfl | simp [go_sem]) | (with_reducible refine M.Var.alloc ?_ _) | (with_reducible refine M.Var.drewN ?_ _) | (with_reducible refine M.Var.drew ?_) | (with_reducible refine M.Var.far ?_ _ _ (by first | omega | (simp [go_sem] <;> omega)))))) hb
    have V4_b : M.Var w4 (w2.heap.size) #[.int .i64 q.lx, .int .i64 q.ly, .int .i64 q.hx, .int .i64 q.hy] := M.Var.mono (by (repeat (first | (with_reducible assumption) | exact M.var_alloc' _ _ _ (by first | rfl | simp [go_sem]) | (with_reducible refine M.Var.alloc ?_ _) | (with_reducible refine M.Var.drewN ?_ _) | (with_reducible refine M.Var.drew ?_) | (with_reducible refine M.Var.far ?_ _ _ (by first | omega | (simp [go_sem] <;> omega)))))) hb
    have q4_x_0 := V4_x.c 0 _ rfl
    have q4_x_1 := V4_x.c 1 _ rfl
    have q4_x_2 := V4_x.c 2 _ rfl
    have q4_x_3 := V4_x.c 3 _ rfl
    have f4_x := V4_x.2.2; have L4_x := V4_x.lt; have N4_x := Nat.ne_of_gt L4_x; have M4_x := Nat.ne_of_lt L4_x
    have HV4_x := Lib.hid V4_x
    have q4_y_0 := V4_y.c 0 _ rfl
    have q4_y_1 := V4_y.c 1 _ rfl
    have q4_y_2 := V4_y.c 2 _ rfl
    have q4_y_3 := V4_y.c 3 _ rfl
    have f4_y := V4_y.2.2; have L4_y := V4_y.lt; have N4_y := Nat.ne_of_gt L4_y; have M4_y := Nat.ne_of_lt L4_y
    have HV4_y := Lib.hid V4_y
    have q4_v_0 := V4_v.c 0 _ rfl
    have q4_v_1 := V4_v.c 1 _ rfl
    have f4_v := V4_v.2.2; have L4_v := V4_v.lt; have N4_v := Nat.ne_of_gt L4_v; have M4_v := Nat.ne_of_lt L4_v
    have HV4_v := Lib.hid V4_v
    have q4_b_0 := V4_b.c 0 _ rfl
    have q4_b_1 := V4_b.c 1 _ rfl
    have q4_b_2 := V4_b.c 2 _ rfl
    have q4_b_3 := V4_b.c 3 _ rfl
    have f4_b := V4_b.2.2; have L4_b := V4_b.lt; have N4_b := Nat.ne_of_gt L4_b; have M4_b := Nat.ne_of_lt L4_b
    have HV4_b := Lib.hid V4_b
    have S4 := G4.size; clear hb
    clear z4_x_0 z4_x_1 z4_x_2 z4_x_3 z4_y_0 z4_y_1 z4_y_2 z4_y_3 z4_b_0 z4_b_1 z4_b_2 z4_b_3 HS
    go_wp2_with fail
    go_ret
    exact ⟨rfl, by (repeat (with_reducible refine M.Below.drewN ?_ _)); go_grown⟩
  · skip
    have C5 := Lib.hid c5; have C6 := Lib.hid c6; have C7 := Lib.hid c7
    clear c5 c6 c7
    go_enter Try.func7, Try.ntmps7
    go_wp2_with fail
    (with_reducible refine (c0.out _).mono ?_); rintro en w1 ⟨rfl, hb⟩
    have G1 : Below w.heap.size w w1 := Below.trans (by (repeat (with_reducible refine M.Below.drewN ?_ _)); go_grown) (hb.mono (by go_size))
    have V1_x : M.Var w1 (w.heap.size) #[.int .i64 x.lx, .int .i64 x.ly, .int .i64 x.hx, .int .i64 x.hy] := M.Var.mono (by (repeat (first | (with_reducible assumption) | exact M.var_alloc' _ _ _ (by first | rfl | simp [go_sem]) | (with_reducible refine M.Var.alloc ?_ _) | (with_reducible refine M.Var.drewN ?_ _) | (with_reducible refine M.Var.drew ?_) | (with_reducible refine M.Var.far ?_ _ _ (by first | omega | (simp [go_sem] <;> omega)))))) hb
    have V1_y : M.Var w1 (w.heap.size + 1) #[.int .i64 y.lx, .int .i64 y.ly, .int .i64 y.hx, .int .i64 y.hy] := M.Var.mono (by (repeat (first | (with_reducible assumption) | exact M.var_alloc' _ _ _ (by first | rfl | simp [go_sem]) | (with_reducible refine M.Var.alloc ?_ _) | (with_reducible refine M.Var.drewN ?_ _) | (with_reducible refine M.Var.drew ?_) | (with_reducible refine M.Var.far ?_ _ _ (by first | omega | (simp [go_sem] <;> omega)))))) hb
    have V1_v : M.Var w1 (w.heap.size + 1 + 1) #[.int .i64 v1, .int .i64 v2] := M.Var.mono (by (repeat (first | (with_reducible assumption) | exact M.var_alloc' _ _ _ (by first | rfl | simp [go_sem]) | (with_reducible refine M.Var.alloc ?_ _) | (with_reducible refine M.Var.drewN ?_ _) | (with_reducible refine M.Var.drew ?_) | (with_reducible refine M.Var.far ?_ _ _ (by first | omega | (simp [go_sem] <;> omega)))))) hb
    have q1_x_0 := V1_x.c 0 _ rfl
    have q1_x_1 := V1_x.c 1 _ rfl
    have q1_x_2 := V1_x.c 2 _ rfl
    have q1_x_3 := V1_x.c 3 _ rfl
    have f1_x := V1_x.2.2; have L1_x := V1_x.lt; have N1_x := Nat.ne_of_gt L1_x; have M1_x := Nat.ne_of_lt L1_x
    have HV1_x := Lib.hid V1_x
    have q1_y_0 := V1_y.c 0 _ rfl
    have q1_y_1 := V1_y.c 1 _ rfl
    have q1_y_2 := V1_y.c 2 _ rfl
    have q1_y_3 := V1_y.c 3 _ rfl
    have f1_y := V1_y.2.2; have L1_y := V1_y.lt; have N1_y := Nat.ne_of_gt L1_y; have M1_y := Nat.ne_of_lt L1_y
    have HV1_y := Lib.hid V1_y
    have q1_v_0 := V1_v.c 0 _ rfl
    have q1_v_1 := V1_v.c 1 _ rfl
    have f1_v := V1_v.2.2; have L1_v := V1_v.lt; have N1_v := Nat.ne_of_gt L1_v; have M1_v := Nat.ne_of_lt L1_v
    have HV1_v := Lib.hid V1_v
    have S1 := G1.size; clear hb
    go_wp2_with fail
    (with_reducible refine (C1.out _).mono ?_); rintro en w2 ⟨rfl, hb⟩
    have G2 : Below w.heap.size w w2 := Below.trans (by (repeat (with_reducible refine M.Below.drewN ?_ _)); go_grown) (hb.mono (by go_size))
    have V2_x : M.Var w2 (w.heap.size) #[.int .i64 x.lx, .int .i64 x.ly, .int .i64 x.hx, .int .i64 x.hy] := M.Var.mono (by (repeat (first | (with_reducible assumption) | exact M.var_alloc' _ _ _ (by first | rfl | simp [go_sem]) | (with_reducible refine M.Var.alloc ?_ _) | (with_reducible refine M.Var.drewN ?_ _) | (with_reducible refine M.Var.drew ?_) | (with_reducible refine M.Var.far ?_ _ _ (by first | omega | (simp [go_sem] <;> omega)))))) hb
    have V2_y : M.Var w2 (w.heap.size + 1) #[.int .i64 y.lx, .int .i64 y.ly, .int .i64 y.hx, .int .i64 y.hy] := M.Var.mono (by (repeat (first | (with_reducible assumption) | exact M.var_alloc' _ _ _ (by first | rfl | simp [go_sem]) | (with_reducible refine M.Var.alloc ?_ _) | (with_reducible refine M.Var.drewN ?_ _) | (with_reducible refine M.Var.drew ?_) | (with_reducible refine M.Var.far ?_ _ _ (by first | omega | (simp [go_sem] <;> omega)))))) hb
    have V2_v : M.Var w2 (w.heap.size + 1 + 1) #[.int .i64 v1, .int .i64 v2] := M.Var.mono (by (repeat (first | (with_reducible assumption) | exact M.var_alloc' _ _ _ (by first | rfl | simp [go_sem]) | (with_reducible refine M.Var.alloc ?_ _) | (with_reducible refine M.Var.drewN ?_ _) | (with_reducible refine M.Var.drew ?_) | (with_reducible refine M.Var.far ?_ _ _ (by first | omega | (simp [go_sem] <;> omega)))))) hb
    have q2_x_0 := V2_x.c 0 _ rfl
    have q2_x_1 := V2_x.c 1 _ rfl
    have q2_x_2 := V2_x.c 2 _ rfl
    have q2_x_3 := V2_x.c 3 _ rfl
    have f2_x := V2_x.2.2; have L2_x := V2_x.lt; have N2_x := Nat.ne_of_gt L2_x; have M2_x := Nat.ne_of_lt L2_x
    have HV2_x := Lib.hid V2_x
    have q2_y_0 := V2_y.c 0 _ rfl
    have q2_y_1 := V2_y.c 1 _ rfl
    have q2_y_2 := V2_y.c 2 _ rfl
    have q2_y_3 := V2_y.c 3 _ rfl
    have f2_y := V2_y.2.2; have L2_y := V2_y.lt; have N2_y := Nat.ne_of_gt L2_y; have M2_y := Nat.ne_of_lt L2_y
    have HV2_y := Lib.hid V2_y
    have q2_v_0 := V2_v.c 0 _ rfl
    have q2_v_1 := V2_v.c 1 _ rfl
    have f2_v := V2_v.2.2; have L2_v := V2_v.lt; have N2_v := Nat.ne_of_gt L2_v; have M2_v := Nat.ne_of_lt L2_v
    have HV2_v := Lib.hid V2_v
    have S2 := G2.size; clear hb
    go_wp2_with fail
    refine M.wp_region_later (fun w' => M.Var w' (w.heap.size) #[.int .i64 x.lx, .int .i64 x.ly, .int .i64 x.hx, .int .i64 x.hy] ∧ M.Var w' (w.heap.size + 1) #[.int .i64 y.lx, .int .i64 y.ly, .int .i64 y.hx, .int .i64 y.hy] ∧ M.Var w' (w.heap.size + 1 + 1) #[.int .i64 v1, .int .i64 v2] ∧ M.Var w' (w2.heap.size) #[.int .i64 q.lx, .int .i64 q.ly, .int .i64 q.hx, .int .i64 q.hy] ∧ True) (by kernel_rfl) (by kernel_rfl) (fun w' hb => ⟨M.Var.mono (by (repeat (first | (with_reducible assumption) | exact M.var_alloc' _ _ _ (by first | rfl | simp [go_sem]) | (with_reducible refine M.Var.alloc ?_ _) | (with_reducible refine M.Var.drewN ?_ _) | (with_reducible refine M.Var.drew ?_) | (with_reducible refine M.Var.far ?_ _ _ (by first | omega | (simp [go_sem] <;> omega))))) : M.Var _ (w.heap.size) #[.int .i64 x.lx, .int .i64 x.ly, .int .i64 x.hx, .int .i64 x.hy]) hb, M.Var.mono (by (repeat (first | (with_reducible assumption) | exact M.var_alloc' _ _ _ (by first | rfl | simp [go_sem]) | (with_reducible refine M.Var.alloc ?_ _) | (with_reducible refine M.Var.drewN ?_ _) | (with_reducible refine M.Var.drew ?_) | (with_reducible refine M.Var.far ?_ _ _ (by first | omega | (simp [go_sem] <;> omega))))) : M.Var _ (w.heap.size + 1) #[.int .i64 y.lx, .int .i64 y.ly, .int .i64 y.hx, .int .i64 y.hy]) hb, M.Var.mono (by (repeat (first | (with_reducible assumption) | exact M.var_alloc' _ _ _ (by first | rfl | simp [go_sem]) | (with_reducible refine M.Var.alloc ?_ _) | (with_reducible refine M.Var.drewN ?_ _) | (with_reducible refine M.Var.drew ?_) | (with_reducible refine M.Var.far ?_ _ _ (by first | omega | (simp [go_sem] <;> omega))))) : M.Var _ (w.heap.size + 1 + 1) #[.int .i64 v1, .int .i64 v2]) hb, M.Var.mono (by (repeat (first | (with_reducible assumption) | exact M.var_alloc' _ _ _ (by first | rfl | simp [go_sem]) | (with_reducible refine M.Var.alloc ?_ _) | (with_reducible refine M.Var.drewN ?_ _) | (with_reducible refine M.Var.drew ?_) | (with_reducible refine M.Var.far ?_ _ _ (by first | omega | (simp [go_sem] <;> omega))))) : M.Var _ (w2.heap.size) #[.int .i64 q.lx, .int .i64 q.ly, .int .i64 q.hx, .int .i64 q.hy]) hb, trivial⟩) ?_
    intro hS
    have z3_x_0 := fun p => (hS p).1.c 0 _ rfl
    have z3_x_1 := fun p => (hS p).1.c 1 _ rfl
    have z3_x_2 := fun p => (hS p).1.c 2 _ rfl
    have z3_x_3 := fun p => (hS p).1.c 3 _ rfl
    have z3_y_0 := fun p => (hS p).2.1.c 0 _ rfl
    have z3_y_1 := fun p => (hS p).2.1.c 1 _ rfl
    have z3_y_2 := fun p => (hS p).2.1.c 2 _ rfl
    have z3_y_3 := fun p => (hS p).2.1.c 3 _ rfl
    have z3_v_0 := fun p => (hS p).2.2.1.c 0 _ rfl
    have z3_v_1 := fun p => (hS p).2.2.1.c 1 _ rfl
    have z3_b_0 := fun p => (hS p).2.2.2.1.c 0 _ rfl
    have z3_b_1 := fun p => (hS p).2.2.2.1.c 1 _ rfl
    have z3_b_2 := fun p => (hS p).2.2.2.1.c 2 _ rfl
    have z3_b_3 := fun p => (hS p).2.2.2.1.c 3 _ rfl
    have HS := Lib.hid hS; clear hS
    repeat (go_big_quiet_step ((first
          | (go_at_call 53; with_reducible exact M.later_of (C2.out _))
          | (go_at_call 53; with_reducible exact M.later_of (C3.out _))
          | (go_at_call 43; with_reducible exact M.later_of (C5.out _))
          | (go_at_call 43; with_reducible exact M.later_of (C6.out _))
          | (go_at_call 43; with_reducible exact M.later_of (C7.out _))
      )))
    refine wpQuiet_nil ?_
    intro w3 hw'
    obtain ⟨pL, hL⟩ := hw'
    have hb := pL.h; rw [← hL] at hb; clear hL pL
    have G3 : Below w.heap.size w w3 := Below.trans (by (repeat (with_reducible refine M.Below.drewN ?_ _)); go_grown) (hb.mono (by go_size))
    have V3_x : M.Var w3 (w.heap.size) #[.int .i64 x.lx, .int .i64 x.ly, .int .i64 x.hx, .int .i64 x.hy] := M.Var.mono (by (repeat (first | (with_reducible assumption) | exact M.var_alloc' _ _ _ (by first | rfl | simp [go_sem]) | (with_reducible refine M.Var.alloc ?_ _) | (with_reducible refine M.Var.drewN ?_ _) | (with_reducible refine M.Var.drew ?_) | (with_reducible refine M.Var.far ?_ _ _ (by first | omega | (simp [go_sem] <;> omega)))))) hb
    have V3_y : M.Var w3 (w.heap.size + 1) #[.int .i64 y.lx, .int .i64 y.ly, .int .i64 y.hx, .int .i64 y.hy] := M.Var.mono (by (repeat (first | (with_reducible assumption) | exact M.var_alloc' _ _ _ (by first | rfl | simp [go_sem]) | (with_reducible refine M.Var.alloc ?_ _) | (with_reducible refine M.Var.drewN ?_ _) | (with_reducible refine M.Var.drew ?_) | (with_reducible refine M.Var.far ?_ _ _ (by first | omega | (simp [go_sem] <;> omega)))))) hb
    have V3_v : M.Var w3 (w.heap.size + 1 + 1) #[.int .i64 v1, .int .i64 v2] := M.Var.mono (by (repeat (first | (with_reducible assumption) | exact M.var_alloc' _ _ _ (by first | rfl | simp [go_sem]) | (with_reducible refine M.Var.alloc ?_ _) | (with_reducible refine M.Var.drewN ?_ _) | (with_reducible refine M.Var.drew ?_) | (with_reducible refine M.Var.far ?_ _ _ (by first | omega | (simp [go_sem] <;> omega)))))) hb
    have V3_b : M.Var w3 (w2.heap.size) #[.int .i64 q.lx, .int .i64 q.ly, .int .i64 q.hx, .int .i64 q.hy] := M.Var.mono (by (repeat (first | (with_reducible assumption) | exact M.var_alloc' _ _ _ (by first | rfl | simp [go_sem]) | (with_reducible refine M.Var.alloc ?_ _) | (with_reducible refine M.Var.drewN ?_ _) | (with_reducible refine M.Var.drew ?_) | (with_reducible refine M.Var.far ?_ _ _ (by first | omega | (simp [go_sem] <;> omega)))))) hb
    have q3_x_0 := V3_x.c 0 _ rfl
    have q3_x_1 := V3_x.c 1 _ rfl
    have q3_x_2 := V3_x.c 2 _ rfl
    have q3_x_3 := V3_x.c 3 _ rfl
    have f3_x := V3_x.2.2; have L3_x := V3_x.lt; have N3_x := Nat.ne_of_gt L3_x; have M3_x := Nat.ne_of_lt L3_x
    have HV3_x := Lib.hid V3_x
    have q3_y_0 := V3_y.c 0 _ rfl
    have q3_y_1 := V3_y.c 1 _ rfl
    have q3_y_2 := V3_y.c 2 _ rfl
    have q3_y_3 := V3_y.c 3 _ rfl
    have f3_y := V3_y.2.2; have L3_y := V3_y.lt; have N3_y := Nat.ne_of_gt L3_y; have M3_y := Nat.ne_of_lt L3_y
    have HV3_y := Lib.hid V3_y
    have q3_v_0 := V3_v.c 0 _ rfl
    have q3_v_1 := V3_v.c 1 _ rfl
    have f3_v := V3_v.2.2; have L3_v := V3_v.lt; have N3_v := Nat.ne_of_gt L3_v; have M3_v := Nat.ne_of_lt L3_v
    have HV3_v := Lib.hid V3_v
    have q3_b_0 := V3_b.c 0 _ rfl
    have q3_b_1 := V3_b.c 1 _ rfl
    have q3_b_2 := V3_b.c 2 _ rfl
    have q3_b_3 := V3_b.c 3 _ rfl
    have f3_b := V3_b.2.2; have L3_b := V3_b.lt; have N3_b := Nat.ne_of_gt L3_b; have M3_b := Nat.ne_of_lt L3_b
    have HV3_b := Lib.hid V3_b
    have S3 := G3.size; clear hb
    clear z3_x_0 z3_x_1 z3_x_2 z3_x_3 z3_y_0 z3_y_1 z3_y_2 z3_y_3 z3_v_0 z3_v_1 z3_b_0 z3_b_1 z3_b_2 z3_b_3 HS
    go_wp2_with fail
    refine M.wp_region_later (fun w' => M.Var w' (w.heap.size) #[.int .i64 x.lx, .int .i64 x.ly, .int .i64 x.hx, .int .i64 x.hy] ∧ M.Var w' (w.heap.size + 1) #[.int .i64 y.lx, .int .i64 y.ly, .int .i64 y.hx, .int .i64 y.hy] ∧ M.Var w' (w2.heap.size) #[.int .i64 q.lx, .int .i64 q.ly, .int .i64 q.hx, .int .i64 q.hy] ∧ True) (by kernel_rfl) (by kernel_rfl) (fun w' hb => ⟨M.Var.mono (by (repeat (first | (with_reducible assumption) | exact M.var_alloc' _ _ _ (by first | rfl | simp [go_sem]) | (with_reducible refine M.Var.alloc ?_ _) | (with_reducible refine M.Var.drewN ?_ _) | (with_reducible refine M.Var.drew ?_) | (with_reducible refine M.Var.far ?_ _ _ (by first | omega | (simp [go_sem] <;> omega))))) : M.Var _ (w.heap.size) #[.int .i64 x.lx, .int .i64 x.ly, .int .i64 x.hx, .int .i64 x.hy]) hb, M.Var.mono (by (repeat (first | (with_reducible assumption) | exact M.var_alloc' _ _ _ (by first | rfl | simp [go_sem]) | (with_reducible refine M.Var.alloc ?_ _) | (with_reducible refine M.Var.drewN ?_ _) | (with_reducible refine M.Var.drew ?_) | (with_reducible refine M.Var.far ?_ _ _ (by first | omega | (simp [go_sem] <;> omega))))) : M.Var _ (w.heap.size + 1) #[.int .i64 y.lx, .int .i64 y.ly, .int .i64 y.hx, .int .i64 y.hy]) hb, M.Var.mono (by (repeat (first | (with_reducible assumption) | exact M.var_alloc' _ _ _ (by first | rfl | simp [go_sem]) | (with_reducible refine M.Var.alloc ?_ _) | (with_reducible refine M.Var.drewN ?_ _) | (with_reducible refine M.Var.drew ?_) | (with_reducible refine M.Var.far ?_ _ _ (by first | omega | (simp [go_sem] <;> omega))))) : M.Var _ (w2.heap.size) #[.int .i64 q.lx, .int .i64 q.ly, .int .i64 q.hx, .int .i64 q.hy]) hb, trivial⟩) ?_
    intro hS
    have z4_x_0 := fun p => (hS p).1.c 0 _ rfl
    have z4_x_1 := fun p => (hS p).1.c 1 _ rfl
    have z4_x_2 := fun p => (hS p).1.c 2 _ rfl
    have z4_x_3 := fun p => (hS p).1.c 3 _ rfl
    have z4_y_0 := fun p => (hS p).2.1.c 0 _ rfl
    have z4_y_1 := fun p => (hS p).2.1.c 1 _ rfl
    have z4_y_2 := fun p => (hS p).2.1.c 2 _ rfl
    have z4_y_3 := fun p => (hS p).2.1.c 3 _ rfl
    have z4_b_0 := fun p => (hS p).2.2.1.c 0 _ rfl
    have z4_b_1 := fun p => (hS p).2.2.1.c 1 _ rfl
    have z4_b_2 := fun p => (hS p).2.2.1.c 2 _ rfl
    have z4_b_3 := fun p => (hS p).2.2.1.c 3 _ rfl
    have HS := Lib.hid hS; clear hS
    repeat (go_big_quiet_step ((first
          | (go_at_call 53; with_reducible exact M.later_of (C4.out _))
      )))
    refine wpQuiet_nil ?_
    intro w4 hw'
    obtain ⟨pL, hL⟩ := hw'
    have hb := pL.h; rw [← hL] at hb; clear hL pL
    have G4 : Below w.heap.size w w4 := Below.trans (by (repeat (with_reducible refine M.Below.drewN ?_ _)); go_grown) (hb.mono (by go_size))
    have V4_x : M.Var w4 (w.heap.size) #[.int .i64 x.lx, .int .i64 x.ly, .int .i64 x.hx, .int .i64 x.hy] := M.Var.mono (by (repeat (first | (with_reducible assumption) | exact M.var_alloc' _ _ _ (by first | rfl | simp [go_sem]) | (with_reducible refine M.Var.alloc ?_ _) | (with_reducible refine M.Var.drewN ?_ _) | (with_reducible refine M.Var.drew ?_) | (with_reducible refine M.Var.far ?_ _ _ (by first | omega | (simp [go_sem] <;> omega)))))) hb
    have V4_y : M.Var w4 (w.heap.size + 1) #[.int .i64 y.lx, .int .i64 y.ly, .int .i64 y.hx, .int .i64 y.hy] := M.Var.mono (by (repeat (first | (with_reducible assumption) | exact M.var_alloc' _ _ _ (by first | rfl | simp [go_sem]) | (with_reducible refine M.Var.alloc ?_ _) | (with_reducible refine M.Var.drewN ?_ _) | (with_reducible refine M.Var.drew ?_) | (with_reducible refine M.Var.far ?_ _ _ (by first | omega | (simp [go_sem] <;> omega)))))) hb
    have V4_v : M.Var w4 (w.heap.size + 1 + 1) #[.int .i64 v1, .int .i64 v2] := M.Var.mono (by (repeat (first | (with_reducible assumption) | exact M.var_alloc' _ _ _ (by first | rfl | simp [go_sem]) | (with_reducible refine M.Var.alloc ?_ _) | (with_reducible refine M.Var.drewN ?_ _) | (with_reducible refine M.Var.drew ?_) | (with_reducible refine M.Var.far ?_ _ _ (by first | omega | (simp [go_sem] <;> omega)))))) hb
    have V4_b : M.Var w4 (w2.heap.size) #[.int .i64 q.lx, .int .i64 q.ly, .int .i64 q.hx, .int .i64 q.hy] := M.Var.mono (by (repeat (first | (with_reducible assumption) | exact M.var_alloc' _ _ _ (by first | rfl | simp [go_sem]) | (with_reducible refine M.Var.alloc ?_ _) | (with_reducible refine M.Var.drewN ?_ _) | (with_reducible refine M.Var.drew ?_) | (with_reducible refine M.Var.far ?_ _ _ (by first | omega | (simp [go_sem] <;> omega)))))) hb
    have q4_x_0 := V4_x.c 0 _ rfl
    have q4_x_1 := V4_x.c 1 _ rfl
    have q4_x_2 := V4_x.c 2 _ rfl
    have q4_x_3 := V4_x.c 3 _ rfl
    have f4_x := V4_x.2.2; have L4_x := V4_x.lt; have N4_x := Nat.ne_of_gt L4_x; have M4_x := Nat.ne_of_lt L4_x
    have HV4_x := Lib.hid V4_x
    have q4_y_0 := V4_y.c 0 _ rfl
    have q4_y_1 := V4_y.c 1 _ rfl
    have q4_y_2 := V4_y.c 2 _ rfl
    have q4_y_3 := V4_y.c 3 _ rfl
    have f4_y := V4_y.2.2; have L4_y := V4_y.lt; have N4_y := Nat.ne_of_gt L4_y; have M4_y := Nat.ne_of_lt L4_y
    have HV4_y := Lib.hid V4_y
    have q4_v_0 := V4_v.c 0 _ rfl
    have q4_v_1 := V4_v.c 1 _ rfl
    have f4_v := V4_v.2.2; have L4_v := V4_v.lt; have N4_v := Nat.ne_of_gt L4_v; have M4_v := Nat.ne_of_lt L4_v
    have HV4_v := Lib.hid V4_v
    have q4_b_0 := V4_b.c 0 _ rfl
    have q4_b_1 := V4_b.c 1 _ rfl
    have q4_b_2 := V4_b.c 2 _ rfl
    have q4_b_3 := V4_b.c 3 _ rfl
    have f4_b := V4_b.2.2; have L4_b := V4_b.lt; have N4_b := Nat.ne_of_gt L4_b; have M4_b := Nat.ne_of_lt L4_b
    have HV4_b := Lib.hid V4_b
    have S4 := G4.size; clear hb
    clear z4_x_0 z4_x_1 z4_x_2 z4_x_3 z4_y_0 z4_y_1 z4_y_2 z4_y_3 z4_b_0 z4_b_1 z4_b_2 z4_b_3 HS
    go_wp2_with fail
    go_ret
    exact ⟨rfl, by (repeat (with_reducible refine M.Below.drewN ?_ _)); go_grown⟩
  · skip
    have C5 := Lib.hid c5; have C6 := Lib.hid c6; have C7 := Lib.hid c7
    clear c5 c6 c7
    go_enter Try.func7, Try.ntmps7
    go_wp2_with fail
    (with_reducible refine (c0.out _).mono ?_); rintro en w1 ⟨rfl, hb⟩
    have G1 : Below w.heap.size w w1 := Below.trans (by (repeat (with_reducible refine M.Below.drewN ?_ _)); go_grown) (hb.mono (by go_size))
    have V1_x : M.Var w1 (w.heap.size) #[.int .i64 x.lx, .int .i64 x.ly, .int .i64 x.hx, .int .i64 x.hy] := M.Var.mono (by (repeat (first | (with_reducible assumption) | exact M.var_alloc' _ _ _ (by first | rfl | simp [go_sem]) | (with_reducible refine M.Var.alloc ?_ _) | (with_reducible refine M.Var.drewN ?_ _) | (with_reducible refine M.Var.drew ?_) | (with_reducible refine M.Var.far ?_ _ _ (by first | omega | (simp [go_sem] <;> omega)))))) hb
    have V1_y : M.Var w1 (w.heap.size + 1) #[.int .i64 y.lx, .int .i64 y.ly, .int .i64 y.hx, .int .i64 y.hy] := M.Var.mono (by (repeat (first | (with_reducible assumption) | exact M.var_alloc' _ _ _ (by first | rfl | simp [go_sem]) | (with_reducible refine M.Var.alloc ?_ _) | (with_reducible refine M.Var.drewN ?_ _) | (with_reducible refine M.Var.drew ?_) | (with_reducible refine M.Var.far ?_ _ _ (by first | omega | (simp [go_sem] <;> omega)))))) hb
    have V1_v : M.Var w1 (w.heap.size + 1 + 1) #[.int .i64 v1, .int .i64 v2] := M.Var.mono (by (repeat (first | (with_reducible assumption) | exact M.var_alloc' _ _ _ (by first | rfl | simp [go_sem]) | (with_reducible refine M.Var.alloc ?_ _) | (with_reducible refine M.Var.drewN ?_ _) | (with_reducible refine M.Var.drew ?_) | (with_reducible refine M.Var.far ?_ _ _ (by first | omega | (simp [go_sem] <;> omega)))))) hb
    have q1_x_0 := V1_x.c 0 _ rfl
    have q1_x_1 := V1_x.c 1 _ rfl
    have q1_x_2 := V1_x.c 2 _ rfl
    have q1_x_3 := V1_x.c 3 _ rfl
    have f1_x := V1_x.2.2; have L1_x := V1_x.lt; have N1_x := Nat.ne_of_gt L1_x; have M1_x := Nat.ne_of_lt L1_x
    have HV1_x := Lib.hid V1_x
    have q1_y_0 := V1_y.c 0 _ rfl
    have q1_y_1 := V1_y.c 1 _ rfl
    have q1_y_2 := V1_y.c 2 _ rfl
    have q1_y_3 := V1_y.c 3 _ rfl
    have f1_y := V1_y.2.2; have L1_y := V1_y.lt; have N1_y := Nat.ne_of_gt L1_y; have M1_y := Nat.ne_of_lt L1_y
    have HV1_y := Lib.hid V1_y
    have q1_v_0 := V1_v.c 0 _ rfl
    have q1_v_1 := V1_v.c 1 _ rfl
    have f1_v := V1_v.2.2; have L1_v := V1_v.lt; have N1_v := Nat.ne_of_gt L1_v; have M1_v := Nat.ne_of_lt L1_v
    have HV1_v := Lib.hid V1_v
    have S1 := G1.size; clear hb
    go_wp2_with fail
    (with_reducible refine (C1.out _).mono ?_); rintro en w2 ⟨rfl, hb⟩
    have G2 : Below w.heap.size w w2 := Below.trans (by (repeat (with_reducible refine M.Below.drewN ?_ _)); go_grown) (hb.mono (by go_size))
    have V2_x : M.Var w2 (w.heap.size) #[.int .i64 x.lx, .int .i64 x.ly, .int .i64 x.hx, .int .i64 x.hy] := M.Var.mono (by (repeat (first | (with_reducible assumption) | exact M.var_alloc' _ _ _ (by first | rfl | simp [go_sem]) | (with_reducible refine M.Var.alloc ?_ _) | (with_reducible refine M.Var.drewN ?_ _) | (with_reducible refine M.Var.drew ?_) | (with_reducible refine M.Var.far ?_ _ _ (by first | omega | (simp [go_sem] <;> omega)))))) hb
    have V2_y : M.Var w2 (w.heap.size + 1) #[.int .i64 y.lx, .int .i64 y.ly, .int .i64 y.hx, .int .i64 y.hy] := M.Var.mono (by (repeat (first | (with_reducible assumption) | exact M.var_alloc' _ _ _ (by first | rfl | simp [go_sem]) | (with_reducible refine M.Var.alloc ?_ _) | (with_reducible refine M.Var.drewN ?_ _) | (with_reducible refine M.Var.drew ?_) | (with_reducible refine M.Var.far ?_ _ _ (by first | omega | (simp [go_sem] <;> omega)))))) hb
    have V2_v : M.Var w2 (w.heap.size + 1 + 1) #[.int .i64 v1, .int .i64 v2] := M.Var.mono (by (repeat (first | (with_reducible assumption) | exact M.var_alloc' _ _ _ (by first | rfl | simp [go_sem]) | (with_reducible refine M.Var.alloc ?_ _) | (with_reducible refine M.Var.drewN ?_ _) | (with_reducible refine M.Var.drew ?_) | (with_reducible refine M.Var.far ?_ _ _ (by first | omega | (simp [go_sem] <;> omega)))))) hb
    have q2_x_0 := V2_x.c 0 _ rfl
    have q2_x_1 := V2_x.c 1 _ rfl
    have q2_x_2 := V2_x.c 2 _ rfl
    have q2_x_3 := V2_x.c 3 _ rfl
    have f2_x := V2_x.2.2; have L2_x := V2_x.lt; have N2_x := Nat.ne_of_gt L2_x; have M2_x := Nat.ne_of_lt L2_x
    have HV2_x := Lib.hid V2_x
    have q2_y_0 := V2_y.c 0 _ rfl
    have q2_y_1 := V2_y.c 1 _ rfl
    have q2_y_2 := V2_y.c 2 _ rfl
    have q2_y_3 := V2_y.c 3 _ rfl
    have f2_y := V2_y.2.2; have L2_y := V2_y.lt; have N2_y := Nat.ne_of_gt L2_y; have M2_y := Nat.ne_of_lt L2_y
    have HV2_y := Lib.hid V2_y
    have q2_v_0 := V2_v.c 0 _ rfl
    have q2_v_1 := V2_v.c 1 _ rfl
    have f2_v := V2_v.2.2; have L2_v := V2_v.lt; have N2_v := Nat.ne_of_gt L2_v; have M2_v := Nat.ne_of_lt L2_v
    have HV2_v := Lib.hid V2_v
    have S2 := G2.size; clear hb
    go_wp2_with fail
    refine M.wp_region_later (fun w' => M.Var w' (w.heap.size) #[.int .i64 x.lx, .int .i64 x.ly, .int .i64 x.hx, .int .i64 x.hy] ∧ M.Var w' (w.heap.size + 1) #[.int .i64 y.lx, .int .i64 y.ly, .int .i64 y.hx, .int .i64 y.hy] ∧ M.Var w' (w.heap.size + 1 + 1) #[.int .i64 v1, .int .i64 v2] ∧ M.Var w' (w2.heap.size) #[.int .i64 q.lx, .int .i64 q.ly, .int .i64 q.hx, .int .i64 q.hy] ∧ True) (by kernel_rfl) (by kernel_rfl) (fun w' hb => ⟨M.Var.mono (by (repeat (first | (with_reducible assumption) | exact M.var_alloc' _ _ _ (by first | rfl | simp [go_sem]) | (with_reducible refine M.Var.alloc ?_ _) | (with_reducible refine M.Var.drewN ?_ _) | (with_reducible refine M.Var.drew ?_) | (with_reducible refine M.Var.far ?_ _ _ (by first | omega | (simp [go_sem] <;> omega))))) : M.Var _ (w.heap.size) #[.int .i64 x.lx, .int .i64 x.ly, .int .i64 x.hx, .int .i64 x.hy]) hb, M.Var.mono (by (repeat (first | (with_reducible assumption) | exact M.var_alloc' _ _ _ (by first | rfl | simp [go_sem]) | (with_reducible refine M.Var.alloc ?_ _) | (with_reducible refine M.Var.drewN ?_ _) | (with_reducible refine M.Var.drew ?_) | (with_reducible refine M.Var.far ?_ _ _ (by first | omega | (simp [go_sem] <;> omega))))) : M.Var _ (w.heap.size + 1) #[.int .i64 y.lx, .int .i64 y.ly, .int .i64 y.hx, .int .i64 y.hy]) hb, M.Var.mono (by (repeat (first | (with_reducible assumption) | exact M.var_alloc' _ _ _ (by first | rfl | simp [go_sem]) | (with_reducible refine M.Var.alloc ?_ _) | (with_reducible refine M.Var.drewN ?_ _) | (with_reducible refine M.Var.drew ?_) | (with_reducible refine M.Var.far ?_ _ _ (by first | omega | (simp [go_sem] <;> omega))))) : M.Var _ (w.heap.size + 1 + 1) #[.int .i64 v1, .int .i64 v2]) hb, M.Var.mono (by (repeat (first | (with_reducible assumption) | exact M.var_alloc' _ _ _ (by first | rfl | simp [go_sem]) | (with_reducible refine M.Var.alloc ?_ _) | (with_reducible refine M.Var.drewN ?_ _) | (with_reducible refine M.Var.drew ?_) | (with_reducible refine M.Var.far ?_ _ _ (by first | omega | (simp [go_sem] <;> omega))))) : M.Var _ (w2.heap.size) #[.int .i64 q.lx, .int .i64 q.ly, .int .i64 q.hx, .int .i64 q.hy]) hb, trivial⟩) ?_
    intro hS
    have z3_x_0 := fun p => (hS p).1.c 0 _ rfl
    have z3_x_1 := fun p => (hS p).1.c 1 _ rfl
    have z3_x_2 := fun p => (hS p).1.c 2 _ rfl
    have z3_x_3 := fun p => (hS p).1.c 3 _ rfl
    have z3_y_0 := fun p => (hS p).2.1.c 0 _ rfl
    have z3_y_1 := fun p => (hS p).2.1.c 1 _ rfl
    have z3_y_2 := fun p => (hS p).2.1.c 2 _ rfl
    have z3_y_3 := fun p => (hS p).2.1.c 3 _ rfl
    have z3_v_0 := fun p => (hS p).2.2.1.c 0 _ rfl
    have z3_v_1 := fun p => (hS p).2.2.1.c 1 _ rfl
    have z3_b_0 := fun p => (hS p).2.2.2.1.c 0 _ rfl
    have z3_b_1 := fun p => (hS p).2.2.2.1.c 1 _ rfl
    have z3_b_2 := fun p => (hS p).2.2.2.1.c 2 _ rfl
    have z3_b_3 := fun p => (hS p).2.2.2.1.c 3 _ rfl
    have HS := Lib.hid hS; clear hS
    repeat (go_big_quiet_step ((first
          | (go_at_call 53; with_reducible exact M.later_of (C2.out _))
          | (go_at_call 53; with_reducible exact M.later_of (C3.out _))
          | (go_at_call 43; with_reducible exact M.later_of (C5.out _))
          | (go_at_call 43; with_reducible exact M.later_of (C6.out _))
          | (go_at_call 43; with_reducible exact M.later_of (C7.out _))
      )))
    refine wpQuiet_nil ?_
    intro w3 hw'
    obtain ⟨pL, hL⟩ := hw'
    have hb := pL.h; rw [← hL] at hb; clear hL pL
    have G3 : Below w.heap.size w w3 := Below.trans (by (repeat (with_reducible refine M.Below.drewN ?_ _)); go_grown) (hb.mono (by go_size))
    have V3_x : M.Var w3 (w.heap.size) #[.int .i64 x.lx, .int .i64 x.ly, .int .i64 x.hx, .int .i64 x.hy] := M.Var.mono (by (repeat (first | (with_reducible assumption) | exact M.var_alloc' _ _ _ (by first | rfl | simp [go_sem]) | (with_reducible refine M.Var.alloc ?_ _) | (with_reducible refine M.Var.drewN ?_ _) | (with_reducible refine M.Var.drew ?_) | (with_reducible refine M.Var.far ?_ _ _ (by first | omega | (simp [go_sem] <;> omega)))))) hb
    have V3_y : M.Var w3 (w.heap.size + 1) #[.int .i64 y.lx, .int .i64 y.ly, .int .i64 y.hx, .int .i64 y.hy] := M.Var.mono (by (repeat (first | (with_reducible assumption) | exact M.var_alloc' _ _ _ (by first | rfl | simp [go_sem]) | (with_reducible refine M.Var.alloc ?_ _) | (with_reducible refine M.Var.drewN ?_ _) | (with_reducible refine M.Var.drew ?_) | (with_reducible refine M.Var.far ?_ _ _ (by first | omega | (simp [go_sem] <;> omega)))))) hb
    have V3_v : M.Var w3 (w.heap.size + 1 + 1) #[.int .i64 v1, .int .i64 v2] := M.Var.mono (by (repeat (first | (with_reducible assumption) | exact M.var_alloc' _ _ _ (by first | rfl | simp [go_sem]) | (with_reducible refine M.Var.alloc ?_ _) | (with_reducible refine M.Var.drewN ?_ _) | (with_reducible refine M.Var.drew ?_) | (with_reducible refine M.Var.far ?_ _ _ (by first | omega | (simp [go_sem] <;> omega)))))) hb
    have V3_b : M.Var w3 (w2.heap.size) #[.int .i64 q.lx, .int .i64 q.ly, .int .i64 q.hx, .int .i64 q.hy] := M.Var.mono (by (repeat (first | (with_reducible assumption) | exact M.var_alloc' _ _ _ (by first | rfl | simp [go_sem]) | (with_reducible refine M.Var.alloc ?_ _) | (with_reducible refine M.Var.drewN ?_ _) | (with_reducible refine M.Var.drew ?_) | (with_reducible refine M.Var.far ?_ _ _ (by first | omega | (simp [go_sem] <;> omega)))))) hb
    have q3_x_0 := V3_x.c 0 _ rfl
    have q3_x_1 := V3_x.c 1 _ rfl
    have q3_x_2 := V3_x.c 2 _ rfl
    have q3_x_3 := V3_x.c 3 _ rfl
    have f3_x := V3_x.2.2; have L3_x := V3_x.lt; have N3_x := Nat.ne_of_gt L3_x; have M3_x := Nat.ne_of_lt L3_x
    have HV3_x := Lib.hid V3_x
    have q3_y_0 := V3_y.c 0 _ rfl
    have q3_y_1 := V3_y.c 1 _ rfl
    have q3_y_2 := V3_y.c 2 _ rfl
    have q3_y_3 := V3_y.c 3 _ rfl
    have f3_y := V3_y.2.2; have L3_y := V3_y.lt; have N3_y := Nat.ne_of_gt L3_y; have M3_y := Nat.ne_of_lt L3_y
    have HV3_y := Lib.hid V3_y
    have q3_v_0 := V3_v.c 0 _ rfl
    have q3_v_1 := V3_v.c 1 _ rfl
    have f3_v := V3_v.2.2; have L3_v := V3_v.lt; have N3_v := Nat.ne_of_gt L3_v; have M3_v := Nat.ne_of_lt L3_v
    have HV3_v := Lib.hid V3_v
    have q3_b_0 := V3_b.c 0 _ rfl
    have q3_b_1 := V3_b.c 1 _ rfl
    have q3_b_2 := V3_b.c 2 _ rfl
    have q3_b_3 := V3_b.c 3 _ rfl
    have f3_b := V3_b.2.2; have L3_b := V3_b.lt; have N3_b := Nat.ne_of_gt L3_b; have M3_b := Nat.ne_of_lt L3_b
    have HV3_b := Lib.hid V3_b
    have S3 := G3.size; clear hb
    clear z3_x_0 z3_x_1 z3_x_2 z3_x_3 z3_y_0 z3_y_1 z3_y_2 z3_y_3 z3_v_0 z3_v_1 z3_b_0 z3_b_1 z3_b_2 z3_b_3 HS
    go_wp2_with fail
    refine M.wp_region_later (fun w' => M.Var w' (w.heap.size) #[.int .i64 x.lx, .int .i64 x.ly, .int .i64 x.hx, .int .i64 x.hy] ∧ M.Var w' (w.heap.size + 1) #[.int .i64 y.lx, .int .i64 y.ly, .int .i64 y.hx, .int .i64 y.hy] ∧ M.Var w' (w2.heap.size) #[.int .i64 q.lx, .int .i64 q.ly, .int .i64 q.hx, .int .i64 q.hy] ∧ True) (by kernel_rfl) (by kernel_rfl) (fun w' hb => ⟨M.Var.mono (by (repeat (first | (with_reducible assumption) | exact M.var_alloc' _ _ _ (by first | rfl | simp [go_sem]) | (with_reducible refine M.Var.alloc ?_ _) | (with_reducible refine M.Var.drewN ?_ _) | (with_reducible refine M.Var.drew ?_) | (with_reducible refine M.Var.far ?_ _ _ (by first | omega | (simp [go_sem] <;> omega))))) : M.Var _ (w.heap.size) #[.int .i64 x.lx, .int .i64 x.ly, .int .i64 x.hx, .int .i64 x.hy]) hb, M.Var.mono (by (repeat (first | (with_reducible assumption) | exact M.var_alloc' _ _ _ (by first | rfl | simp [go_sem]) | (with_reducible refine M.Var.alloc ?_ _) | (with_reducible refine M.Var.drewN ?_ _) | (with_reducible refine M.Var.drew ?_) | (with_reducible refine M.Var.far ?_ _ _ (by first | omega | (simp [go_sem] <;> omega))))) : M.Var _ (w.heap.size + 1) #[.int .i64 y.lx, .int .i64 y.ly, .int .i64 y.hx, .int .i64 y.hy]) hb, M.Var.mono (by (repeat (first | (with_reducible assumption) | exact M.var_alloc' _ _ _ (by first | rfl | simp [go_sem]) | (with_reducible refine M.Var.alloc ?_ _) | (with_reducible refine M.Var.drewN ?_ _) | (with_reducible refine M.Var.drew ?_) | (with_reducible refine M.Var.far ?_ _ _ (by first | omega | (simp [go_sem] <;> omega))))) : M.Var _ (w2.heap.size) #[.int .i64 q.lx, .int .i64 q.ly, .int .i64 q.hx, .int .i64 q.hy]) hb, trivial⟩) ?_
    intro hS
    have z4_x_0 := fun p => (hS p).1.c 0 _ rfl
    have z4_x_1 := fun p => (hS p).1.c 1 _ rfl
    have z4_x_2 := fun p => (hS p).1.c 2 _ rfl
    have z4_x_3 := fun p => (hS p).1.c 3 _ rfl
    have z4_y_0 := fun p => (hS p).2.1.c 0 _ rfl
    have z4_y_1 := fun p => (hS p).2.1.c 1 _ rfl
    have z4_y_2 := fun p => (hS p).2.1.c 2 _ rfl
    have z4_y_3 := fun p => (hS p).2.1.c 3 _ rfl
    have z4_b_0 := fun p => (hS p).2.2.1.c 0 _ rfl
    have z4_b_1 := fun p => (hS p).2.2.1.c 1 _ rfl
    have z4_b_2 := fun p => (hS p).2.2.1.c 2 _ rfl
    have z4_b_3 := fun p => (hS p).2.2.1.c 3 _ rfl
    have HS := Lib.hid hS; clear hS
    repeat (go_big_quiet_step ((first
          | (go_at_call 53; with_reducible exact M.later_of (C4.out _))
      )))
    refine wpQuiet_nil ?_
    intro w4 hw'
    obtain ⟨pL, hL⟩ := hw'
    have hb := pL.h; rw [← hL] at hb; clear hL pL
    have G4 : Below w.heap.size w w4 := Below.trans (by (repeat (with_reducible refine M.Below.drewN ?_ _)); go_grown) (hb.mono (by go_size))
    have V4_x : M.Var w4 (w.heap.size) #[.int .i64 x.lx, .int .i64 x.ly, .int .i64 x.hx, .int .i64 x.hy] := M.Var.mono (by (repeat (first | (with_reducible assumption) | exact M.var_alloc' _ _ _ (by first | rfl | simp [go_sem]) | (with_reducible refine M.Var.alloc ?_ _) | (with_reducible refine M.Var.drewN ?_ _) | (with_reducible refine M.Var.drew ?_) | (with_reducible refine M.Var.far ?_ _ _ (by first | omega | (simp [go_sem] <;> omega)))))) hb
    have V4_y : M.Var w4 (w.heap.size + 1) #[.int .i64 y.lx, .int .i64 y.ly, .int .i64 y.hx, .int .i64 y.hy] := M.Var.mono (by (repeat (first | (with_reducible assumption) | exact M.var_alloc' _ _ _ (by first | rfl | simp [go_sem]) | (with_reducible refine M.Var.alloc ?_ _) | (with_reducible refine M.Var.drewN ?_ _) | (with_reducible refine M.Var.drew ?_) | (with_reducible refine M.Var.far ?_ _ _ (by first | omega | (simp [go_sem] <;> omega)))))) hb
    have V4_v : M.Var w4 (w.heap.size + 1 + 1) #[.int .i64 v1, .int .i64 v2] := M.Var.mono (by (repeat (first | (with_reducible assumption) | exact M.var_alloc' _ _ _ (by first | rfl | simp [go_sem]) | (with_reducible refine M.Var.alloc ?_ _) | (with_reducible refine M.Var.drewN ?_ _) | (with_reducible refine M.Var.drew ?_) | (with_reducible refine M.Var.far ?_ _ _ (by first | omega | (simp [go_sem] <;> omega)))))) hb
    have V4_b : M.Var w4 (w2.heap.size) #[.int .i64 q.lx, .int .i64 q.ly, .int .i64 q.hx, .int .i64 q.hy] := M.Var.mono (by (repeat (first | (with_reducible assumption) | exact M.var_alloc' _ _ _ (by first | rfl | simp [go_sem]) | (with_reducible refine M.Var.alloc ?_ _) | (with_reducible refine M.Var.drewN ?_ _) | (with_reducible refine M.Var.drew ?_) | (with_reducible refine M.Var.far ?_ _ _ (by first | omega | (simp [go_sem] <;> omega)))))) hb
    have q4_x_0 := V4_x.c 0 _ rfl
    have q4_x_1 := V4_x.c 1 _ rfl
    have q4_x_2 := V4_x.c 2 _ rfl
    have q4_x_3 := V4_x.c 3 _ rfl
    have f4_x := V4_x.2.2; have L4_x := V4_x.lt; have N4_x := Nat.ne_of_gt L4_x; have M4_x := Nat.ne_of_lt L4_x
    have HV4_x := Lib.hid V4_x
    have q4_y_0 := V4_y.c 0 _ rfl
    have q4_y_1 := V4_y.c 1 _ rfl
    have q4_y_2 := V4_y.c 2 _ rfl
    have q4_y_3 := V4_y.c 3 _ rfl
    have f4_y := V4_y.2.2; have L4_y := V4_y.lt; have N4_y := Nat.ne_of_gt L4_y; have M4_y := Nat.ne_of_lt L4_y
    have HV4_y := Lib.hid V4_y
    have q4_v_0 := V4_v.c 0 _ rfl
    have q4_v_1 := V4_v.c 1 _ rfl
    have f4_v := V4_v.2.2; have L4_v := V4_v.lt; have N4_v := Nat.ne_of_gt L4_v; have M4_v := Nat.ne_of_lt L4_v
    have HV4_v := Lib.hid V4_v
    have q4_b_0 := V4_b.c 0 _ rfl
    have q4_b_1 := V4_b.c 1 _ rfl
    have q4_b_2 := V4_b.c 2 _ rfl
    have q4_b_3 := V4_b.c 3 _ rfl
    have f4_b := V4_b.2.2; have L4_b := V4_b.lt; have N4_b := Nat.ne_of_gt L4_b; have M4_b := Nat.ne_of_lt L4_b
    have HV4_b := Lib.hid V4_b
    have S4 := G4.size; clear hb
    clear z4_x_0 z4_x_1 z4_x_2 z4_x_3 z4_y_0 z4_y_1 z4_y_2 z4_y_3 z4_b_0 z4_b_1 z4_b_2 z4_b_3 HS
    go_wp2_with fail
    go_ret
    exact ⟨rfl, by (repeat (with_reducible refine M.Below.drewN ?_ _)); go_grown⟩
  · skip
    have C5 := Lib.hid c5; have C6 := Lib.hid c6; have C7 := Lib.hid c7
    clear c5 c6 c7
    go_enter Try.func7, Try.ntmps7
    go_wp2_with fail
    (with_reducible refine (c0.out _).mono ?_); rintro en w1 ⟨rfl, hb⟩
    have G1 : Below w.heap.size w w1 := Below.trans (by (repeat (with_reducible refine M.Below.drewN ?_ _)); go_grown) (hb.mono (by go_size))
    have V1_x : M.Var w1 (w.heap.size) #[.int .i64 x.lx, .int .i64 x.ly, .int .i64 x.hx, .int .i64 x.hy] := M.Var.mono (by (repeat (first | (with_reducible assumption) | exact M.var_alloc' _ _ _ (by first | rfl | simp [go_sem]) | (with_reducible refine M.Var.alloc ?_ _) | (with_reducible refine M.Var.drewN ?_ _) | (with_reducible refine M.Var.drew ?_) | (with_reducible refine M.Var.far ?_ _ _ (by first | omega | (simp [go_sem] <;> omega)))))) hb
    have V1_y : M.Var w1 (w.heap.size + 1) #[.int .i64 y.lx, .int .i64 y.ly, .int .i64 y.hx, .int .i64 y.hy] := M.Var.mono (by (repeat (first | (with_reducible assumption) | exact M.var_alloc' _ _ _ (by first | rfl | simp [go_sem]) | (with_reducible refine M.Var.alloc ?_ _) | (with_reducible refine M.Var.drewN ?_ _) | (with_reducible refine M.Var.drew ?_) | (with_reducible refine M.Var.far ?_ _ _ (by first | omega | (simp [go_sem] <;> omega)))))) hb
    have V1_v : M.Var w1 (w.heap.size + 1 + 1) #[.int .i64 v1, .int .i64 v2] := M.Var.mono (by (repeat (first | (with_reducible assumption) | exact M.var_alloc' _ _ _ (by first | rfl | simp [go_sem]) | (with_reducible refine M.Var.alloc ?_ _) | (with_reducible refine M.Var.drewN ?_ _) | (with_reducible refine M.Var.drew ?_) | (with_reducible refine M.Var.far ?_ _ _ (by first | omega | (simp [go_sem] <;> omega)))))) hb
    have q1_x_0 := V1_x.c 0 _ rfl
    have q1_x_1 := V1_x.c 1 _ rfl
    have q1_x_2 := V1_x.c 2 _ rfl
    have q1_x_3 := V1_x.c 3 _ rfl
    have f1_x := V1_x.2.2; have L1_x := V1_x.lt; have N1_x := Nat.ne_of_gt L1_x; have M1_x := Nat.ne_of_lt L1_x
    have HV1_x := Lib.hid V1_x
    have q1_y_0 := V1_y.c 0 _ rfl
    have q1_y_1 := V1_y.c 1 _ rfl
    have q1_y_2 := V1_y.c 2 _ rfl
    have q1_y_3 := V1_y.c 3 _ rfl
    have f1_y := V1_y.2.2; have L1_y := V1_y.lt; have N1_y := Nat.ne_of_gt L1_y; have M1_y := Nat.ne_of_lt L1_y
    have HV1_y := Lib.hid V1_y
    have q1_v_0 := V1_v.c 0 _ rfl
    have q1_v_1 := V1_v.c 1 _ rfl
    have f1_v := V1_v.2.2; have L1_v := V1_v.lt; have N1_v := Nat.ne_of_gt L1_v; have M1_v := Nat.ne_of_lt L1_v
    have HV1_v := Lib.hid V1_v
    have S1 := G1.size; clear hb
    go_wp2_with fail
    (with_reducible refine (C1.out _).mono ?_); rintro en w2 ⟨rfl, hb⟩
    have G2 : Below w.heap.size w w2 := Below.trans (by (repeat (with_reducible refine M.Below.drewN ?_ _)); go_grown) (hb.mono (by go_size))
    have V2_x : M.Var w2 (w.heap.size) #[.int .i64 x.lx, .int .i64 x.ly, .int .i64 x.hx, .int .i64 x.hy] := M.Var.mono (by (repeat (first | (with_reducible assumption) | exact M.var_alloc' _ _ _ (by first | rfl | simp [go_sem]) | (with_reducible refine M.Var.alloc ?_ _) | (with_reducible refine M.Var.drewN ?_ _) | (with_reducible refine M.Var.drew ?_) | (with_reducible refine M.Var.far ?_ _ _ (by first | omega | (simp [go_sem] <;> omega)))))) hb
    have V2_y : M.Var w2 (w.heap.size + 1) #[.int .i64 y.lx, .int .i64 y.ly, .int .i64 y.hx, .int .i64 y.hy] := M.Var.mono (by (repeat (first | (with_reducible assumption) | exact M.var_alloc' _ _ _ (by first | rfl | simp [go_sem]) | (with_reducible refine M.Var.alloc ?_ _) | (with_reducible refine M.Var.drewN ?_ _) | (with_reducible refine M.Var.drew ?_) | (with_reducible refine M.Var.far ?_ _ _ (by first | omega | (simp [go_sem] <;> omega)))))) hb
    have V2_v : M.Var w2 (w.heap.size + 1 + 1) #[.int .i64 v1, .int .i64 v2] := M.Var.mono (by (repeat (first | (with_reducible assumption) | exact M.var_alloc' _ _ _ (by first | rfl | simp [go_sem]) | (with_reducible refine M.Var.alloc ?_ _) | (with_reducible refine M.Var.drewN ?_ _) | (with_reducible refine M.Var.drew ?_) | (with_reducible refine M.Var.far ?_ _ _ (by first | omega | (simp [go_sem] <;> omega)))))) hb
    have q2_x_0 := V2_x.c 0 _ rfl
    have q2_x_1 := V2_x.c 1 _ rfl
    have q2_x_2 := V2_x.c 2 _ rfl
    have q2_x_3 := V2_x.c 3 _ rfl
    have f2_x := V2_x.2.2; have L2_x := V2_x.lt; have N2_x := Nat.ne_of_gt L2_x; have M2_x := Nat.ne_of_lt L2_x
    have HV2_x := Lib.hid V2_x
    have q2_y_0 := V2_y.c 0 _ rfl
    have q2_y_1 := V2_y.c 1 _ rfl
    have q2_y_2 := V2_y.c 2 _ rfl
    have q2_y_3 := V2_y.c 3 _ rfl
    have f2_y := V2_y.2.2; have L2_y := V2_y.lt; have N2_y := Nat.ne_of_gt L2_y; have M2_y := Nat.ne_of_lt L2_y
    have HV2_y := Lib.hid V2_y
    have q2_v_0 := V2_v.c 0 _ rfl
    have q2_v_1 := V2_v.c 1 _ rfl
    have f2_v := V2_v.2.2; have L2_v := V2_v.lt; have N2_v := Nat.ne_of_gt L2_v; have M2_v := Nat.ne_of_lt L2_v
    have HV2_v := Lib.hid V2_v
    have S2 := G2.size; clear hb
    go_wp2_with fail
    refine M.wp_region_later (fun w' => M.Var w' (w.heap.size) #[.int .i64 x.lx, .int .i64 x.ly, .int .i64 x.hx, .int .i64 x.hy] ∧ M.Var w' (w.heap.size + 1) #[.int .i64 y.lx, .int .i64 y.ly, .int .i64 y.hx, .int .i64 y.hy] ∧ M.Var w' (w.heap.size + 1 + 1) #[.int .i64 v1, .int .i64 v2] ∧ M.Var w' (w2.heap.size) #[.int .i64 q.lx, .int .i64 q.ly, .int .i64 q.hx, .int .i64 q.hy] ∧ True) (by kernel_rfl) (by kernel_rfl) (fun w' hb => ⟨M.Var.mono (by (repeat (first | (with_reducible assumption) | exact M.var_alloc' _ _ _ (by first | rfl | simp [go_sem]) | (with_reducible refine M.Var.alloc ?_ _) | (with_reducible refine M.Var.drewN ?_ _) | (with_reducible refine M.Var.drew ?_) | (with_reducible refine M.Var.far ?_ _ _ (by first | omega | (simp [go_sem] <;> omega))))) : M.Var _ (w.heap.size) #[.int .i64 x.lx, .int .i64 x.ly, .int .i64 x.hx, .int .i64 x.hy]) hb, M.Var.mono (by (repeat (first | (with_reducible assumption) | exact M.var_alloc' _ _ _ (by first | rfl | simp [go_sem]) | (with_reducible refine M.Var.alloc ?_ _) | (with_reducible refine M.Var.drewN ?_ _) | (with_reducible refine M.Var.drew ?_) | (with_reducible refine M.Var.far ?_ _ _ (by first | omega | (simp [go_sem] <;> omega))))) : M.Var _ (w.heap.size + 1) #[.int .i64 y.lx, .int .i64 y.ly, .int .i64 y.hx, .int .i64 y.hy]) hb, M.Var.mono (by (repeat (first | (with_reducible assumption) | exact M.var_alloc' _ _ _ (by first | rfl | simp [go_sem]) | (with_reducible refine M.Var.alloc ?_ _) | (with_reducible refine M.Var.drewN ?_ _) | (with_reducible refine M.Var.drew ?_) | (with_reducible refine M.Var.far ?_ _ _ (by first | omega | (simp [go_sem] <;> omega))))) : M.Var _ (w.heap.size + 1 + 1) #[.int .i64 v1, .int .i64 v2]) hb, M.Var.mono (by (repeat (first | (with_reducible assumption) | exact M.var_alloc' _ _ _ (by first | rfl | simp [go_sem]) | (with_reducible refine M.Var.alloc ?_ _) | (with_reducible refine M.Var.drewN ?_ _) | (with_reducible refine M.Var.drew ?_) | (with_reducible refine M.Var.far ?_ _ _ (by first | omega | (simp [go_sem] <;> omega))))) : M.Var _ (w2.heap.size) #[.int .i64 q.lx, .int .i64 q.ly, .int .i64 q.hx, .int .i64 q.hy]) hb, trivial⟩) ?_
    intro hS
    have z3_x_0 := fun p => (hS p).1.c 0 _ rfl
    have z3_x_1 := fun p => (hS p).1.c 1 _ rfl
    have z3_x_2 := fun p => (hS p).1.c 2 _ rfl
    have z3_x_3 := fun p => (hS p).1.c 3 _ rfl
    have z3_y_0 := fun p => (hS p).2.1.c 0 _ rfl
    have z3_y_1 := fun p => (hS p).2.1.c 1 _ rfl
    have z3_y_2 := fun p => (hS p).2.1.c 2 _ rfl
    have z3_y_3 := fun p => (hS p).2.1.c 3 _ rfl
    have z3_v_0 := fun p => (hS p).2.2.1.c 0 _ rfl
    have z3_v_1 := fun p => (hS p).2.2.1.c 1 _ rfl
    have z3_b_0 := fun p => (hS p).2.2.2.1.c 0 _ rfl
    have z3_b_1 := fun p => (hS p).2.2.2.1.c 1 _ rfl
    have z3_b_2 := fun p => (hS p).2.2.2.1.c 2 _ rfl
    have z3_b_3 := fun p => (hS p).2.2.2.1.c 3 _ rfl
    have HS := Lib.hid hS; clear hS
    repeat (go_big_quiet_step ((first
          | (go_at_call 53; with_reducible exact M.later_of (C2.out _))
          | (go_at_call 53; with_reducible exact M.later_of (C3.out _))
          | (go_at_call 43; with_reducible exact M.later_of (C5.out _))
          | (go_at_call 43; with_reducible exact M.later_of (C6.out _))
          | (go_at_call 43; with_reducible exact M.later_of (C7.out _))
      )))
    refine wpQuiet_nil ?_
    intro w3 hw'
    obtain ⟨pL, hL⟩ := hw'
    have hb := pL.h; rw [← hL] at hb; clear hL pL
    have G3 : Below w.heap.size w w3 := Below.trans (by (repeat (with_reducible refine M.Below.drewN ?_ _)); go_grown) (hb.mono (by go_size))
    have V3_x : M.Var w3 (w.heap.size) #[.int .i64 x.lx, .int .i64 x.ly, .int .i64 x.hx, .int .i64 x.hy] := M.Var.mono (by (repeat (first | (with_reducible assumption) | exact M.var_alloc' _ _ _ (by first | rfl | simp [go_sem]) | (with_reducible refine M.Var.alloc ?_ _) | (with_reducible refine M.Var.drewN ?_ _) | (with_reducible refine M.Var.drew ?_) | (with_reducible refine M.Var.far ?_ _ _ (by first | omega | (simp [go_sem] <;> omega)))))) hb
    have V3_y : M.Var w3 (w.heap.size + 1) #[.int .i64 y.lx, .int .i64 y.ly, .int .i64 y.hx, .int .i64 y.hy] := M.Var.mono (by (repeat (first | (with_reducible assumption) | exact M.var_alloc' _ _ _ (by first | rfl | simp [go_sem]) | (with_reducible refine M.Var.alloc ?_ _) | (with_reducible refine M.Var.drewN ?_ _) | (with_reducible refine M.Var.drew ?_) | (with_reducible refine M.Var.far ?_ _ _ (by first | omega | (simp [go_sem] <;> omega)))))) hb
    have V3_v : M.Var w3 (w.heap.size + 1 + 1) #[.int .i64 v1, .int .i64 v2] := M.Var.mono (by (repeat (first | (with_reducible assumption) | exact M.var_alloc' _ _ _ (by first | rfl | simp [go_sem]) | (with_reducible refine M.Var.alloc ?_ _) | (with_reducible refine M.Var.drewN ?_ _) | (with_reducible refine M.Var.drew ?_) | (with_reducible refine M.Var.far ?_ _ _ (by first | omega | (simp [go_sem] <;> omega)))))) hb
    have V3_b : M.Var w3 (w2.heap.size) #[.int .i64 q.lx, .int .i64 q.ly, .int .i64 q.hx, .int .i64 q.hy] := M.Var.mono (by (repeat (first | (with_reducible assumption) | exact M.var_alloc' _ _ _ (by first | rfl | simp [go_sem]) | (with_reducible refine M.Var.alloc ?_ _) | (with_reducible refine M.Var.drewN ?_ _) | (with_reducible refine M.Var.drew ?_) | (with_reducible refine M.Var.far ?_ _ _ (by first | omega | (simp [go_sem] <;> omega)))))) hb
    have q3_x_0 := V3_x.c 0 _ rfl
    have q3_x_1 := V3_x.c 1 _ rfl
    have q3_x_2 := V3_x.c 2 _ rfl
    have q3_x_3 := V3_x.c 3 _ rfl
    have f3_x := V3_x.2.2; have L3_x := V3_x.lt; have N3_x := Nat.ne_of_gt L3_x; have M3_x := Nat.ne_of_lt L3_x
    have HV3_x := Lib.hid V3_x
    have q3_y_0 := V3_y.c 0 _ rfl
    have q3_y_1 := V3_y.c 1 _ rfl
    have q3_y_2 := V3_y.c 2 _ rfl
    have q3_y_3 := V3_y.c 3 _ rfl
    have f3_y := V3_y.2.2; have L3_y := V3_y.lt; have N3_y := Nat.ne_of_gt L3_y; have M3_y := Nat.ne_of_lt L3_y
    have HV3_y := Lib.hid V3_y
    have q3_v_0 := V3_v.c 0 _ rfl
    have q3_v_1 := V3_v.c 1 _ rfl
    have f3_v := V3_v.2.2; have L3_v := V3_v.lt; have N3_v := Nat.ne_of_gt L3_v; have M3_v := Nat.ne_of_lt L3_v
    have HV3_v := Lib.hid V3_v
    have q3_b_0 := V3_b.c 0 _ rfl
    have q3_b_1 := V3_b.c 1 _ rfl
    have q3_b_2 := V3_b.c 2 _ rfl
    have q3_b_3 := V3_b.c 3 _ rfl
    have f3_b := V3_b.2.2; have L3_b := V3_b.lt; have N3_b := Nat.ne_of_gt L3_b; have M3_b := Nat.ne_of_lt L3_b
    have HV3_b := Lib.hid V3_b
    have S3 := G3.size; clear hb
    clear z3_x_0 z3_x_1 z3_x_2 z3_x_3 z3_y_0 z3_y_1 z3_y_2 z3_y_3 z3_v_0 z3_v_1 z3_b_0 z3_b_1 z3_b_2 z3_b_3 HS
    go_wp2_with fail
    refine M.wp_region_later (fun w' => M.Var w' (w.heap.size) #[.int .i64 x.lx, .int .i64 x.ly, .int .i64 x.hx, .int .i64 x.hy] ∧ M.Var w' (w.heap.size + 1) #[.int .i64 y.lx, .int .i64 y.ly, .int .i64 y.hx, .int .i64 y.hy] ∧ M.Var w' (w2.heap.size) #[.int .i64 q.lx, .int .i64 q.ly, .int .i64 q.hx, .int .i64 q.hy] ∧ True) (by kernel_rfl) (by kernel_rfl) (fun w' hb => ⟨M.Var.mono (by (repeat (first | (with_reducible assumption) | exact M.var_alloc' _ _ _ (by first | rfl | simp [go_sem]) | (with_reducible refine M.Var.alloc ?_ _) | (with_reducible refine M.Var.drewN ?_ _) | (with_reducible refine M.Var.drew ?_) | (with_reducible refine M.Var.far ?_ _ _ (by first | omega | (simp [go_sem] <;> omega))))) : M.Var _ (w.heap.size) #[.int .i64 x.lx, .int .i64 x.ly, .int .i64 x.hx, .int .i64 x.hy]) hb, M.Var.mono (by (repeat (first | (with_reducible assumption) | exact M.var_alloc' _ _ _ (by first | rfl | simp [go_sem]) | (with_reducible refine M.Var.alloc ?_ _) | (with_reducible refine M.Var.drewN ?_ _) | (with_reducible refine M.Var.drew ?_) | (with_reducible refine M.Var.far ?_ _ _ (by first | omega | (simp [go_sem] <;> omega))))) : M.Var _ (w.heap.size + 1) #[.int .i64 y.lx, .int .i64 y.ly, .int .i64 y.hx, .int .i64 y.hy]) hb, M.Var.mono (by (repeat (first | (with_reducible assumption) | exact M.var_alloc' _ _ _ (by first | rfl | simp [go_sem]) | (with_reducible refine M.Var.alloc ?_ _) | (with_reducible refine M.Var.drewN ?_ _) | (with_reducible refine M.Var.drew ?_) | (with_reducible refine M.Var.far ?_ _ _ (by first | omega | (simp [go_sem] <;> omega))))) : M.Var _ (w2.heap.size) #[.int .i64 q.lx, .int .i64 q.ly, .int .i64 q.hx, .int .i64 q.hy]) hb, trivial⟩) ?_
    intro hS
    have z4_x_0 := fun p => (hS p).1.c 0 _ rfl
    have z4_x_1 := fun p => (hS p).1.c 1 _ rfl
    have z4_x_2 := fun p => (hS p).1.c 2 _ rfl
    have z4_x_3 := fun p => (hS p).1.c 3 _ rfl
    have z4_y_0 := fun p => (hS p).2.1.c 0 _ rfl
    have z4_y_1 := fun p => (hS p).2.1.c 1 _ rfl
    have z4_y_2 := fun p => (hS p).2.1.c 2 _ rfl
    have z4_y_3 := fun p => (hS p).2.1.c 3 _ rfl
    have z4_b_0 := fun p => (hS p).2.2.1.c 0 _ rfl
    have z4_b_1 := fun p => (hS p).2.2.1.c 1 _ rfl
    have z4_b_2 := fun p => (hS p).2.2.1.c 2 _ rfl
    have z4_b_3 := fun p => (hS p).2.2.1.c 3 _ rfl
    have HS := Lib.hid hS; clear hS
    repeat (go_big_quiet_step ((first
          | (go_at_call 53; with_reducible exact M.later_of (C4.out _))
      )))
    refine wpQuiet_nil ?_
    intro w4 hw'
    obtain ⟨pL, hL⟩ := hw'
    have hb := pL.h; rw [← hL] at hb; clear hL pL
    have G4 : Below w.heap.size w w4 := Below.trans (by (repeat (with_reducible refine M.Below.drewN ?_ _)); go_grown) (hb.mono (by go_size))
    have V4_x : M.Var w4 (w.heap.size) #[.int .i64 x.lx, .int .i64 x.ly, .int .i64 x.hx, .int .i64 x.hy] := M.Var.mono (by (repeat (first | (with_reducible assumption) | exact M.var_alloc' _ _ _ (by first | rfl | simp [go_sem]) | (with_reducible refine M.Var.alloc ?_ _) | (with_reducible refine M.Var.drewN ?_ _) | (with_reducible refine M.Var.drew ?_) | (with_reducible refine M.Var.far ?_ _ _ (by first | omega | (simp [go_sem] <;> omega)))))) hb
    have V4_y : M.Var w4 (w.heap.size + 1) #[.int .i64 y.lx, .int .i64 y.ly, .int .i64 y.hx, .int .i64 y.hy] := M.Var.mono (by (repeat (first | (with_reducible assumption) | exact M.var_alloc' _ _ _ (by first | rfl | simp [go_sem]) | (with_reducible refine M.Var.alloc ?_ _) | (with_reducible refine M.Var.drewN ?_ _) | (with_reducible refine M.Var.drew ?_) | (with_reducible refine M.Var.far ?_ _ _ (by first | omega | (simp [go_sem] <;> omega)))))) hb
    have V4_v : M.Var w4 (w.heap.size + 1 + 1) #[.int .i64 v1, .int .i64 v2] := M.Var.mono (by (repeat (first | (with_reducible assumption) | exact M.var_alloc' _ _ _ (by first | rfl | simp [go_sem]) | (with_reducible refine M.Var.alloc ?_ _) | (with_reducible refine M.Var.drewN ?_ _) | (with_reducible refine M.Var.drew ?_) | (with_reducible refine M.Var.far ?_ _ _ (by first | omega | (simp [go_sem] <;> omega)))))) hb
    have V4_b : M.Var w4 (w2.heap.size) #[.int .i64 q.lx, .int .i64 q.ly, .int .i64 q.hx, .int .i64 q.hy] := M.Var.mono (by (repeat (first | (with_reducible assumption) | exact M.var_alloc' _ _ _ (by first | rfl | simp [go_sem]) | (with_reducible refine M.Var.alloc ?_ _) | (with_reducible refine M.Var.drewN ?_ _) | (with_reducible refine M.Var.drew ?_) | (with_reducible refine M.Var.far ?_ _ _ (by first | omega | (simp [go_sem] <;> omega)))))) hb
    have q4_x_0 := V4_x.c 0 _ rfl
    have q4_x_1 := V4_x.c 1 _ rfl
    have q4_x_2 := V4_x.c 2 _ rfl
    have q4_x_3 := V4_x.c 3 _ rfl
    have f4_x := V4_x.2.2; have L4_x := V4_x.lt; have N4_x := Nat.ne_of_gt L4_x; have M4_x := Nat.ne_of_lt L4_x
    have HV4_x := Lib.hid V4_x
    have q4_y_0 := V4_y.c 0 _ rfl
    have q4_y_1 := V4_y.c 1 _ rfl
    have q4_y_2 := V4_y.c 2 _ rfl
    have q4_y_3 := V4_y.c 3 _ rfl
    have f4_y := V4_y.2.2; have L4_y := V4_y.lt; have N4_y := Nat.ne_of_gt L4_y; have M4_y := Nat.ne_of_lt L4_y
    have HV4_y := Lib.hid V4_y
    have q4_v_0 := V4_v.c 0 _ rfl
    have q4_v_1 := V4_v.c 1 _ rfl
    have f4_v := V4_v.2.2; have L4_v := V4_v.lt; have N4_v := Nat.ne_of_gt L4_v; have M4_v := Nat.ne_of_lt L4_v
    have HV4_v := Lib.hid V4_v
    have q4_b_0 := V4_b.c 0 _ rfl
    have q4_b_1 := V4_b.c 1 _ rfl
    have q4_b_2 := V4_b.c 2 _ rfl
    have q4_b_3 := V4_b.c 3 _ rfl
    have f4_b := V4_b.2.2; have L4_b := V4_b.lt; have N4_b := Nat.ne_of_gt L4_b; have M4_b := Nat.ne_of_lt L4_b
    have HV4_b := Lib.hid V4_b
    have S4 := G4.size; clear hb
    clear z4_x_0 z4_x_1 z4_x_2 z4_x_3 z4_y_0 z4_y_1 z4_y_2 z4_y_3 z4_b_0 z4_b_1 z4_b_2 z4_b_3 HS
    go_wp2_with fail
    go_ret
    exact ⟨rfl, by (repeat (with_reducible refine M.Below.drewN ?_ _)); go_grown⟩
  · skip
    have C5 := Lib.hid c5; have C6 := Lib.hid c6; have C7 := Lib.hid c7
    clear c5 c6 c7
    go_enter Try.func7, Try.ntmps7
    go_wp2_with fail
    (with_reducible refine (c0.out _).mono ?_); rintro en w1 ⟨rfl, hb⟩
    have G1 : Below w.heap.size w w1 := Below.trans (by (repeat (with_reducible refine M.Below.drewN ?_ _)); go_grown) (hb.mono (by go_size))
    have V1_x : M.Var w1 (w.heap.size) #[.int .i64 x.lx, .int .i64 x.ly, .int .i64 x.hx, .int .i64 x.hy] := M.Var.mono (by (repeat (first | (with_reducible assumption) | exact M.var_alloc' _ _ _ (by first | rfl | simp [go_sem]) | (with_reducible refine M.Var.alloc ?_ _) | (with_reducible refine M.Var.drewN ?_ _) | (with_reducible refine M.Var.drew ?_) | (with_reducible refine M.Var.far ?_ _ _ (by first | omega | (simp [go_sem] <;> omega)))))) hb
    have V1_y : M.Var w1 (w.heap.size + 1) #[.int .i64 y.lx, .int .i64 y.ly, .int .i64 y.hx, .int .i64 y.hy] := M.Var.mono (by (repeat (first | (with_reducible assumption) | exact M.var_alloc' _ _ _ (by first | rfl | simp [go_sem]) | (with_reducible refine M.Var.alloc ?_ _) | (with_reducible refine M.Var.drewN ?_ _) | (with_reducible refine M.Var.drew ?_) | (with_reducible refine M.Var.far ?_ _ _ (by first | omega | (simp [go_sem] <;> omega)))))) hb
    have V1_v : M.Var w1 (w.heap.size + 1 + 1) #[.int .i64 v1, .int .i64 v2] := M.Var.mono (by (repeat (first | (with_reducible assumption) | exact M.var_alloc' _ _ _ (by first | rfl | simp [go_sem]) | (with_reducible refine M.Var.alloc ?_ _) | (with_reducible refine M.Var.drewN ?_ _) | (with_reducible refine M.Var.drew ?_) | (with_reducible refine M.Var.far ?_ _ _ (by first | omega | (simp [go_sem] <;> omega)))))) hb
    have q1_x_0 := V1_x.c 0 _ rfl
    have q1_x_1 := V1_x.c 1 _ rfl
    have q1_x_2 := V1_x.c 2 _ rfl
    have q1_x_3 := V1_x.c 3 _ rfl
    have f1_x := V1_x.2.2; have L1_x := V1_x.lt; have N1_x := Nat.ne_of_gt L1_x; have M1_x := Nat.ne_of_lt L1_x
    have HV1_x := Lib.hid V1_x
    have q1_y_0 := V1_y.c 0 _ rfl
    have q1_y_1 := V1_y.c 1 _ rfl
    have q1_y_2 := V1_y.c 2 _ rfl
    have q1_y_3 := V1_y.c 3 _ rfl
    have f1_y := V1_y.2.2; have L1_y := V1_y.lt; have N1_y := Nat.ne_of_gt L1_y; have M1_y := Nat.ne_of_lt L1_y
    have HV1_y := Lib.hid V1_y
    have q1_v_0 := V1_v.c 0 _ rfl
    have q1_v_1 := V1_v.c 1 _ rfl
    have f1_v := V1_v.2.2; have L1_v := V1_v.lt; have N1_v := Nat.ne_of_gt L1_v; have M1_v := Nat.ne_of_lt L1_v
    have HV1_v := Lib.hid V1_v
    have S1 := G1.size; clear hb
    go_wp2_with fail
    (with_reducible refine (C1.out _).mono ?_); rintro en w2 ⟨rfl, hb⟩
    have G2 : Below w.heap.size w w2 := Below.trans (by (repeat (with_reducible refine M.Below.drewN ?_ _)); go_grown) (hb.mono (by go_size))
    have V2_x : M.Var w2 (w.heap.size) #[.int .i64 x.lx, .int .i64 x.ly, .int .i64 x.hx, .int .i64 x.hy] := M.Var.mono (by (repeat (first | (with_reducible assumption) | exact M.var_alloc' _ _ _ (by first | rfl | simp [go_sem]) | (with_reducible refine M.Var.alloc ?_ _) | (with_reducible refine M.Var.drewN ?_ _) | (with_reducible refine M.Var.drew ?_) | (with_reducible refine M.Var.far ?_ _ _ (by first | omega | (simp [go_sem] <;> omega)))))) hb
    have V2_y : M.Var w2 (w.heap.size + 1) #[.int .i64 y.lx, .int .i64 y.ly, .int .i64 y.hx, .int .i64 y.hy] := M.Var.mono (by (repeat (first | (with_reducible assumption) | exact M.var_alloc' _ _ _ (by first | rfl | simp [go_sem]) | (with_reducible refine M.Var.alloc ?_ _) | (with_reducible refine M.Var.drewN ?_ _) | (with_reducible refine M.Var.drew ?_) | (with_reducible refine M.Var.far ?_ _ _ (by first | omega | (simp [go_sem] <;> omega)))))) hb
    have V2_v : M.Var w2 (w.heap.size + 1 + 1) #[.int .i64 v1, .int .i64 v2] := M.Var.mono (by (repeat (first | (with_reducible assumption) | exact M.var_alloc' _ _ _ (by first | rfl | simp [go_sem]) | (with_reducible refine M.Var.alloc ?_ _) | (with_reducible refine M.Var.drewN ?_ _) | (with_reducible refine M.Var.drew ?_) | (with_reducible refine M.Var.far ?_ _ _ (by first | omega | (simp [go_sem] <;> omega)))))) hb
    have q2_x_0 := V2_x.c 0 _ rfl
    have q2_x_1 := V2_x.c 1 _ rfl
    have q2_x_2 := V2_x.c 2 _ rfl
    have q2_x_3 := V2_x.c 3 _ rfl
    have f2_x := V2_x.2.2; have L2_x := V2_x.lt; have N2_x := Nat.ne_of_gt L2_x; have M2_x := Nat.ne_of_lt L2_x
    have HV2_x := Lib.hid V2_x
    have q2_y_0 := V2_y.c 0 _ rfl
    have q2_y_1 := V2_y.c 1 _ rfl
    have q2_y_2 := V2_y.c 2 _ rfl
    have q2_y_3 := V2_y.c 3 _ rfl
    have f2_y := V2_y.2.2; have L2_y := V2_y.lt; have N2_y := Nat.ne_of_gt L2_y; have M2_y := Nat.ne_of_lt L2_y
    have HV2_y := Lib.hid V2_y
    have q2_v_0 := V2_v.c 0 _ rfl
    have q2_v_1 := V2_v.c 1 _ rfl
    have f2_v := V2_v.2.2; have L2_v := V2_v.lt; have N2_v := Nat.ne_of_gt L2_v; have M2_v := Nat.ne_of_lt L2_v
    have HV2_v := Lib.hid V2_v
    have S2 := G2.size; clear hb
    go_wp2_with fail
    refine M.wp_region_later (fun w' => M.Var w' (w.heap.size) #[.int .i64 x.lx, .int .i64 x.ly, .int .i64 x.hx, .int .i64 x.hy] ∧ M.Var w' (w.heap.size + 1) #[.int .i64 y.lx, .int .i64 y.ly, .int .i64 y.hx, .int .i64 y.hy] ∧ M.Var w' (w.heap.size + 1 + 1) #[.int .i64 v1, .int .i64 v2] ∧ M.Var w' (w2.heap.size) #[.int .i64 q.lx, .int .i64 q.ly, .int .i64 q.hx, .int .i64 q.hy] ∧ True) (by kernel_rfl) (by kernel_rfl) (fun w' hb => ⟨M.Var.mono (by (repeat (first | (with_reducible assumption) | exact M.var_alloc' _ _ _ (by first | rfl | simp [go_sem]) | (with_reducible refine M.Var.alloc ?_ _) | (with_reducible refine M.Var.drewN ?_ _) | (with_reducible refine M.Var.drew ?_) | (with_reducible refine M.Var.far ?_ _ _ (by first | omega | (simp [go_sem] <;> omega))))) : M.Var _ (w.heap.size) #[.int .i64 x.lx, .int .i64 x.ly, .int .i64 x.hx, .int .i64 x.hy]) hb, M.Var.mono (by (repeat (first | (with_reducible assumption) | exact M.var_alloc' _ _ _ (by first | rfl | simp [go_sem]) | (with_reducible refine M.Var.alloc ?_ _) | (with_reducible refine M.Var.drewN ?_ _) | (with_reducible refine M.Var.drew ?_) | (with_reducible refine M.Var.far ?_ _ _ (by first | omega | (simp [go_sem] <;> omega))))) : M.Var _ (w.heap.size + 1) #[.int .i64 y.lx, .int .i64 y.ly, .int .i64 y.hx, .int .i64 y.hy]) hb, M.Var.mono (by (repeat (first | (with_reducible assumption) | exact M.var_alloc' _ _ _ (by first | rfl | simp [go_sem]) | (with_reducible refine M.Var.alloc ?_ _) | (with_reducible refine M.Var.drewN ?_ _) | (with_reducible refine M.Var.drew ?_) | (with_reducible refine M.Var.far ?_ _ _ (by first | omega | (simp [go_sem] <;> omega))))) : M.Var _ (w.heap.size + 1 + 1) #[.int .i64 v1, .int .i64 v2]) hb, M.Var.mono (by (repeat (first | (with_reducible assumption) | exact M.var_alloc' _ _ _ (by first | rfl | simp [go_sem]) | (with_reducible refine M.Var.alloc ?_ _) | (with_reducible refine M.Var.drewN ?_ _) | (with_reducible refine M.Var.drew ?_) | (with_reducible refine M.Var.far ?_ _ _ (by first | omega | (simp [go_sem] <;> omega))))) : M.Var _ (w2.heap.size) #[.int .i64 q.lx, .int .i64 q.ly, .int .i64 q.hx, .int .i64 q.hy]) hb, trivial⟩) ?_
    intro hS
    have z3_x_0 := fun p => (hS p).1.c 0 _ rfl
    have z3_x_1 := fun p => (hS p).1.c 1 _ rfl
    have z3_x_2 := fun p => (hS p).1.c 2 _ rfl
    have z3_x_3 := fun p => (hS p).1.c 3 _ rfl
    have z3_y_0 := fun p => (hS p).2.1.c 0 _ rfl
    have z3_y_1 := fun p => (hS p).2.1.c 1 _ rfl
    have z3_y_2 := fun p => (hS p).2.1.c 2 _ rfl
    have z3_y_3 := fun p => (hS p).2.1.c 3 _ rfl
    have z3_v_0 := fun p => (hS p).2.2.1.c 0 _ rfl
    have z3_v_1 := fun p => (hS p).2.2.1.c 1 _ rfl
    have z3_b_0 := fun p => (hS p).2.2.2.1.c 0 _ rfl
    have z3_b_1 := fun p => (hS p).2.2.2.1.c 1 _ rfl
    have z3_b_2 := fun p => (hS p).2.2.2.1.c 2 _ rfl
    have z3_b_3 := fun p => (hS p).2.2.2.1.c 3 _ rfl
    have HS := Lib.hid hS; clear hS
    repeat (go_big_quiet_step ((first
          | (go_at_call 53; with_reducible exact M.later_of (C2.out _))
          | (go_at_call 53; with_reducible exact M.later_of (C3.out _))
          | (go_at_call 43; with_reducible exact M.later_of (C5.out _))
          | (go_at_call 43; with_reducible exact M.later_of (C6.out _))
          | (go_at_call 43; with_reducible exact M.later_of (C7.out _))
      )))
    refine wpQuiet_nil ?_
    intro w3 hw'
    obtain ⟨pL, hL⟩ := hw'
    have hb := pL.h; rw [← hL] at hb; clear hL pL
    have G3 : Below w.heap.size w w3 := Below.trans (by (repeat (with_reducible refine M.Below.drewN ?_ _)); go_grown) (hb.mono (by go_size))
    have V3_x : M.Var w3 (w.heap.size) #[.int .i64 x.lx, .int .i64 x.ly, .int .i64 x.hx, .int .i64 x.hy] := M.Var.mono (by (repeat (first | (with_reducible assumption) | exact M.var_alloc' _ _ _ (by first | rfl | simp [go_sem]) | (with_reducible refine M.Var.alloc ?_ _) | (with_reducible refine M.Var.drewN ?_ _) | (with_reducible refine M.Var.drew ?_) | (with_reducible refine M.Var.far ?_ _ _ (by first | omega | (simp [go_sem] <;> omega)))))) hb
    have V3_y : M.Var w3 (w.heap.size + 1) #[.int .i64 y.lx, .int .i64 y.ly, .int .i64 y.hx, .int .i64 y.hy] := M.Var.mono (by (repeat (first | (with_reducible assumption) | exact M.var_alloc' _ _ _ (by first | rfl | simp [go_sem]) | (with_reducible refine M.Var.alloc ?_ _) | (with_reducible refine M.Var.drewN ?_ _) | (with_reducible refine M.Var.drew ?_) | (with_reducible refine M.Var.far ?_ _ _ (by first | omega | (simp [go_sem] <;> omega)))))) hb
    have V3_v : M.Var w3 (w.heap.size + 1 + 1) #[.int .i64 v1, .int .i64 v2] := M.Var.mono (by (repeat (first | (with_reducible assumption) | exact M.var_alloc' _ _ _ (by first | rfl | simp [go_sem]) | (with_reducible refine M.Var.alloc ?_ _) | (with_reducible refine M.Var.drewN ?_ _) | (with_reducible refine M.Var.drew ?_) | (with_reducible refine M.Var.far ?_ _ _ (by first | omega | (simp [go_sem] <;> omega)))))) hb
    have V3_b : M.Var w3 (w2.heap.size) #[.int .i64 q.lx, .int .i64 q.ly, .int .i64 q.hx, .int .i64 q.hy] := M.Var.mono (by (repeat (first | (with_reducible assumption) | exact M.var_alloc' _ _ _ (by first | rfl | simp [go_sem]) | (with_reducible refine M.Var.alloc ?_ _) | (with_reducible refine M.Var.drewN ?_ _) | (with_reducible refine M.Var.drew ?_) | (with_reducible refine M.Var.far ?_ _ _ (by first | omega | (simp [go_sem] <;> omega)))))) hb
    have q3_x_0 := V3_x.c 0 _ rfl
    have q3_x_1 := V3_x.c 1 _ rfl
    have q3_x_2 := V3_x.c 2 _ rfl
    have q3_x_3 := V3_x.c 3 _ rfl
    have f3_x := V3_x.2.2; have L3_x := V3_x.lt; have N3_x := Nat.ne_of_gt L3_x; have M3_x := Nat.ne_of_lt L3_x
    have HV3_x := Lib.hid V3_x
    have q3_y_0 := V3_y.c 0 _ rfl
    have q3_y_1 := V3_y.c 1 _ rfl
    have q3_y_2 := V3_y.c 2 _ rfl
    have q3_y_3 := V3_y.c 3 _ rfl
    have f3_y := V3_y.2.2; have L3_y := V3_y.lt; have N3_y := Nat.ne_of_gt L3_y; have M3_y := Nat.ne_of_lt L3_y
    have HV3_y := Lib.hid V3_y
    have q3_v_0 := V3_v.c 0 _ rfl
    have q3_v_1 := V3_v.c 1 _ rfl
    have f3_v := V3_v.2.2; have L3_v := V3_v.lt; have N3_v := Nat.ne_of_gt L3_v; have M3_v := Nat.ne_of_lt L3_v
    have HV3_v := Lib.hid V3_v
    have q3_b_0 := V3_b.c 0 _ rfl
    have q3_b_1 := V3_b.c 1 _ rfl
    have q3_b_2 := V3_b.c 2 _ rfl
    have q3_b_3 := V3_b.c 3 _ rfl
    have f3_b := V3_b.2.2; have L3_b := V3_b.lt; have N3_b := Nat.ne_of_gt L3_b; have M3_b := Nat.ne_of_lt L3_b
    have HV3_b := Lib.hid V3_b
    have S3 := G3.size; clear hb
    clear z3_x_0 z3_x_1 z3_x_2 z3_x_3 z3_y_0 z3_y_1 z3_y_2 z3_y_3 z3_v_0 z3_v_1 z3_b_0 z3_b_1 z3_b_2 z3_b_3 HS
    go_wp2_with fail
    refine M.wp_region_later (fun w' => M.Var w' (w.heap.size) #[.int .i64 x.lx, .int .i64 x.ly, .int .i64 x.hx, .int .i64 x.hy] ∧ M.Var w' (w.heap.size + 1) #[.int .i64 y.lx, .int .i64 y.ly, .int .i64 y.hx, .int .i64 y.hy] ∧ M.Var w' (w2.heap.size) #[.int .i64 q.lx, .int .i64 q.ly, .int .i64 q.hx, .int .i64 q.hy] ∧ True) (by kernel_rfl) (by kernel_rfl) (fun w' hb => ⟨M.Var.mono (by (repeat (first | (with_reducible assumption) | exact M.var_alloc' _ _ _ (by first | rfl | simp [go_sem]) | (with_reducible refine M.Var.alloc ?_ _) | (with_reducible refine M.Var.drewN ?_ _) | (with_reducible refine M.Var.drew ?_) | (with_reducible refine M.Var.far ?_ _ _ (by first | omega | (simp [go_sem] <;> omega))))) : M.Var _ (w.heap.size) #[.int .i64 x.lx, .int .i64 x.ly, .int .i64 x.hx, .int .i64 x.hy]) hb, M.Var.mono (by (repeat (first | (with_reducible assumption) | exact M.var_alloc' _ _ _ (by first | rfl | simp [go_sem]) | (with_reducible refine M.Var.alloc ?_ _) | (with_reducible refine M.Var.drewN ?_ _) | (with_reducible refine M.Var.drew ?_) | (with_reducible refine M.Var.far ?_ _ _ (by first | omega | (simp [go_sem] <;> omega))))) : M.Var _ (w.heap.size + 1) #[.int .i64 y.lx, .int .i64 y.ly, .int .i64 y.hx, .int .i64 y.hy]) hb, M.Var.mono (by (repeat (first | (with_reducible assumption) | exact M.var_alloc' _ _ _ (by first | rfl | simp [go_sem]) | (with_reducible refine M.Var.alloc ?_ _) | (with_reducible refine M.Var.drewN ?_ _) | (with_reducible refine M.Var.drew ?_) | (with_reducible refine M.Var.far ?_ _ _ (by first | omega | (simp [go_sem] <;> omega))))) : M.Var _ (w2.heap.size) #[.int .i64 q.lx, .int .i64 q.ly, .int .i64 q.hx, .int .i64 q.hy]) hb, trivial⟩) ?_
    intro hS
    have z4_x_0 := fun p => (hS p).1.c 0 _ rfl
    have z4_x_1 := fun p => (hS p).1.c 1 _ rfl
    have z4_x_2 := fun p => (hS p).1.c 2 _ rfl
    have z4_x_3 := fun p => (hS p).1.c 3 _ rfl
    have z4_y_0 := fun p => (hS p).2.1.c 0 _ rfl
    have z4_y_1 := fun p => (hS p).2.1.c 1 _ rfl
    have z4_y_2 := fun p => (hS p).2.1.c 2 _ rfl
    have z4_y_3 := fun p => (hS p).2.1.c 3 _ rfl
    have z4_b_0 := fun p => (hS p).2.2.1.c 0 _ rfl
    have z4_b_1 := fun p => (hS p).2.2.1.c 1 _ rfl
    have z4_b_2 := fun p => (hS p).2.2.1.c 2 _ rfl
    have z4_b_3 := fun p => (hS p).2.2.1.c 3 _ rfl
    have HS := Lib.hid hS; clear hS
    repeat (go_big_quiet_step ((first
          | (go_at_call 53; with_reducible exact M.later_of (C4.out _))
      )))
    refine wpQuiet_nil ?_
    intro w4 hw'
    obtain ⟨pL, hL⟩ := hw'
    have hb := pL.h; rw [← hL] at hb; clear hL pL
    have G4 : Below w.heap.size w w4 := Below.trans (by (repeat (with_reducible refine M.Below.drewN ?_ _)); go_grown) (hb.mono (by go_size))
    have V4_x : M.Var w4 (w.heap.size) #[.int .i64 x.lx, .int .i64 x.ly, .int .i64 x.hx, .int .i64 x.hy] := M.Var.mono (by (repeat (first | (with_reducible assumption) | exact M.var_alloc' _ _ _ (by first | rfl | simp [go_sem]) | (with_reducible refine M.Var.alloc ?_ _) | (with_reducible refine M.Var.drewN ?_ _) | (with_reducible refine M.Var.drew ?_) | (with_reducible refine M.Var.far ?_ _ _ (by first | omega | (simp [go_sem] <;> omega)))))) hb
    have V4_y : M.Var w4 (w.heap.size + 1) #[.int .i64 y.lx, .int .i64 y.ly, .int .i64 y.hx, .int .i64 y.hy] := M.Var.mono (by (repeat (first | (with_reducible assumption) | exact M.var_alloc' _ _ _ (by first | rfl | simp [go_sem]) | (with_reducible refine M.Var.alloc ?_ _) | (with_reducible refine M.Var.drewN ?_ _) | (with_reducible refine M.Var.drew ?_) | (with_reducible refine M.Var.far ?_ _ _ (by first | omega | (simp [go_sem] <;> omega)))))) hb
    have V4_v : M.Var w4 (w.heap.size + 1 + 1) #[.int .i64 v1, .int .i64 v2] := M.Var.mono (by (repeat (first | (with_reducible assumption) | exact M.var_alloc' _ _ _ (by first | rfl | simp [go_sem]) | (with_reducible refine M.Var.alloc ?_ _) | (with_reducible refine M.Var.drewN ?_ _) | (with_reducible refine M.Var.drew ?_) | (with_reducible refine M.Var.far ?_ _ _ (by first | omega | (simp [go_sem] <;> omega)))))) hb
    have V4_b : M.Var w4 (w2.heap.size) #[.int .i64 q.lx, .int .i64 q.ly, .int .i64 q.hx, .int .i64 q.hy] := M.Var.mono (by (repeat (first | (with_reducible assumption) | exact M.var_alloc' _ _ _ (by first | rfl | simp [go_sem]) | (with_reducible refine M.Var.alloc ?_ _) | (with_reducible refine M.Var.drewN ?_ _) | (with_reducible refine M.Var.drew ?_) | (with_reducible refine M.Var.far ?_ _ _ (by first | omega | (simp [go_sem] <;> omega)))))) hb
    have q4_x_0 := V4_x.c 0 _ rfl
    have q4_x_1 := V4_x.c 1 _ rfl
    have q4_x_2 := V4_x.c 2 _ rfl
    have q4_x_3 := V4_x.c 3 _ rfl
    have f4_x := V4_x.2.2; have L4_x := V4_x.lt; have N4_x := Nat.ne_of_gt L4_x; have M4_x := Nat.ne_of_lt L4_x
    have HV4_x := Lib.hid V4_x
    have q4_y_0 := V4_y.c 0 _ rfl
    have q4_y_1 := V4_y.c 1 _ rfl
    have q4_y_2 := V4_y.c 2 _ rfl
    have q4_y_3 := V4_y.c 3 _ rfl
    have f4_y := V4_y.2.2; have L4_y := V4_y.lt; have N4_y := Nat.ne_of_gt L4_y; have M4_y := Nat.ne_of_lt L4_y
    have HV4_y := Lib.hid V4_y
    have q4_v_0 := V4_v.c 0 _ rfl
    have q4_v_1 := V4_v.c 1 _ rfl
    have f4_v := V4_v.2.2; have L4_v := V4_v.lt; have N4_v := Nat.ne_of_gt L4_v; have M4_v := Nat.ne_of_lt L4_v
    have HV4_v := Lib.hid V4_v
    have q4_b_0 := V4_b.c 0 _ rfl
    have q4_b_1 := V4_b.c 1 _ rfl
    have q4_b_2 := V4_b.c 2 _ rfl
    have q4_b_3 := V4_b.c 3 _ rfl
    have f4_b := V4_b.2.2; have L4_b := V4_b.lt; have N4_b := Nat.ne_of_gt L4_b; have M4_b := Nat.ne_of_lt L4_b
    have HV4_b := Lib.hid V4_b
    have S4 := G4.size; clear hb
    clear z4_x_0 z4_x_1 z4_x_2 z4_x_3 z4_y_0 z4_y_1 z4_y_2 z4_y_3 z4_b_0 z4_b_1 z4_b_2 z4_b_3 HS
    go_wp2_with fail
    go_ret
    exact ⟨rfl, by (repeat (with_reducible refine M.Below.drewN ?_ _)); go_grown⟩
  · skip
    have C5 := Lib.hid c5; have C6 := Lib.hid c6; have C7 := Lib.hid c7
    clear c5 c6 c7
    go_enter Try.func7, Try.ntmps7
    go_wp2_with fail
    (with_reducible refine (c0.out _).mono ?_); rintro en w1 ⟨rfl, hb⟩
    have G1 : Below w.heap.size w w1 := Below.trans (by (repeat (with_reducible refine M.Below.drewN ?_ _)); go_grown) (hb.mono (by go_size))
    have V1_x : M.Var w1 (w.heap.size) #[.int .i64 x.lx, .int .i64 x.ly, .int .i64 x.hx, .int .i64 x.hy] := M.Var.mono (by (repeat (first | (with_reducible assumption) | exact M.var_alloc' _ _ _ (by first | rfl | simp [go_sem]) | (with_reducible refine M.Var.alloc ?_ _) | (with_reducible refine M.Var.drewN ?_ _) | (with_reducible refine M.Var.drew ?_) | (with_reducible refine M.Var.far ?_ _ _ (by first | omega | (simp [go_sem] <;> omega)))))) hb
    have V1_y : M.Var w1 (w.heap.size + 1) #[.int .i64 y.lx, .int .i64 y.ly, .int .i64 y.hx, .int .i64 y.hy] := M.Var.mono (by (repeat (first | (with_reducible assumption) | exact M.var_alloc' _ _ _ (by first | rfl | simp [go_sem]) | (with_reducible refine M.Var.alloc ?_ _) | (with_reducible refine M.Var.drewN ?_ _) | (with_reducible refine M.Var.drew ?_) | (with_reducible refine M.Var.far ?_ _ _ (by first | omega | (simp [go_sem] <;> omega)))))) hb
    have V1_v : M.Var w1 (w.heap.size + 1 + 1) #[.int .i64 v1, .int .i64 v2] := M.Var.mono (by (repeat (first | (with_reducible assumption) | exact M.var_alloc' _ _ _ (by first | rfl | simp [go_sem]) | (with_reducible refine M.Var.alloc ?_ _) | (with_reducible refine M.Var.drewN ?_ _) | (with_reducible refine M.Var.drew ?_) | (with_reducible refine M.Var.far ?_ _ _ (by first | omega | (simp [go_sem] <;> omega)))))) hb
    have q1_x_0 := V1_x.c 0 _ rfl
    have q1_x_1 := V1_x.c 1 _ rfl
    have q1_x_2 := V1_x.c 2 _ rfl
    have q1_x_3 := V1_x.c 3 _ rfl
    have f1_x := V1_x.2.2; have L1_x := V1_x.lt; have N1_x := Nat.ne_of_gt L1_x; have M1_x := Nat.ne_of_lt L1_x
    have HV1_x := Lib.hid V1_x
    have q1_y_0 := V1_y.c 0 _ rfl
    have q1_y_1 := V1_y.c 1 _ rfl
    have q1_y_2 := V1_y.c 2 _ rfl
    have q1_y_3 := V1_y.c 3 _ rfl
    have f1_y := V1_y.2.2; have L1_y := V1_y.lt; have N1_y := Nat.ne_of_gt L1_y; have M1_y := Nat.ne_of_lt L1_y
    have HV1_y := Lib.hid V1_y
    have q1_v_0 := V1_v.c 0 _ rfl
    have q1_v_1 := V1_v.c 1 _ rfl
    have f1_v := V1_v.2.2; have L1_v := V1_v.lt; have N1_v := Nat.ne_of_gt L1_v; have M1_v := Nat.ne_of_lt L1_v
    have HV1_v := Lib.hid V1_v
    have S1 := G1.size; clear hb
    go_wp2_with fail
    (with_reducible refine (C1.out _).mono ?_); rintro en w2 ⟨rfl, hb⟩
    have G2 : Below w.heap.size w w2 := Below.trans (by (repeat (with_reducible refine M.Below.drewN ?_ _)); go_grown) (hb.mono (by go_size))
    have V2_x : M.Var w2 (w.heap.size) #[.int .i64 x.lx, .int .i64 x.ly, .int .i64 x.hx, .int .i64 x.hy] := M.Var.mono (by (repeat (first | (with_reducible assumption) | exact M.var_alloc' _ _ _ (by first | rfl | simp [go_sem]) | (with_reducible refine M.Var.alloc ?_ _) | (with_reducible refine M.Var.drewN ?_ _) | (with_reducible refine M.Var.drew ?_) | (with_reducible refine M.Var.far ?_ _ _ (by first | omega | (simp [go_sem] <;> omega)))))) hb
    have V2_y : M.Var w2 (w.heap.size + 1) #[.int .i64 y.lx, .int .i64 y.ly, .int .i64 y.hx, .int .i64 y.hy] := M.Var.mono (by (repeat (first | (with_reducible assumption) | exact M.var_alloc' _ _ _ (by first | rfl | simp [go_sem]) | (with_reducible refine M.Var.alloc ?_ _) | (with_reducible refine M.Var.drewN ?_ _) | (with_reducible refine M.Var.drew ?_) | (with_reducible refine M.Var.far ?_ _ _ (by first | omega | (simp [go_sem] <;> omega)))))) hb
    have V2_v : M.Var w2 (w.heap.size + 1 + 1) #[.int .i64 v1, .int .i64 v2] := M.Var.mono (by (repeat (first | (with_reducible assumption) | exact M.var_alloc' _ _ _ (by first | rfl | simp [go_sem]) | (with_reducible refine M.Var.alloc ?_ _) | (with_reducible refine M.Var.drewN ?_ _) | (with_reducible refine M.Var.drew ?_) | (with_reducible refine M.Var.far ?_ _ _ (by first | omega | (simp [go_sem] <;> omega)))))) hb
    have q2_x_0 := V2_x.c 0 _ rfl
    have q2_x_1 := V2_x.c 1 _ rfl
    have q2_x_2 := V2_x.c 2 _ rfl
    have q2_x_3 := V2_x.c 3 _ rfl
    have f2_x := V2_x.2.2; have L2_x := V2_x.lt; have N2_x := Nat.ne_of_gt L2_x; have M2_x := Nat.ne_of_lt L2_x
    have HV2_x := Lib.hid V2_x
    have q2_y_0 := V2_y.c 0 _ rfl
    have q2_y_1 := V2_y.c 1 _ rfl
    have q2_y_2 := V2_y.c 2 _ rfl
    have q2_y_3 := V2_y.c 3 _ rfl
    have f2_y := V2_y.2.2; have L2_y := V2_y.lt; have N2_y := Nat.ne_of_gt L2_y; have M2_y := Nat.ne_of_lt L2_y
    have HV2_y := Lib.hid V2_y
    have q2_v_0 := V2_v.c 0 _ rfl
    have q2_v_1 := V2_v.c 1 _ rfl
    have f2_v := V2_v.2.2; have L2_v := V2_v.lt; have N2_v := Nat.ne_of_gt L2_v; have M2_v := Nat.ne_of_lt L2_v
    have HV2_v := Lib.hid V2_v
    have S2 := G2.size; clear hb
    go_wp2_with fail
    refine M.wp_region_later (fun w' => M.Var w' (w.heap.size) #[.int .i64 x.lx, .int .i64 x.ly, .int .i64 x.hx, .int .i64 x.hy] ∧ M.Var w' (w.heap.size + 1) #[.int .i64 y.lx, .int .i64 y.ly, .int .i64 y.hx, .int .i64 y.hy] ∧ M.Var w' (w.heap.size + 1 + 1) #[.int .i64 v1, .int .i64 v2] ∧ M.Var w' (w2.heap.size) #[.int .i64 q.lx, .int .i64 q.ly, .int .i64 q.hx, .int .i64 q.hy] ∧ True) (by kernel_rfl) (by kernel_rfl) (fun w' hb => ⟨M.Var.mono (by (repeat (first | (with_reducible assumption) | exact M.var_alloc' _ _ _ (by first | rfl | simp [go_sem]) | (with_reducible refine M.Var.alloc ?_ _) | (with_reducible refine M.Var.drewN ?_ _) | (with_reducible refine M.Var.drew ?_) | (with_reducible refine M.Var.far ?_ _ _ (by first | omega | (simp [go_sem] <;> omega))))) : M.Var _ (w.heap.size) #[.int .i64 x.lx, .int .i64 x.ly, .int .i64 x.hx, .int .i64 x.hy]) hb, M.Var.mono (by (repeat (first | (with_reducible assumption) | exact M.var_alloc' _ _ _ (by first | rfl | simp [go_sem]) | (with_reducible refine M.Var.alloc ?_ _) | (with_reducible refine M.Var.drewN ?_ _) | (with_reducible refine M.Var.drew ?_) | (with_reducible refine M.Var.far ?_ _ _ (by first | omega | (simp [go_sem] <;> omega))))) : M.Var _ (w.heap.size + 1) #[.int .i64 y.lx, .int .i64 y.ly, .int .i64 y.hx, .int .i64 y.hy]) hb, M.Var.mono (by (repeat (first | (with_reducible assumption) | exact M.var_alloc' _ _ _ (by first | rfl | simp [go_sem]) | (with_reducible refine M.Var.alloc ?_ _) | (with_reducible refine M.Var.drewN ?_ _) | (with_reducible refine M.Var.drew ?_) | (with_reducible refine M.Var.far ?_ _ _ (by first | omega | (simp [go_sem] <;> omega))))) : M.Var _ (w.heap.size + 1 + 1) #[.int .i64 v1, .int .i64 v2]) hb, M.Var.mono (by (repeat (first | (with_reducible assumption) | exact M.var_alloc' _ _ _ (by first | rfl | simp [go_sem]) | (with_reducible refine M.Var.alloc ?_ _) | (with_reducible refine M.Var.drewN ?_ _) | (with_reducible refine M.Var.drew ?_) | (with_reducible refine M.Var.far ?_ _ _ (by first | omega | (simp [go_sem] <;> omega))))) : M.Var _ (w2.heap.size) #[.int .i64 q.lx, .int .i64 q.ly, .int .i64 q.hx, .int .i64 q.hy]) hb, trivial⟩) ?_
    intro hS
    have z3_x_0 := fun p => (hS p).1.c 0 _ rfl
    have z3_x_1 := fun p => (hS p).1.c 1 _ rfl
    have z3_x_2 := fun p => (hS p).1.c 2 _ rfl
    have z3_x_3 := fun p => (hS p).1.c 3 _ rfl
    have z3_y_0 := fun p => (hS p).2.1.c 0 _ rfl
    have z3_y_1 := fun p => (hS p).2.1.c 1 _ rfl
    have z3_y_2 := fun p => (hS p).2.1.c 2 _ rfl
    have z3_y_3 := fun p => (hS p).2.1.c 3 _ rfl
    have z3_v_0 := fun p => (hS p).2.2.1.c 0 _ rfl
    have z3_v_1 := fun p => (hS p).2.2.1.c 1 _ rfl
    have z3_b_0 := fun p => (hS p).2.2.2.1.c 0 _ rfl
    have z3_b_1 := fun p => (hS p).2.2.2.1.c 1 _ rfl
    have z3_b_2 := fun p => (hS p).2.2.2.1.c 2 _ rfl
    have z3_b_3 := fun p => (hS p).2.2.2.1.c 3 _ rfl
    have HS := Lib.hid hS; clear hS
    repeat (go_big_quiet_step ((first
          | (go_at_call 53; with_reducible exact M.later_of (C2.out _))
          | (go_at_call 53; with_reducible exact M.later_of (C3.out _))
          | (go_at_call 43; with_reducible exact M.later_of (C5.out _))
          | (go_at_call 43; with_reducible exact M.later_of (C6.out _))
          | (go_at_call 43; with_reducible exact M.later_of (C7.out _))
      )))
    refine wpQuiet_nil ?_
    intro w3 hw'
    obtain ⟨pL, hL⟩ := hw'
    have hb := pL.h; rw [← hL] at hb; clear hL pL
    have G3 : Below w.heap.size w w3 := Below.trans (by (repeat (with_reducible refine M.Below.drewN ?_ _)); go_grown) (hb.mono (by go_size))
    have V3_x : M.Var w3 (w.heap.size) #[.int .i64 x.lx, .int .i64 x.ly, .int .i64 x.hx, .int .i64 x.hy] := M.Var.mono (by (repeat (first | (with_reducible assumption) | exact M.var_alloc' _ _ _ (by first | rfl | simp [go_sem]) | (with_reducible refine M.Var.alloc ?_ _) | (with_reducible refine M.Var.drewN ?_ _) | (with_reducible refine M.Var.drew ?_) | (with_reducible refine M.Var.far ?_ _ _ (by first | omega | (simp [go_sem] <;> omega)))))) hb
    have V3_y : M.Var w3 (w.heap.size + 1) #[.int .i64 y.lx, .int .i64 y.ly, .int .i64 y.hx, .int .i64 y.hy] := M.Var.mono (by (repeat (first | (with_reducible assumption) | exact M.var_alloc' _ _ _ (by first | rfl | simp [go_sem]) | (with_reducible refine M.Var.alloc ?_ _) | (with_reducible refine M.Var.drewN ?_ _) | (with_reducible refine M.Var.drew ?_) | (with_reducible refine M.Var.far ?_ _ _ (by first | omega | (simp [go_sem] <;> omega)))))) hb
    have V3_v : M.Var w3 (w.heap.size + 1 + 1) #[.int .i64 v1, .int .i64 v2] := M.Var.mono (by (repeat (first | (with_reducible assumption) | exact M.var_alloc' _ _ _ (by first | rfl | simp [go_sem]) | (with_reducible refine M.Var.alloc ?_ _) | (with_reducible refine M.Var.drewN ?_ _) | (with_reducible refine M.Var.drew ?_) | (with_reducible refine M.Var.far ?_ _ _ (by first | omega | (simp [go_sem] <;> omega)))))) hb
    have V3_b : M.Var w3 (w2.heap.size) #[.int .i64 q.lx, .int .i64 q.ly, .int .i64 q.hx, .int .i64 q.hy] := M.Var.mono (by (repeat (first | (with_reducible assumption) | exact M.var_alloc' _ _ _ (by first | rfl | simp [go_sem]) | (with_reducible refine M.Var.alloc ?_ _) | (with_reducible refine M.Var.drewN ?_ _) | (with_reducible refine M.Var.drew ?_) | (with_reducible refine M.Var.far ?_ _ _ (by first | omega | (simp [go_sem] <;> omega)))))) hb
    have q3_x_0 := V3_x.c 0 _ rfl
    have q3_x_1 := V3_x.c 1 _ rfl
    have q3_x_2 := V3_x.c 2 _ rfl
    have q3_x_3 := V3_x.c 3 _ rfl
    have f3_x := V3_x.2.2; have L3_x := V3_x.lt; have N3_x := Nat.ne_of_gt L3_x; have M3_x := Nat.ne_of_lt L3_x
    have HV3_x := Lib.hid V3_x
    have q3_y_0 := V3_y.c 0 _ rfl
    have q3_y_1 := V3_y.c 1 _ rfl
    have q3_y_2 := V3_y.c 2 _ rfl
    have q3_y_3 := V3_y.c 3 _ rfl
    have f3_y := V3_y.2.2; have L3_y := V3_y.lt; have N3_y := Nat.ne_of_gt L3_y; have M3_y := Nat.ne_of_lt L3_y
    have HV3_y := Lib.hid V3_y
    have q3_v_0 := V3_v.c 0 _ rfl
    have q3_v_1 := V3_v.c 1 _ rfl
    have f3_v := V3_v.2.2; have L3_v := V3_v.lt; have N3_v := Nat.ne_of_gt L3_v; have M3_v := Nat.ne_of_lt L3_v
    have HV3_v := Lib.hid V3_v
    have q3_b_0 := V3_b.c 0 _ rfl
    have q3_b_1 := V3_b.c 1 _ rfl
    have q3_b_2 := V3_b.c 2 _ rfl
    have q3_b_3 := V3_b.c 3 _ rfl
    have f3_b := V3_b.2.2; have L3_b := V3_b.lt; have N3_b := Nat.ne_of_gt L3_b; have M3_b := Nat.ne_of_lt L3_b
    have HV3_b := Lib.hid V3_b
    have S3 := G3.size; clear hb
    clear z3_x_0 z3_x_1 z3_x_2 z3_x_3 z3_y_0 z3_y_1 z3_y_2 z3_y_3 z3_v_0 z3_v_1 z3_b_0 z3_b_1 z3_b_2 z3_b_3 HS
    go_wp2_with fail
    refine M.wp_region_later (fun w' => M.Var w' (w.heap.size) #[.int .i64 x.lx, .int .i64 x.ly, .int .i64 x.hx, .int .i64 x.hy] ∧ M.Var w' (w.heap.size + 1) #[.int .i64 y.lx, .int .i64 y.ly, .int .i64 y.hx, .int .i64 y.hy] ∧ M.Var w' (w2.heap.size) #[.int .i64 q.lx, .int .i64 q.ly, .int .i64 q.hx, .int .i64 q.hy] ∧ True) (by kernel_rfl) (by kernel_rfl) (fun w' hb => ⟨M.Var.mono (by (repeat (first | (with_reducible assumption) | exact M.var_alloc' _ _ _ (by first | rfl | simp [go_sem]) | (with_reducible refine M.Var.alloc ?_ _) | (with_reducible refine M.Var.drewN ?_ _) | (with_reducible refine M.Var.drew ?_) | (with_reducible refine M.Var.far ?_ _ _ (by first | omega | (simp [go_sem] <;> omega))))) : M.Var _ (w.heap.size) #[.int .i64 x.lx, .int .i64 x.ly, .int .i64 x.hx, .int .i64 x.hy]) hb, M.Var.mono (by (repeat (first | (with_reducible assumption) | exact M.var_alloc' _ _ _ (by first | rfl | simp [go_sem]) | (with_reducible refine M.Var.alloc ?_ _) | (with_reducible refine M.Var.drewN ?_ _) | (with_reducible refine M.Var.drew ?_) | (with_reducible refine M.Var.far ?_ _ _ (by first | omega | (simp [go_sem] <;> omega))))) : M.Var _ (w.heap.size + 1) #[.int .i64 y.lx, .int .i64 y.ly, .int .i64 y.hx, .int .i64 y.hy]) hb, M.Var.mono (by (repeat (first | (with_reducible assumption) | exact M.var_alloc' _ _ _ (by first | rfl | simp [go_sem]) | (with_reducible refine M.Var.alloc ?_ _) | (with_reducible refine M.Var.drewN ?_ _) | (with_reducible refine M.Var.drew ?_) | (with_reducible refine M.Var.far ?_ _ _ (by first | omega | (simp [go_sem] <;> omega))))) : M.Var _ (w2.heap.size) #[.int .i64 q.lx, .int .i64 q.ly, .int .i64 q.hx, .int .i64 q.hy]) hb, trivial⟩) ?_
    intro hS
    have z4_x_0 := fun p => (hS p).1.c 0 _ rfl
    have z4_x_1 := fun p => (hS p).1.c 1 _ rfl
    have z4_x_2 := fun p => (hS p).1.c 2 _ rfl
    have z4_x_3 := fun p => (hS p).1.c 3 _ rfl
    have z4_y_0 := fun p => (hS p).2.1.c 0 _ rfl
    have z4_y_1 := fun p => (hS p).2.1.c 1 _ rfl
    have z4_y_2 := fun p => (hS p).2.1.c 2 _ rfl
    have z4_y_3 := fun p => (hS p).2.1.c 3 _ rfl
    have z4_b_0 := fun p => (hS p).2.2.1.c 0 _ rfl
    have z4_b_1 := fun p => (hS p).2.2.1.c 1 _ rfl
    have z4_b_2 := fun p => (hS p).2.2.1.c 2 _ rfl
    have z4_b_3 := fun p => (hS p).2.2.1.c 3 _ rfl
    have HS := Lib.hid hS; clear hS
    repeat (go_big_quiet_step ((first
          | (go_at_call 53; with_reducible exact M.later_of (C4.out _))
      )))
    refine wpQuiet_nil ?_
    intro w4 hw'
    obtain ⟨pL, hL⟩ := hw'
    have hb := pL.h; rw [← hL] at hb; clear hL pL
    have G4 : Below w.heap.size w w4 := Below.trans (by (repeat (with_reducible refine M.Below.drewN ?_ _)); go_grown) (hb.mono (by go_size))
    have V4_x : M.Var w4 (w.heap.size) #[.int .i64 x.lx, .int .i64 x.ly, .int .i64 x.hx, .int .i64 x.hy] := M.Var.mono (by (repeat (first | (with_reducible assumption) | exact M.var_alloc' _ _ _ (by first | rfl | simp [go_sem]) | (with_reducible refine M.Var.alloc ?_ _) | (with_reducible refine M.Var.drewN ?_ _) | (with_reducible refine M.Var.drew ?_) | (with_reducible refine M.Var.far ?_ _ _ (by first | omega | (simp [go_sem] <;> omega)))))) hb
    have V4_y : M.Var w4 (w.heap.size + 1) #[.int .i64 y.lx, .int .i64 y.ly, .int .i64 y.hx, .int .i64 y.hy] := M.Var.mono (by (repeat (first | (with_reducible assumption) | exact M.var_alloc' _ _ _ (by first | rfl | simp [go_sem]) | (with_reducible refine M.Var.alloc ?_ _) | (with_reducible refine M.Var.drewN ?_ _) | (with_reducible refine M.Var.drew ?_) | (with_reducible refine M.Var.far ?_ _ _ (by first | omega | (simp [go_sem] <;> omega)))))) hb
    have V4_v : M.Var w4 (w.heap.size + 1 + 1) #[.int .i64 v1, .int .i64 v2] := M.Var.mono (by (repeat (first | (with_reducible assumption) | exact M.var_alloc' _ _ _ (by first | rfl | simp [go_sem]) | (with_reducible refine M.Var.alloc ?_ _) | (with_reducible refine M.Var.drewN ?_ _) | (with_reducible refine M.Var.drew ?_) | (with_reducible refine M.Var.far ?_ _ _ (by first | omega | (simp [go_sem] <;> omega)))))) hb
    have V4_b : M.Var w4 (w2.heap.size) #[.int .i64 q.lx, .int .i64 q.ly, .int .i64 q.hx, .int .i64 q.hy] := M.Var.mono (by (repeat (first | (with_reducible assumption) | exact M.var_alloc' _ _ _ (by first | rfl | simp [go_sem]) | (with_reducible refine M.Var.alloc ?_ _) | (with_reducible refine M.Var.drewN ?_ _) | (with_reducible refine M.Var.drew ?_) | (with_reducible refine M.Var.far ?_ _ _ (by first | omega | (simp [go_sem] <;> omega)))))) hb
    have q4_x_0 := V4_x.c 0 _ rfl
    have q4_x_1 := V4_x.c 1 _ rfl
    have q4_x_2 := V4_x.c 2 _ rfl
    have q4_x_3 := V4_x.c 3 _ rfl
    have f4_x := V4_x.2.2; have L4_x := V4_x.lt; have N4_x := Nat.ne_of_gt L4_x; have M4_x := Nat.ne_of_lt L4_x
    have HV4_x := Lib.hid V4_x
    have q4_y_0 := V4_y.c 0 _ rfl
    have q4_y_1 := V4_y.c 1 _ rfl
    have q4_y_2 := V4_y.c 2 _ rfl
    have q4_y_3 := V4_y.c 3 _ rfl
    have f4_y := V4_y.2.2; have L4_y := V4_y.lt; have N4_y := Nat.ne_of_gt L4_y; have M4_y := Nat.ne_of_lt L4_y
    have HV4_y := Lib.hid V4_y
    have q4_v_0 := V4_v.c 0 _ rfl
    have q4_v_1 := V4_v.c 1 _ rfl
    have f4_v := V4_v.2.2; have L4_v := V4_v.lt; have N4_v := Nat.ne_of_gt L4_v; have M4_v := Nat.ne_of_lt L4_v
    have HV4_v := Lib.hid V4_v
    have q4_b_0 := V4_b.c 0 _ rfl
    have q4_b_1 := V4_b.c 1 _ rfl
    have q4_b_2 := V4_b.c 2 _ rfl
    have q4_b_3 := V4_b.c 3 _ rfl
    have f4_b := V4_b.2.2; have L4_b := V4_b.lt; have N4_b := Nat.ne_of_gt L4_b; have M4_b := Nat.ne_of_lt L4_b
    have HV4_b := Lib.hid V4_b
    have S4 := G4.size; clear hb
    clear z4_x_0 z4_x_1 z4_x_2 z4_x_3 z4_y_0 z4_y_1 z4_y_2 z4_y_3 z4_b_0 z4_b_1 z4_b_2 z4_b_3 HS
    go_wp2_with fail
    go_ret
    exact ⟨rfl, by (repeat (with_reducible refine M.Below.drewN ?_ _)); go_grown⟩
  · skip
    have C5 := Lib.hid c5; have C6 := Lib.hid c6; have C7 := Lib.hid c7
    clear c5 c6 c7
    go_enter Try.func7, Try.ntmps7
    go_wp2_with fail
    (with_reducible refine (c0.out _).mono ?_); rintro en w1 ⟨rfl, hb⟩
    have G1 : Below w.heap.size w w1 := Below.trans (by (repeat (with_reducible refine M.Below.drewN ?_ _)); go_grown) (hb.mono (by go_size))
    have V1_x : M.Var w1 (w.heap.size) #[.int .i64 x.lx, .int .i64 x.ly, .int .i64 x.hx, .int .i64 x.hy] := M.Var.mono (by (repeat (first | (with_reducible assumption) | exact M.var_alloc' _ _ _ (by first | rfl | simp [go_sem]) | (with_reducible refine M.Var.alloc ?_ _) | (with_reducible refine M.Var.drewN ?_ _) | (with_reducible refine M.Var.drew ?_) | (with_reducible refine M.Var.far ?_ _ _ (by first | omega | (simp [go_sem] <;> omega)))))) hb
    have V1_y : M.Var w1 (w.heap.size + 1) #[.int .i64 y.lx, .int .i64 y.ly, .int .i64 y.hx, .int .i64 y.hy] := M.Var.mono (by (repeat (first | (with_reducible assumption) | exact M.var_alloc' _ _ _ (by first | rfl | simp [go_sem]) | (with_reducible refine M.Var.alloc ?_ _) | (with_reducible refine M.Var.drewN ?_ _) | (with_reducible refine M.Var.drew ?_) | (with_reducible refine M.Var.far ?_ _ _ (by first | omega | (simp [go_sem] <;> omega)))))) hb
    have V1_v : M.Var w1 (w.heap.size + 1 + 1) #[.int .i64 v1, .int .i64 v2] := M.Var.mono (by (repeat (first | (with_reducible assumption) | exact M.var_alloc' _ _ _ (by first | rfl | simp [go_sem]) | (with_reducible refine M.Var.alloc ?_ _) | (with_reducible refine M.Var.drewN ?_ _) | (with_reducible refine M.Var.drew ?_) | (with_reducible refine M.Var.far ?_ _ _ (by first | omega | (simp [go_sem] <;> omega)))))) hb
    have q1_x_0 := V1_x.c 0 _ rfl
    have q1_x_1 := V1_x.c 1 _ rfl
    have q1_x_2 := V1_x.c 2 _ rfl
    have q1_x_3 := V1_x.c 3 _ rfl
    have f1_x := V1_x.2.2; have L1_x := V1_x.lt; have N1_x := Nat.ne_of_gt L1_x; have M1_x := Nat.ne_of_lt L1_x
    have HV1_x := Lib.hid V1_x
    have q1_y_0 := V1_y.c 0 _ rfl
    have q1_y_1 := V1_y.c 1 _ rfl
    have q1_y_2 := V1_y.c 2 _ rfl
    have q1_y_3 := V1_y.c 3 _ rfl
    have f1_y := V1_y.2.2; have L1_y := V1_y.lt; have N1_y := Nat.ne_of_gt L1_y; have M1_y := Nat.ne_of_lt L1_y
    have HV1_y := Lib.hid V1_y
    have q1_v_0 := V1_v.c 0 _ rfl
    have q1_v_1 := V1_v.c 1 _ rfl
    have f1_v := V1_v.2.2; have L1_v := V1_v.lt; have N1_v := Nat.ne_of_gt L1_v; have M1_v := Nat.ne_of_lt L1_v
    have HV1_v := Lib.hid V1_v
    have S1 := G1.size; clear hb
    go_wp2_with fail
    (with_reducible refine (C1.out _).mono ?_); rintro en w2 ⟨rfl, hb⟩
    have G2 : Below w.heap.size w w2 := Below.trans (by (repeat (with_reducible refine M.Below.drewN ?_ _)); go_grown) (hb.mono (by go_size))
    have V2_x : M.Var w2 (w.heap.size) #[.int .i64 x.lx, .int .i64 x.ly, .int .i64 x.hx, .int .i64 x.hy] := M.Var.mono (by (repeat (first | (with_reducible assumption) | exact M.var_alloc' _ _ _ (by first | rfl | simp [go_sem]) | (with_reducible refine M.Var.alloc ?_ _) | (with_reducible refine M.Var.drewN ?_ _) | (with_reducible refine M.Var.drew ?_) | (with_reducible refine M.Var.far ?_ _ _ (by first | omega | (simp [go_sem] <;> omega)))))) hb
    have V2_y : M.Var w2 (w.heap.size + 1) #[.int .i64 y.lx, .int .i64 y.ly, .int .i64 y.hx, .int .i64 y.hy] := M.Var.mono (by (repeat (first | (with_reducible assumption) | exact M.var_alloc' _ _ _ (by first | rfl | simp [go_sem]) | (with_reducible refine M.Var.alloc ?_ _) | (with_reducible refine M.Var.drewN ?_ _) | (with_reducible refine M.Var.drew ?_) | (with_reducible refine M.Var.far ?_ _ _ (by first | omega | (simp [go_sem] <;> omega)))))) hb
    have V2_v : M.Var w2 (w.heap.size + 1 + 1) #[.int .i64 v1, .int .i64 v2] := M.Var.mono (by (repeat (first | (with_reducible assumption) | exact M.var_alloc' _ _ _ (by first | rfl | simp [go_sem]) | (with_reducible refine M.Var.alloc ?_ _) | (with_reducible refine M.Var.drewN ?_ _) | (with_reducible refine M.Var.drew ?_) | (with_reducible refine M.Var.far ?_ _ _ (by first | omega | (simp [go_sem] <;> omega)))))) hb
    have q2_x_0 := V2_x.c 0 _ rfl
    have q2_x_1 := V2_x.c 1 _ rfl
    have q2_x_2 := V2_x.c 2 _ rfl
    have q2_x_3 := V2_x.c 3 _ rfl
    have f2_x := V2_x.2.2; have L2_x := V2_x.lt; have N2_x := Nat.ne_of_gt L2_x; have M2_x := Nat.ne_of_lt L2_x
    have HV2_x := Lib.hid V2_x
    have q2_y_0 := V2_y.c 0 _ rfl
    have q2_y_1 := V2_y.c 1 _ rfl
    have q2_y_2 := V2_y.c 2 _ rfl
    have q2_y_3 := V2_y.c 3 _ rfl
    have f2_y := V2_y.2.2; have L2_y := V2_y.lt; have N2_y := Nat.ne_of_gt L2_y; have M2_y := Nat.ne_of_lt L2_y
    have HV2_y := Lib.hid V2_y
    have q2_v_0 := V2_v.c 0 _ rfl
    have q2_v_1 := V2_v.c 1 _ rfl
    have f2_v := V2_v.2.2; have L2_v := V2_v.lt; have N2_v := Nat.ne_of_gt L2_v; have M2_v := Nat.ne_of_lt L2_v
    have HV2_v := Lib.hid V2_v
    have S2 := G2.size; clear hb
    go_wp2_with fail
    refine M.wp_region_later (fun w' => M.Var w' (w.heap.size) #[.int .i64 x.lx, .int .i64 x.ly, .int .i64 x.hx, .int .i64 x.hy] ∧ M.Var w' (w.heap.size + 1) #[.int .i64 y.lx, .int .i64 y.ly, .int .i64 y.hx, .int .i64 y.hy] ∧ M.Var w' (w.heap.size + 1 + 1) #[.int .i64 v1, .int .i64 v2] ∧ M.Var w' (w2.heap.size) #[.int .i64 q.lx, .int .i64 q.ly, .int .i64 q.hx, .int .i64 q.hy] ∧ True) (by kernel_rfl) (by kernel_rfl) (fun w' hb => ⟨M.Var.mono (by (repeat (first | (with_reducible assumption) | exact M.var_alloc' _ _ _ (by first | rfl | simp [go_sem]) | (with_reducible refine M.Var.alloc ?_ _) | (with_reducible refine M.Var.drewN ?_ _) | (with_reducible refine M.Var.drew ?_) | (with_reducible refine M.Var.far ?_ _ _ (by first | omega | (simp [go_sem] <;> omega))))) : M.Var _ (w.heap.size) #[.int .i64 x.lx, .int .i64 x.ly, .int .i64 x.hx, .int .i64 x.hy]) hb, M.Var.mono (by (repeat (first | (with_reducible assumption) | exact M.var_alloc' _ _ _ (by first | rfl | simp [go_sem]) | (with_reducible refine M.Var.alloc ?_ _) | (with_reducible refine M.Var.drewN ?_ _) | (with_reducible refine M.Var.drew ?_) | (with_reducible refine M.Var.far ?_ _ _ (by first | omega | (simp [go_sem] <;> omega))))) : M.Var _ (w.heap.size + 1) #[.int .i64 y.lx, .int .i64 y.ly, .int .i64 y.hx, .int .i64 y.hy]) hb, M.Var.mono (by (repeat (first | (with_reducible assumption) | exact M.var_alloc' _ _ _ (by first | rfl | simp [go_sem]) | (with_reducible refine M.Var.alloc ?_ _) | (with_reducible refine M.Var.drewN ?_ _) | (with_reducible refine M.Var.drew ?_) | (with_reducible refine M.Var.far ?_ _ _ (by first | omega | (simp [go_sem] <;> omega))))) : M.Var _ (w.heap.size + 1 + 1) #[.int .i64 v1, .int .i64 v2]) hb, M.Var.mono (by (repeat (first | (with_reducible assumption) | exact M.var_alloc' _ _ _ (by first | rfl | simp [go_sem]) | (with_reducible refine M.Var.alloc ?_ _) | (with_reducible refine M.Var.drewN ?_ _) | (with_reducible refine M.Var.drew ?_) | (with_reducible refine M.Var.far ?_ _ _ (by first | omega | (simp [go_sem] <;> omega))))) : M.Var _ (w2.heap.size) #[.int .i64 q.lx, .int .i64 q.ly, .int .i64 q.hx, .int .i64 q.hy]) hb, trivial⟩) ?_
    intro hS
    have z3_x_0 := fun p => (hS p).1.c 0 _ rfl
    have z3_x_1 := fun p => (hS p).1.c 1 _ rfl
    have z3_x_2 := fun p => (hS p).1.c 2 _ rfl
    have z3_x_3 := fun p => (hS p).1.c 3 _ rfl
    have z3_y_0 := fun p => (hS p).2.1.c 0 _ rfl
    have z3_y_1 := fun p => (hS p).2.1.c 1 _ rfl
    have z3_y_2 := fun p => (hS p).2.1.c 2 _ rfl
    have z3_y_3 := fun p => (hS p).2.1.c 3 _ rfl
    have z3_v_0 := fun p => (hS p).2.2.1.c 0 _ rfl
    have z3_v_1 := fun p => (hS p).2.2.1.c 1 _ rfl
    have z3_b_0 := fun p => (hS p).2.2.2.1.c 0 _ rfl
    have z3_b_1 := fun p => (hS p).2.2.2.1.c 1 _ rfl
    have z3_b_2 := fun p => (hS p).2.2.2.1.c 2 _ rfl
    have z3_b_3 := fun p => (hS p).2.2.2.1.c 3 _ rfl
    have HS := Lib.hid hS; clear hS
    repeat (go_big_quiet_step ((first
          | (go_at_call 53; with_reducible exact M.later_of (C2.out _))
          | (go_at_call 53; with_reducible exact M.later_of (C3.out _))
          | (go_at_call 43; with_reducible exact M.later_of (C5.out _))
          | (go_at_call 43; with_reducible exact M.later_of (C6.out _))
          | (go_at_call 43; with_reducible exact M.later_of (C7.out _))
      )))
    refine wpQuiet_nil ?_
    intro w3 hw'
    obtain ⟨pL, hL⟩ := hw'
    have hb := pL.h; rw [← hL] at hb; clear hL pL
    have G3 : Below w.heap.size w w3 := Below.trans (by (repeat (with_reducible refine M.Below.drewN ?_ _)); go_grown) (hb.mono (by go_size))
    have V3_x : M.Var w3 (w.heap.size) #[.int .i64 x.lx, .int .i64 x.ly, .int .i64 x.hx, .int .i64 x.hy] := M.Var.mono (by (repeat (first | (with_reducible assumption) | exact M.var_alloc' _ _ _ (by first | rfl | simp [go_sem]) | (with_reducible refine M.Var.alloc ?_ _) | (with_reducible refine M.Var.drewN ?_ _) | (with_reducible refine M.Var.drew ?_) | (with_reducible refine M.Var.far ?_ _ _ (by first | omega | (simp [go_sem] <;> omega)))))) hb
    have V3_y : M.Var w3 (w.heap.size + 1) #[.int .i64 y.lx, .int .i64 y.ly, .int .i64 y.hx, .int .i64 y.hy] := M.Var.mono (by (repeat (first | (with_reducible assumption) | exact M.var_alloc' _ _ _ (by first | rfl | simp [go_sem]) | (with_reducible refine M.Var.alloc ?_ _) | (with_reducible refine M.Var.drewN ?_ _) | (with_reducible refine M.Var.drew ?_) | (with_reducible refine M.Var.far ?_ _ _ (by first | omega | (simp [go_sem] <;> omega)))))) hb
    have V3_v : M.Var w3 (w.heap.size + 1 + 1) #[.int .i64 v1, .int .i64 v2] := M.Var.mono (by (repeat (first | (with_reducible assumption) | exact M.var_alloc' _ _ _ (by first | rfl | simp [go_sem]) | (with_reducible refine M.Var.alloc ?_ _) | (with_reducible refine M.Var.drewN ?_ _) | (with_reducible refine M.Var.drew ?_) | (with_reducible refine M.Var.far ?_ _ _ (by first | omega | (simp [go_sem] <;> omega)))))) hb
    have V3_b : M.Var w3 (w2.heap.size) #[.int .i64 q.lx, .int .i64 q.ly, .int .i64 q.hx, .int .i64 q.hy] := M.Var.mono (by (repeat (first | (with_reducible assumption) | exact M.var_alloc' _ _ _ (by first | rfl | simp [go_sem]) | (with_reducible refine M.Var.alloc ?_ _) | (with_reducible refine M.Var.drewN ?_ _) | (with_reducible refine M.Var.drew ?_) | (with_reducible refine M.Var.far ?_ _ _ (by first | omega | (simp [go_sem] <;> omega)))))) hb
    have q3_x_0 := V3_x.c 0 _ rfl
    have q3_x_1 := V3_x.c 1 _ rfl
    have q3_x_2 := V3_x.c 2 _ rfl
    have q3_x_3 := V3_x.c 3 _ rfl
    have f3_x := V3_x.2.2; have L3_x := V3_x.lt; have N3_x := Nat.ne_of_gt L3_x; have M3_x := Nat.ne_of_lt L3_x
    have HV3_x := Lib.hid V3_x
    have q3_y_0 := V3_y.c 0 _ rfl
    have q3_y_1 := V3_y.c 1 _ rfl
    have q3_y_2 := V3_y.c 2 _ rfl
    have q3_y_3 := V3_y.c 3 _ rfl
    have f3_y := V3_y.2.2; have L3_y := V3_y.lt; have N3_y := Nat.ne_of_gt L3_y; have M3_y := Nat.ne_of_lt L3_y
    have HV3_y := Lib.hid V3_y
    have q3_v_0 := V3_v.c 0 _ rfl
    have q3_v_1 := V3_v.c 1 _ rfl
    have f3_v := V3_v.2.2; have L3_v := V3_v.lt; have N3_v := Nat.ne_of_gt L3_v; have M3_v := Nat.ne_of_lt L3_v
    have HV3_v := Lib.hid V3_v
    have q3_b_0 := V3_b.c 0 _ rfl
    have q3_b_1 := V3_b.c 1 _ rfl
    have q3_b_2 := V3_b.c 2 _ rfl
    have q3_b_3 := V3_b.c 3 _ rfl
    have f3_b := V3_b.2.2; have L3_b := V3_b.lt; have N3_b := Nat.ne_of_gt L3_b; have M3_b := Nat.ne_of_lt L3_b
    have HV3_b := Lib.hid V3_b
    have S3 := G3.size; clear hb
    clear z3_x_0 z3_x_1 z3_x_2 z3_x_3 z3_y_0 z3_y_1 z3_y_2 z3_y_3 z3_v_0 z3_v_1 z3_b_0 z3_b_1 z3_b_2 z3_b_3 HS
    go_wp2_with fail
    refine M.wp_region_later (fun w' => M.Var w' (w.heap.size) #[.int .i64 x.lx, .int .i64 x.ly, .int .i64 x.hx, .int .i64 x.hy] ∧ M.Var w' (w.heap.size + 1) #[.int .i64 y.lx, .int .i64 y.ly, .int .i64 y.hx, .int .i64 y.hy] ∧ M.Var w' (w2.heap.size) #[.int .i64 q.lx, .int .i64 q.ly, .int .i64 q.hx, .int .i64 q.hy] ∧ True) (by kernel_rfl) (by kernel_rfl) (fun w' hb => ⟨M.Var.mono (by (repeat (first | (with_reducible assumption) | exact M.var_alloc' _ _ _ (by first | rfl | simp [go_sem]) | (with_reducible refine M.Var.alloc ?_ _) | (with_reducible refine M.Var.drewN ?_ _) | (with_reducible refine M.Var.drew ?_) | (with_reducible refine M.Var.far ?_ _ _ (by first | omega | (simp [go_sem] <;> omega))))) : M.Var _ (w.heap.size) #[.int .i64 x.lx, .int .i64 x.ly, .int .i64 x.hx, .int .i64 x.hy]) hb, M.Var.mono (by (repeat (first | (with_reducible assumption) | exact M.var_alloc' _ _ _ (by first | rfl | simp [go_sem]) | (with_reducible refine M.Var.alloc ?_ _) | (with_reducible refine M.Var.drewN ?_ _) | (with_reducible refine M.Var.drew ?_) | (with_reducible refine M.Var.far ?_ _ _ (by first | omega | (simp [go_sem] <;> omega))))) : M.Var _ (w.heap.size + 1) #[.int .i64 y.lx, .int .i64 y.ly, .int .i64 y.hx, .int .i64 y.hy]) hb, M.Var.mono (by (repeat (first | (with_reducible assumption) | exact M.var_alloc' _ _ _ (by first | rfl | simp [go_sem]) | (with_reducible refine M.Var.alloc ?_ _) | (with_reducible refine M.Var.drewN ?_ _) | (with_reducible refine M.Var.drew ?_) | (with_reducible refine M.Var.far ?_ _ _ (by first | omega | (simp [go_sem] <;> omega))))) : M.Var _ (w2.heap.size) #[.int .i64 q.lx, .int .i64 q.ly, .int .i64 q.hx, .int .i64 q.hy]) hb, trivial⟩) ?_
    intro hS
    have z4_x_0 := fun p => (hS p).1.c 0 _ rfl
    have z4_x_1 := fun p => (hS p).1.c 1 _ rfl
    have z4_x_2 := fun p => (hS p).1.c 2 _ rfl
    have z4_x_3 := fun p => (hS p).1.c 3 _ rfl
    have z4_y_0 := fun p => (hS p).2.1.c 0 _ rfl
    have z4_y_1 := fun p => (hS p).2.1.c 1 _ rfl
    have z4_y_2 := fun p => (hS p).2.1.c 2 _ rfl
    have z4_y_3 := fun p => (hS p).2.1.c 3 _ rfl
    have z4_b_0 := fun p => (hS p).2.2.1.c 0 _ rfl
    have z4_b_1 := fun p => (hS p).2.2.1.c 1 _ rfl
    have z4_b_2 := fun p => (hS p).2.2.1.c 2 _ rfl
    have z4_b_3 := fun p => (hS p).2.2.1.c 3 _ rfl
    have HS := Lib.hid hS; clear hS
    repeat (go_big_quiet_step ((first
          | (go_at_call 53; with_reducible exact M.later_of (C4.out _))
      )))
    refine wpQuiet_nil ?_
    intro w4 hw'
    obtain ⟨pL, hL⟩ := hw'
    have hb := pL.h; rw [← hL] at hb; clear hL pL
    have G4 : Below w.heap.size w w4 := Below.trans (by (repeat (with_reducible refine M.Below.drewN ?_ _)); go_grown) (hb.mono (by go_size))
    have V4_x : M.Var w4 (w.heap.size) #[.int .i64 x.lx, .int .i64 x.ly, .int .i64 x.hx, .int .i64 x.hy] := M.Var.mono (by (repeat (first | (with_reducible assumption) | exact M.var_alloc' _ _ _ (by first | rfl | simp [go_sem]) | (with_reducible refine M.Var.alloc ?_ _) | (with_reducible refine M.Var.drewN ?_ _) | (with_reducible refine M.Var.drew ?_) | (with_reducible refine M.Var.far ?_ _ _ (by first | omega | (simp [go_sem] <;> omega)))))) hb
    have V4_y : M.Var w4 (w.heap.size + 1) #[.int .i64 y.lx, .int .i64 y.ly, .int .i64 y.hx, .int .i64 y.hy] := M.Var.mono (by (repeat (first | (with_reducible assumption) | exact M.var_alloc' _ _ _ (by first | rfl | simp [go_sem]) | (with_reducible refine M.Var.alloc ?_ _) | (with_reducible refine M.Var.drewN ?_ _) | (with_reducible refine M.Var.drew ?_) | (with_reducible refine M.Var.far ?_ _ _ (by first | omega | (simp [go_sem] <;> omega)))))) hb
    have V4_v : M.Var w4 (w.heap.size + 1 + 1) #[.int .i64 v1, .int .i64 v2] := M.Var.mono (by (repeat (first | (with_reducible assumption) | exact M.var_alloc' _ _ _ (by first | rfl | simp [go_sem]) | (with_reducible refine M.Var.alloc ?_ _) | (with_reducible refine M.Var.drewN ?_ _) | (with_reducible refine M.Var.drew ?_) | (with_reducible refine M.Var.far ?_ _ _ (by first | omega | (simp [go_sem] <;> omega)))))) hb
    have V4_b : M.Var w4 (w2.heap.size) #[.int .i64 q.lx, .int .i64 q.ly, .int .i64 q.hx, .int .i64 q.hy] := M.Var.mono (by (repeat (first | (with_reducible assumption) | exact M.var_alloc' _ _ _ (by first | rfl | simp [go_sem]) | (with_reducible refine M.Var.alloc ?_ _) | (with_reducible refine M.Var.drewN ?_ _) | (with_reducible refine M.Var.drew ?_) | (with_reducible refine M.Var.far ?_ _ _ (by first | omega | (simp [go_sem] <;> omega)))))) hb
    have q4_x_0 := V4_x.c 0 _ rfl
    have q4_x_1 := V4_x.c 1 _ rfl
    have q4_x_2 := V4_x.c 2 _ rfl
    have q4_x_3 := V4_x.c 3 _ rfl
    have f4_x := V4_x.2.2; have L4_x := V4_x.lt; have N4_x := Nat.ne_of_gt L4_x; have M4_x := Nat.ne_of_lt L4_x
    have HV4_x := Lib.hid V4_x
    have q4_y_0 := V4_y.c 0 _ rfl
    have q4_y_1 := V4_y.c 1 _ rfl
    have q4_y_2 := V4_y.c 2 _ rfl
    have q4_y_3 := V4_y.c 3 _ rfl
    have f4_y := V4_y.2.2; have L4_y := V4_y.lt; have N4_y := Nat.ne_of_gt L4_y; have M4_y := Nat.ne_of_lt L4_y
    have HV4_y := Lib.hid V4_y
    have q4_v_0 := V4_v.c 0 _ rfl
    have q4_v_1 := V4_v.c 1 _ rfl
    have f4_v := V4_v.2.2; have L4_v := V4_v.lt; have N4_v := Nat.ne_of_gt L4_v; have M4_v := Nat.ne_of_lt L4_v
    have HV4_v := Lib.hid V4_v
    have q4_b_0 := V4_b.c 0 _ rfl
    have q4_b_1 := V4_b.c 1 _ rfl
    have q4_b_2 := V4_b.c 2 _ rfl
    have q4_b_3 := V4_b.c 3 _ rfl
    have f4_b := V4_b.2.2; have L4_b := V4_b.lt; have N4_b := Nat.ne_of_gt L4_b; have M4_b := Nat.ne_of_lt L4_b
    have HV4_b := Lib.hid V4_b
    have S4 := G4.size; clear hb
    clear z4_x_0 z4_x_1 z4_x_2 z4_x_3 z4_y_0 z4_y_1 z4_y_2 z4_y_3 z4_b_0 z4_b_1 z4_b_2 z4_b_3 HS
    go_wp2_with fail
    go_ret
    exact ⟨rfl, by (repeat (with_reducible refine M.Below.drewN ?_ _)); go_grown⟩
  · skip
    have C5 := Lib.hid c5; have C6 := Lib.hid c6; have C7 := Lib.hid c7
    clear c5 c6 c7
    go_enter Try.func7, Try.ntmps7
    go_wp2_with fail
    (with_reducible refine (c0.out _).mono ?_); rintro en w1 ⟨rfl, hb⟩
    have G1 : Below w.heap.size w w1 := Below.trans (by (repeat (with_reducible refine M.Below.drewN ?_ _)); go_grown) (hb.mono (by go_size))
    have V1_x : M.Var w1 (w.heap.size) #[.int .i64 x.lx, .int .i64 x.ly, .int .i64 x.hx, .int .i64 x.hy] := M.Var.mono (by (repeat (first | (with_reducible assumption) | exact M.var_alloc' _ _ _ (by first | rfl | simp [go_sem]) | (with_reducible refine M.Var.alloc ?_ _) | (with_reducible refine M.Var.drewN ?_ _) | (with_reducible refine M.Var.drew ?_) | (with_reducible refine M.Var.far ?_ _ _ (by first | omega | (simp [go_sem] <;> omega)))))) hb
    have V1_y : M.Var w1 (w.heap.size + 1) #[.int .i64 y.lx, .int .i64 y.ly, .int .i64 y.hx, .int .i64 y.hy] := M.Var.mono (by (repeat (first | (with_reducible assumption) | exact M.var_alloc' _ _ _ (by first | rfl | simp [go_sem]) | (with_reducible refine M.Var.alloc ?_ _) | (with_reducible refine M.Var.drewN ?_ _) | (with_reducible refine M.Var.drew ?_) | (with_reducible refine M.Var.far ?_ _ _ (by first | omega | (simp [go_sem] <;> omega)))))) hb
    have V1_v : M.Var w1 (w.heap.size + 1 + 1) #[.int .i64 v1, .int .i64 v2] := M.Var.mono (by (repeat (first | (with_reducible assumption) | exact M.var_alloc' _ _ _ (by first | rfl | simp [go_sem]) | (with_reducible refine M.Var.alloc ?_ _) | (with_reducible refine M.Var.drewN ?_ _) | (with_reducible refine M.Var.drew ?_) | (with_reducible refine M.Var.far ?_ _ _ (by first | omega | (simp [go_sem] <;> omega)))))) hb
    have q1_x_0 := V1_x.c 0 _ rfl
    have q1_x_1 := V1_x.c 1 _ rfl
    have q1_x_2 := V1_x.c 2 _ rfl
    have q1_x_3 := V1_x.c 3 _ rfl
    have f1_x := V1_x.2.2; have L1_x := V1_x.lt; have N1_x := Nat.ne_of_gt L1_x; have M1_x := Nat.ne_of_lt L1_x
    have HV1_x := Lib.hid V1_x
    have q1_y_0 := V1_y.c 0 _ rfl
    have q1_y_1 := V1_y.c 1 _ rfl
    have q1_y_2 := V1_y.c 2 _ rfl
    have q1_y_3 := V1_y.c 3 _ rfl
    have f1_y := V1_y.2.2; have L1_y := V1_y.lt; have N1_y := Nat.ne_of_gt L1_y; have M1_y := Nat.ne_of_lt L1_y
    have HV1_y := Lib.hid V1_y
    have q1_v_0 := V1_v.c 0 _ rfl
    have q1_v_1 := V1_v.c 1 _ rfl
    have f1_v := V1_v.2.2; have L1_v := V1_v.lt; have N1_v := Nat.ne_of_gt L1_v; have M1_v := Nat.ne_of_lt L1_v
    have HV1_v := Lib.hid V1_v
    have S1 := G1.size; clear hb
    go_wp2_with fail
    (with_reducible refine (C1.out _).mono ?_); rintro en w2 ⟨rfl, hb⟩
    have G2 : Below w.heap.size w w2 := Below.trans (by (repeat (with_reducible refine M.Below.drewN ?_ _)); go_grown) (hb.mono (by go_size))
    have V2_x : M.Var w2 (w.heap.size) #[.int .i64 x.lx, .int .i64 x.ly, .int .i64 x.hx, .int .i64 x.hy] := M.Var.mono (by (repeat (first | (with_reducible assumption) | exact M.var_alloc' _ _ _ (by first | rfl | simp [go_sem]) | (with_reducible refine M.Var.alloc ?_ _) | (with_reducible refine M.Var.drewN ?_ _) | (with_reducible refine M.Var.drew ?_) | (with_reducible refine M.Var.far ?_ _ _ (by first | omega | (simp [go_sem] <;> omega)))))) hb
    have V2_y : M.Var w2 (w.heap.size + 1) #[.int .i64 y.lx, .int .i64 y.ly, .int .i64 y.hx, .int .i64 y.hy] := M.Var.mono (by (repeat (first | (with_reducible assumption) | exact M.var_alloc' _ _ _ (by first | rfl | simp [go_sem]) | (with_reducible refine M.Var.alloc ?_ _) | (with_reducible refine M.Var.drewN ?_ _) | (with_reducible refine M.Var.drew ?_) | (with_reducible refine M.Var.far ?_ _ _ (by first | omega | (simp [go_sem] <;> omega)))))) hb
    have V2_v : M.Var w2 (w.heap.size + 1 + 1) #[.int .i64 v1, .int .i64 v2] := M.Var.mono (by (repeat (first | (with_reducible assumption) | exact M.var_alloc' _ _ _ (by first | rfl | simp [go_sem]) | (with_reducible refine M.Var.alloc ?_ _) | (with_reducible refine M.Var.drewN ?_ _) | (with_reducible refine M.Var.drew ?_) | (with_reducible refine M.Var.far ?_ _ _ (by first | omega | (simp [go_sem] <;> omega)))))) hb
    have q2_x_0 := V2_x.c 0 _ rfl
    have q2_x_1 := V2_x.c 1 _ rfl
    have q2_x_2 := V2_x.c 2 _ rfl
    have q2_x_3 := V2_x.c 3 _ rfl
    have f2_x := V2_x.2.2; have L2_x := V2_x.lt; have N2_x := Nat.ne_of_gt L2_x; have M2_x := Nat.ne_of_lt L2_x
    have HV2_x := Lib.hid V2_x
    have q2_y_0 := V2_y.c 0 _ rfl
    have q2_y_1 := V2_y.c 1 _ rfl
    have q2_y_2 := V2_y.c 2 _ rfl
    have q2_y_3 := V2_y.c 3 _ rfl
    have f2_y := V2_y.2.2; have L2_y := V2_y.lt; have N2_y := Nat.ne_of_gt L2_y; have M2_y := Nat.ne_of_lt L2_y
    have HV2_y := Lib.hid V2_y
    have q2_v_0 := V2_v.c 0 _ rfl
    have q2_v_1 := V2_v.c 1 _ rfl
    have f2_v := V2_v.2.2; have L2_v := V2_v.lt; have N2_v := Nat.ne_of_gt L2_v; have M2_v := Nat.ne_of_lt L2_v
    have HV2_v := Lib.hid V2_v
    have S2 := G2.size; clear hb
    go_wp2_with fail
    refine M.wp_region_later (fun w' => M.Var w' (w.heap.size) #[.int .i64 x.lx, .int .i64 x.ly, .int .i64 x.hx, .int .i64 x.hy] ∧ M.Var w' (w.heap.size + 1) #[.int .i64 y.lx, .int .i64 y.ly, .int .i64 y.hx, .int .i64 y.hy] ∧ M.Var w' (w.heap.size + 1 + 1) #[.int .i64 v1, .int .i64 v2] ∧ M.Var w' (w2.heap.size) #[.int .i64 q.lx, .int .i64 q.ly, .int .i64 q.hx, .int .i64 q.hy] ∧ True) (by kernel_rfl) (by kernel_rfl) (fun w' hb => ⟨M.Var.mono (by (repeat (first | (with_reducible assumption) | exact M.var_alloc' _ _ _ (by first | rfl | simp [go_sem]) | (with_reducible refine M.Var.alloc ?_ _) | (with_reducible refine M.Var.drewN ?_ _) | (with_reducible refine M.Var.drew ?_) | (with_reducible refine M.Var.far ?_ _ _ (by first | omega | (simp [go_sem] <;> omega))))) : M.Var _ (w.heap.size) #[.int .i64 x.lx, .int .i64 x.ly, .int .i64 x.hx, .int .i64 x.hy]) hb, M.Var.mono (by (repeat (first | (with_reducible assumption) | exact M.var_alloc' _ _ _ (by first | rfl | simp [go_sem]) | (with_reducible refine M.Var.alloc ?_ _) | (with_reducible refine M.Var.drewN ?_ _) | (with_reducible refine M.Var.drew ?_) | (with_reducible refine M.Var.far ?_ _ _ (by first | omega | (simp [go_sem] <;> omega))))) : M.Var _ (w.heap.size + 1) #[.int .i64 y.lx, .int .i64 y.ly, .int .i64 y.hx, .int .i64 y.hy]) hb, M.Var.mono (by (repeat (first | (with_reducible assumption) | exact M.var_alloc' _ _ _ (by first | rfl | simp [go_sem]) | (with_reducible refine M.Var.alloc ?_ _) | (with_reducible refine M.Var.drewN ?_ _) | (with_reducible refine M.Var.drew ?_) | (with_reducible refine M.Var.far ?_ _ _ (by first | omega | (simp [go_sem] <;> omega))))) : M.Var _ (w.heap.size + 1 + 1) #[.int .i64 v1, .int .i64 v2]) hb, M.Var.mono (by (repeat (first | (with_reducible assumption) | exact M.var_alloc' _ _ _ (by first | rfl | simp [go_sem]) | (with_reducible refine M.Var.alloc ?_ _) | (with_reducible refine M.Var.drewN ?_ _) | (with_reducible refine M.Var.drew ?_) | (with_reducible refine M.Var.far ?_ _ _ (by first | omega | (simp [go_sem] <;> omega))))) : M.Var _ (w2.heap.size) #[.int .i64 q.lx, .int .i64 q.ly, .int .i64 q.hx, .int .i64 q.hy]) hb, trivial⟩) ?_
    intro hS
    have z3_x_0 := fun p => (hS p).1.c 0 _ rfl
    have z3_x_1 := fun p => (hS p).1.c 1 _ rfl
    have z3_x_2 := fun p => (hS p).1.c 2 _ rfl
    have z3_x_3 := fun p => (hS p).1.c 3 _ rfl
    have z3_y_0 := fun p => (hS p).2.1.c 0 _ rfl
    have z3_y_1 := fun p => (hS p).2.1.c 1 _ rfl
    have z3_y_2 := fun p => (hS p).2.1.c 2 _ rfl
    have z3_y_3 := fun p => (hS p).2.1.c 3 _ rfl
    have z3_v_0 := fun p => (hS p).2.2.1.c 0 _ rfl
    have z3_v_1 := fun p => (hS p).2.2.1.c 1 _ rfl
    have z3_b_0 := fun p => (hS p).2.2.2.1.c 0 _ rfl
    have z3_b_1 := fun p => (hS p).2.2.2.1.c 1 _ rfl
    have z3_b_2 := fun p => (hS p).2.2.2.1.c 2 _ rfl
    have z3_b_3 := fun p => (hS p).2.2.2.1.c 3 _ rfl
    have HS := Lib.hid hS; clear hS
    repeat (go_big_quiet_step ((first
          | (go_at_call 53; with_reducible exact M.later_of (C2.out _))
          | (go_at_call 53; with_reducible exact M.later_of (C3.out _))
          | (go_at_call 43; with_reducible exact M.later_of (C5.out _))
          | (go_at_call 43; with_reducible exact M.later_of (C6.out _))
          | (go_at_call 43; with_reducible exact M.later_of (C7.out _))
      )))
    refine wpQuiet_nil ?_
    intro w3 hw'
    obtain ⟨pL, hL⟩ := hw'
    have hb := pL.h; rw [← hL] at hb; clear hL pL
    have G3 : Below w.heap.size w w3 := Below.trans (by (repeat (with_reducible refine M.Below.drewN ?_ _)); go_grown) (hb.mono (by go_size))
    have V3_x : M.Var w3 (w.heap.size) #[.int .i64 x.lx, .int .i64 x.ly, .int .i64 x.hx, .int .i64 x.hy] := M.Var.mono (by (repeat (first | (with_reducible assumption) | exact M.var_alloc' _ _ _ (by first | rfl | simp [go_sem]) | (with_reducible refine M.Var.alloc ?_ _) | (with_reducible refine M.Var.drewN ?_ _) | (with_reducible refine M.Var.drew ?_) | (with_reducible refine M.Var.far ?_ _ _ (by first | omega | (simp [go_sem] <;> omega)))))) hb
    have V3_y : M.Var w3 (w.heap.size + 1) #[.int .i64 y.lx, .int .i64 y.ly, .int .i64 y.hx, .int .i64 y.hy] := M.Var.mono (by (repeat (first | (with_reducible assumption) | exact M.var_alloc' _ _ _ (by first | rfl | simp [go_sem]) | (with_reducible refine M.Var.alloc ?_ _) | (with_reducible refine M.Var.drewN ?_ _) | (with_reducible refine M.Var.drew ?_) | (with_reducible refine M.Var.far ?_ _ _ (by first | omega | (simp [go_sem] <;> omega)))))) hb
    have V3_v : M.Var w3 (w.heap.size + 1 + 1) #[.int .i64 v1, .int .i64 v2] := M.Var.mono (by (repeat (first | (with_reducible assumption) | exact M.var_alloc' _ _ _ (by first | rfl | simp [go_sem]) | (with_reducible refine M.Var.alloc ?_ _) | (with_reducible refine M.Var.drewN ?_ _) | (with_reducible refine M.Var.drew ?_) | (with_reducible refine M.Var.far ?_ _ _ (by first | omega | (simp [go_sem] <;> omega)))))) hb
    have V3_b : M.Var w3 (w2.heap.size) #[.int .i64 q.lx, .int .i64 q.ly, .int .i64 q.hx, .int .i64 q.hy] := M.Var.mono (by (repeat (first | (with_reducible assumption) | exact M.var_alloc' _ _ _ (by first | rfl | simp [go_sem]) | (with_reducible refine M.Var.alloc ?_ _) | (with_reducible refine M.Var.drewN ?_ _) | (with_reducible refine M.Var.drew ?_) | (with_reducible refine M.Var.far ?_ _ _ (by first | omega | (simp [go_sem] <;> omega)))))) hb
    have q3_x_0 := V3_x.c 0 _ rfl
    have q3_x_1 := V3_x.c 1 _ rfl
    have q3_x_2 := V3_x.c 2 _ rfl
    have q3_x_3 := V3_x.c 3 _ rfl
    have f3_x := V3_x.2.2; have L3_x := V3_x.lt; have N3_x := Nat.ne_of_gt L3_x; have M3_x := Nat.ne_of_lt L3_x
    have HV3_x := Lib.hid V3_x
    have q3_y_0 := V3_y.c 0 _ rfl
    have q3_y_1 := V3_y.c 1 _ rfl
    have q3_y_2 := V3_y.c 2 _ rfl
    have q3_y_3 := V3_y.c 3 _ rfl
    have f3_y := V3_y.2.2; have L3_y := V3_y.lt; have N3_y := Nat.ne_of_gt L3_y; have M3_y := Nat.ne_of_lt L3_y
    have HV3_y := Lib.hid V3_y
    have q3_v_0 := V3_v.c 0 _ rfl
    have q3_v_1 := V3_v.c 1 _ rfl
    have f3_v := V3_v.2.2; have L3_v := V3_v.lt; have N3_v := Nat.ne_of_gt L3_v; have M3_v := Nat.ne_of_lt L3_v
    have HV3_v := Lib.hid V3_v
    have q3_b_0 := V3_b.c 0 _ rfl
    have q3_b_1 := V3_b.c 1 _ rfl
    have q3_b_2 := V3_b.c 2 _ rfl
    have q3_b_3 := V3_b.c 3 _ rfl
    have f3_b := V3_b.2.2; have L3_b := V3_b.lt; have N3_b := Nat.ne_of_gt L3_b; have M3_b := Nat.ne_of_lt L3_b
    have HV3_b := Lib.hid V3_b
    have S3 := G3.size; clear hb
    clear z3_x_0 z3_x_1 z3_x_2 z3_x_3 z3_y_0 z3_y_1 z3_y_2 z3_y_3 z3_v_0 z3_v_1 z3_b_0 z3_b_1 z3_b_2 z3_b_3 HS
    go_wp2_with fail
    refine M.wp_region_later (fun w' => M.Var w' (w.heap.size) #[.int .i64 x.lx, .int .i64 x.ly, .int .i64 x.hx, .int .i64 x.hy] ∧ M.Var w' (w.heap.size + 1) #[.int .i64 y.lx, .int .i64 y.ly, .int .i64 y.hx, .int .i64 y.hy] ∧ M.Var w' (w2.heap.size) #[.int .i64 q.lx, .int .i64 q.ly, .int .i64 q.hx, .int .i64 q.hy] ∧ True) (by kernel_rfl) (by kernel_rfl) (fun w' hb => ⟨M.Var.mono (by (repeat (first | (with_reducible assumption) | exact M.var_alloc' _ _ _ (by first | rfl | simp [go_sem]) | (with_reducible refine M.Var.alloc ?_ _) | (with_reducible refine M.Var.drewN ?_ _) | (with_reducible refine M.Var.drew ?_) | (with_reducible refine M.Var.far ?_ _ _ (by first | omega | (simp [go_sem] <;> omega))))) : M.Var _ (w.heap.size) #[.int .i64 x.lx, .int .i64 x.ly, .int .i64 x.hx, .int .i64 x.hy]) hb, M.Var.mono (by (repeat (first | (with_reducible assumption) | exact M.var_alloc' _ _ _ (by first | rfl | simp [go_sem]) | (with_reducible refine M.Var.alloc ?_ _) | (with_reducible refine M.Var.drewN ?_ _) | (with_reducible refine M.Var.drew ?_) | (with_reducible refine M.Var.far ?_ _ _ (by first | omega | (simp [go_sem] <;> omega))))) : M.Var _ (w.heap.size + 1) #[.int .i64 y.lx, .int .i64 y.ly, .int .i64 y.hx, .int .i64 y.hy]) hb, M.Var.mono (by (repeat (first | (with_reducible assumption) | exact M.var_alloc' _ _ _ (by first | rfl | simp [go_sem]) | (with_reducible refine M.Var.alloc ?_ _) | (with_reducible refine M.Var.drewN ?_ _) | (with_reducible refine M.Var.drew ?_) | (with_reducible refine M.Var.far ?_ _ _ (by first | omega | (simp [go_sem] <;> omega))))) : M.Var _ (w2.heap.size) #[.int .i64 q.lx, .int .i64 q.ly, .int .i64 q.hx, .int .i64 q.hy]) hb, trivial⟩) ?_
    intro hS
    have z4_x_0 := fun p => (hS p).1.c 0 _ rfl
    have z4_x_1 := fun p => (hS p).1.c 1 _ rfl
    have z4_x_2 := fun p => (hS p).1.c 2 _ rfl
    have z4_x_3 := fun p => (hS p).1.c 3 _ rfl
    have z4_y_0 := fun p => (hS p).2.1.c 0 _ rfl
    have z4_y_1 := fun p => (hS p).2.1.c 1 _ rfl
    have z4_y_2 := fun p => (hS p).2.1.c 2 _ rfl
    have z4_y_3 := fun p => (hS p).2.1.c 3 _ rfl
    have z4_b_0 := fun p => (hS p).2.2.1.c 0 _ rfl
    have z4_b_1 := fun p => (hS p).2.2.1.c 1 _ rfl
    have z4_b_2 := fun p => (hS p).2.2.1.c 2 _ rfl
    have z4_b_3 := fun p => (hS p).2.2.1.c 3 _ rfl
    have HS := Lib.hid hS; clear hS
    repeat (go_big_quiet_step ((first
          | (go_at_call 53; with_reducible exact M.later_of (C4.out _))
      )))
    refine wpQuiet_nil ?_
    intro w4 hw'
    obtain ⟨pL, hL⟩ := hw'
    have hb := pL.h; rw [← hL] at hb; clear hL pL
    have G4 : Below w.heap.size w w4 := Below.trans (by (repeat (with_reducible refine M.Below.drewN ?_ _)); go_grown) (hb.mono (by go_size))
    have V4_x : M.Var w4 (w.heap.size) #[.int .i64 x.lx, .int .i64 x.ly, .int .i64 x.hx, .int .i64 x.hy] := M.Var.mono (by (repeat (first | (with_reducible assumption) | exact M.var_alloc' _ _ _ (by first | rfl | simp [go_sem]) | (with_reducible refine M.Var.alloc ?_ _) | (with_reducible refine M.Var.drewN ?_ _) | (with_reducible refine M.Var.drew ?_) | (with_reducible refine M.Var.far ?_ _ _ (by first | omega | (simp [go_sem] <;> omega)))))) hb
    have V4_y : M.Var w4 (w.heap.size + 1) #[.int .i64 y.lx, .int .i64 y.ly, .int .i64 y.hx, .int .i64 y.hy] := M.Var.mono (by (repeat (first | (with_reducible assumption) | exact M.var_alloc' _ _ _ (by first | rfl | simp [go_sem]) | (with_reducible refine M.Var.alloc ?_ _) | (with_reducible refine M.Var.drewN ?_ _) | (with_reducible refine M.Var.drew ?_) | (with_reducible refine M.Var.far ?_ _ _ (by first | omega | (simp [go_sem] <;> omega)))))) hb
    have V4_v : M.Var w4 (w.heap.size + 1 + 1) #[.int .i64 v1, .int .i64 v2] := M.Var.mono (by (repeat (first | (with_reducible assumption) | exact M.var_alloc' _ _ _ (by first | rfl | simp [go_sem]) | (with_reducible refine M.Var.alloc ?_ _) | (with_reducible refine M.Var.drewN ?_ _) | (with_reducible refine M.Var.drew ?_) | (with_reducible refine M.Var.far ?_ _ _ (by first | omega | (simp [go_sem] <;> omega)))))) hb
    have V4_b : M.Var w4 (w2.heap.size) #[.int .i64 q.lx, .int .i64 q.ly, .int .i64 q.hx, .int .i64 q.hy] := M.Var.mono (by (repeat (first | (with_reducible assumption) | exact M.var_alloc' _ _ _ (by first | rfl | simp [go_sem]) | (with_reducible refine M.Var.alloc ?_ _) | (with_reducible refine M.Var.drewN ?_ _) | (with_reducible refine M.Var.drew ?_) | (with_reducible refine M.Var.far ?_ _ _ (by first | omega | (simp [go_sem] <;> omega)))))) hb
    have q4_x_0 := V4_x.c 0 _ rfl
    have q4_x_1 := V4_x.c 1 _ rfl
    have q4_x_2 := V4_x.c 2 _ rfl
    have q4_x_3 := V4_x.c 3 _ rfl
    have f4_x := V4_x.2.2; have L4_x := V4_x.lt; have N4_x := Nat.ne_of_gt L4_x; have M4_x := Nat.ne_of_lt L4_x
    have HV4_x := Lib.hid V4_x
    have q4_y_0 := V4_y.c 0 _ rfl
    have q4_y_1 := V4_y.c 1 _ rfl
    have q4_y_2 := V4_y.c 2 _ rfl
    have q4_y_3 := V4_y.c 3 _ rfl
    have f4_y := V4_y.2.2; have L4_y := V4_y.lt; have N4_y := Nat.ne_of_gt L4_y; have M4_y := Nat.ne_of_lt L4_y
    have HV4_y := Lib.hid V4_y
    have q4_v_0 := V4_v.c 0 _ rfl
    have q4_v_1 := V4_v.c 1 _ rfl
    have f4_v := V4_v.2.2; have L4_v := V4_v.lt; have N4_v := Nat.ne_of_gt L4_v; have M4_v := Nat.ne_of_lt L4_v
    have HV4_v := Lib.hid V4_v
    have q4_b_0 := V4_b.c 0 _ rfl
    have q4_b_1 := V4_b.c 1 _ rfl
    have q4_b_2 := V4_b.c 2 _ rfl
    have q4_b_3 := V4_b.c 3 _ rfl
    have f4_b := V4_b.2.2; have L4_b := V4_b.lt; have N4_b := Nat.ne_of_gt L4_b; have M4_b := Nat.ne_of_lt L4_b
    have HV4_b := Lib.hid V4_b
    have S4 := G4.size; clear hb
    clear z4_x_0 z4_x_1 z4_x_2 z4_x_3 z4_y_0 z4_y_1 z4_y_2 z4_y_3 z4_b_0 z4_b_1 z4_b_2 z4_b_3 HS
    go_wp2_with fail
    go_ret
    exact ⟨rfl, by (repeat (with_reducible refine M.Below.drewN ?_ _)); go_grown⟩

theorem lifted (os : Os) (started : os.Started) (H : Type) (enc : TypeId × Value → H) :
    ReturnsInHanded {} Try.checked os 7 .any (Rows.boundsBothSpec.pre6 enc Try.prog Try.f7 Rows.boundsBothRow.domain false) (Rows.boundsBothSpec.post enc Try.prog Try.f7 false true false false) := by
  refine returnsInHanded_of_change (C := Try.checked) own started (by kernel_rfl) Try.func7
    (ChangeSpec.witness6 (enc := enc) (C := Try.checked) false ⟨#[], #[.agg #[.int .i64 0, .int .i64 0, .int .i64 0, .int .i64 0], .agg #[.int .i64 0, .int .i64 0, .int .i64 0, .int .i64 0], .agg #[.int .i64 0, .int .i64 0]], []⟩ 8 (by kernel_rfl) (by kernel_rfl) (by kernel_rfl) (by kernel_rfl)) ?_
  intro W base args ds gs before hval0 hW hcnd _
  have hval : ∀ (j : Nat) t v, Try.f7.params[j]? = some t → args[j]? = some v → Value.okWide Try.prog W .any base t v := hval0
  have hW' := hW
  obtain ⟨p, q, hA0, hV, rfl, hfz, hnd⟩ := hW
  have hA : DataW.TrodAll enc Try.prog W 0 (fun _ => true) true Try.f7.params.toList args.toList ds p := hA0
  rw [Try.params7] at hA hval
  obtain ⟨v0, vs0, d0, ds0, p0, q0, hargs, rfl, rfl, h0, r0⟩ := trodAll_cons hA
  obtain ⟨v1, vs1, d1, ds1, p1, q1, rfl, rfl, rfl, h1, r1⟩ := trodAll_cons r0
  obtain ⟨v2, vs2, d2, ds2, p2, q2, rfl, rfl, rfl, h2, r2⟩ := trodAll_cons r1
  obtain ⟨rfl, rfl, rfl⟩ := trodAll_nil r2
  obtain rfl : args = #[v0, v1, v2] := by cases args; simp_all
  obtain ⟨rfl, rfl⟩ := trodVars_none hV
  obtain ⟨x, rfl, rfl, rfl, wx0, wx1, wx2, wx3⟩ := open_box (hval 0 26 v0 rfl rfl) h0
  obtain ⟨y, rfl, rfl, rfl, wy0, wy1, wy2, wy3⟩ := open_box (hval 1 26 v1 rfl rfl) h1
  obtain ⟨v1, v2, rfl, rfl, rfl, wv1, wv2⟩ := open_vec (hval 2 24 v2 rfl rfl) h2
  clear hA0 hval0
  simp only [List.append_nil] at hW'
  refine (walk x ⟨i64_wf wx0, i64_wf wx1, i64_wf wx2, i64_wf wx3⟩ y ⟨i64_wf wy0, i64_wf wy1, i64_wf wy2, i64_wf wy3⟩ v1 v2 (i64_wf wv1) (i64_wf wv2) W).mono fun e W' ⟨he, hg⟩ => ?_
  subst he
  exact ⟨_, rfl, post_below (pa := []) (pv := []) hW' (fun _ _ _ => (trodAll_cons_mk (shut_bool Try.underlying4 _) trodAll_mk0)) (fun sp _ => (trodAll_cons_mk (shut_box wx0 wx1 wx2 wx3) (trodAll_cons_mk (shut_box wy0 wy1 wy2 wy3) (trodAll_cons_mk (shut_vec wv1 wv2) trodAll_mk0)))) (fun _ _ => rfl) rfl
    hg (ok_one (by kernel_rfl) rfl (okWide_bool_mk Try.underlying4 _))⟩

theorem closed : joinedFacts Try.prog 7 Try.f7 Rows.boundsBothSpec Rows.boundsBothRow = true := by
  unfold joinedFacts
  rw [fact_laid, fact_maps, fact_keys, fact_heard, fact_stops, fact_knobs, fact_enter, fact_lifts, fact_make]
  kernel_rfl

theorem over : Rows.boundsBothRow.holds Try.pinned (OpenSpec.ofChange Rows.boundsBothSpec) :=
  OpenClaim.holds_of_wide 7 Try.f7 rfl rfl rfl rfl rfl rfl rfl ⟨rfl, rfl, rfl, rfl, rfl⟩ rfl rfl rfl rfl rfl (by kernel_rfl) Try.func7 closed
    (of_decide_eq_true (by kernel_rfl)) (by unfold Func.isWrapper; first | (rw [if_pos (by decide +kernel)]; kernel_rfl) | (rw [if_neg (by decide +kernel)]; exact ⟨rfl, rfl⟩))
    (fun os started H enc _ => lifted os started H enc)

/-- The statement. -/
theorem proved : Rows.BoundsBothSaid :=
  over
#print axioms proved
end Go.Proofs.Ytaagpkacningdaa.boundsBoth
