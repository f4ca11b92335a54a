/- PushFixed's walk, b without mass. -/
import Derived.WalkKit
import Derived.Test.YtcaibieaobhheaaRefRight
import Derived.Test.YtcaibieaobhheaaClo11b
import Derived.Test.YtcaibieaobhheaaPushMath
import Derived.Test.YtcaibieaobhheaaPushAlive
import Derived.Deep.RegionHeld2
import Derived.Deep.DrawnRows
namespace Go.Proofs.Ytcaibieaobhheaa.pushFixed
open Go.RowKit M
set_option maxRecDepth 100000
set_option maxHeartbeats 8000000
set_option linter.unusedVariables false
set_option linter.unusedSimpArgs false
attribute [local go_sem ↓] Go.wp_at_zero Go.wp_at_succ
theorem walkA (w : World) (a : Bd) (ha : a.ok) (b : Bd) (hB : b.ok) (h : Ht) (hh : h.ok) (l : Int) (hl : I64 l) (hR1 : rightB a = true) (hR2 : rightB b = true) (h1 : a.mass = 0) (h2 : b.mass = 0) :
    Calls Try.prog 10 #[.agg #[.int .i64 a.shape, .int .i64 a.sx, .int .i64 a.sy, .int .i64 a.mass, .int .i64 a.px, .int .i64 a.py, .int .i64 a.mx, .int .i64 a.my], .agg #[.int .i64 b.shape, .int .i64 b.sx, .int .i64 b.sy, .int .i64 b.mass, .int .i64 b.px, .int .i64 b.py, .int .i64 b.mx, .int .i64 b.my], .agg #[.int .i64 h.nx, .int .i64 h.ny, .int .i64 h.d], .int .i64 l] w fun e w' => e = .returned (.bool true) ∧ Bw w w' := by
  have c0 := Lib.hid alive11_c
  have c1 := refRight_x a; rw [hR1] at c1
  have c2 := refRight_x b; rw [hR2] at c2
  have C1 := Lib.hid c1; have C2 := Lib.hid c2
  clear c1 c2 hR1 hR2
  have k1 := bne_eq_false_iff_eq.2 h1; have k1' := beq_iff_eq.2 h1
  replace h1 := Lib.hid h1
  rcases hP : contactX a b h with i | ⟨x, y⟩
  · rcases hQ : jointX a b l with j | ⟨u, v⟩
    · skip
      have kb := bne_eq_false_iff_eq.2 h2
      have z1 := bne_iff_ne.2 (nz_contact _ _ _ i hP); have z1b := beq_eq_false_iff_ne.2 (nz_contact _ _ _ i hP)
      have z2 := bne_iff_ne.2 (nz_joint _ _ _ j hQ); have z2b := beq_eq_false_iff_ne.2 (nz_joint _ _ _ j hQ)
      replace hP := Lib.hid hP; replace hQ := Lib.hid hQ; clear h2
      go_enter Try.func10, Try.ntmps10
      go_wp2_with fail
      (with_reducible refine (C1.out _).mono ?_); rintro en w1 ⟨rfl, hb⟩
      have G1 : Below w.heap.size w w1 := Below.trans (by (repeat (with_reducible refine M.Below.drewN ?_ _)); go_grown) (hb.mono (by go_size))
      have V1_a : M.Var w1 (w.heap.size) #[.int .i64 a.shape, .int .i64 a.sx, .int .i64 a.sy, .int .i64 a.mass, .int .i64 a.px, .int .i64 a.py, .int .i64 a.mx, .int .i64 a.my] := M.Var.mono (by (repeat (first | (with_reducible assumption) | (with_reducible apply M.var_set45) | (with_reducible refine M.var_alloc' _ _ _ ?_; first | rfl | (simp [go_sem]; done)) | (with_reducible refine M.Var.alloc ?_ _) | (with_reducible refine M.Var.drewN ?_ _) | (with_reducible refine M.Var.drew ?_) | (with_reducible refine M.Var.far ?_ _ _ ?hFar; case hFar => (first | omega | ((try simp [go_sem]) <;> omega))) | fail))) hb
      have V1_b : M.Var w1 (w.heap.size + 1) #[.int .i64 b.shape, .int .i64 b.sx, .int .i64 b.sy, .int .i64 b.mass, .int .i64 b.px, .int .i64 b.py, .int .i64 b.mx, .int .i64 b.my] := M.Var.mono (by (repeat (first | (with_reducible assumption) | (with_reducible apply M.var_set45) | (with_reducible refine M.var_alloc' _ _ _ ?_; first | rfl | (simp [go_sem]; done)) | (with_reducible refine M.Var.alloc ?_ _) | (with_reducible refine M.Var.drewN ?_ _) | (with_reducible refine M.Var.drew ?_) | (with_reducible refine M.Var.far ?_ _ _ ?hFar; case hFar => (first | omega | ((try simp [go_sem]) <;> omega))) | fail))) hb
      have V1_h : M.Var w1 (w.heap.size + 1 + 1) #[.int .i64 h.nx, .int .i64 h.ny, .int .i64 h.d] := M.Var.mono (by (repeat (first | (with_reducible assumption) | (with_reducible apply M.var_set45) | (with_reducible refine M.var_alloc' _ _ _ ?_; first | rfl | (simp [go_sem]; done)) | (with_reducible refine M.Var.alloc ?_ _) | (with_reducible refine M.Var.drewN ?_ _) | (with_reducible refine M.Var.drew ?_) | (with_reducible refine M.Var.far ?_ _ _ ?hFar; case hFar => (first | omega | ((try simp [go_sem]) <;> omega))) | fail))) hb
      have V1_l : M.Var w1 (w.heap.size + 1 + 1 + 1) #[.int .i64 l] := M.Var.mono (by (repeat (first | (with_reducible assumption) | (with_reducible apply M.var_set45) | (with_reducible refine M.var_alloc' _ _ _ ?_; first | rfl | (simp [go_sem]; done)) | (with_reducible refine M.Var.alloc ?_ _) | (with_reducible refine M.Var.drewN ?_ _) | (with_reducible refine M.Var.drew ?_) | (with_reducible refine M.Var.far ?_ _ _ ?hFar; case hFar => (first | omega | ((try simp [go_sem]) <;> omega))) | fail))) hb
      have q1_a_0 : w1.cell? ⟨w.heap.size, 0, none⟩ = some (.int .i64 a.shape) := V1_a.c 0 _ rfl
      have q1_a_1 : w1.cell? ⟨w.heap.size, 1, none⟩ = some (.int .i64 a.sx) := V1_a.c 1 _ rfl
      have q1_a_2 : w1.cell? ⟨w.heap.size, 2, none⟩ = some (.int .i64 a.sy) := V1_a.c 2 _ rfl
      have q1_a_3 : w1.cell? ⟨w.heap.size, 3, none⟩ = some (.int .i64 a.mass) := V1_a.c 3 _ rfl
      have q1_a_4 : w1.cell? ⟨w.heap.size, 4, none⟩ = some (.int .i64 a.px) := V1_a.c 4 _ rfl
      have q1_a_5 : w1.cell? ⟨w.heap.size, 5, none⟩ = some (.int .i64 a.py) := V1_a.c 5 _ rfl
      have q1_a_6 : w1.cell? ⟨w.heap.size, 6, none⟩ = some (.int .i64 a.mx) := V1_a.c 6 _ rfl
      have q1_a_7 : w1.cell? ⟨w.heap.size, 7, none⟩ = some (.int .i64 a.my) := V1_a.c 7 _ rfl
      have f1_a := V1_a.2.2; have L1_a := V1_a.lt; have N1_a := Nat.ne_of_gt L1_a; have M1_a := Nat.ne_of_lt L1_a
      have HV1_a := Lib.hid V1_a
      have q1_b_0 : w1.cell? ⟨w.heap.size + 1, 0, none⟩ = some (.int .i64 b.shape) := V1_b.c 0 _ rfl
      have q1_b_1 : w1.cell? ⟨w.heap.size + 1, 1, none⟩ = some (.int .i64 b.sx) := V1_b.c 1 _ rfl
      have q1_b_2 : w1.cell? ⟨w.heap.size + 1, 2, none⟩ = some (.int .i64 b.sy) := V1_b.c 2 _ rfl
      have q1_b_3 : w1.cell? ⟨w.heap.size + 1, 3, none⟩ = some (.int .i64 b.mass) := V1_b.c 3 _ rfl
      have q1_b_4 : w1.cell? ⟨w.heap.size + 1, 4, none⟩ = some (.int .i64 b.px) := V1_b.c 4 _ rfl
      have q1_b_5 : w1.cell? ⟨w.heap.size + 1, 5, none⟩ = some (.int .i64 b.py) := V1_b.c 5 _ rfl
      have q1_b_6 : w1.cell? ⟨w.heap.size + 1, 6, none⟩ = some (.int .i64 b.mx) := V1_b.c 6 _ rfl
      have q1_b_7 : w1.cell? ⟨w.heap.size + 1, 7, none⟩ = some (.int .i64 b.my) := V1_b.c 7 _ rfl
      have f1_b := V1_b.2.2; have L1_b := V1_b.lt; have N1_b := Nat.ne_of_gt L1_b; have M1_b := Nat.ne_of_lt L1_b
      have HV1_b := Lib.hid V1_b
      have q1_h_0 : w1.cell? ⟨w.heap.size + 1 + 1, 0, none⟩ = some (.int .i64 h.nx) := V1_h.c 0 _ rfl
      have q1_h_1 : w1.cell? ⟨w.heap.size + 1 + 1, 1, none⟩ = some (.int .i64 h.ny) := V1_h.c 1 _ rfl
      have q1_h_2 : w1.cell? ⟨w.heap.size + 1 + 1, 2, none⟩ = some (.int .i64 h.d) := V1_h.c 2 _ rfl
      have f1_h := V1_h.2.2; have L1_h := V1_h.lt; have N1_h := Nat.ne_of_gt L1_h; have M1_h := Nat.ne_of_lt L1_h
      have HV1_h := Lib.hid V1_h
      have q1_l_0 : w1.cell? ⟨w.heap.size + 1 + 1 + 1, 0, none⟩ = some (.int .i64 l) := V1_l.c 0 _ rfl
      have f1_l := V1_l.2.2; have L1_l := V1_l.lt; have N1_l := Nat.ne_of_gt L1_l; have M1_l := Nat.ne_of_lt L1_l
      have HV1_l := Lib.hid V1_l
      have S1 := G1.size; clear hb
      go_wp2_with fail
      (with_reducible refine (C2.out _).mono ?_); rintro en w2 ⟨rfl, hb⟩
      have G2 : Below w.heap.size w w2 := Below.trans (by (repeat (with_reducible refine M.Below.drewN ?_ _)); go_grown) (hb.mono (by go_size))
      have V2_a : M.Var w2 (w.heap.size) #[.int .i64 a.shape, .int .i64 a.sx, .int .i64 a.sy, .int .i64 a.mass, .int .i64 a.px, .int .i64 a.py, .int .i64 a.mx, .int .i64 a.my] := M.Var.mono (by (repeat (first | (with_reducible assumption) | (with_reducible apply M.var_set45) | (with_reducible refine M.var_alloc' _ _ _ ?_; first | rfl | (simp [go_sem]; done)) | (with_reducible refine M.Var.alloc ?_ _) | (with_reducible refine M.Var.drewN ?_ _) | (with_reducible refine M.Var.drew ?_) | (with_reducible refine M.Var.far ?_ _ _ ?hFar; case hFar => (first | omega | ((try simp [go_sem]) <;> omega))) | fail))) hb
      have V2_b : M.Var w2 (w.heap.size + 1) #[.int .i64 b.shape, .int .i64 b.sx, .int .i64 b.sy, .int .i64 b.mass, .int .i64 b.px, .int .i64 b.py, .int .i64 b.mx, .int .i64 b.my] := M.Var.mono (by (repeat (first | (with_reducible assumption) | (with_reducible apply M.var_set45) | (with_reducible refine M.var_alloc' _ _ _ ?_; first | rfl | (simp [go_sem]; done)) | (with_reducible refine M.Var.alloc ?_ _) | (with_reducible refine M.Var.drewN ?_ _) | (with_reducible refine M.Var.drew ?_) | (with_reducible refine M.Var.far ?_ _ _ ?hFar; case hFar => (first | omega | ((try simp [go_sem]) <;> omega))) | fail))) hb
      have V2_h : M.Var w2 (w.heap.size + 1 + 1) #[.int .i64 h.nx, .int .i64 h.ny, .int .i64 h.d] := M.Var.mono (by (repeat (first | (with_reducible assumption) | (with_reducible apply M.var_set45) | (with_reducible refine M.var_alloc' _ _ _ ?_; first | rfl | (simp [go_sem]; done)) | (with_reducible refine M.Var.alloc ?_ _) | (with_reducible refine M.Var.drewN ?_ _) | (with_reducible refine M.Var.drew ?_) | (with_reducible refine M.Var.far ?_ _ _ ?hFar; case hFar => (first | omega | ((try simp [go_sem]) <;> omega))) | fail))) hb
      have V2_l : M.Var w2 (w.heap.size + 1 + 1 + 1) #[.int .i64 l] := M.Var.mono (by (repeat (first | (with_reducible assumption) | (with_reducible apply M.var_set45) | (with_reducible refine M.var_alloc' _ _ _ ?_; first | rfl | (simp [go_sem]; done)) | (with_reducible refine M.Var.alloc ?_ _) | (with_reducible refine M.Var.drewN ?_ _) | (with_reducible refine M.Var.drew ?_) | (with_reducible refine M.Var.far ?_ _ _ ?hFar; case hFar => (first | omega | ((try simp [go_sem]) <;> omega))) | fail))) hb
      have q2_a_0 : w2.cell? ⟨w.heap.size, 0, none⟩ = some (.int .i64 a.shape) := V2_a.c 0 _ rfl
      have q2_a_1 : w2.cell? ⟨w.heap.size, 1, none⟩ = some (.int .i64 a.sx) := V2_a.c 1 _ rfl
      have q2_a_2 : w2.cell? ⟨w.heap.size, 2, none⟩ = some (.int .i64 a.sy) := V2_a.c 2 _ rfl
      have q2_a_3 : w2.cell? ⟨w.heap.size, 3, none⟩ = some (.int .i64 a.mass) := V2_a.c 3 _ rfl
      have q2_a_4 : w2.cell? ⟨w.heap.size, 4, none⟩ = some (.int .i64 a.px) := V2_a.c 4 _ rfl
      have q2_a_5 : w2.cell? ⟨w.heap.size, 5, none⟩ = some (.int .i64 a.py) := V2_a.c 5 _ rfl
      have q2_a_6 : w2.cell? ⟨w.heap.size, 6, none⟩ = some (.int .i64 a.mx) := V2_a.c 6 _ rfl
      have q2_a_7 : w2.cell? ⟨w.heap.size, 7, none⟩ = some (.int .i64 a.my) := V2_a.c 7 _ rfl
      have f2_a := V2_a.2.2; have L2_a := V2_a.lt; have N2_a := Nat.ne_of_gt L2_a; have M2_a := Nat.ne_of_lt L2_a
      have HV2_a := Lib.hid V2_a
      have q2_b_0 : w2.cell? ⟨w.heap.size + 1, 0, none⟩ = some (.int .i64 b.shape) := V2_b.c 0 _ rfl
      have q2_b_1 : w2.cell? ⟨w.heap.size + 1, 1, none⟩ = some (.int .i64 b.sx) := V2_b.c 1 _ rfl
      have q2_b_2 : w2.cell? ⟨w.heap.size + 1, 2, none⟩ = some (.int .i64 b.sy) := V2_b.c 2 _ rfl
      have q2_b_3 : w2.cell? ⟨w.heap.size + 1, 3, none⟩ = some (.int .i64 b.mass) := V2_b.c 3 _ rfl
      have q2_b_4 : w2.cell? ⟨w.heap.size + 1, 4, none⟩ = some (.int .i64 b.px) := V2_b.c 4 _ rfl
      have q2_b_5 : w2.cell? ⟨w.heap.size + 1, 5, none⟩ = some (.int .i64 b.py) := V2_b.c 5 _ rfl
      have q2_b_6 : w2.cell? ⟨w.heap.size + 1, 6, none⟩ = some (.int .i64 b.mx) := V2_b.c 6 _ rfl
      have q2_b_7 : w2.cell? ⟨w.heap.size + 1, 7, none⟩ = some (.int .i64 b.my) := V2_b.c 7 _ rfl
      have f2_b := V2_b.2.2; have L2_b := V2_b.lt; have N2_b := Nat.ne_of_gt L2_b; have M2_b := Nat.ne_of_lt L2_b
      have HV2_b := Lib.hid V2_b
      have q2_h_0 : w2.cell? ⟨w.heap.size + 1 + 1, 0, none⟩ = some (.int .i64 h.nx) := V2_h.c 0 _ rfl
      have q2_h_1 : w2.cell? ⟨w.heap.size + 1 + 1, 1, none⟩ = some (.int .i64 h.ny) := V2_h.c 1 _ rfl
      have q2_h_2 : w2.cell? ⟨w.heap.size + 1 + 1, 2, none⟩ = some (.int .i64 h.d) := V2_h.c 2 _ rfl
      have f2_h := V2_h.2.2; have L2_h := V2_h.lt; have N2_h := Nat.ne_of_gt L2_h; have M2_h := Nat.ne_of_lt L2_h
      have HV2_h := Lib.hid V2_h
      have q2_l_0 : w2.cell? ⟨w.heap.size + 1 + 1 + 1, 0, none⟩ = some (.int .i64 l) := V2_l.c 0 _ rfl
      have f2_l := V2_l.2.2; have L2_l := V2_l.lt; have N2_l := Nat.ne_of_gt L2_l; have M2_l := Nat.ne_of_lt L2_l
      have HV2_l := Lib.hid V2_l
      have S2 := G2.size; clear hb
      go_wp2_with fail
      (with_reducible refine (c0.out _).mono ?_); rintro en w3 ⟨rfl, hb⟩
      have G3 : Below w.heap.size w w3 := Below.trans (by (repeat (with_reducible refine M.Below.drewN ?_ _)); go_grown) (hb.mono (by go_size))
      have V3_a : M.Var w3 (w.heap.size) #[.int .i64 a.shape, .int .i64 a.sx, .int .i64 a.sy, .int .i64 a.mass, .int .i64 a.px, .int .i64 a.py, .int .i64 a.mx, .int .i64 a.my] := M.Var.mono (by (repeat (first | (with_reducible assumption) | (with_reducible apply M.var_set45) | (with_reducible refine M.var_alloc' _ _ _ ?_; first | rfl | (simp [go_sem]; done)) | (with_reducible refine M.Var.alloc ?_ _) | (with_reducible refine M.Var.drewN ?_ _) | (with_reducible refine M.Var.drew ?_) | (with_reducible refine M.Var.far ?_ _ _ ?hFar; case hFar => (first | omega | ((try simp [go_sem]) <;> omega))) | fail))) hb
      have V3_b : M.Var w3 (w.heap.size + 1) #[.int .i64 b.shape, .int .i64 b.sx, .int .i64 b.sy, .int .i64 b.mass, .int .i64 b.px, .int .i64 b.py, .int .i64 b.mx, .int .i64 b.my] := M.Var.mono (by (repeat (first | (with_reducible assumption) | (with_reducible apply M.var_set45) | (with_reducible refine M.var_alloc' _ _ _ ?_; first | rfl | (simp [go_sem]; done)) | (with_reducible refine M.Var.alloc ?_ _) | (with_reducible refine M.Var.drewN ?_ _) | (with_reducible refine M.Var.drew ?_) | (with_reducible refine M.Var.far ?_ _ _ ?hFar; case hFar => (first | omega | ((try simp [go_sem]) <;> omega))) | fail))) hb
      have V3_h : M.Var w3 (w.heap.size + 1 + 1) #[.int .i64 h.nx, .int .i64 h.ny, .int .i64 h.d] := M.Var.mono (by (repeat (first | (with_reducible assumption) | (with_reducible apply M.var_set45) | (with_reducible refine M.var_alloc' _ _ _ ?_; first | rfl | (simp [go_sem]; done)) | (with_reducible refine M.Var.alloc ?_ _) | (with_reducible refine M.Var.drewN ?_ _) | (with_reducible refine M.Var.drew ?_) | (with_reducible refine M.Var.far ?_ _ _ ?hFar; case hFar => (first | omega | ((try simp [go_sem]) <;> omega))) | fail))) hb
      have V3_l : M.Var w3 (w.heap.size + 1 + 1 + 1) #[.int .i64 l] := M.Var.mono (by (repeat (first | (with_reducible assumption) | (with_reducible apply M.var_set45) | (with_reducible refine M.var_alloc' _ _ _ ?_; first | rfl | (simp [go_sem]; done)) | (with_reducible refine M.Var.alloc ?_ _) | (with_reducible refine M.Var.drewN ?_ _) | (with_reducible refine M.Var.drew ?_) | (with_reducible refine M.Var.far ?_ _ _ ?hFar; case hFar => (first | omega | ((try simp [go_sem]) <;> omega))) | fail))) hb
      have q3_a_0 : w3.cell? ⟨w.heap.size, 0, none⟩ = some (.int .i64 a.shape) := V3_a.c 0 _ rfl
      have q3_a_1 : w3.cell? ⟨w.heap.size, 1, none⟩ = some (.int .i64 a.sx) := V3_a.c 1 _ rfl
      have q3_a_2 : w3.cell? ⟨w.heap.size, 2, none⟩ = some (.int .i64 a.sy) := V3_a.c 2 _ rfl
      have q3_a_3 : w3.cell? ⟨w.heap.size, 3, none⟩ = some (.int .i64 a.mass) := V3_a.c 3 _ rfl
      have q3_a_4 : w3.cell? ⟨w.heap.size, 4, none⟩ = some (.int .i64 a.px) := V3_a.c 4 _ rfl
      have q3_a_5 : w3.cell? ⟨w.heap.size, 5, none⟩ = some (.int .i64 a.py) := V3_a.c 5 _ rfl
      have q3_a_6 : w3.cell? ⟨w.heap.size, 6, none⟩ = some (.int .i64 a.mx) := V3_a.c 6 _ rfl
      have q3_a_7 : w3.cell? ⟨w.heap.size, 7, none⟩ = some (.int .i64 a.my) := V3_a.c 7 _ rfl
      have f3_a := V3_a.2.2; have L3_a := V3_a.lt; have N3_a := Nat.ne_of_gt L3_a; have M3_a := Nat.ne_of_lt L3_a
      have HV3_a := Lib.hid V3_a
      have q3_b_0 : w3.cell? ⟨w.heap.size + 1, 0, none⟩ = some (.int .i64 b.shape) := V3_b.c 0 _ rfl
      have q3_b_1 : w3.cell? ⟨w.heap.size + 1, 1, none⟩ = some (.int .i64 b.sx) := V3_b.c 1 _ rfl
      have q3_b_2 : w3.cell? ⟨w.heap.size + 1, 2, none⟩ = some (.int .i64 b.sy) := V3_b.c 2 _ rfl
      have q3_b_3 : w3.cell? ⟨w.heap.size + 1, 3, none⟩ = some (.int .i64 b.mass) := V3_b.c 3 _ rfl
      have q3_b_4 : w3.cell? ⟨w.heap.size + 1, 4, none⟩ = some (.int .i64 b.px) := V3_b.c 4 _ rfl
      have q3_b_5 : w3.cell? ⟨w.heap.size + 1, 5, none⟩ = some (.int .i64 b.py) := V3_b.c 5 _ rfl
      have q3_b_6 : w3.cell? ⟨w.heap.size + 1, 6, none⟩ = some (.int .i64 b.mx) := V3_b.c 6 _ rfl
      have q3_b_7 : w3.cell? ⟨w.heap.size + 1, 7, none⟩ = some (.int .i64 b.my) := V3_b.c 7 _ rfl
      have f3_b := V3_b.2.2; have L3_b := V3_b.lt; have N3_b := Nat.ne_of_gt L3_b; have M3_b := Nat.ne_of_lt L3_b
      have HV3_b := Lib.hid V3_b
      have q3_h_0 : w3.cell? ⟨w.heap.size + 1 + 1, 0, none⟩ = some (.int .i64 h.nx) := V3_h.c 0 _ rfl
      have q3_h_1 : w3.cell? ⟨w.heap.size + 1 + 1, 1, none⟩ = some (.int .i64 h.ny) := V3_h.c 1 _ rfl
      have q3_h_2 : w3.cell? ⟨w.heap.size + 1 + 1, 2, none⟩ = some (.int .i64 h.d) := V3_h.c 2 _ rfl
      have f3_h := V3_h.2.2; have L3_h := V3_h.lt; have N3_h := Nat.ne_of_gt L3_h; have M3_h := Nat.ne_of_lt L3_h
      have HV3_h := Lib.hid V3_h
      have q3_l_0 : w3.cell? ⟨w.heap.size + 1 + 1 + 1, 0, none⟩ = some (.int .i64 l) := V3_l.c 0 _ rfl
      have f3_l := V3_l.2.2; have L3_l := V3_l.lt; have N3_l := Nat.ne_of_gt L3_l; have M3_l := Nat.ne_of_lt L3_l
      have HV3_l := Lib.hid V3_l
      have S3 := G3.size; clear hb
      go_wp2_with fail
      refine (try_c 37 #[.pointer (some ⟨w.heap.size, 0, none⟩), .pointer (some ⟨w.heap.size + 1, 0, none⟩), .pointer (some ⟨w.heap.size + 1 + 1, 0, none⟩), .pointer (some ⟨w3.heap.size, 0, none⟩), .pointer (some ⟨w3.heap.size + 1, 0, none⟩)] _ (i) ([]) (fun _ => rfl) ?_ ?_).mono ?_
      · intro u hu; (try simp only [List.mem_append] at hu); (repeat' (obtain hu | hu := (hu : _ ∨ _))); all_goals (first | rw [M.usBx_block hu] | rw [M.usV_block hu] | rw [M.usI_block hu] | rw [M.usHt_block hu] | rw [M.usBd_block hu] | rw [M.usB_block hu] | rw [M.cell_block1 hu] | (exfalso; simp at hu; done)); all_goals ((try simp [go_sem]) <;> omega)
      · intro w1' hb; exact (cloCoF _ _ _ _ _ a ha b hB h hh _ _ _ _ _ _ _ _ _ _ _ _ _ _ _ _ (.error i) hP.out w1' (M.Var.mono (b := w.heap.size) (cs := #[.int .i64 a.shape, .int .i64 a.sx, .int .i64 a.sy, .int .i64 a.mass, .int .i64 a.px, .int .i64 a.py, .int .i64 a.mx, .int .i64 a.my]) (by (repeat (first | (with_reducible assumption) | (with_reducible apply M.var_set45) | (with_reducible refine M.var_alloc' _ _ _ ?_; first | rfl | (simp [go_sem]; done)) | (with_reducible refine M.Var.alloc ?_ _) | (with_reducible refine M.Var.drewN ?_ _) | (with_reducible refine M.Var.drew ?_) | (with_reducible refine M.Var.far ?_ _ _ ?hFar; case hFar => (first | omega | ((try simp [go_sem]) <;> omega))) | fail))) hb) (M.Var.mono (b := w.heap.size + 1) (cs := #[.int .i64 b.shape, .int .i64 b.sx, .int .i64 b.sy, .int .i64 b.mass, .int .i64 b.px, .int .i64 b.py, .int .i64 b.mx, .int .i64 b.my]) (by (repeat (first | (with_reducible assumption) | (with_reducible apply M.var_set45) | (with_reducible refine M.var_alloc' _ _ _ ?_; first | rfl | (simp [go_sem]; done)) | (with_reducible refine M.Var.alloc ?_ _) | (with_reducible refine M.Var.drewN ?_ _) | (with_reducible refine M.Var.drew ?_) | (with_reducible refine M.Var.far ?_ _ _ ?hFar; case hFar => (first | omega | ((try simp [go_sem]) <;> omega))) | fail))) hb) (M.Var.mono (b := w.heap.size + 1 + 1) (cs := #[.int .i64 h.nx, .int .i64 h.ny, .int .i64 h.d]) (by (repeat (first | (with_reducible assumption) | (with_reducible apply M.var_set45) | (with_reducible refine M.var_alloc' _ _ _ ?_; first | rfl | (simp [go_sem]; done)) | (with_reducible refine M.Var.alloc ?_ _) | (with_reducible refine M.Var.drewN ?_ _) | (with_reducible refine M.Var.drew ?_) | (with_reducible refine M.Var.far ?_ _ _ ?hFar; case hFar => (first | omega | ((try simp [go_sem]) <;> omega))) | fail))) hb) (M.Var.mono (b := w3.heap.size) (cs := #[.int .i64 0, .int .i64 0, .int .i64 0, .int .i64 0, .int .i64 0, .int .i64 0, .int .i64 0, .int .i64 0]) (by (repeat (first | (with_reducible assumption) | (with_reducible apply M.var_set45) | (with_reducible refine M.var_alloc' _ _ _ ?_; first | rfl | (simp [go_sem]; done)) | (with_reducible refine M.Var.alloc ?_ _) | (with_reducible refine M.Var.drewN ?_ _) | (with_reducible refine M.Var.drew ?_) | (with_reducible refine M.Var.far ?_ _ _ ?hFar; case hFar => (first | omega | ((try simp [go_sem]) <;> omega))) | fail))) hb) (M.Var.mono (b := w3.heap.size + 1) (cs := #[.int .i64 0, .int .i64 0, .int .i64 0, .int .i64 0, .int .i64 0, .int .i64 0, .int .i64 0, .int .i64 0]) (by (repeat (first | (with_reducible assumption) | (with_reducible apply M.var_set45) | (with_reducible refine M.var_alloc' _ _ _ ?_; first | rfl | (simp [go_sem]; done)) | (with_reducible refine M.Var.alloc ?_ _) | (with_reducible refine M.Var.drewN ?_ _) | (with_reducible refine M.Var.drew ?_) | (with_reducible refine M.Var.far ?_ _ _ ?hFar; case hFar => (first | omega | ((try simp [go_sem]) <;> omega))) | fail))) hb) (by omega)).mono fun e w' h => h
      rintro en w4 ⟨rfl, hb⟩
      have G4 : Below w.heap.size w w4 := Below.trans (M.below_sets_own ([]) (by (repeat (with_reducible refine M.Below.drewN ?_ _)); go_grown) (by intro u hu; (try simp only [List.mem_append] at hu); (repeat' (obtain hu | hu := (hu : _ ∨ _))); all_goals (first | rw [M.usBx_block hu] | rw [M.usV_block hu] | rw [M.usI_block hu] | rw [M.usHt_block hu] | rw [M.usBd_block hu] | rw [M.usB_block hu] | rw [M.cell_block1 hu] | (exfalso; simp at hu; done)); all_goals ((try simp [go_sem]) <;> omega))) (hb.mono (by go_size))
      have VV4 : M.Var w4 (w.heap.size) #[.int .i64 a.shape, .int .i64 a.sx, .int .i64 a.sy, .int .i64 a.mass, .int .i64 a.px, .int .i64 a.py, .int .i64 a.mx, .int .i64 a.my] ∧ M.Var w4 (w.heap.size + 1) #[.int .i64 b.shape, .int .i64 b.sx, .int .i64 b.sy, .int .i64 b.mass, .int .i64 b.px, .int .i64 b.py, .int .i64 b.mx, .int .i64 b.my] ∧ M.Var w4 (w.heap.size + 1 + 1) #[.int .i64 h.nx, .int .i64 h.ny, .int .i64 h.d] ∧ M.Var w4 (w.heap.size + 1 + 1 + 1) #[.int .i64 l] ∧ M.Var w4 (w3.heap.size) #[.int .i64 0, .int .i64 0, .int .i64 0, .int .i64 0, .int .i64 0, .int .i64 0, .int .i64 0, .int .i64 0] ∧ M.Var w4 (w3.heap.size + 1) #[.int .i64 0, .int .i64 0, .int .i64 0, .int .i64 0, .int .i64 0, .int .i64 0, .int .i64 0, .int .i64 0] ∧ M.Var w4 (w3.heap.size + 1 + 1) #[.int .i64 0, .int .i64 0, .int .i64 0, .int .i64 0, .int .i64 0, .int .i64 0, .int .i64 0, .int .i64 0] ∧ M.Var w4 (w3.heap.size + 1 + 1 + 1) #[.int .i64 0, .int .i64 0, .int .i64 0, .int .i64 0, .int .i64 0, .int .i64 0, .int .i64 0, .int .i64 0] := by refine ⟨?_, ?_, ?_, ?_, ?_, ?_, ?_, ?_⟩ <;> exact M.Var.mono' (u := M.sets _ ([])) (by (try simp only [M.sets_append]); exact (M.var_sets_far ([]) (by (repeat (first | (with_reducible assumption) | (with_reducible apply M.var_set45) | (with_reducible refine M.var_alloc' _ _ _ ?_; first | rfl | (simp [go_sem]; done)) | (with_reducible refine M.Var.alloc ?_ _) | (with_reducible refine M.Var.drewN ?_ _) | (with_reducible refine M.Var.drew ?_) | (with_reducible refine M.Var.far ?_ _ _ ?hFar; case hFar => (first | omega | ((try simp [go_sem]) <;> omega))) | fail))) (by intro u hu; all_goals (first | rw [M.usBx_block hu] | rw [M.usV_block hu] | rw [M.usI_block hu] | rw [M.usHt_block hu] | rw [M.usBd_block hu] | rw [M.usB_block hu] | rw [M.cell_block1 hu] | (exfalso; simp at hu; done)); all_goals ((try simp [go_sem]) <;> omega)))) (M.sets_size _ _) hb
      obtain ⟨V4_a, V4_b, V4_h, V4_l, V4_x, V4_y, V4_u, V4_v⟩ := VV4
      have q4_a_0 : w4.cell? ⟨w.heap.size, 0, none⟩ = some (.int .i64 a.shape) := V4_a.c 0 _ rfl
      have q4_a_1 : w4.cell? ⟨w.heap.size, 1, none⟩ = some (.int .i64 a.sx) := V4_a.c 1 _ rfl
      have q4_a_2 : w4.cell? ⟨w.heap.size, 2, none⟩ = some (.int .i64 a.sy) := V4_a.c 2 _ rfl
      have q4_a_3 : w4.cell? ⟨w.heap.size, 3, none⟩ = some (.int .i64 a.mass) := V4_a.c 3 _ rfl
      have q4_a_4 : w4.cell? ⟨w.heap.size, 4, none⟩ = some (.int .i64 a.px) := V4_a.c 4 _ rfl
      have q4_a_5 : w4.cell? ⟨w.heap.size, 5, none⟩ = some (.int .i64 a.py) := V4_a.c 5 _ rfl
      have q4_a_6 : w4.cell? ⟨w.heap.size, 6, none⟩ = some (.int .i64 a.mx) := V4_a.c 6 _ rfl
      have q4_a_7 : w4.cell? ⟨w.heap.size, 7, none⟩ = some (.int .i64 a.my) := V4_a.c 7 _ rfl
      have f4_a := V4_a.2.2; have L4_a := V4_a.lt; have N4_a := Nat.ne_of_gt L4_a; have M4_a := Nat.ne_of_lt L4_a
      have HV4_a := Lib.hid V4_a
      have q4_b_0 : w4.cell? ⟨w.heap.size + 1, 0, none⟩ = some (.int .i64 b.shape) := V4_b.c 0 _ rfl
      have q4_b_1 : w4.cell? ⟨w.heap.size + 1, 1, none⟩ = some (.int .i64 b.sx) := V4_b.c 1 _ rfl
      have q4_b_2 : w4.cell? ⟨w.heap.size + 1, 2, none⟩ = some (.int .i64 b.sy) := V4_b.c 2 _ rfl
      have q4_b_3 : w4.cell? ⟨w.heap.size + 1, 3, none⟩ = some (.int .i64 b.mass) := V4_b.c 3 _ rfl
      have q4_b_4 : w4.cell? ⟨w.heap.size + 1, 4, none⟩ = some (.int .i64 b.px) := V4_b.c 4 _ rfl
      have q4_b_5 : w4.cell? ⟨w.heap.size + 1, 5, none⟩ = some (.int .i64 b.py) := V4_b.c 5 _ rfl
      have q4_b_6 : w4.cell? ⟨w.heap.size + 1, 6, none⟩ = some (.int .i64 b.mx) := V4_b.c 6 _ rfl
      have q4_b_7 : w4.cell? ⟨w.heap.size + 1, 7, none⟩ = some (.int .i64 b.my) := V4_b.c 7 _ rfl
      have f4_b := V4_b.2.2; have L4_b := V4_b.lt; have N4_b := Nat.ne_of_gt L4_b; have M4_b := Nat.ne_of_lt L4_b
      have HV4_b := Lib.hid V4_b
      have q4_h_0 : w4.cell? ⟨w.heap.size + 1 + 1, 0, none⟩ = some (.int .i64 h.nx) := V4_h.c 0 _ rfl
      have q4_h_1 : w4.cell? ⟨w.heap.size + 1 + 1, 1, none⟩ = some (.int .i64 h.ny) := V4_h.c 1 _ rfl
      have q4_h_2 : w4.cell? ⟨w.heap.size + 1 + 1, 2, none⟩ = some (.int .i64 h.d) := V4_h.c 2 _ rfl
      have f4_h := V4_h.2.2; have L4_h := V4_h.lt; have N4_h := Nat.ne_of_gt L4_h; have M4_h := Nat.ne_of_lt L4_h
      have HV4_h := Lib.hid V4_h
      have q4_l_0 : w4.cell? ⟨w.heap.size + 1 + 1 + 1, 0, none⟩ = some (.int .i64 l) := V4_l.c 0 _ rfl
      have f4_l := V4_l.2.2; have L4_l := V4_l.lt; have N4_l := Nat.ne_of_gt L4_l; have M4_l := Nat.ne_of_lt L4_l
      have HV4_l := Lib.hid V4_l
      have q4_x_0 : w4.cell? ⟨w3.heap.size, 0, none⟩ = some (.int .i64 0) := V4_x.c 0 _ rfl
      have q4_x_1 : w4.cell? ⟨w3.heap.size, 1, none⟩ = some (.int .i64 0) := V4_x.c 1 _ rfl
      have q4_x_2 : w4.cell? ⟨w3.heap.size, 2, none⟩ = some (.int .i64 0) := V4_x.c 2 _ rfl
      have q4_x_3 : w4.cell? ⟨w3.heap.size, 3, none⟩ = some (.int .i64 0) := V4_x.c 3 _ rfl
      have q4_x_4 : w4.cell? ⟨w3.heap.size, 4, none⟩ = some (.int .i64 0) := V4_x.c 4 _ rfl
      have q4_x_5 : w4.cell? ⟨w3.heap.size, 5, none⟩ = some (.int .i64 0) := V4_x.c 5 _ rfl
      have q4_x_6 : w4.cell? ⟨w3.heap.size, 6, none⟩ = some (.int .i64 0) := V4_x.c 6 _ rfl
      have q4_x_7 : w4.cell? ⟨w3.heap.size, 7, none⟩ = some (.int .i64 0) := V4_x.c 7 _ rfl
      have f4_x := V4_x.2.2; have L4_x := V4_x.lt; have N4_x := Nat.ne_of_gt L4_x; have M4_x := Nat.ne_of_lt L4_x
      have HV4_x := Lib.hid V4_x
      have q4_y_0 : w4.cell? ⟨w3.heap.size + 1, 0, none⟩ = some (.int .i64 0) := V4_y.c 0 _ rfl
      have q4_y_1 : w4.cell? ⟨w3.heap.size + 1, 1, none⟩ = some (.int .i64 0) := V4_y.c 1 _ rfl
      have q4_y_2 : w4.cell? ⟨w3.heap.size + 1, 2, none⟩ = some (.int .i64 0) := V4_y.c 2 _ rfl
      have q4_y_3 : w4.cell? ⟨w3.heap.size + 1, 3, none⟩ = some (.int .i64 0) := V4_y.c 3 _ rfl
      have q4_y_4 : w4.cell? ⟨w3.heap.size + 1, 4, none⟩ = some (.int .i64 0) := V4_y.c 4 _ rfl
      have q4_y_5 : w4.cell? ⟨w3.heap.size + 1, 5, none⟩ = some (.int .i64 0) := V4_y.c 5 _ rfl
      have q4_y_6 : w4.cell? ⟨w3.heap.size + 1, 6, none⟩ = some (.int .i64 0) := V4_y.c 6 _ rfl
      have q4_y_7 : w4.cell? ⟨w3.heap.size + 1, 7, none⟩ = some (.int .i64 0) := V4_y.c 7 _ rfl
      have f4_y := V4_y.2.2; have L4_y := V4_y.lt; have N4_y := Nat.ne_of_gt L4_y; have M4_y := Nat.ne_of_lt L4_y
      have HV4_y := Lib.hid V4_y
      have q4_u_0 : w4.cell? ⟨w3.heap.size + 1 + 1, 0, none⟩ = some (.int .i64 0) := V4_u.c 0 _ rfl
      have q4_u_1 : w4.cell? ⟨w3.heap.size + 1 + 1, 1, none⟩ = some (.int .i64 0) := V4_u.c 1 _ rfl
      have q4_u_2 : w4.cell? ⟨w3.heap.size + 1 + 1, 2, none⟩ = some (.int .i64 0) := V4_u.c 2 _ rfl
      have q4_u_3 : w4.cell? ⟨w3.heap.size + 1 + 1, 3, none⟩ = some (.int .i64 0) := V4_u.c 3 _ rfl
      have q4_u_4 : w4.cell? ⟨w3.heap.size + 1 + 1, 4, none⟩ = some (.int .i64 0) := V4_u.c 4 _ rfl
      have q4_u_5 : w4.cell? ⟨w3.heap.size + 1 + 1, 5, none⟩ = some (.int .i64 0) := V4_u.c 5 _ rfl
      have q4_u_6 : w4.cell? ⟨w3.heap.size + 1 + 1, 6, none⟩ = some (.int .i64 0) := V4_u.c 6 _ rfl
      have q4_u_7 : w4.cell? ⟨w3.heap.size + 1 + 1, 7, none⟩ = some (.int .i64 0) := V4_u.c 7 _ rfl
      have f4_u := V4_u.2.2; have L4_u := V4_u.lt; have N4_u := Nat.ne_of_gt L4_u; have M4_u := Nat.ne_of_lt L4_u
      have HV4_u := Lib.hid V4_u
      have q4_v_0 : w4.cell? ⟨w3.heap.size + 1 + 1 + 1, 0, none⟩ = some (.int .i64 0) := V4_v.c 0 _ rfl
      have q4_v_1 : w4.cell? ⟨w3.heap.size + 1 + 1 + 1, 1, none⟩ = some (.int .i64 0) := V4_v.c 1 _ rfl
      have q4_v_2 : w4.cell? ⟨w3.heap.size + 1 + 1 + 1, 2, none⟩ = some (.int .i64 0) := V4_v.c 2 _ rfl
      have q4_v_3 : w4.cell? ⟨w3.heap.size + 1 + 1 + 1, 3, none⟩ = some (.int .i64 0) := V4_v.c 3 _ rfl
      have q4_v_4 : w4.cell? ⟨w3.heap.size + 1 + 1 + 1, 4, none⟩ = some (.int .i64 0) := V4_v.c 4 _ rfl
      have q4_v_5 : w4.cell? ⟨w3.heap.size + 1 + 1 + 1, 5, none⟩ = some (.int .i64 0) := V4_v.c 5 _ rfl
      have q4_v_6 : w4.cell? ⟨w3.heap.size + 1 + 1 + 1, 6, none⟩ = some (.int .i64 0) := V4_v.c 6 _ rfl
      have q4_v_7 : w4.cell? ⟨w3.heap.size + 1 + 1 + 1, 7, none⟩ = some (.int .i64 0) := V4_v.c 7 _ rfl
      have f4_v := V4_v.2.2; have L4_v := V4_v.lt; have N4_v := Nat.ne_of_gt L4_v; have M4_v := Nat.ne_of_lt L4_v
      have HV4_v := Lib.hid V4_v
      have S4 := G4.size; clear hb
      go_wp2_with fail
      refine (try_c 38 #[.pointer (some ⟨w.heap.size, 0, none⟩), .pointer (some ⟨w.heap.size + 1, 0, none⟩), .pointer (some ⟨w.heap.size + 1 + 1 + 1, 0, none⟩), .pointer (some ⟨w3.heap.size + 1 + 1, 0, none⟩), .pointer (some ⟨w3.heap.size + 1 + 1 + 1, 0, none⟩)] _ (j) ([]) (fun _ => rfl) ?_ ?_).mono ?_
      · intro u hu; (try simp only [List.mem_append] at hu); (repeat' (obtain hu | hu := (hu : _ ∨ _))); all_goals (first | rw [M.usBx_block hu] | rw [M.usV_block hu] | rw [M.usI_block hu] | rw [M.usHt_block hu] | rw [M.usBd_block hu] | rw [M.usB_block hu] | rw [M.cell_block1 hu] | (exfalso; simp at hu; done)); all_goals ((try simp [go_sem]) <;> omega)
      · intro w1' hb; exact (cloJoF _ _ _ _ _ a ha b hB l hl _ _ _ _ _ _ _ _ _ _ _ _ _ _ _ _ (.error j) hQ.out w1' (M.Var.mono (b := w.heap.size) (cs := #[.int .i64 a.shape, .int .i64 a.sx, .int .i64 a.sy, .int .i64 a.mass, .int .i64 a.px, .int .i64 a.py, .int .i64 a.mx, .int .i64 a.my]) (by (repeat (first | (with_reducible assumption) | (with_reducible apply M.var_set45) | (with_reducible refine M.var_alloc' _ _ _ ?_; first | rfl | (simp [go_sem]; done)) | (with_reducible refine M.Var.alloc ?_ _) | (with_reducible refine M.Var.drewN ?_ _) | (with_reducible refine M.Var.drew ?_) | (with_reducible refine M.Var.far ?_ _ _ ?hFar; case hFar => (first | omega | ((try simp [go_sem]) <;> omega))) | fail))) hb) (M.Var.mono (b := w.heap.size + 1) (cs := #[.int .i64 b.shape, .int .i64 b.sx, .int .i64 b.sy, .int .i64 b.mass, .int .i64 b.px, .int .i64 b.py, .int .i64 b.mx, .int .i64 b.my]) (by (repeat (first | (with_reducible assumption) | (with_reducible apply M.var_set45) | (with_reducible refine M.var_alloc' _ _ _ ?_; first | rfl | (simp [go_sem]; done)) | (with_reducible refine M.Var.alloc ?_ _) | (with_reducible refine M.Var.drewN ?_ _) | (with_reducible refine M.Var.drew ?_) | (with_reducible refine M.Var.far ?_ _ _ ?hFar; case hFar => (first | omega | ((try simp [go_sem]) <;> omega))) | fail))) hb) (M.Var.mono (b := w.heap.size + 1 + 1 + 1) (cs := #[.int .i64 l]) (by (repeat (first | (with_reducible assumption) | (with_reducible apply M.var_set45) | (with_reducible refine M.var_alloc' _ _ _ ?_; first | rfl | (simp [go_sem]; done)) | (with_reducible refine M.Var.alloc ?_ _) | (with_reducible refine M.Var.drewN ?_ _) | (with_reducible refine M.Var.drew ?_) | (with_reducible refine M.Var.far ?_ _ _ ?hFar; case hFar => (first | omega | ((try simp [go_sem]) <;> omega))) | fail))) hb) (M.Var.mono (b := w3.heap.size + 1 + 1) (cs := #[.int .i64 0, .int .i64 0, .int .i64 0, .int .i64 0, .int .i64 0, .int .i64 0, .int .i64 0, .int .i64 0]) (by (repeat (first | (with_reducible assumption) | (with_reducible apply M.var_set45) | (with_reducible refine M.var_alloc' _ _ _ ?_; first | rfl | (simp [go_sem]; done)) | (with_reducible refine M.Var.alloc ?_ _) | (with_reducible refine M.Var.drewN ?_ _) | (with_reducible refine M.Var.drew ?_) | (with_reducible refine M.Var.far ?_ _ _ ?hFar; case hFar => (first | omega | ((try simp [go_sem]) <;> omega))) | fail))) hb) (M.Var.mono (b := w3.heap.size + 1 + 1 + 1) (cs := #[.int .i64 0, .int .i64 0, .int .i64 0, .int .i64 0, .int .i64 0, .int .i64 0, .int .i64 0, .int .i64 0]) (by (repeat (first | (with_reducible assumption) | (with_reducible apply M.var_set45) | (with_reducible refine M.var_alloc' _ _ _ ?_; first | rfl | (simp [go_sem]; done)) | (with_reducible refine M.Var.alloc ?_ _) | (with_reducible refine M.Var.drewN ?_ _) | (with_reducible refine M.Var.drew ?_) | (with_reducible refine M.Var.far ?_ _ _ ?hFar; case hFar => (first | omega | ((try simp [go_sem]) <;> omega))) | fail))) hb) (by omega)).mono fun e w' h => h
      rintro en w5 ⟨rfl, hb⟩
      have G5 : Below w.heap.size w w5 := Below.trans (M.below_sets_own ([]) (by (repeat (with_reducible refine M.Below.drewN ?_ _)); go_grown) (by intro u hu; (try simp only [List.mem_append] at hu); (repeat' (obtain hu | hu := (hu : _ ∨ _))); all_goals (first | rw [M.usBx_block hu] | rw [M.usV_block hu] | rw [M.usI_block hu] | rw [M.usHt_block hu] | rw [M.usBd_block hu] | rw [M.usB_block hu] | rw [M.cell_block1 hu] | (exfalso; simp at hu; done)); all_goals ((try simp [go_sem]) <;> omega))) (hb.mono (by go_size))
      have VV5 : M.Var w5 (w.heap.size) #[.int .i64 a.shape, .int .i64 a.sx, .int .i64 a.sy, .int .i64 a.mass, .int .i64 a.px, .int .i64 a.py, .int .i64 a.mx, .int .i64 a.my] ∧ M.Var w5 (w.heap.size + 1) #[.int .i64 b.shape, .int .i64 b.sx, .int .i64 b.sy, .int .i64 b.mass, .int .i64 b.px, .int .i64 b.py, .int .i64 b.mx, .int .i64 b.my] ∧ M.Var w5 (w.heap.size + 1 + 1) #[.int .i64 h.nx, .int .i64 h.ny, .int .i64 h.d] ∧ M.Var w5 (w.heap.size + 1 + 1 + 1) #[.int .i64 l] ∧ M.Var w5 (w3.heap.size) #[.int .i64 0, .int .i64 0, .int .i64 0, .int .i64 0, .int .i64 0, .int .i64 0, .int .i64 0, .int .i64 0] ∧ M.Var w5 (w3.heap.size + 1) #[.int .i64 0, .int .i64 0, .int .i64 0, .int .i64 0, .int .i64 0, .int .i64 0, .int .i64 0, .int .i64 0] ∧ M.Var w5 (w3.heap.size + 1 + 1) #[.int .i64 0, .int .i64 0, .int .i64 0, .int .i64 0, .int .i64 0, .int .i64 0, .int .i64 0, .int .i64 0] ∧ M.Var w5 (w3.heap.size + 1 + 1 + 1) #[.int .i64 0, .int .i64 0, .int .i64 0, .int .i64 0, .int .i64 0, .int .i64 0, .int .i64 0, .int .i64 0] := by refine ⟨?_, ?_, ?_, ?_, ?_, ?_, ?_, ?_⟩ <;> exact M.Var.mono' (u := M.sets _ ([])) (by (try simp only [M.sets_append]); exact (M.var_sets_far ([]) (by (repeat (first | (with_reducible assumption) | (with_reducible apply M.var_set45) | (with_reducible refine M.var_alloc' _ _ _ ?_; first | rfl | (simp [go_sem]; done)) | (with_reducible refine M.Var.alloc ?_ _) | (with_reducible refine M.Var.drewN ?_ _) | (with_reducible refine M.Var.drew ?_) | (with_reducible refine M.Var.far ?_ _ _ ?hFar; case hFar => (first | omega | ((try simp [go_sem]) <;> omega))) | fail))) (by intro u hu; all_goals (first | rw [M.usBx_block hu] | rw [M.usV_block hu] | rw [M.usI_block hu] | rw [M.usHt_block hu] | rw [M.usBd_block hu] | rw [M.usB_block hu] | rw [M.cell_block1 hu] | (exfalso; simp at hu; done)); all_goals ((try simp [go_sem]) <;> omega)))) (M.sets_size _ _) hb
      obtain ⟨V5_a, V5_b, V5_h, V5_l, V5_x, V5_y, V5_u, V5_v⟩ := VV5
      have q5_a_0 : w5.cell? ⟨w.heap.size, 0, none⟩ = some (.int .i64 a.shape) := V5_a.c 0 _ rfl
      have q5_a_1 : w5.cell? ⟨w.heap.size, 1, none⟩ = some (.int .i64 a.sx) := V5_a.c 1 _ rfl
      have q5_a_2 : w5.cell? ⟨w.heap.size, 2, none⟩ = some (.int .i64 a.sy) := V5_a.c 2 _ rfl
      have q5_a_3 : w5.cell? ⟨w.heap.size, 3, none⟩ = some (.int .i64 a.mass) := V5_a.c 3 _ rfl
      have q5_a_4 : w5.cell? ⟨w.heap.size, 4, none⟩ = some (.int .i64 a.px) := V5_a.c 4 _ rfl
      have q5_a_5 : w5.cell? ⟨w.heap.size, 5, none⟩ = some (.int .i64 a.py) := V5_a.c 5 _ rfl
      have q5_a_6 : w5.cell? ⟨w.heap.size, 6, none⟩ = some (.int .i64 a.mx) := V5_a.c 6 _ rfl
      have q5_a_7 : w5.cell? ⟨w.heap.size, 7, none⟩ = some (.int .i64 a.my) := V5_a.c 7 _ rfl
      have f5_a := V5_a.2.2; have L5_a := V5_a.lt; have N5_a := Nat.ne_of_gt L5_a; have M5_a := Nat.ne_of_lt L5_a
      have HV5_a := Lib.hid V5_a
      have q5_b_0 : w5.cell? ⟨w.heap.size + 1, 0, none⟩ = some (.int .i64 b.shape) := V5_b.c 0 _ rfl
      have q5_b_1 : w5.cell? ⟨w.heap.size + 1, 1, none⟩ = some (.int .i64 b.sx) := V5_b.c 1 _ rfl
      have q5_b_2 : w5.cell? ⟨w.heap.size + 1, 2, none⟩ = some (.int .i64 b.sy) := V5_b.c 2 _ rfl
      have q5_b_3 : w5.cell? ⟨w.heap.size + 1, 3, none⟩ = some (.int .i64 b.mass) := V5_b.c 3 _ rfl
      have q5_b_4 : w5.cell? ⟨w.heap.size + 1, 4, none⟩ = some (.int .i64 b.px) := V5_b.c 4 _ rfl
      have q5_b_5 : w5.cell? ⟨w.heap.size + 1, 5, none⟩ = some (.int .i64 b.py) := V5_b.c 5 _ rfl
      have q5_b_6 : w5.cell? ⟨w.heap.size + 1, 6, none⟩ = some (.int .i64 b.mx) := V5_b.c 6 _ rfl
      have q5_b_7 : w5.cell? ⟨w.heap.size + 1, 7, none⟩ = some (.int .i64 b.my) := V5_b.c 7 _ rfl
      have f5_b := V5_b.2.2; have L5_b := V5_b.lt; have N5_b := Nat.ne_of_gt L5_b; have M5_b := Nat.ne_of_lt L5_b
      have HV5_b := Lib.hid V5_b
      have q5_h_0 : w5.cell? ⟨w.heap.size + 1 + 1, 0, none⟩ = some (.int .i64 h.nx) := V5_h.c 0 _ rfl
      have q5_h_1 : w5.cell? ⟨w.heap.size + 1 + 1, 1, none⟩ = some (.int .i64 h.ny) := V5_h.c 1 _ rfl
      have q5_h_2 : w5.cell? ⟨w.heap.size + 1 + 1, 2, none⟩ = some (.int .i64 h.d) := V5_h.c 2 _ rfl
      have f5_h := V5_h.2.2; have L5_h := V5_h.lt; have N5_h := Nat.ne_of_gt L5_h; have M5_h := Nat.ne_of_lt L5_h
      have HV5_h := Lib.hid V5_h
      have q5_l_0 : w5.cell? ⟨w.heap.size + 1 + 1 + 1, 0, none⟩ = some (.int .i64 l) := V5_l.c 0 _ rfl
      have f5_l := V5_l.2.2; have L5_l := V5_l.lt; have N5_l := Nat.ne_of_gt L5_l; have M5_l := Nat.ne_of_lt L5_l
      have HV5_l := Lib.hid V5_l
      have q5_x_0 : w5.cell? ⟨w3.heap.size, 0, none⟩ = some (.int .i64 0) := V5_x.c 0 _ rfl
      have q5_x_1 : w5.cell? ⟨w3.heap.size, 1, none⟩ = some (.int .i64 0) := V5_x.c 1 _ rfl
      have q5_x_2 : w5.cell? ⟨w3.heap.size, 2, none⟩ = some (.int .i64 0) := V5_x.c 2 _ rfl
      have q5_x_3 : w5.cell? ⟨w3.heap.size, 3, none⟩ = some (.int .i64 0) := V5_x.c 3 _ rfl
      have q5_x_4 : w5.cell? ⟨w3.heap.size, 4, none⟩ = some (.int .i64 0) := V5_x.c 4 _ rfl
      have q5_x_5 : w5.cell? ⟨w3.heap.size, 5, none⟩ = some (.int .i64 0) := V5_x.c 5 _ rfl
      have q5_x_6 : w5.cell? ⟨w3.heap.size, 6, none⟩ = some (.int .i64 0) := V5_x.c 6 _ rfl
      have q5_x_7 : w5.cell? ⟨w3.heap.size, 7, none⟩ = some (.int .i64 0) := V5_x.c 7 _ rfl
      have f5_x := V5_x.2.2; have L5_x := V5_x.lt; have N5_x := Nat.ne_of_gt L5_x; have M5_x := Nat.ne_of_lt L5_x
      have HV5_x := Lib.hid V5_x
      have q5_y_0 : w5.cell? ⟨w3.heap.size + 1, 0, none⟩ = some (.int .i64 0) := V5_y.c 0 _ rfl
      have q5_y_1 : w5.cell? ⟨w3.heap.size + 1, 1, none⟩ = some (.int .i64 0) := V5_y.c 1 _ rfl
      have q5_y_2 : w5.cell? ⟨w3.heap.size + 1, 2, none⟩ = some (.int .i64 0) := V5_y.c 2 _ rfl
      have q5_y_3 : w5.cell? ⟨w3.heap.size + 1, 3, none⟩ = some (.int .i64 0) := V5_y.c 3 _ rfl
      have q5_y_4 : w5.cell? ⟨w3.heap.size + 1, 4, none⟩ = some (.int .i64 0) := V5_y.c 4 _ rfl
      have q5_y_5 : w5.cell? ⟨w3.heap.size + 1, 5, none⟩ = some (.int .i64 0) := V5_y.c 5 _ rfl
      have q5_y_6 : w5.cell? ⟨w3.heap.size + 1, 6, none⟩ = some (.int .i64 0) := V5_y.c 6 _ rfl
      have q5_y_7 : w5.cell? ⟨w3.heap.size + 1, 7, none⟩ = some (.int .i64 0) := V5_y.c 7 _ rfl
      have f5_y := V5_y.2.2; have L5_y := V5_y.lt; have N5_y := Nat.ne_of_gt L5_y; have M5_y := Nat.ne_of_lt L5_y
      have HV5_y := Lib.hid V5_y
      have q5_u_0 : w5.cell? ⟨w3.heap.size + 1 + 1, 0, none⟩ = some (.int .i64 0) := V5_u.c 0 _ rfl
      have q5_u_1 : w5.cell? ⟨w3.heap.size + 1 + 1, 1, none⟩ = some (.int .i64 0) := V5_u.c 1 _ rfl
      have q5_u_2 : w5.cell? ⟨w3.heap.size + 1 + 1, 2, none⟩ = some (.int .i64 0) := V5_u.c 2 _ rfl
      have q5_u_3 : w5.cell? ⟨w3.heap.size + 1 + 1, 3, none⟩ = some (.int .i64 0) := V5_u.c 3 _ rfl
      have q5_u_4 : w5.cell? ⟨w3.heap.size + 1 + 1, 4, none⟩ = some (.int .i64 0) := V5_u.c 4 _ rfl
      have q5_u_5 : w5.cell? ⟨w3.heap.size + 1 + 1, 5, none⟩ = some (.int .i64 0) := V5_u.c 5 _ rfl
      have q5_u_6 : w5.cell? ⟨w3.heap.size + 1 + 1, 6, none⟩ = some (.int .i64 0) := V5_u.c 6 _ rfl
      have q5_u_7 : w5.cell? ⟨w3.heap.size + 1 + 1, 7, none⟩ = some (.int .i64 0) := V5_u.c 7 _ rfl
      have f5_u := V5_u.2.2; have L5_u := V5_u.lt; have N5_u := Nat.ne_of_gt L5_u; have M5_u := Nat.ne_of_lt L5_u
      have HV5_u := Lib.hid V5_u
      have q5_v_0 : w5.cell? ⟨w3.heap.size + 1 + 1 + 1, 0, none⟩ = some (.int .i64 0) := V5_v.c 0 _ rfl
      have q5_v_1 : w5.cell? ⟨w3.heap.size + 1 + 1 + 1, 1, none⟩ = some (.int .i64 0) := V5_v.c 1 _ rfl
      have q5_v_2 : w5.cell? ⟨w3.heap.size + 1 + 1 + 1, 2, none⟩ = some (.int .i64 0) := V5_v.c 2 _ rfl
      have q5_v_3 : w5.cell? ⟨w3.heap.size + 1 + 1 + 1, 3, none⟩ = some (.int .i64 0) := V5_v.c 3 _ rfl
      have q5_v_4 : w5.cell? ⟨w3.heap.size + 1 + 1 + 1, 4, none⟩ = some (.int .i64 0) := V5_v.c 4 _ rfl
      have q5_v_5 : w5.cell? ⟨w3.heap.size + 1 + 1 + 1, 5, none⟩ = some (.int .i64 0) := V5_v.c 5 _ rfl
      have q5_v_6 : w5.cell? ⟨w3.heap.size + 1 + 1 + 1, 6, none⟩ = some (.int .i64 0) := V5_v.c 6 _ rfl
      have q5_v_7 : w5.cell? ⟨w3.heap.size + 1 + 1 + 1, 7, none⟩ = some (.int .i64 0) := V5_v.c 7 _ rfl
      have f5_v := V5_v.2.2; have L5_v := V5_v.lt; have N5_v := Nat.ne_of_gt L5_v; have M5_v := Nat.ne_of_lt L5_v
      have HV5_v := Lib.hid V5_v
      have S5 := G5.size; clear hb
      go_wp2_with fail
      go_ret
      exact ⟨rfl, by (repeat (with_reducible refine M.Below.drewN ?_ _)); go_grown⟩
    · skip
      have kb := bne_eq_false_iff_eq.2 h2
      have z1 := bne_iff_ne.2 (nz_contact _ _ _ i hP); have z1b := beq_eq_false_iff_ne.2 (nz_contact _ _ _ i hP)
      obtain ⟨f1, f2⟩ := joint_fixed hQ h1.out
      dsimp only at f1 f2
      rw [f1, f2 h2] at hQ
      clear f1 f2
      replace hP := Lib.hid hP; replace hQ := Lib.hid hQ; clear h2
      go_enter Try.func10, Try.ntmps10
      go_wp2_with fail
      (with_reducible refine (C1.out _).mono ?_); rintro en w1 ⟨rfl, hb⟩
      have G1 : Below w.heap.size w w1 := Below.trans (by (repeat (with_reducible refine M.Below.drewN ?_ _)); go_grown) (hb.mono (by go_size))
      have V1_a : M.Var w1 (w.heap.size) #[.int .i64 a.shape, .int .i64 a.sx, .int .i64 a.sy, .int .i64 a.mass, .int .i64 a.px, .int .i64 a.py, .int .i64 a.mx, .int .i64 a.my] := M.Var.mono (by (repeat (first | (with_reducible assumption) | (with_reducible apply M.var_set45) | (with_reducible refine M.var_alloc' _ _ _ ?_; first | rfl | (simp [go_sem]; done)) | (with_reducible refine M.Var.alloc ?_ _) | (with_reducible refine M.Var.drewN ?_ _) | (with_reducible refine M.Var.drew ?_) | (with_reducible refine M.Var.far ?_ _ _ ?hFar; case hFar => (first | omega | ((try simp [go_sem]) <;> omega))) | fail))) hb
      have V1_b : M.Var w1 (w.heap.size + 1) #[.int .i64 b.shape, .int .i64 b.sx, .int .i64 b.sy, .int .i64 b.mass, .int .i64 b.px, .int .i64 b.py, .int .i64 b.mx, .int .i64 b.my] := M.Var.mono (by (repeat (first | (with_reducible assumption) | (with_reducible apply M.var_set45) | (with_reducible refine M.var_alloc' _ _ _ ?_; first | rfl | (simp [go_sem]; done)) | (with_reducible refine M.Var.alloc ?_ _) | (with_reducible refine M.Var.drewN ?_ _) | (with_reducible refine M.Var.drew ?_) | (with_reducible refine M.Var.far ?_ _ _ ?hFar; case hFar => (first | omega | ((try simp [go_sem]) <;> omega))) | fail))) hb
      have V1_h : M.Var w1 (w.heap.size + 1 + 1) #[.int .i64 h.nx, .int .i64 h.ny, .int .i64 h.d] := M.Var.mono (by (repeat (first | (with_reducible assumption) | (with_reducible apply M.var_set45) | (with_reducible refine M.var_alloc' _ _ _ ?_; first | rfl | (simp [go_sem]; done)) | (with_reducible refine M.Var.alloc ?_ _) | (with_reducible refine M.Var.drewN ?_ _) | (with_reducible refine M.Var.drew ?_) | (with_reducible refine M.Var.far ?_ _ _ ?hFar; case hFar => (first | omega | ((try simp [go_sem]) <;> omega))) | fail))) hb
      have V1_l : M.Var w1 (w.heap.size + 1 + 1 + 1) #[.int .i64 l] := M.Var.mono (by (repeat (first | (with_reducible assumption) | (with_reducible apply M.var_set45) | (with_reducible refine M.var_alloc' _ _ _ ?_; first | rfl | (simp [go_sem]; done)) | (with_reducible refine M.Var.alloc ?_ _) | (with_reducible refine M.Var.drewN ?_ _) | (with_reducible refine M.Var.drew ?_) | (with_reducible refine M.Var.far ?_ _ _ ?hFar; case hFar => (first | omega | ((try simp [go_sem]) <;> omega))) | fail))) hb
      have q1_a_0 : w1.cell? ⟨w.heap.size, 0, none⟩ = some (.int .i64 a.shape) := V1_a.c 0 _ rfl
      have q1_a_1 : w1.cell? ⟨w.heap.size, 1, none⟩ = some (.int .i64 a.sx) := V1_a.c 1 _ rfl
      have q1_a_2 : w1.cell? ⟨w.heap.size, 2, none⟩ = some (.int .i64 a.sy) := V1_a.c 2 _ rfl
      have q1_a_3 : w1.cell? ⟨w.heap.size, 3, none⟩ = some (.int .i64 a.mass) := V1_a.c 3 _ rfl
      have q1_a_4 : w1.cell? ⟨w.heap.size, 4, none⟩ = some (.int .i64 a.px) := V1_a.c 4 _ rfl
      have q1_a_5 : w1.cell? ⟨w.heap.size, 5, none⟩ = some (.int .i64 a.py) := V1_a.c 5 _ rfl
      have q1_a_6 : w1.cell? ⟨w.heap.size, 6, none⟩ = some (.int .i64 a.mx) := V1_a.c 6 _ rfl
      have q1_a_7 : w1.cell? ⟨w.heap.size, 7, none⟩ = some (.int .i64 a.my) := V1_a.c 7 _ rfl
      have f1_a := V1_a.2.2; have L1_a := V1_a.lt; have N1_a := Nat.ne_of_gt L1_a; have M1_a := Nat.ne_of_lt L1_a
      have HV1_a := Lib.hid V1_a
      have q1_b_0 : w1.cell? ⟨w.heap.size + 1, 0, none⟩ = some (.int .i64 b.shape) := V1_b.c 0 _ rfl
      have q1_b_1 : w1.cell? ⟨w.heap.size + 1, 1, none⟩ = some (.int .i64 b.sx) := V1_b.c 1 _ rfl
      have q1_b_2 : w1.cell? ⟨w.heap.size + 1, 2, none⟩ = some (.int .i64 b.sy) := V1_b.c 2 _ rfl
      have q1_b_3 : w1.cell? ⟨w.heap.size + 1, 3, none⟩ = some (.int .i64 b.mass) := V1_b.c 3 _ rfl
      have q1_b_4 : w1.cell? ⟨w.heap.size + 1, 4, none⟩ = some (.int .i64 b.px) := V1_b.c 4 _ rfl
      have q1_b_5 : w1.cell? ⟨w.heap.size + 1, 5, none⟩ = some (.int .i64 b.py) := V1_b.c 5 _ rfl
      have q1_b_6 : w1.cell? ⟨w.heap.size + 1, 6, none⟩ = some (.int .i64 b.mx) := V1_b.c 6 _ rfl
      have q1_b_7 : w1.cell? ⟨w.heap.size + 1, 7, none⟩ = some (.int .i64 b.my) := V1_b.c 7 _ rfl
      have f1_b := V1_b.2.2; have L1_b := V1_b.lt; have N1_b := Nat.ne_of_gt L1_b; have M1_b := Nat.ne_of_lt L1_b
      have HV1_b := Lib.hid V1_b
      have q1_h_0 : w1.cell? ⟨w.heap.size + 1 + 1, 0, none⟩ = some (.int .i64 h.nx) := V1_h.c 0 _ rfl
      have q1_h_1 : w1.cell? ⟨w.heap.size + 1 + 1, 1, none⟩ = some (.int .i64 h.ny) := V1_h.c 1 _ rfl
      have q1_h_2 : w1.cell? ⟨w.heap.size + 1 + 1, 2, none⟩ = some (.int .i64 h.d) := V1_h.c 2 _ rfl
      have f1_h := V1_h.2.2; have L1_h := V1_h.lt; have N1_h := Nat.ne_of_gt L1_h; have M1_h := Nat.ne_of_lt L1_h
      have HV1_h := Lib.hid V1_h
      have q1_l_0 : w1.cell? ⟨w.heap.size + 1 + 1 + 1, 0, none⟩ = some (.int .i64 l) := V1_l.c 0 _ rfl
      have f1_l := V1_l.2.2; have L1_l := V1_l.lt; have N1_l := Nat.ne_of_gt L1_l; have M1_l := Nat.ne_of_lt L1_l
      have HV1_l := Lib.hid V1_l
      have S1 := G1.size; clear hb
      go_wp2_with fail
      (with_reducible refine (C2.out _).mono ?_); rintro en w2 ⟨rfl, hb⟩
      have G2 : Below w.heap.size w w2 := Below.trans (by (repeat (with_reducible refine M.Below.drewN ?_ _)); go_grown) (hb.mono (by go_size))
      have V2_a : M.Var w2 (w.heap.size) #[.int .i64 a.shape, .int .i64 a.sx, .int .i64 a.sy, .int .i64 a.mass, .int .i64 a.px, .int .i64 a.py, .int .i64 a.mx, .int .i64 a.my] := M.Var.mono (by (repeat (first | (with_reducible assumption) | (with_reducible apply M.var_set45) | (with_reducible refine M.var_alloc' _ _ _ ?_; first | rfl | (simp [go_sem]; done)) | (with_reducible refine M.Var.alloc ?_ _) | (with_reducible refine M.Var.drewN ?_ _) | (with_reducible refine M.Var.drew ?_) | (with_reducible refine M.Var.far ?_ _ _ ?hFar; case hFar => (first | omega | ((try simp [go_sem]) <;> omega))) | fail))) hb
      have V2_b : M.Var w2 (w.heap.size + 1) #[.int .i64 b.shape, .int .i64 b.sx, .int .i64 b.sy, .int .i64 b.mass, .int .i64 b.px, .int .i64 b.py, .int .i64 b.mx, .int .i64 b.my] := M.Var.mono (by (repeat (first | (with_reducible assumption) | (with_reducible apply M.var_set45) | (with_reducible refine M.var_alloc' _ _ _ ?_; first | rfl | (simp [go_sem]; done)) | (with_reducible refine M.Var.alloc ?_ _) | (with_reducible refine M.Var.drewN ?_ _) | (with_reducible refine M.Var.drew ?_) | (with_reducible refine M.Var.far ?_ _ _ ?hFar; case hFar => (first | omega | ((try simp [go_sem]) <;> omega))) | fail))) hb
      have V2_h : M.Var w2 (w.heap.size + 1 + 1) #[.int .i64 h.nx, .int .i64 h.ny, .int .i64 h.d] := M.Var.mono (by (repeat (first | (with_reducible assumption) | (with_reducible apply M.var_set45) | (with_reducible refine M.var_alloc' _ _ _ ?_; first | rfl | (simp [go_sem]; done)) | (with_reducible refine M.Var.alloc ?_ _) | (with_reducible refine M.Var.drewN ?_ _) | (with_reducible refine M.Var.drew ?_) | (with_reducible refine M.Var.far ?_ _ _ ?hFar; case hFar => (first | omega | ((try simp [go_sem]) <;> omega))) | fail))) hb
      have V2_l : M.Var w2 (w.heap.size + 1 + 1 + 1) #[.int .i64 l] := M.Var.mono (by (repeat (first | (with_reducible assumption) | (with_reducible apply M.var_set45) | (with_reducible refine M.var_alloc' _ _ _ ?_; first | rfl | (simp [go_sem]; done)) | (with_reducible refine M.Var.alloc ?_ _) | (with_reducible refine M.Var.drewN ?_ _) | (with_reducible refine M.Var.drew ?_) | (with_reducible refine M.Var.far ?_ _ _ ?hFar; case hFar => (first | omega | ((try simp [go_sem]) <;> omega))) | fail))) hb
      have q2_a_0 : w2.cell? ⟨w.heap.size, 0, none⟩ = some (.int .i64 a.shape) := V2_a.c 0 _ rfl
      have q2_a_1 : w2.cell? ⟨w.heap.size, 1, none⟩ = some (.int .i64 a.sx) := V2_a.c 1 _ rfl
      have q2_a_2 : w2.cell? ⟨w.heap.size, 2, none⟩ = some (.int .i64 a.sy) := V2_a.c 2 _ rfl
      have q2_a_3 : w2.cell? ⟨w.heap.size, 3, none⟩ = some (.int .i64 a.mass) := V2_a.c 3 _ rfl
      have q2_a_4 : w2.cell? ⟨w.heap.size, 4, none⟩ = some (.int .i64 a.px) := V2_a.c 4 _ rfl
      have q2_a_5 : w2.cell? ⟨w.heap.size, 5, none⟩ = some (.int .i64 a.py) := V2_a.c 5 _ rfl
      have q2_a_6 : w2.cell? ⟨w.heap.size, 6, none⟩ = some (.int .i64 a.mx) := V2_a.c 6 _ rfl
      have q2_a_7 : w2.cell? ⟨w.heap.size, 7, none⟩ = some (.int .i64 a.my) := V2_a.c 7 _ rfl
      have f2_a := V2_a.2.2; have L2_a := V2_a.lt; have N2_a := Nat.ne_of_gt L2_a; have M2_a := Nat.ne_of_lt L2_a
      have HV2_a := Lib.hid V2_a
      have q2_b_0 : w2.cell? ⟨w.heap.size + 1, 0, none⟩ = some (.int .i64 b.shape) := V2_b.c 0 _ rfl
      have q2_b_1 : w2.cell? ⟨w.heap.size + 1, 1, none⟩ = some (.int .i64 b.sx) := V2_b.c 1 _ rfl
      have q2_b_2 : w2.cell? ⟨w.heap.size + 1, 2, none⟩ = some (.int .i64 b.sy) := V2_b.c 2 _ rfl
      have q2_b_3 : w2.cell? ⟨w.heap.size + 1, 3, none⟩ = some (.int .i64 b.mass) := V2_b.c 3 _ rfl
      have q2_b_4 : w2.cell? ⟨w.heap.size + 1, 4, none⟩ = some (.int .i64 b.px) := V2_b.c 4 _ rfl
      have q2_b_5 : w2.cell? ⟨w.heap.size + 1, 5, none⟩ = some (.int .i64 b.py) := V2_b.c 5 _ rfl
      have q2_b_6 : w2.cell? ⟨w.heap.size + 1, 6, none⟩ = some (.int .i64 b.mx) := V2_b.c 6 _ rfl
      have q2_b_7 : w2.cell? ⟨w.heap.size + 1, 7, none⟩ = some (.int .i64 b.my) := V2_b.c 7 _ rfl
      have f2_b := V2_b.2.2; have L2_b := V2_b.lt; have N2_b := Nat.ne_of_gt L2_b; have M2_b := Nat.ne_of_lt L2_b
      have HV2_b := Lib.hid V2_b
      have q2_h_0 : w2.cell? ⟨w.heap.size + 1 + 1, 0, none⟩ = some (.int .i64 h.nx) := V2_h.c 0 _ rfl
      have q2_h_1 : w2.cell? ⟨w.heap.size + 1 + 1, 1, none⟩ = some (.int .i64 h.ny) := V2_h.c 1 _ rfl
      have q2_h_2 : w2.cell? ⟨w.heap.size + 1 + 1, 2, none⟩ = some (.int .i64 h.d) := V2_h.c 2 _ rfl
      have f2_h := V2_h.2.2; have L2_h := V2_h.lt; have N2_h := Nat.ne_of_gt L2_h; have M2_h := Nat.ne_of_lt L2_h
      have HV2_h := Lib.hid V2_h
      have q2_l_0 : w2.cell? ⟨w.heap.size + 1 + 1 + 1, 0, none⟩ = some (.int .i64 l) := V2_l.c 0 _ rfl
      have f2_l := V2_l.2.2; have L2_l := V2_l.lt; have N2_l := Nat.ne_of_gt L2_l; have M2_l := Nat.ne_of_lt L2_l
      have HV2_l := Lib.hid V2_l
      have S2 := G2.size; clear hb
      go_wp2_with fail
      (with_reducible refine (c0.out _).mono ?_); rintro en w3 ⟨rfl, hb⟩
      have G3 : Below w.heap.size w w3 := Below.trans (by (repeat (with_reducible refine M.Below.drewN ?_ _)); go_grown) (hb.mono (by go_size))
      have V3_a : M.Var w3 (w.heap.size) #[.int .i64 a.shape, .int .i64 a.sx, .int .i64 a.sy, .int .i64 a.mass, .int .i64 a.px, .int .i64 a.py, .int .i64 a.mx, .int .i64 a.my] := M.Var.mono (by (repeat (first | (with_reducible assumption) | (with_reducible apply M.var_set45) | (with_reducible refine M.var_alloc' _ _ _ ?_; first | rfl | (simp [go_sem]; done)) | (with_reducible refine M.Var.alloc ?_ _) | (with_reducible refine M.Var.drewN ?_ _) | (with_reducible refine M.Var.drew ?_) | (with_reducible refine M.Var.far ?_ _ _ ?hFar; case hFar => (first | omega | ((try simp [go_sem]) <;> omega))) | fail))) hb
      have V3_b : M.Var w3 (w.heap.size + 1) #[.int .i64 b.shape, .int .i64 b.sx, .int .i64 b.sy, .int .i64 b.mass, .int .i64 b.px, .int .i64 b.py, .int .i64 b.mx, .int .i64 b.my] := M.Var.mono (by (repeat (first | (with_reducible assumption) | (with_reducible apply M.var_set45) | (with_reducible refine M.var_alloc' _ _ _ ?_; first | rfl | (simp [go_sem]; done)) | (with_reducible refine M.Var.alloc ?_ _) | (with_reducible refine M.Var.drewN ?_ _) | (with_reducible refine M.Var.drew ?_) | (with_reducible refine M.Var.far ?_ _ _ ?hFar; case hFar => (first | omega | ((try simp [go_sem]) <;> omega))) | fail))) hb
      have V3_h : M.Var w3 (w.heap.size + 1 + 1) #[.int .i64 h.nx, .int .i64 h.ny, .int .i64 h.d] := M.Var.mono (by (repeat (first | (with_reducible assumption) | (with_reducible apply M.var_set45) | (with_reducible refine M.var_alloc' _ _ _ ?_; first | rfl | (simp [go_sem]; done)) | (with_reducible refine M.Var.alloc ?_ _) | (with_reducible refine M.Var.drewN ?_ _) | (with_reducible refine M.Var.drew ?_) | (with_reducible refine M.Var.far ?_ _ _ ?hFar; case hFar => (first | omega | ((try simp [go_sem]) <;> omega))) | fail))) hb
      have V3_l : M.Var w3 (w.heap.size + 1 + 1 + 1) #[.int .i64 l] := M.Var.mono (by (repeat (first | (with_reducible assumption) | (with_reducible apply M.var_set45) | (with_reducible refine M.var_alloc' _ _ _ ?_; first | rfl | (simp [go_sem]; done)) | (with_reducible refine M.Var.alloc ?_ _) | (with_reducible refine M.Var.drewN ?_ _) | (with_reducible refine M.Var.drew ?_) | (with_reducible refine M.Var.far ?_ _ _ ?hFar; case hFar => (first | omega | ((try simp [go_sem]) <;> omega))) | fail))) hb
      have q3_a_0 : w3.cell? ⟨w.heap.size, 0, none⟩ = some (.int .i64 a.shape) := V3_a.c 0 _ rfl
      have q3_a_1 : w3.cell? ⟨w.heap.size, 1, none⟩ = some (.int .i64 a.sx) := V3_a.c 1 _ rfl
      have q3_a_2 : w3.cell? ⟨w.heap.size, 2, none⟩ = some (.int .i64 a.sy) := V3_a.c 2 _ rfl
      have q3_a_3 : w3.cell? ⟨w.heap.size, 3, none⟩ = some (.int .i64 a.mass) := V3_a.c 3 _ rfl
      have q3_a_4 : w3.cell? ⟨w.heap.size, 4, none⟩ = some (.int .i64 a.px) := V3_a.c 4 _ rfl
      have q3_a_5 : w3.cell? ⟨w.heap.size, 5, none⟩ = some (.int .i64 a.py) := V3_a.c 5 _ rfl
      have q3_a_6 : w3.cell? ⟨w.heap.size, 6, none⟩ = some (.int .i64 a.mx) := V3_a.c 6 _ rfl
      have q3_a_7 : w3.cell? ⟨w.heap.size, 7, none⟩ = some (.int .i64 a.my) := V3_a.c 7 _ rfl
      have f3_a := V3_a.2.2; have L3_a := V3_a.lt; have N3_a := Nat.ne_of_gt L3_a; have M3_a := Nat.ne_of_lt L3_a
      have HV3_a := Lib.hid V3_a
      have q3_b_0 : w3.cell? ⟨w.heap.size + 1, 0, none⟩ = some (.int .i64 b.shape) := V3_b.c 0 _ rfl
      have q3_b_1 : w3.cell? ⟨w.heap.size + 1, 1, none⟩ = some (.int .i64 b.sx) := V3_b.c 1 _ rfl
      have q3_b_2 : w3.cell? ⟨w.heap.size + 1, 2, none⟩ = some (.int .i64 b.sy) := V3_b.c 2 _ rfl
      have q3_b_3 : w3.cell? ⟨w.heap.size + 1, 3, none⟩ = some (.int .i64 b.mass) := V3_b.c 3 _ rfl
      have q3_b_4 : w3.cell? ⟨w.heap.size + 1, 4, none⟩ = some (.int .i64 b.px) := V3_b.c 4 _ rfl
      have q3_b_5 : w3.cell? ⟨w.heap.size + 1, 5, none⟩ = some (.int .i64 b.py) := V3_b.c 5 _ rfl
      have q3_b_6 : w3.cell? ⟨w.heap.size + 1, 6, none⟩ = some (.int .i64 b.mx) := V3_b.c 6 _ rfl
      have q3_b_7 : w3.cell? ⟨w.heap.size + 1, 7, none⟩ = some (.int .i64 b.my) := V3_b.c 7 _ rfl
      have f3_b := V3_b.2.2; have L3_b := V3_b.lt; have N3_b := Nat.ne_of_gt L3_b; have M3_b := Nat.ne_of_lt L3_b
      have HV3_b := Lib.hid V3_b
      have q3_h_0 : w3.cell? ⟨w.heap.size + 1 + 1, 0, none⟩ = some (.int .i64 h.nx) := V3_h.c 0 _ rfl
      have q3_h_1 : w3.cell? ⟨w.heap.size + 1 + 1, 1, none⟩ = some (.int .i64 h.ny) := V3_h.c 1 _ rfl
      have q3_h_2 : w3.cell? ⟨w.heap.size + 1 + 1, 2, none⟩ = some (.int .i64 h.d) := V3_h.c 2 _ rfl
      have f3_h := V3_h.2.2; have L3_h := V3_h.lt; have N3_h := Nat.ne_of_gt L3_h; have M3_h := Nat.ne_of_lt L3_h
      have HV3_h := Lib.hid V3_h
      have q3_l_0 : w3.cell? ⟨w.heap.size + 1 + 1 + 1, 0, none⟩ = some (.int .i64 l) := V3_l.c 0 _ rfl
      have f3_l := V3_l.2.2; have L3_l := V3_l.lt; have N3_l := Nat.ne_of_gt L3_l; have M3_l := Nat.ne_of_lt L3_l
      have HV3_l := Lib.hid V3_l
      have S3 := G3.size; clear hb
      go_wp2_with fail
      refine (try_c 37 #[.pointer (some ⟨w.heap.size, 0, none⟩), .pointer (some ⟨w.heap.size + 1, 0, none⟩), .pointer (some ⟨w.heap.size + 1 + 1, 0, none⟩), .pointer (some ⟨w3.heap.size, 0, none⟩), .pointer (some ⟨w3.heap.size + 1, 0, none⟩)] _ (i) ([]) (fun _ => rfl) ?_ ?_).mono ?_
      · intro u hu; (try simp only [List.mem_append] at hu); (repeat' (obtain hu | hu := (hu : _ ∨ _))); all_goals (first | rw [M.usBx_block hu] | rw [M.usV_block hu] | rw [M.usI_block hu] | rw [M.usHt_block hu] | rw [M.usBd_block hu] | rw [M.usB_block hu] | rw [M.cell_block1 hu] | (exfalso; simp at hu; done)); all_goals ((try simp [go_sem]) <;> omega)
      · intro w1' hb; exact (cloCoF _ _ _ _ _ a ha b hB h hh _ _ _ _ _ _ _ _ _ _ _ _ _ _ _ _ (.error i) hP.out w1' (M.Var.mono (b := w.heap.size) (cs := #[.int .i64 a.shape, .int .i64 a.sx, .int .i64 a.sy, .int .i64 a.mass, .int .i64 a.px, .int .i64 a.py, .int .i64 a.mx, .int .i64 a.my]) (by (repeat (first | (with_reducible assumption) | (with_reducible apply M.var_set45) | (with_reducible refine M.var_alloc' _ _ _ ?_; first | rfl | (simp [go_sem]; done)) | (with_reducible refine M.Var.alloc ?_ _) | (with_reducible refine M.Var.drewN ?_ _) | (with_reducible refine M.Var.drew ?_) | (with_reducible refine M.Var.far ?_ _ _ ?hFar; case hFar => (first | omega | ((try simp [go_sem]) <;> omega))) | fail))) hb) (M.Var.mono (b := w.heap.size + 1) (cs := #[.int .i64 b.shape, .int .i64 b.sx, .int .i64 b.sy, .int .i64 b.mass, .int .i64 b.px, .int .i64 b.py, .int .i64 b.mx, .int .i64 b.my]) (by (repeat (first | (with_reducible assumption) | (with_reducible apply M.var_set45) | (with_reducible refine M.var_alloc' _ _ _ ?_; first | rfl | (simp [go_sem]; done)) | (with_reducible refine M.Var.alloc ?_ _) | (with_reducible refine M.Var.drewN ?_ _) | (with_reducible refine M.Var.drew ?_) | (with_reducible refine M.Var.far ?_ _ _ ?hFar; case hFar => (first | omega | ((try simp [go_sem]) <;> omega))) | fail))) hb) (M.Var.mono (b := w.heap.size + 1 + 1) (cs := #[.int .i64 h.nx, .int .i64 h.ny, .int .i64 h.d]) (by (repeat (first | (with_reducible assumption) | (with_reducible apply M.var_set45) | (with_reducible refine M.var_alloc' _ _ _ ?_; first | rfl | (simp [go_sem]; done)) | (with_reducible refine M.Var.alloc ?_ _) | (with_reducible refine M.Var.drewN ?_ _) | (with_reducible refine M.Var.drew ?_) | (with_reducible refine M.Var.far ?_ _ _ ?hFar; case hFar => (first | omega | ((try simp [go_sem]) <;> omega))) | fail))) hb) (M.Var.mono (b := w3.heap.size) (cs := #[.int .i64 0, .int .i64 0, .int .i64 0, .int .i64 0, .int .i64 0, .int .i64 0, .int .i64 0, .int .i64 0]) (by (repeat (first | (with_reducible assumption) | (with_reducible apply M.var_set45) | (with_reducible refine M.var_alloc' _ _ _ ?_; first | rfl | (simp [go_sem]; done)) | (with_reducible refine M.Var.alloc ?_ _) | (with_reducible refine M.Var.drewN ?_ _) | (with_reducible refine M.Var.drew ?_) | (with_reducible refine M.Var.far ?_ _ _ ?hFar; case hFar => (first | omega | ((try simp [go_sem]) <;> omega))) | fail))) hb) (M.Var.mono (b := w3.heap.size + 1) (cs := #[.int .i64 0, .int .i64 0, .int .i64 0, .int .i64 0, .int .i64 0, .int .i64 0, .int .i64 0, .int .i64 0]) (by (repeat (first | (with_reducible assumption) | (with_reducible apply M.var_set45) | (with_reducible refine M.var_alloc' _ _ _ ?_; first | rfl | (simp [go_sem]; done)) | (with_reducible refine M.Var.alloc ?_ _) | (with_reducible refine M.Var.drewN ?_ _) | (with_reducible refine M.Var.drew ?_) | (with_reducible refine M.Var.far ?_ _ _ ?hFar; case hFar => (first | omega | ((try simp [go_sem]) <;> omega))) | fail))) hb) (by omega)).mono fun e w' h => h
      rintro en w4 ⟨rfl, hb⟩
      have G4 : Below w.heap.size w w4 := Below.trans (M.below_sets_own ([]) (by (repeat (with_reducible refine M.Below.drewN ?_ _)); go_grown) (by intro u hu; (try simp only [List.mem_append] at hu); (repeat' (obtain hu | hu := (hu : _ ∨ _))); all_goals (first | rw [M.usBx_block hu] | rw [M.usV_block hu] | rw [M.usI_block hu] | rw [M.usHt_block hu] | rw [M.usBd_block hu] | rw [M.usB_block hu] | rw [M.cell_block1 hu] | (exfalso; simp at hu; done)); all_goals ((try simp [go_sem]) <;> omega))) (hb.mono (by go_size))
      have VV4 : M.Var w4 (w.heap.size) #[.int .i64 a.shape, .int .i64 a.sx, .int .i64 a.sy, .int .i64 a.mass, .int .i64 a.px, .int .i64 a.py, .int .i64 a.mx, .int .i64 a.my] ∧ M.Var w4 (w.heap.size + 1) #[.int .i64 b.shape, .int .i64 b.sx, .int .i64 b.sy, .int .i64 b.mass, .int .i64 b.px, .int .i64 b.py, .int .i64 b.mx, .int .i64 b.my] ∧ M.Var w4 (w.heap.size + 1 + 1) #[.int .i64 h.nx, .int .i64 h.ny, .int .i64 h.d] ∧ M.Var w4 (w.heap.size + 1 + 1 + 1) #[.int .i64 l] ∧ M.Var w4 (w3.heap.size) #[.int .i64 0, .int .i64 0, .int .i64 0, .int .i64 0, .int .i64 0, .int .i64 0, .int .i64 0, .int .i64 0] ∧ M.Var w4 (w3.heap.size + 1) #[.int .i64 0, .int .i64 0, .int .i64 0, .int .i64 0, .int .i64 0, .int .i64 0, .int .i64 0, .int .i64 0] ∧ M.Var w4 (w3.heap.size + 1 + 1) #[.int .i64 0, .int .i64 0, .int .i64 0, .int .i64 0, .int .i64 0, .int .i64 0, .int .i64 0, .int .i64 0] ∧ M.Var w4 (w3.heap.size + 1 + 1 + 1) #[.int .i64 0, .int .i64 0, .int .i64 0, .int .i64 0, .int .i64 0, .int .i64 0, .int .i64 0, .int .i64 0] := by refine ⟨?_, ?_, ?_, ?_, ?_, ?_, ?_, ?_⟩ <;> exact M.Var.mono' (u := M.sets _ ([])) (by (try simp only [M.sets_append]); exact (M.var_sets_far ([]) (by (repeat (first | (with_reducible assumption) | (with_reducible apply M.var_set45) | (with_reducible refine M.var_alloc' _ _ _ ?_; first | rfl | (simp [go_sem]; done)) | (with_reducible refine M.Var.alloc ?_ _) | (with_reducible refine M.Var.drewN ?_ _) | (with_reducible refine M.Var.drew ?_) | (with_reducible refine M.Var.far ?_ _ _ ?hFar; case hFar => (first | omega | ((try simp [go_sem]) <;> omega))) | fail))) (by intro u hu; all_goals (first | rw [M.usBx_block hu] | rw [M.usV_block hu] | rw [M.usI_block hu] | rw [M.usHt_block hu] | rw [M.usBd_block hu] | rw [M.usB_block hu] | rw [M.cell_block1 hu] | (exfalso; simp at hu; done)); all_goals ((try simp [go_sem]) <;> omega)))) (M.sets_size _ _) hb
      obtain ⟨V4_a, V4_b, V4_h, V4_l, V4_x, V4_y, V4_u, V4_v⟩ := VV4
      have q4_a_0 : w4.cell? ⟨w.heap.size, 0, none⟩ = some (.int .i64 a.shape) := V4_a.c 0 _ rfl
      have q4_a_1 : w4.cell? ⟨w.heap.size, 1, none⟩ = some (.int .i64 a.sx) := V4_a.c 1 _ rfl
      have q4_a_2 : w4.cell? ⟨w.heap.size, 2, none⟩ = some (.int .i64 a.sy) := V4_a.c 2 _ rfl
      have q4_a_3 : w4.cell? ⟨w.heap.size, 3, none⟩ = some (.int .i64 a.mass) := V4_a.c 3 _ rfl
      have q4_a_4 : w4.cell? ⟨w.heap.size, 4, none⟩ = some (.int .i64 a.px) := V4_a.c 4 _ rfl
      have q4_a_5 : w4.cell? ⟨w.heap.size, 5, none⟩ = some (.int .i64 a.py) := V4_a.c 5 _ rfl
      have q4_a_6 : w4.cell? ⟨w.heap.size, 6, none⟩ = some (.int .i64 a.mx) := V4_a.c 6 _ rfl
      have q4_a_7 : w4.cell? ⟨w.heap.size, 7, none⟩ = some (.int .i64 a.my) := V4_a.c 7 _ rfl
      have f4_a := V4_a.2.2; have L4_a := V4_a.lt; have N4_a := Nat.ne_of_gt L4_a; have M4_a := Nat.ne_of_lt L4_a
      have HV4_a := Lib.hid V4_a
      have q4_b_0 : w4.cell? ⟨w.heap.size + 1, 0, none⟩ = some (.int .i64 b.shape) := V4_b.c 0 _ rfl
      have q4_b_1 : w4.cell? ⟨w.heap.size + 1, 1, none⟩ = some (.int .i64 b.sx) := V4_b.c 1 _ rfl
      have q4_b_2 : w4.cell? ⟨w.heap.size + 1, 2, none⟩ = some (.int .i64 b.sy) := V4_b.c 2 _ rfl
      have q4_b_3 : w4.cell? ⟨w.heap.size + 1, 3, none⟩ = some (.int .i64 b.mass) := V4_b.c 3 _ rfl
      have q4_b_4 : w4.cell? ⟨w.heap.size + 1, 4, none⟩ = some (.int .i64 b.px) := V4_b.c 4 _ rfl
      have q4_b_5 : w4.cell? ⟨w.heap.size + 1, 5, none⟩ = some (.int .i64 b.py) := V4_b.c 5 _ rfl
      have q4_b_6 : w4.cell? ⟨w.heap.size + 1, 6, none⟩ = some (.int .i64 b.mx) := V4_b.c 6 _ rfl
      have q4_b_7 : w4.cell? ⟨w.heap.size + 1, 7, none⟩ = some (.int .i64 b.my) := V4_b.c 7 _ rfl
      have f4_b := V4_b.2.2; have L4_b := V4_b.lt; have N4_b := Nat.ne_of_gt L4_b; have M4_b := Nat.ne_of_lt L4_b
      have HV4_b := Lib.hid V4_b
      have q4_h_0 : w4.cell? ⟨w.heap.size + 1 + 1, 0, none⟩ = some (.int .i64 h.nx) := V4_h.c 0 _ rfl
      have q4_h_1 : w4.cell? ⟨w.heap.size + 1 + 1, 1, none⟩ = some (.int .i64 h.ny) := V4_h.c 1 _ rfl
      have q4_h_2 : w4.cell? ⟨w.heap.size + 1 + 1, 2, none⟩ = some (.int .i64 h.d) := V4_h.c 2 _ rfl
      have f4_h := V4_h.2.2; have L4_h := V4_h.lt; have N4_h := Nat.ne_of_gt L4_h; have M4_h := Nat.ne_of_lt L4_h
      have HV4_h := Lib.hid V4_h
      have q4_l_0 : w4.cell? ⟨w.heap.size + 1 + 1 + 1, 0, none⟩ = some (.int .i64 l) := V4_l.c 0 _ rfl
      have f4_l := V4_l.2.2; have L4_l := V4_l.lt; have N4_l := Nat.ne_of_gt L4_l; have M4_l := Nat.ne_of_lt L4_l
      have HV4_l := Lib.hid V4_l
      have q4_x_0 : w4.cell? ⟨w3.heap.size, 0, none⟩ = some (.int .i64 0) := V4_x.c 0 _ rfl
      have q4_x_1 : w4.cell? ⟨w3.heap.size, 1, none⟩ = some (.int .i64 0) := V4_x.c 1 _ rfl
      have q4_x_2 : w4.cell? ⟨w3.heap.size, 2, none⟩ = some (.int .i64 0) := V4_x.c 2 _ rfl
      have q4_x_3 : w4.cell? ⟨w3.heap.size, 3, none⟩ = some (.int .i64 0) := V4_x.c 3 _ rfl
      have q4_x_4 : w4.cell? ⟨w3.heap.size, 4, none⟩ = some (.int .i64 0) := V4_x.c 4 _ rfl
      have q4_x_5 : w4.cell? ⟨w3.heap.size, 5, none⟩ = some (.int .i64 0) := V4_x.c 5 _ rfl
      have q4_x_6 : w4.cell? ⟨w3.heap.size, 6, none⟩ = some (.int .i64 0) := V4_x.c 6 _ rfl
      have q4_x_7 : w4.cell? ⟨w3.heap.size, 7, none⟩ = some (.int .i64 0) := V4_x.c 7 _ rfl
      have f4_x := V4_x.2.2; have L4_x := V4_x.lt; have N4_x := Nat.ne_of_gt L4_x; have M4_x := Nat.ne_of_lt L4_x
      have HV4_x := Lib.hid V4_x
      have q4_y_0 : w4.cell? ⟨w3.heap.size + 1, 0, none⟩ = some (.int .i64 0) := V4_y.c 0 _ rfl
      have q4_y_1 : w4.cell? ⟨w3.heap.size + 1, 1, none⟩ = some (.int .i64 0) := V4_y.c 1 _ rfl
      have q4_y_2 : w4.cell? ⟨w3.heap.size + 1, 2, none⟩ = some (.int .i64 0) := V4_y.c 2 _ rfl
      have q4_y_3 : w4.cell? ⟨w3.heap.size + 1, 3, none⟩ = some (.int .i64 0) := V4_y.c 3 _ rfl
      have q4_y_4 : w4.cell? ⟨w3.heap.size + 1, 4, none⟩ = some (.int .i64 0) := V4_y.c 4 _ rfl
      have q4_y_5 : w4.cell? ⟨w3.heap.size + 1, 5, none⟩ = some (.int .i64 0) := V4_y.c 5 _ rfl
      have q4_y_6 : w4.cell? ⟨w3.heap.size + 1, 6, none⟩ = some (.int .i64 0) := V4_y.c 6 _ rfl
      have q4_y_7 : w4.cell? ⟨w3.heap.size + 1, 7, none⟩ = some (.int .i64 0) := V4_y.c 7 _ rfl
      have f4_y := V4_y.2.2; have L4_y := V4_y.lt; have N4_y := Nat.ne_of_gt L4_y; have M4_y := Nat.ne_of_lt L4_y
      have HV4_y := Lib.hid V4_y
      have q4_u_0 : w4.cell? ⟨w3.heap.size + 1 + 1, 0, none⟩ = some (.int .i64 0) := V4_u.c 0 _ rfl
      have q4_u_1 : w4.cell? ⟨w3.heap.size + 1 + 1, 1, none⟩ = some (.int .i64 0) := V4_u.c 1 _ rfl
      have q4_u_2 : w4.cell? ⟨w3.heap.size + 1 + 1, 2, none⟩ = some (.int .i64 0) := V4_u.c 2 _ rfl
      have q4_u_3 : w4.cell? ⟨w3.heap.size + 1 + 1, 3, none⟩ = some (.int .i64 0) := V4_u.c 3 _ rfl
      have q4_u_4 : w4.cell? ⟨w3.heap.size + 1 + 1, 4, none⟩ = some (.int .i64 0) := V4_u.c 4 _ rfl
      have q4_u_5 : w4.cell? ⟨w3.heap.size + 1 + 1, 5, none⟩ = some (.int .i64 0) := V4_u.c 5 _ rfl
      have q4_u_6 : w4.cell? ⟨w3.heap.size + 1 + 1, 6, none⟩ = some (.int .i64 0) := V4_u.c 6 _ rfl
      have q4_u_7 : w4.cell? ⟨w3.heap.size + 1 + 1, 7, none⟩ = some (.int .i64 0) := V4_u.c 7 _ rfl
      have f4_u := V4_u.2.2; have L4_u := V4_u.lt; have N4_u := Nat.ne_of_gt L4_u; have M4_u := Nat.ne_of_lt L4_u
      have HV4_u := Lib.hid V4_u
      have q4_v_0 : w4.cell? ⟨w3.heap.size + 1 + 1 + 1, 0, none⟩ = some (.int .i64 0) := V4_v.c 0 _ rfl
      have q4_v_1 : w4.cell? ⟨w3.heap.size + 1 + 1 + 1, 1, none⟩ = some (.int .i64 0) := V4_v.c 1 _ rfl
      have q4_v_2 : w4.cell? ⟨w3.heap.size + 1 + 1 + 1, 2, none⟩ = some (.int .i64 0) := V4_v.c 2 _ rfl
      have q4_v_3 : w4.cell? ⟨w3.heap.size + 1 + 1 + 1, 3, none⟩ = some (.int .i64 0) := V4_v.c 3 _ rfl
      have q4_v_4 : w4.cell? ⟨w3.heap.size + 1 + 1 + 1, 4, none⟩ = some (.int .i64 0) := V4_v.c 4 _ rfl
      have q4_v_5 : w4.cell? ⟨w3.heap.size + 1 + 1 + 1, 5, none⟩ = some (.int .i64 0) := V4_v.c 5 _ rfl
      have q4_v_6 : w4.cell? ⟨w3.heap.size + 1 + 1 + 1, 6, none⟩ = some (.int .i64 0) := V4_v.c 6 _ rfl
      have q4_v_7 : w4.cell? ⟨w3.heap.size + 1 + 1 + 1, 7, none⟩ = some (.int .i64 0) := V4_v.c 7 _ rfl
      have f4_v := V4_v.2.2; have L4_v := V4_v.lt; have N4_v := Nat.ne_of_gt L4_v; have M4_v := Nat.ne_of_lt L4_v
      have HV4_v := Lib.hid V4_v
      have S4 := G4.size; clear hb
      go_wp2_with fail
      refine (try_c 38 #[.pointer (some ⟨w.heap.size, 0, none⟩), .pointer (some ⟨w.heap.size + 1, 0, none⟩), .pointer (some ⟨w.heap.size + 1 + 1 + 1, 0, none⟩), .pointer (some ⟨w3.heap.size + 1 + 1, 0, none⟩), .pointer (some ⟨w3.heap.size + 1 + 1 + 1, 0, none⟩)] _ (0) (usBd (w3.heap.size + 1 + 1) (.ok a) ++ usBd (w3.heap.size + 1 + 1 + 1) (.ok b)) (fun _ => rfl) ?_ ?_).mono ?_
      · intro u hu; (try simp only [List.mem_append] at hu); (repeat' (obtain hu | hu := (hu : _ ∨ _))); all_goals (first | rw [M.usBx_block hu] | rw [M.usV_block hu] | rw [M.usI_block hu] | rw [M.usHt_block hu] | rw [M.usBd_block hu] | rw [M.usB_block hu] | rw [M.cell_block1 hu] | (exfalso; simp at hu; done)); all_goals ((try simp [go_sem]) <;> omega)
      · intro w1' hb; exact (cloJoF _ _ _ _ _ a ha b hB l hl _ _ _ _ _ _ _ _ _ _ _ _ _ _ _ _ (.ok (a, b)) hQ.out w1' (M.Var.mono (b := w.heap.size) (cs := #[.int .i64 a.shape, .int .i64 a.sx, .int .i64 a.sy, .int .i64 a.mass, .int .i64 a.px, .int .i64 a.py, .int .i64 a.mx, .int .i64 a.my]) (by (repeat (first | (with_reducible assumption) | (with_reducible apply M.var_set45) | (with_reducible refine M.var_alloc' _ _ _ ?_; first | rfl | (simp [go_sem]; done)) | (with_reducible refine M.Var.alloc ?_ _) | (with_reducible refine M.Var.drewN ?_ _) | (with_reducible refine M.Var.drew ?_) | (with_reducible refine M.Var.far ?_ _ _ ?hFar; case hFar => (first | omega | ((try simp [go_sem]) <;> omega))) | fail))) hb) (M.Var.mono (b := w.heap.size + 1) (cs := #[.int .i64 b.shape, .int .i64 b.sx, .int .i64 b.sy, .int .i64 b.mass, .int .i64 b.px, .int .i64 b.py, .int .i64 b.mx, .int .i64 b.my]) (by (repeat (first | (with_reducible assumption) | (with_reducible apply M.var_set45) | (with_reducible refine M.var_alloc' _ _ _ ?_; first | rfl | (simp [go_sem]; done)) | (with_reducible refine M.Var.alloc ?_ _) | (with_reducible refine M.Var.drewN ?_ _) | (with_reducible refine M.Var.drew ?_) | (with_reducible refine M.Var.far ?_ _ _ ?hFar; case hFar => (first | omega | ((try simp [go_sem]) <;> omega))) | fail))) hb) (M.Var.mono (b := w.heap.size + 1 + 1 + 1) (cs := #[.int .i64 l]) (by (repeat (first | (with_reducible assumption) | (with_reducible apply M.var_set45) | (with_reducible refine M.var_alloc' _ _ _ ?_; first | rfl | (simp [go_sem]; done)) | (with_reducible refine M.Var.alloc ?_ _) | (with_reducible refine M.Var.drewN ?_ _) | (with_reducible refine M.Var.drew ?_) | (with_reducible refine M.Var.far ?_ _ _ ?hFar; case hFar => (first | omega | ((try simp [go_sem]) <;> omega))) | fail))) hb) (M.Var.mono (b := w3.heap.size + 1 + 1) (cs := #[.int .i64 0, .int .i64 0, .int .i64 0, .int .i64 0, .int .i64 0, .int .i64 0, .int .i64 0, .int .i64 0]) (by (repeat (first | (with_reducible assumption) | (with_reducible apply M.var_set45) | (with_reducible refine M.var_alloc' _ _ _ ?_; first | rfl | (simp [go_sem]; done)) | (with_reducible refine M.Var.alloc ?_ _) | (with_reducible refine M.Var.drewN ?_ _) | (with_reducible refine M.Var.drew ?_) | (with_reducible refine M.Var.far ?_ _ _ ?hFar; case hFar => (first | omega | ((try simp [go_sem]) <;> omega))) | fail))) hb) (M.Var.mono (b := w3.heap.size + 1 + 1 + 1) (cs := #[.int .i64 0, .int .i64 0, .int .i64 0, .int .i64 0, .int .i64 0, .int .i64 0, .int .i64 0, .int .i64 0]) (by (repeat (first | (with_reducible assumption) | (with_reducible apply M.var_set45) | (with_reducible refine M.var_alloc' _ _ _ ?_; first | rfl | (simp [go_sem]; done)) | (with_reducible refine M.Var.alloc ?_ _) | (with_reducible refine M.Var.drewN ?_ _) | (with_reducible refine M.Var.drew ?_) | (with_reducible refine M.Var.far ?_ _ _ ?hFar; case hFar => (first | omega | ((try simp [go_sem]) <;> omega))) | fail))) hb) (by omega)).mono fun e w' h => h
      rintro en w5 ⟨rfl, hb⟩
      have G5 : Below w.heap.size w w5 := Below.trans (M.below_sets_own (usBd (w3.heap.size + 1 + 1) (.ok a) ++ usBd (w3.heap.size + 1 + 1 + 1) (.ok b)) (by (repeat (with_reducible refine M.Below.drewN ?_ _)); go_grown) (by intro u hu; (try simp only [List.mem_append] at hu); (repeat' (obtain hu | hu := (hu : _ ∨ _))); all_goals (first | rw [M.usBx_block hu] | rw [M.usV_block hu] | rw [M.usI_block hu] | rw [M.usHt_block hu] | rw [M.usBd_block hu] | rw [M.usB_block hu] | rw [M.cell_block1 hu] | (exfalso; simp at hu; done)); all_goals ((try simp [go_sem]) <;> omega))) (hb.mono (by go_size))
      have VV5 : M.Var w5 (w.heap.size) #[.int .i64 a.shape, .int .i64 a.sx, .int .i64 a.sy, .int .i64 a.mass, .int .i64 a.px, .int .i64 a.py, .int .i64 a.mx, .int .i64 a.my] ∧ M.Var w5 (w.heap.size + 1) #[.int .i64 b.shape, .int .i64 b.sx, .int .i64 b.sy, .int .i64 b.mass, .int .i64 b.px, .int .i64 b.py, .int .i64 b.mx, .int .i64 b.my] ∧ M.Var w5 (w.heap.size + 1 + 1) #[.int .i64 h.nx, .int .i64 h.ny, .int .i64 h.d] ∧ M.Var w5 (w.heap.size + 1 + 1 + 1) #[.int .i64 l] ∧ M.Var w5 (w3.heap.size) #[.int .i64 0, .int .i64 0, .int .i64 0, .int .i64 0, .int .i64 0, .int .i64 0, .int .i64 0, .int .i64 0] ∧ M.Var w5 (w3.heap.size + 1) #[.int .i64 0, .int .i64 0, .int .i64 0, .int .i64 0, .int .i64 0, .int .i64 0, .int .i64 0, .int .i64 0] := by refine ⟨?_, ?_, ?_, ?_, ?_, ?_⟩ <;> exact M.Var.mono' (u := M.sets _ (usBd (w3.heap.size + 1 + 1) (.ok a) ++ usBd (w3.heap.size + 1 + 1 + 1) (.ok b))) (by (try simp only [M.sets_append]); exact (M.var_sets_far (usBd (w3.heap.size + 1 + 1 + 1) (.ok b)) (M.var_sets_far (usBd (w3.heap.size + 1 + 1) (.ok a)) (by (repeat (first | (with_reducible assumption) | (with_reducible apply M.var_set45) | (with_reducible refine M.var_alloc' _ _ _ ?_; first | rfl | (simp [go_sem]; done)) | (with_reducible refine M.Var.alloc ?_ _) | (with_reducible refine M.Var.drewN ?_ _) | (with_reducible refine M.Var.drew ?_) | (with_reducible refine M.Var.far ?_ _ _ ?hFar; case hFar => (first | omega | ((try simp [go_sem]) <;> omega))) | fail))) (by intro u hu; all_goals (first | rw [M.usBx_block hu] | rw [M.usV_block hu] | rw [M.usI_block hu] | rw [M.usHt_block hu] | rw [M.usBd_block hu] | rw [M.usB_block hu] | rw [M.cell_block1 hu] | (exfalso; simp at hu; done)); all_goals ((try simp [go_sem]) <;> omega))) (by intro u hu; all_goals (first | rw [M.usBx_block hu] | rw [M.usV_block hu] | rw [M.usI_block hu] | rw [M.usHt_block hu] | rw [M.usBd_block hu] | rw [M.usB_block hu] | rw [M.cell_block1 hu] | (exfalso; simp at hu; done)); all_goals ((try simp [go_sem]) <;> omega)))) (M.sets_size _ _) hb
      obtain ⟨V5_a, V5_b, V5_h, V5_l, V5_x, V5_y⟩ := VV5
      have V5_u : M.Var w5 (w3.heap.size + 1 + 1) #[.int .i64 a.shape, .int .i64 a.sx, .int .i64 a.sy, .int .i64 a.mass, .int .i64 a.px, .int .i64 a.py, .int .i64 a.mx, .int .i64 a.my] := M.Var.mono' (u := M.sets _ (usBd (w3.heap.size + 1 + 1) (.ok a) ++ usBd (w3.heap.size + 1 + 1 + 1) (.ok b))) (by (try simp only [M.sets_append]); exact (M.var_sets_far (usBd (w3.heap.size + 1 + 1 + 1) (.ok b)) (M.var_setBd (by (repeat (first | (with_reducible assumption) | (with_reducible apply M.var_set45) | (with_reducible refine M.var_alloc' _ _ _ ?_; first | rfl | (simp [go_sem]; done)) | (with_reducible refine M.Var.alloc ?_ _) | (with_reducible refine M.Var.drewN ?_ _) | (with_reducible refine M.Var.drew ?_) | (with_reducible refine M.Var.far ?_ _ _ ?hFar; case hFar => (first | omega | ((try simp [go_sem]) <;> omega))) | fail)) : M.Var _ (w3.heap.size + 1 + 1) #[.int .i64 0, .int .i64 0, .int .i64 0, .int .i64 0, .int .i64 0, .int .i64 0, .int .i64 0, .int .i64 0]) _ _ _ _ _ _ _ _) (by intro u hu; all_goals (first | rw [M.usBx_block hu] | rw [M.usV_block hu] | rw [M.usI_block hu] | rw [M.usHt_block hu] | rw [M.usBd_block hu] | rw [M.usB_block hu] | rw [M.cell_block1 hu] | (exfalso; simp at hu; done)); all_goals ((try simp [go_sem]) <;> omega)))) (M.sets_size _ _) hb
      have V5_v : M.Var w5 (w3.heap.size + 1 + 1 + 1) #[.int .i64 b.shape, .int .i64 b.sx, .int .i64 b.sy, .int .i64 b.mass, .int .i64 b.px, .int .i64 b.py, .int .i64 b.mx, .int .i64 b.my] := M.Var.mono' (u := M.sets _ (usBd (w3.heap.size + 1 + 1) (.ok a) ++ usBd (w3.heap.size + 1 + 1 + 1) (.ok b))) (by (try simp only [M.sets_append]); exact (M.var_setBd (M.var_sets_far (usBd (w3.heap.size + 1 + 1) (.ok a)) (by (repeat (first | (with_reducible assumption) | (with_reducible apply M.var_set45) | (with_reducible refine M.var_alloc' _ _ _ ?_; first | rfl | (simp [go_sem]; done)) | (with_reducible refine M.Var.alloc ?_ _) | (with_reducible refine M.Var.drewN ?_ _) | (with_reducible refine M.Var.drew ?_) | (with_reducible refine M.Var.far ?_ _ _ ?hFar; case hFar => (first | omega | ((try simp [go_sem]) <;> omega))) | fail)) : M.Var _ (w3.heap.size + 1 + 1 + 1) #[.int .i64 0, .int .i64 0, .int .i64 0, .int .i64 0, .int .i64 0, .int .i64 0, .int .i64 0, .int .i64 0]) (by intro u hu; all_goals (first | rw [M.usBx_block hu] | rw [M.usV_block hu] | rw [M.usI_block hu] | rw [M.usHt_block hu] | rw [M.usBd_block hu] | rw [M.usB_block hu] | rw [M.cell_block1 hu] | (exfalso; simp at hu; done)); all_goals ((try simp [go_sem]) <;> omega))) _ _ _ _ _ _ _ _)) (M.sets_size _ _) hb
      have q5_a_0 : w5.cell? ⟨w.heap.size, 0, none⟩ = some (.int .i64 a.shape) := V5_a.c 0 _ rfl
      have q5_a_1 : w5.cell? ⟨w.heap.size, 1, none⟩ = some (.int .i64 a.sx) := V5_a.c 1 _ rfl
      have q5_a_2 : w5.cell? ⟨w.heap.size, 2, none⟩ = some (.int .i64 a.sy) := V5_a.c 2 _ rfl
      have q5_a_3 : w5.cell? ⟨w.heap.size, 3, none⟩ = some (.int .i64 a.mass) := V5_a.c 3 _ rfl
      have q5_a_4 : w5.cell? ⟨w.heap.size, 4, none⟩ = some (.int .i64 a.px) := V5_a.c 4 _ rfl
      have q5_a_5 : w5.cell? ⟨w.heap.size, 5, none⟩ = some (.int .i64 a.py) := V5_a.c 5 _ rfl
      have q5_a_6 : w5.cell? ⟨w.heap.size, 6, none⟩ = some (.int .i64 a.mx) := V5_a.c 6 _ rfl
      have q5_a_7 : w5.cell? ⟨w.heap.size, 7, none⟩ = some (.int .i64 a.my) := V5_a.c 7 _ rfl
      have f5_a := V5_a.2.2; have L5_a := V5_a.lt; have N5_a := Nat.ne_of_gt L5_a; have M5_a := Nat.ne_of_lt L5_a
      have HV5_a := Lib.hid V5_a
      have q5_b_0 : w5.cell? ⟨w.heap.size + 1, 0, none⟩ = some (.int .i64 b.shape) := V5_b.c 0 _ rfl
      have q5_b_1 : w5.cell? ⟨w.heap.size + 1, 1, none⟩ = some (.int .i64 b.sx) := V5_b.c 1 _ rfl
      have q5_b_2 : w5.cell? ⟨w.heap.size + 1, 2, none⟩ = some (.int .i64 b.sy) := V5_b.c 2 _ rfl
      have q5_b_3 : w5.cell? ⟨w.heap.size + 1, 3, none⟩ = some (.int .i64 b.mass) := V5_b.c 3 _ rfl
      have q5_b_4 : w5.cell? ⟨w.heap.size + 1, 4, none⟩ = some (.int .i64 b.px) := V5_b.c 4 _ rfl
      have q5_b_5 : w5.cell? ⟨w.heap.size + 1, 5, none⟩ = some (.int .i64 b.py) := V5_b.c 5 _ rfl
      have q5_b_6 : w5.cell? ⟨w.heap.size + 1, 6, none⟩ = some (.int .i64 b.mx) := V5_b.c 6 _ rfl
      have q5_b_7 : w5.cell? ⟨w.heap.size + 1, 7, none⟩ = some (.int .i64 b.my) := V5_b.c 7 _ rfl
      have f5_b := V5_b.2.2; have L5_b := V5_b.lt; have N5_b := Nat.ne_of_gt L5_b; have M5_b := Nat.ne_of_lt L5_b
      have HV5_b := Lib.hid V5_b
      have q5_h_0 : w5.cell? ⟨w.heap.size + 1 + 1, 0, none⟩ = some (.int .i64 h.nx) := V5_h.c 0 _ rfl
      have q5_h_1 : w5.cell? ⟨w.heap.size + 1 + 1, 1, none⟩ = some (.int .i64 h.ny) := V5_h.c 1 _ rfl
      have q5_h_2 : w5.cell? ⟨w.heap.size + 1 + 1, 2, none⟩ = some (.int .i64 h.d) := V5_h.c 2 _ rfl
      have f5_h := V5_h.2.2; have L5_h := V5_h.lt; have N5_h := Nat.ne_of_gt L5_h; have M5_h := Nat.ne_of_lt L5_h
      have HV5_h := Lib.hid V5_h
      have q5_l_0 : w5.cell? ⟨w.heap.size + 1 + 1 + 1, 0, none⟩ = some (.int .i64 l) := V5_l.c 0 _ rfl
      have f5_l := V5_l.2.2; have L5_l := V5_l.lt; have N5_l := Nat.ne_of_gt L5_l; have M5_l := Nat.ne_of_lt L5_l
      have HV5_l := Lib.hid V5_l
      have q5_x_0 : w5.cell? ⟨w3.heap.size, 0, none⟩ = some (.int .i64 0) := V5_x.c 0 _ rfl
      have q5_x_1 : w5.cell? ⟨w3.heap.size, 1, none⟩ = some (.int .i64 0) := V5_x.c 1 _ rfl
      have q5_x_2 : w5.cell? ⟨w3.heap.size, 2, none⟩ = some (.int .i64 0) := V5_x.c 2 _ rfl
      have q5_x_3 : w5.cell? ⟨w3.heap.size, 3, none⟩ = some (.int .i64 0) := V5_x.c 3 _ rfl
      have q5_x_4 : w5.cell? ⟨w3.heap.size, 4, none⟩ = some (.int .i64 0) := V5_x.c 4 _ rfl
      have q5_x_5 : w5.cell? ⟨w3.heap.size, 5, none⟩ = some (.int .i64 0) := V5_x.c 5 _ rfl
      have q5_x_6 : w5.cell? ⟨w3.heap.size, 6, none⟩ = some (.int .i64 0) := V5_x.c 6 _ rfl
      have q5_x_7 : w5.cell? ⟨w3.heap.size, 7, none⟩ = some (.int .i64 0) := V5_x.c 7 _ rfl
      have f5_x := V5_x.2.2; have L5_x := V5_x.lt; have N5_x := Nat.ne_of_gt L5_x; have M5_x := Nat.ne_of_lt L5_x
      have HV5_x := Lib.hid V5_x
      have q5_y_0 : w5.cell? ⟨w3.heap.size + 1, 0, none⟩ = some (.int .i64 0) := V5_y.c 0 _ rfl
      have q5_y_1 : w5.cell? ⟨w3.heap.size + 1, 1, none⟩ = some (.int .i64 0) := V5_y.c 1 _ rfl
      have q5_y_2 : w5.cell? ⟨w3.heap.size + 1, 2, none⟩ = some (.int .i64 0) := V5_y.c 2 _ rfl
      have q5_y_3 : w5.cell? ⟨w3.heap.size + 1, 3, none⟩ = some (.int .i64 0) := V5_y.c 3 _ rfl
      have q5_y_4 : w5.cell? ⟨w3.heap.size + 1, 4, none⟩ = some (.int .i64 0) := V5_y.c 4 _ rfl
      have q5_y_5 : w5.cell? ⟨w3.heap.size + 1, 5, none⟩ = some (.int .i64 0) := V5_y.c 5 _ rfl
      have q5_y_6 : w5.cell? ⟨w3.heap.size + 1, 6, none⟩ = some (.int .i64 0) := V5_y.c 6 _ rfl
      have q5_y_7 : w5.cell? ⟨w3.heap.size + 1, 7, none⟩ = some (.int .i64 0) := V5_y.c 7 _ rfl
      have f5_y := V5_y.2.2; have L5_y := V5_y.lt; have N5_y := Nat.ne_of_gt L5_y; have M5_y := Nat.ne_of_lt L5_y
      have HV5_y := Lib.hid V5_y
      have q5_u_0 : w5.cell? ⟨w3.heap.size + 1 + 1, 0, none⟩ = some (.int .i64 a.shape) := V5_u.c 0 _ rfl
      have q5_u_1 : w5.cell? ⟨w3.heap.size + 1 + 1, 1, none⟩ = some (.int .i64 a.sx) := V5_u.c 1 _ rfl
      have q5_u_2 : w5.cell? ⟨w3.heap.size + 1 + 1, 2, none⟩ = some (.int .i64 a.sy) := V5_u.c 2 _ rfl
      have q5_u_3 : w5.cell? ⟨w3.heap.size + 1 + 1, 3, none⟩ = some (.int .i64 a.mass) := V5_u.c 3 _ rfl
      have q5_u_4 : w5.cell? ⟨w3.heap.size + 1 + 1, 4, none⟩ = some (.int .i64 a.px) := V5_u.c 4 _ rfl
      have q5_u_5 : w5.cell? ⟨w3.heap.size + 1 + 1, 5, none⟩ = some (.int .i64 a.py) := V5_u.c 5 _ rfl
      have q5_u_6 : w5.cell? ⟨w3.heap.size + 1 + 1, 6, none⟩ = some (.int .i64 a.mx) := V5_u.c 6 _ rfl
      have q5_u_7 : w5.cell? ⟨w3.heap.size + 1 + 1, 7, none⟩ = some (.int .i64 a.my) := V5_u.c 7 _ rfl
      have f5_u := V5_u.2.2; have L5_u := V5_u.lt; have N5_u := Nat.ne_of_gt L5_u; have M5_u := Nat.ne_of_lt L5_u
      have HV5_u := Lib.hid V5_u
      have q5_v_0 : w5.cell? ⟨w3.heap.size + 1 + 1 + 1, 0, none⟩ = some (.int .i64 b.shape) := V5_v.c 0 _ rfl
      have q5_v_1 : w5.cell? ⟨w3.heap.size + 1 + 1 + 1, 1, none⟩ = some (.int .i64 b.sx) := V5_v.c 1 _ rfl
      have q5_v_2 : w5.cell? ⟨w3.heap.size + 1 + 1 + 1, 2, none⟩ = some (.int .i64 b.sy) := V5_v.c 2 _ rfl
      have q5_v_3 : w5.cell? ⟨w3.heap.size + 1 + 1 + 1, 3, none⟩ = some (.int .i64 b.mass) := V5_v.c 3 _ rfl
      have q5_v_4 : w5.cell? ⟨w3.heap.size + 1 + 1 + 1, 4, none⟩ = some (.int .i64 b.px) := V5_v.c 4 _ rfl
      have q5_v_5 : w5.cell? ⟨w3.heap.size + 1 + 1 + 1, 5, none⟩ = some (.int .i64 b.py) := V5_v.c 5 _ rfl
      have q5_v_6 : w5.cell? ⟨w3.heap.size + 1 + 1 + 1, 6, none⟩ = some (.int .i64 b.mx) := V5_v.c 6 _ rfl
      have q5_v_7 : w5.cell? ⟨w3.heap.size + 1 + 1 + 1, 7, none⟩ = some (.int .i64 b.my) := V5_v.c 7 _ rfl
      have f5_v := V5_v.2.2; have L5_v := V5_v.lt; have N5_v := Nat.ne_of_gt L5_v; have M5_v := Nat.ne_of_lt L5_v
      have HV5_v := Lib.hid V5_v
      have S5 := G5.size; clear hb
      go_wp2_with fail
      go_ret
      exact ⟨rfl, by (repeat (with_reducible refine M.Below.drewN ?_ _)); go_grown⟩
  · rcases hQ : jointX a b l with j | ⟨u, v⟩
    · skip
      have kb := bne_eq_false_iff_eq.2 h2
      obtain ⟨f1, f2⟩ := contact_fixed hP h1.out
      dsimp only at f1 f2
      rw [f1, f2 h2] at hP
      clear f1 f2
      have z2 := bne_iff_ne.2 (nz_joint _ _ _ j hQ); have z2b := beq_eq_false_iff_ne.2 (nz_joint _ _ _ j hQ)
      replace hP := Lib.hid hP; replace hQ := Lib.hid hQ; clear h2
      go_enter Try.func10, Try.ntmps10
      go_wp2_with fail
      (with_reducible refine (C1.out _).mono ?_); rintro en w1 ⟨rfl, hb⟩
      have G1 : Below w.heap.size w w1 := Below.trans (by (repeat (with_reducible refine M.Below.drewN ?_ _)); go_grown) (hb.mono (by go_size))
      have V1_a : M.Var w1 (w.heap.size) #[.int .i64 a.shape, .int .i64 a.sx, .int .i64 a.sy, .int .i64 a.mass, .int .i64 a.px, .int .i64 a.py, .int .i64 a.mx, .int .i64 a.my] := M.Var.mono (by (repeat (first | (with_reducible assumption) | (with_reducible apply M.var_set45) | (with_reducible refine M.var_alloc' _ _ _ ?_; first | rfl | (simp [go_sem]; done)) | (with_reducible refine M.Var.alloc ?_ _) | (with_reducible refine M.Var.drewN ?_ _) | (with_reducible refine M.Var.drew ?_) | (with_reducible refine M.Var.far ?_ _ _ ?hFar; case hFar => (first | omega | ((try simp [go_sem]) <;> omega))) | fail))) hb
      have V1_b : M.Var w1 (w.heap.size + 1) #[.int .i64 b.shape, .int .i64 b.sx, .int .i64 b.sy, .int .i64 b.mass, .int .i64 b.px, .int .i64 b.py, .int .i64 b.mx, .int .i64 b.my] := M.Var.mono (by (repeat (first | (with_reducible assumption) | (with_reducible apply M.var_set45) | (with_reducible refine M.var_alloc' _ _ _ ?_; first | rfl | (simp [go_sem]; done)) | (with_reducible refine M.Var.alloc ?_ _) | (with_reducible refine M.Var.drewN ?_ _) | (with_reducible refine M.Var.drew ?_) | (with_reducible refine M.Var.far ?_ _ _ ?hFar; case hFar => (first | omega | ((try simp [go_sem]) <;> omega))) | fail))) hb
      have V1_h : M.Var w1 (w.heap.size + 1 + 1) #[.int .i64 h.nx, .int .i64 h.ny, .int .i64 h.d] := M.Var.mono (by (repeat (first | (with_reducible assumption) | (with_reducible apply M.var_set45) | (with_reducible refine M.var_alloc' _ _ _ ?_; first | rfl | (simp [go_sem]; done)) | (with_reducible refine M.Var.alloc ?_ _) | (with_reducible refine M.Var.drewN ?_ _) | (with_reducible refine M.Var.drew ?_) | (with_reducible refine M.Var.far ?_ _ _ ?hFar; case hFar => (first | omega | ((try simp [go_sem]) <;> omega))) | fail))) hb
      have V1_l : M.Var w1 (w.heap.size + 1 + 1 + 1) #[.int .i64 l] := M.Var.mono (by (repeat (first | (with_reducible assumption) | (with_reducible apply M.var_set45) | (with_reducible refine M.var_alloc' _ _ _ ?_; first | rfl | (simp [go_sem]; done)) | (with_reducible refine M.Var.alloc ?_ _) | (with_reducible refine M.Var.drewN ?_ _) | (with_reducible refine M.Var.drew ?_) | (with_reducible refine M.Var.far ?_ _ _ ?hFar; case hFar => (first | omega | ((try simp [go_sem]) <;> omega))) | fail))) hb
      have q1_a_0 : w1.cell? ⟨w.heap.size, 0, none⟩ = some (.int .i64 a.shape) := V1_a.c 0 _ rfl
      have q1_a_1 : w1.cell? ⟨w.heap.size, 1, none⟩ = some (.int .i64 a.sx) := V1_a.c 1 _ rfl
      have q1_a_2 : w1.cell? ⟨w.heap.size, 2, none⟩ = some (.int .i64 a.sy) := V1_a.c 2 _ rfl
      have q1_a_3 : w1.cell? ⟨w.heap.size, 3, none⟩ = some (.int .i64 a.mass) := V1_a.c 3 _ rfl
      have q1_a_4 : w1.cell? ⟨w.heap.size, 4, none⟩ = some (.int .i64 a.px) := V1_a.c 4 _ rfl
      have q1_a_5 : w1.cell? ⟨w.heap.size, 5, none⟩ = some (.int .i64 a.py) := V1_a.c 5 _ rfl
      have q1_a_6 : w1.cell? ⟨w.heap.size, 6, none⟩ = some (.int .i64 a.mx) := V1_a.c 6 _ rfl
      have q1_a_7 : w1.cell? ⟨w.heap.size, 7, none⟩ = some (.int .i64 a.my) := V1_a.c 7 _ rfl
      have f1_a := V1_a.2.2; have L1_a := V1_a.lt; have N1_a := Nat.ne_of_gt L1_a; have M1_a := Nat.ne_of_lt L1_a
      have HV1_a := Lib.hid V1_a
      have q1_b_0 : w1.cell? ⟨w.heap.size + 1, 0, none⟩ = some (.int .i64 b.shape) := V1_b.c 0 _ rfl
      have q1_b_1 : w1.cell? ⟨w.heap.size + 1, 1, none⟩ = some (.int .i64 b.sx) := V1_b.c 1 _ rfl
      have q1_b_2 : w1.cell? ⟨w.heap.size + 1, 2, none⟩ = some (.int .i64 b.sy) := V1_b.c 2 _ rfl
      have q1_b_3 : w1.cell? ⟨w.heap.size + 1, 3, none⟩ = some (.int .i64 b.mass) := V1_b.c 3 _ rfl
      have q1_b_4 : w1.cell? ⟨w.heap.size + 1, 4, none⟩ = some (.int .i64 b.px) := V1_b.c 4 _ rfl
      have q1_b_5 : w1.cell? ⟨w.heap.size + 1, 5, none⟩ = some (.int .i64 b.py) := V1_b.c 5 _ rfl
      have q1_b_6 : w1.cell? ⟨w.heap.size + 1, 6, none⟩ = some (.int .i64 b.mx) := V1_b.c 6 _ rfl
      have q1_b_7 : w1.cell? ⟨w.heap.size + 1, 7, none⟩ = some (.int .i64 b.my) := V1_b.c 7 _ rfl
      have f1_b := V1_b.2.2; have L1_b := V1_b.lt; have N1_b := Nat.ne_of_gt L1_b; have M1_b := Nat.ne_of_lt L1_b
      have HV1_b := Lib.hid V1_b
      have q1_h_0 : w1.cell? ⟨w.heap.size + 1 + 1, 0, none⟩ = some (.int .i64 h.nx) := V1_h.c 0 _ rfl
      have q1_h_1 : w1.cell? ⟨w.heap.size + 1 + 1, 1, none⟩ = some (.int .i64 h.ny) := V1_h.c 1 _ rfl
      have q1_h_2 : w1.cell? ⟨w.heap.size + 1 + 1, 2, none⟩ = some (.int .i64 h.d) := V1_h.c 2 _ rfl
      have f1_h := V1_h.2.2; have L1_h := V1_h.lt; have N1_h := Nat.ne_of_gt L1_h; have M1_h := Nat.ne_of_lt L1_h
      have HV1_h := Lib.hid V1_h
      have q1_l_0 : w1.cell? ⟨w.heap.size + 1 + 1 + 1, 0, none⟩ = some (.int .i64 l) := V1_l.c 0 _ rfl
      have f1_l := V1_l.2.2; have L1_l := V1_l.lt; have N1_l := Nat.ne_of_gt L1_l; have M1_l := Nat.ne_of_lt L1_l
      have HV1_l := Lib.hid V1_l
      have S1 := G1.size; clear hb
      go_wp2_with fail
      (with_reducible refine (C2.out _).mono ?_); rintro en w2 ⟨rfl, hb⟩
      have G2 : Below w.heap.size w w2 := Below.trans (by (repeat (with_reducible refine M.Below.drewN ?_ _)); go_grown) (hb.mono (by go_size))
      have V2_a : M.Var w2 (w.heap.size) #[.int .i64 a.shape, .int .i64 a.sx, .int .i64 a.sy, .int .i64 a.mass, .int .i64 a.px, .int .i64 a.py, .int .i64 a.mx, .int .i64 a.my] := M.Var.mono (by (repeat (first | (with_reducible assumption) | (with_reducible apply M.var_set45) | (with_reducible refine M.var_alloc' _ _ _ ?_; first | rfl | (simp [go_sem]; done)) | (with_reducible refine M.Var.alloc ?_ _) | (with_reducible refine M.Var.drewN ?_ _) | (with_reducible refine M.Var.drew ?_) | (with_reducible refine M.Var.far ?_ _ _ ?hFar; case hFar => (first | omega | ((try simp [go_sem]) <;> omega))) | fail))) hb
      have V2_b : M.Var w2 (w.heap.size + 1) #[.int .i64 b.shape, .int .i64 b.sx, .int .i64 b.sy, .int .i64 b.mass, .int .i64 b.px, .int .i64 b.py, .int .i64 b.mx, .int .i64 b.my] := M.Var.mono (by (repeat (first | (with_reducible assumption) | (with_reducible apply M.var_set45) | (with_reducible refine M.var_alloc' _ _ _ ?_; first | rfl | (simp [go_sem]; done)) | (with_reducible refine M.Var.alloc ?_ _) | (with_reducible refine M.Var.drewN ?_ _) | (with_reducible refine M.Var.drew ?_) | (with_reducible refine M.Var.far ?_ _ _ ?hFar; case hFar => (first | omega | ((try simp [go_sem]) <;> omega))) | fail))) hb
      have V2_h : M.Var w2 (w.heap.size + 1 + 1) #[.int .i64 h.nx, .int .i64 h.ny, .int .i64 h.d] := M.Var.mono (by (repeat (first | (with_reducible assumption) | (with_reducible apply M.var_set45) | (with_reducible refine M.var_alloc' _ _ _ ?_; first | rfl | (simp [go_sem]; done)) | (with_reducible refine M.Var.alloc ?_ _) | (with_reducible refine M.Var.drewN ?_ _) | (with_reducible refine M.Var.drew ?_) | (with_reducible refine M.Var.far ?_ _ _ ?hFar; case hFar => (first | omega | ((try simp [go_sem]) <;> omega))) | fail))) hb
      have V2_l : M.Var w2 (w.heap.size + 1 + 1 + 1) #[.int .i64 l] := M.Var.mono (by (repeat (first | (with_reducible assumption) | (with_reducible apply M.var_set45) | (with_reducible refine M.var_alloc' _ _ _ ?_; first | rfl | (simp [go_sem]; done)) | (with_reducible refine M.Var.alloc ?_ _) | (with_reducible refine M.Var.drewN ?_ _) | (with_reducible refine M.Var.drew ?_) | (with_reducible refine M.Var.far ?_ _ _ ?hFar; case hFar => (first | omega | ((try simp [go_sem]) <;> omega))) | fail))) hb
      have q2_a_0 : w2.cell? ⟨w.heap.size, 0, none⟩ = some (.int .i64 a.shape) := V2_a.c 0 _ rfl
      have q2_a_1 : w2.cell? ⟨w.heap.size, 1, none⟩ = some (.int .i64 a.sx) := V2_a.c 1 _ rfl
      have q2_a_2 : w2.cell? ⟨w.heap.size, 2, none⟩ = some (.int .i64 a.sy) := V2_a.c 2 _ rfl
      have q2_a_3 : w2.cell? ⟨w.heap.size, 3, none⟩ = some (.int .i64 a.mass) := V2_a.c 3 _ rfl
      have q2_a_4 : w2.cell? ⟨w.heap.size, 4, none⟩ = some (.int .i64 a.px) := V2_a.c 4 _ rfl
      have q2_a_5 : w2.cell? ⟨w.heap.size, 5, none⟩ = some (.int .i64 a.py) := V2_a.c 5 _ rfl
      have q2_a_6 : w2.cell? ⟨w.heap.size, 6, none⟩ = some (.int .i64 a.mx) := V2_a.c 6 _ rfl
      have q2_a_7 : w2.cell? ⟨w.heap.size, 7, none⟩ = some (.int .i64 a.my) := V2_a.c 7 _ rfl
      have f2_a := V2_a.2.2; have L2_a := V2_a.lt; have N2_a := Nat.ne_of_gt L2_a; have M2_a := Nat.ne_of_lt L2_a
      have HV2_a := Lib.hid V2_a
      have q2_b_0 : w2.cell? ⟨w.heap.size + 1, 0, none⟩ = some (.int .i64 b.shape) := V2_b.c 0 _ rfl
      have q2_b_1 : w2.cell? ⟨w.heap.size + 1, 1, none⟩ = some (.int .i64 b.sx) := V2_b.c 1 _ rfl
      have q2_b_2 : w2.cell? ⟨w.heap.size + 1, 2, none⟩ = some (.int .i64 b.sy) := V2_b.c 2 _ rfl
      have q2_b_3 : w2.cell? ⟨w.heap.size + 1, 3, none⟩ = some (.int .i64 b.mass) := V2_b.c 3 _ rfl
      have q2_b_4 : w2.cell? ⟨w.heap.size + 1, 4, none⟩ = some (.int .i64 b.px) := V2_b.c 4 _ rfl
      have q2_b_5 : w2.cell? ⟨w.heap.size + 1, 5, none⟩ = some (.int .i64 b.py) := V2_b.c 5 _ rfl
      have q2_b_6 : w2.cell? ⟨w.heap.size + 1, 6, none⟩ = some (.int .i64 b.mx) := V2_b.c 6 _ rfl
      have q2_b_7 : w2.cell? ⟨w.heap.size + 1, 7, none⟩ = some (.int .i64 b.my) := V2_b.c 7 _ rfl
      have f2_b := V2_b.2.2; have L2_b := V2_b.lt; have N2_b := Nat.ne_of_gt L2_b; have M2_b := Nat.ne_of_lt L2_b
      have HV2_b := Lib.hid V2_b
      have q2_h_0 : w2.cell? ⟨w.heap.size + 1 + 1, 0, none⟩ = some (.int .i64 h.nx) := V2_h.c 0 _ rfl
      have q2_h_1 : w2.cell? ⟨w.heap.size + 1 + 1, 1, none⟩ = some (.int .i64 h.ny) := V2_h.c 1 _ rfl
      have q2_h_2 : w2.cell? ⟨w.heap.size + 1 + 1, 2, none⟩ = some (.int .i64 h.d) := V2_h.c 2 _ rfl
      have f2_h := V2_h.2.2; have L2_h := V2_h.lt; have N2_h := Nat.ne_of_gt L2_h; have M2_h := Nat.ne_of_lt L2_h
      have HV2_h := Lib.hid V2_h
      have q2_l_0 : w2.cell? ⟨w.heap.size + 1 + 1 + 1, 0, none⟩ = some (.int .i64 l) := V2_l.c 0 _ rfl
      have f2_l := V2_l.2.2; have L2_l := V2_l.lt; have N2_l := Nat.ne_of_gt L2_l; have M2_l := Nat.ne_of_lt L2_l
      have HV2_l := Lib.hid V2_l
      have S2 := G2.size; clear hb
      go_wp2_with fail
      (with_reducible refine (c0.out _).mono ?_); rintro en w3 ⟨rfl, hb⟩
      have G3 : Below w.heap.size w w3 := Below.trans (by (repeat (with_reducible refine M.Below.drewN ?_ _)); go_grown) (hb.mono (by go_size))
      have V3_a : M.Var w3 (w.heap.size) #[.int .i64 a.shape, .int .i64 a.sx, .int .i64 a.sy, .int .i64 a.mass, .int .i64 a.px, .int .i64 a.py, .int .i64 a.mx, .int .i64 a.my] := M.Var.mono (by (repeat (first | (with_reducible assumption) | (with_reducible apply M.var_set45) | (with_reducible refine M.var_alloc' _ _ _ ?_; first | rfl | (simp [go_sem]; done)) | (with_reducible refine M.Var.alloc ?_ _) | (with_reducible refine M.Var.drewN ?_ _) | (with_reducible refine M.Var.drew ?_) | (with_reducible refine M.Var.far ?_ _ _ ?hFar; case hFar => (first | omega | ((try simp [go_sem]) <;> omega))) | fail))) hb
      have V3_b : M.Var w3 (w.heap.size + 1) #[.int .i64 b.shape, .int .i64 b.sx, .int .i64 b.sy, .int .i64 b.mass, .int .i64 b.px, .int .i64 b.py, .int .i64 b.mx, .int .i64 b.my] := M.Var.mono (by (repeat (first | (with_reducible assumption) | (with_reducible apply M.var_set45) | (with_reducible refine M.var_alloc' _ _ _ ?_; first | rfl | (simp [go_sem]; done)) | (with_reducible refine M.Var.alloc ?_ _) | (with_reducible refine M.Var.drewN ?_ _) | (with_reducible refine M.Var.drew ?_) | (with_reducible refine M.Var.far ?_ _ _ ?hFar; case hFar => (first | omega | ((try simp [go_sem]) <;> omega))) | fail))) hb
      have V3_h : M.Var w3 (w.heap.size + 1 + 1) #[.int .i64 h.nx, .int .i64 h.ny, .int .i64 h.d] := M.Var.mono (by (repeat (first | (with_reducible assumption) | (with_reducible apply M.var_set45) | (with_reducible refine M.var_alloc' _ _ _ ?_; first | rfl | (simp [go_sem]; done)) | (with_reducible refine M.Var.alloc ?_ _) | (with_reducible refine M.Var.drewN ?_ _) | (with_reducible refine M.Var.drew ?_) | (with_reducible refine M.Var.far ?_ _ _ ?hFar; case hFar => (first | omega | ((try simp [go_sem]) <;> omega))) | fail))) hb
      have V3_l : M.Var w3 (w.heap.size + 1 + 1 + 1) #[.int .i64 l] := M.Var.mono (by (repeat (first | (with_reducible assumption) | (with_reducible apply M.var_set45) | (with_reducible refine M.var_alloc' _ _ _ ?_; first | rfl | (simp [go_sem]; done)) | (with_reducible refine M.Var.alloc ?_ _) | (with_reducible refine M.Var.drewN ?_ _) | (with_reducible refine M.Var.drew ?_) | (with_reducible refine M.Var.far ?_ _ _ ?hFar; case hFar => (first | omega | ((try simp [go_sem]) <;> omega))) | fail))) hb
      have q3_a_0 : w3.cell? ⟨w.heap.size, 0, none⟩ = some (.int .i64 a.shape) := V3_a.c 0 _ rfl
      have q3_a_1 : w3.cell? ⟨w.heap.size, 1, none⟩ = some (.int .i64 a.sx) := V3_a.c 1 _ rfl
      have q3_a_2 : w3.cell? ⟨w.heap.size, 2, none⟩ = some (.int .i64 a.sy) := V3_a.c 2 _ rfl
      have q3_a_3 : w3.cell? ⟨w.heap.size, 3, none⟩ = some (.int .i64 a.mass) := V3_a.c 3 _ rfl
      have q3_a_4 : w3.cell? ⟨w.heap.size, 4, none⟩ = some (.int .i64 a.px) := V3_a.c 4 _ rfl
      have q3_a_5 : w3.cell? ⟨w.heap.size, 5, none⟩ = some (.int .i64 a.py) := V3_a.c 5 _ rfl
      have q3_a_6 : w3.cell? ⟨w.heap.size, 6, none⟩ = some (.int .i64 a.mx) := V3_a.c 6 _ rfl
      have q3_a_7 : w3.cell? ⟨w.heap.size, 7, none⟩ = some (.int .i64 a.my) := V3_a.c 7 _ rfl
      have f3_a := V3_a.2.2; have L3_a := V3_a.lt; have N3_a := Nat.ne_of_gt L3_a; have M3_a := Nat.ne_of_lt L3_a
      have HV3_a := Lib.hid V3_a
      have q3_b_0 : w3.cell? ⟨w.heap.size + 1, 0, none⟩ = some (.int .i64 b.shape) := V3_b.c 0 _ rfl
      have q3_b_1 : w3.cell? ⟨w.heap.size + 1, 1, none⟩ = some (.int .i64 b.sx) := V3_b.c 1 _ rfl
      have q3_b_2 : w3.cell? ⟨w.heap.size + 1, 2, none⟩ = some (.int .i64 b.sy) := V3_b.c 2 _ rfl
      have q3_b_3 : w3.cell? ⟨w.heap.size + 1, 3, none⟩ = some (.int .i64 b.mass) := V3_b.c 3 _ rfl
      have q3_b_4 : w3.cell? ⟨w.heap.size + 1, 4, none⟩ = some (.int .i64 b.px) := V3_b.c 4 _ rfl
      have q3_b_5 : w3.cell? ⟨w.heap.size + 1, 5, none⟩ = some (.int .i64 b.py) := V3_b.c 5 _ rfl
      have q3_b_6 : w3.cell? ⟨w.heap.size + 1, 6, none⟩ = some (.int .i64 b.mx) := V3_b.c 6 _ rfl
      have q3_b_7 : w3.cell? ⟨w.heap.size + 1, 7, none⟩ = some (.int .i64 b.my) := V3_b.c 7 _ rfl
      have f3_b := V3_b.2.2; have L3_b := V3_b.lt; have N3_b := Nat.ne_of_gt L3_b; have M3_b := Nat.ne_of_lt L3_b
      have HV3_b := Lib.hid V3_b
      have q3_h_0 : w3.cell? ⟨w.heap.size + 1 + 1, 0, none⟩ = some (.int .i64 h.nx) := V3_h.c 0 _ rfl
      have q3_h_1 : w3.cell? ⟨w.heap.size + 1 + 1, 1, none⟩ = some (.int .i64 h.ny) := V3_h.c 1 _ rfl
      have q3_h_2 : w3.cell? ⟨w.heap.size + 1 + 1, 2, none⟩ = some (.int .i64 h.d) := V3_h.c 2 _ rfl
      have f3_h := V3_h.2.2; have L3_h := V3_h.lt; have N3_h := Nat.ne_of_gt L3_h; have M3_h := Nat.ne_of_lt L3_h
      have HV3_h := Lib.hid V3_h
      have q3_l_0 : w3.cell? ⟨w.heap.size + 1 + 1 + 1, 0, none⟩ = some (.int .i64 l) := V3_l.c 0 _ rfl
      have f3_l := V3_l.2.2; have L3_l := V3_l.lt; have N3_l := Nat.ne_of_gt L3_l; have M3_l := Nat.ne_of_lt L3_l
      have HV3_l := Lib.hid V3_l
      have S3 := G3.size; clear hb
      go_wp2_with fail
      refine (try_c 37 #[.pointer (some ⟨w.heap.size, 0, none⟩), .pointer (some ⟨w.heap.size + 1, 0, none⟩), .pointer (some ⟨w.heap.size + 1 + 1, 0, none⟩), .pointer (some ⟨w3.heap.size, 0, none⟩), .pointer (some ⟨w3.heap.size + 1, 0, none⟩)] _ (0) (usBd (w3.heap.size) (.ok a) ++ usBd (w3.heap.size + 1) (.ok b)) (fun _ => rfl) ?_ ?_).mono ?_
      · intro u hu; (try simp only [List.mem_append] at hu); (repeat' (obtain hu | hu := (hu : _ ∨ _))); all_goals (first | rw [M.usBx_block hu] | rw [M.usV_block hu] | rw [M.usI_block hu] | rw [M.usHt_block hu] | rw [M.usBd_block hu] | rw [M.usB_block hu] | rw [M.cell_block1 hu] | (exfalso; simp at hu; done)); all_goals ((try simp [go_sem]) <;> omega)
      · intro w1' hb; exact (cloCoF _ _ _ _ _ a ha b hB h hh _ _ _ _ _ _ _ _ _ _ _ _ _ _ _ _ (.ok (a, b)) hP.out w1' (M.Var.mono (b := w.heap.size) (cs := #[.int .i64 a.shape, .int .i64 a.sx, .int .i64 a.sy, .int .i64 a.mass, .int .i64 a.px, .int .i64 a.py, .int .i64 a.mx, .int .i64 a.my]) (by (repeat (first | (with_reducible assumption) | (with_reducible apply M.var_set45) | (with_reducible refine M.var_alloc' _ _ _ ?_; first | rfl | (simp [go_sem]; done)) | (with_reducible refine M.Var.alloc ?_ _) | (with_reducible refine M.Var.drewN ?_ _) | (with_reducible refine M.Var.drew ?_) | (with_reducible refine M.Var.far ?_ _ _ ?hFar; case hFar => (first | omega | ((try simp [go_sem]) <;> omega))) | fail))) hb) (M.Var.mono (b := w.heap.size + 1) (cs := #[.int .i64 b.shape, .int .i64 b.sx, .int .i64 b.sy, .int .i64 b.mass, .int .i64 b.px, .int .i64 b.py, .int .i64 b.mx, .int .i64 b.my]) (by (repeat (first | (with_reducible assumption) | (with_reducible apply M.var_set45) | (with_reducible refine M.var_alloc' _ _ _ ?_; first | rfl | (simp [go_sem]; done)) | (with_reducible refine M.Var.alloc ?_ _) | (with_reducible refine M.Var.drewN ?_ _) | (with_reducible refine M.Var.drew ?_) | (with_reducible refine M.Var.far ?_ _ _ ?hFar; case hFar => (first | omega | ((try simp [go_sem]) <;> omega))) | fail))) hb) (M.Var.mono (b := w.heap.size + 1 + 1) (cs := #[.int .i64 h.nx, .int .i64 h.ny, .int .i64 h.d]) (by (repeat (first | (with_reducible assumption) | (with_reducible apply M.var_set45) | (with_reducible refine M.var_alloc' _ _ _ ?_; first | rfl | (simp [go_sem]; done)) | (with_reducible refine M.Var.alloc ?_ _) | (with_reducible refine M.Var.drewN ?_ _) | (with_reducible refine M.Var.drew ?_) | (with_reducible refine M.Var.far ?_ _ _ ?hFar; case hFar => (first | omega | ((try simp [go_sem]) <;> omega))) | fail))) hb) (M.Var.mono (b := w3.heap.size) (cs := #[.int .i64 0, .int .i64 0, .int .i64 0, .int .i64 0, .int .i64 0, .int .i64 0, .int .i64 0, .int .i64 0]) (by (repeat (first | (with_reducible assumption) | (with_reducible apply M.var_set45) | (with_reducible refine M.var_alloc' _ _ _ ?_; first | rfl | (simp [go_sem]; done)) | (with_reducible refine M.Var.alloc ?_ _) | (with_reducible refine M.Var.drewN ?_ _) | (with_reducible refine M.Var.drew ?_) | (with_reducible refine M.Var.far ?_ _ _ ?hFar; case hFar => (first | omega | ((try simp [go_sem]) <;> omega))) | fail))) hb) (M.Var.mono (b := w3.heap.size + 1) (cs := #[.int .i64 0, .int .i64 0, .int .i64 0, .int .i64 0, .int .i64 0, .int .i64 0, .int .i64 0, .int .i64 0]) (by (repeat (first | (with_reducible assumption) | (with_reducible apply M.var_set45) | (with_reducible refine M.var_alloc' _ _ _ ?_; first | rfl | (simp [go_sem]; done)) | (with_reducible refine M.Var.alloc ?_ _) | (with_reducible refine M.Var.drewN ?_ _) | (with_reducible refine M.Var.drew ?_) | (with_reducible refine M.Var.far ?_ _ _ ?hFar; case hFar => (first | omega | ((try simp [go_sem]) <;> omega))) | fail))) hb) (by omega)).mono fun e w' h => h
      rintro en w4 ⟨rfl, hb⟩
      have G4 : Below w.heap.size w w4 := Below.trans (M.below_sets_own (usBd (w3.heap.size) (.ok a) ++ usBd (w3.heap.size + 1) (.ok b)) (by (repeat (with_reducible refine M.Below.drewN ?_ _)); go_grown) (by intro u hu; (try simp only [List.mem_append] at hu); (repeat' (obtain hu | hu := (hu : _ ∨ _))); all_goals (first | rw [M.usBx_block hu] | rw [M.usV_block hu] | rw [M.usI_block hu] | rw [M.usHt_block hu] | rw [M.usBd_block hu] | rw [M.usB_block hu] | rw [M.cell_block1 hu] | (exfalso; simp at hu; done)); all_goals ((try simp [go_sem]) <;> omega))) (hb.mono (by go_size))
      have VV4 : M.Var w4 (w.heap.size) #[.int .i64 a.shape, .int .i64 a.sx, .int .i64 a.sy, .int .i64 a.mass, .int .i64 a.px, .int .i64 a.py, .int .i64 a.mx, .int .i64 a.my] ∧ M.Var w4 (w.heap.size + 1) #[.int .i64 b.shape, .int .i64 b.sx, .int .i64 b.sy, .int .i64 b.mass, .int .i64 b.px, .int .i64 b.py, .int .i64 b.mx, .int .i64 b.my] ∧ M.Var w4 (w.heap.size + 1 + 1) #[.int .i64 h.nx, .int .i64 h.ny, .int .i64 h.d] ∧ M.Var w4 (w.heap.size + 1 + 1 + 1) #[.int .i64 l] ∧ M.Var w4 (w3.heap.size + 1 + 1) #[.int .i64 0, .int .i64 0, .int .i64 0, .int .i64 0, .int .i64 0, .int .i64 0, .int .i64 0, .int .i64 0] ∧ M.Var w4 (w3.heap.size + 1 + 1 + 1) #[.int .i64 0, .int .i64 0, .int .i64 0, .int .i64 0, .int .i64 0, .int .i64 0, .int .i64 0, .int .i64 0] := by refine ⟨?_, ?_, ?_, ?_, ?_, ?_⟩ <;> exact M.Var.mono' (u := M.sets _ (usBd (w3.heap.size) (.ok a) ++ usBd (w3.heap.size + 1) (.ok b))) (by (try simp only [M.sets_append]); exact (M.var_sets_far (usBd (w3.heap.size + 1) (.ok b)) (M.var_sets_far (usBd (w3.heap.size) (.ok a)) (by (repeat (first | (with_reducible assumption) | (with_reducible apply M.var_set45) | (with_reducible refine M.var_alloc' _ _ _ ?_; first | rfl | (simp [go_sem]; done)) | (with_reducible refine M.Var.alloc ?_ _) | (with_reducible refine M.Var.drewN ?_ _) | (with_reducible refine M.Var.drew ?_) | (with_reducible refine M.Var.far ?_ _ _ ?hFar; case hFar => (first | omega | ((try simp [go_sem]) <;> omega))) | fail))) (by intro u hu; all_goals (first | rw [M.usBx_block hu] | rw [M.usV_block hu] | rw [M.usI_block hu] | rw [M.usHt_block hu] | rw [M.usBd_block hu] | rw [M.usB_block hu] | rw [M.cell_block1 hu] | (exfalso; simp at hu; done)); all_goals ((try simp [go_sem]) <;> omega))) (by intro u hu; all_goals (first | rw [M.usBx_block hu] | rw [M.usV_block hu] | rw [M.usI_block hu] | rw [M.usHt_block hu] | rw [M.usBd_block hu] | rw [M.usB_block hu] | rw [M.cell_block1 hu] | (exfalso; simp at hu; done)); all_goals ((try simp [go_sem]) <;> omega)))) (M.sets_size _ _) hb
      obtain ⟨V4_a, V4_b, V4_h, V4_l, V4_u, V4_v⟩ := VV4
      have V4_x : M.Var w4 (w3.heap.size) #[.int .i64 a.shape, .int .i64 a.sx, .int .i64 a.sy, .int .i64 a.mass, .int .i64 a.px, .int .i64 a.py, .int .i64 a.mx, .int .i64 a.my] := M.Var.mono' (u := M.sets _ (usBd (w3.heap.size) (.ok a) ++ usBd (w3.heap.size + 1) (.ok b))) (by (try simp only [M.sets_append]); exact (M.var_sets_far (usBd (w3.heap.size + 1) (.ok b)) (M.var_setBd (by (repeat (first | (with_reducible assumption) | (with_reducible apply M.var_set45) | (with_reducible refine M.var_alloc' _ _ _ ?_; first | rfl | (simp [go_sem]; done)) | (with_reducible refine M.Var.alloc ?_ _) | (with_reducible refine M.Var.drewN ?_ _) | (with_reducible refine M.Var.drew ?_) | (with_reducible refine M.Var.far ?_ _ _ ?hFar; case hFar => (first | omega | ((try simp [go_sem]) <;> omega))) | fail)) : M.Var _ (w3.heap.size) #[.int .i64 0, .int .i64 0, .int .i64 0, .int .i64 0, .int .i64 0, .int .i64 0, .int .i64 0, .int .i64 0]) _ _ _ _ _ _ _ _) (by intro u hu; all_goals (first | rw [M.usBx_block hu] | rw [M.usV_block hu] | rw [M.usI_block hu] | rw [M.usHt_block hu] | rw [M.usBd_block hu] | rw [M.usB_block hu] | rw [M.cell_block1 hu] | (exfalso; simp at hu; done)); all_goals ((try simp [go_sem]) <;> omega)))) (M.sets_size _ _) hb
      have V4_y : M.Var w4 (w3.heap.size + 1) #[.int .i64 b.shape, .int .i64 b.sx, .int .i64 b.sy, .int .i64 b.mass, .int .i64 b.px, .int .i64 b.py, .int .i64 b.mx, .int .i64 b.my] := M.Var.mono' (u := M.sets _ (usBd (w3.heap.size) (.ok a) ++ usBd (w3.heap.size + 1) (.ok b))) (by (try simp only [M.sets_append]); exact (M.var_setBd (M.var_sets_far (usBd (w3.heap.size) (.ok a)) (by (repeat (first | (with_reducible assumption) | (with_reducible apply M.var_set45) | (with_reducible refine M.var_alloc' _ _ _ ?_; first | rfl | (simp [go_sem]; done)) | (with_reducible refine M.Var.alloc ?_ _) | (with_reducible refine M.Var.drewN ?_ _) | (with_reducible refine M.Var.drew ?_) | (with_reducible refine M.Var.far ?_ _ _ ?hFar; case hFar => (first | omega | ((try simp [go_sem]) <;> omega))) | fail)) : M.Var _ (w3.heap.size + 1) #[.int .i64 0, .int .i64 0, .int .i64 0, .int .i64 0, .int .i64 0, .int .i64 0, .int .i64 0, .int .i64 0]) (by intro u hu; all_goals (first | rw [M.usBx_block hu] | rw [M.usV_block hu] | rw [M.usI_block hu] | rw [M.usHt_block hu] | rw [M.usBd_block hu] | rw [M.usB_block hu] | rw [M.cell_block1 hu] | (exfalso; simp at hu; done)); all_goals ((try simp [go_sem]) <;> omega))) _ _ _ _ _ _ _ _)) (M.sets_size _ _) hb
      have q4_a_0 : w4.cell? ⟨w.heap.size, 0, none⟩ = some (.int .i64 a.shape) := V4_a.c 0 _ rfl
      have q4_a_1 : w4.cell? ⟨w.heap.size, 1, none⟩ = some (.int .i64 a.sx) := V4_a.c 1 _ rfl
      have q4_a_2 : w4.cell? ⟨w.heap.size, 2, none⟩ = some (.int .i64 a.sy) := V4_a.c 2 _ rfl
      have q4_a_3 : w4.cell? ⟨w.heap.size, 3, none⟩ = some (.int .i64 a.mass) := V4_a.c 3 _ rfl
      have q4_a_4 : w4.cell? ⟨w.heap.size, 4, none⟩ = some (.int .i64 a.px) := V4_a.c 4 _ rfl
      have q4_a_5 : w4.cell? ⟨w.heap.size, 5, none⟩ = some (.int .i64 a.py) := V4_a.c 5 _ rfl
      have q4_a_6 : w4.cell? ⟨w.heap.size, 6, none⟩ = some (.int .i64 a.mx) := V4_a.c 6 _ rfl
      have q4_a_7 : w4.cell? ⟨w.heap.size, 7, none⟩ = some (.int .i64 a.my) := V4_a.c 7 _ rfl
      have f4_a := V4_a.2.2; have L4_a := V4_a.lt; have N4_a := Nat.ne_of_gt L4_a; have M4_a := Nat.ne_of_lt L4_a
      have HV4_a := Lib.hid V4_a
      have q4_b_0 : w4.cell? ⟨w.heap.size + 1, 0, none⟩ = some (.int .i64 b.shape) := V4_b.c 0 _ rfl
      have q4_b_1 : w4.cell? ⟨w.heap.size + 1, 1, none⟩ = some (.int .i64 b.sx) := V4_b.c 1 _ rfl
      have q4_b_2 : w4.cell? ⟨w.heap.size + 1, 2, none⟩ = some (.int .i64 b.sy) := V4_b.c 2 _ rfl
      have q4_b_3 : w4.cell? ⟨w.heap.size + 1, 3, none⟩ = some (.int .i64 b.mass) := V4_b.c 3 _ rfl
      have q4_b_4 : w4.cell? ⟨w.heap.size + 1, 4, none⟩ = some (.int .i64 b.px) := V4_b.c 4 _ rfl
      have q4_b_5 : w4.cell? ⟨w.heap.size + 1, 5, none⟩ = some (.int .i64 b.py) := V4_b.c 5 _ rfl
      have q4_b_6 : w4.cell? ⟨w.heap.size + 1, 6, none⟩ = some (.int .i64 b.mx) := V4_b.c 6 _ rfl
      have q4_b_7 : w4.cell? ⟨w.heap.size + 1, 7, none⟩ = some (.int .i64 b.my) := V4_b.c 7 _ rfl
      have f4_b := V4_b.2.2; have L4_b := V4_b.lt; have N4_b := Nat.ne_of_gt L4_b; have M4_b := Nat.ne_of_lt L4_b
      have HV4_b := Lib.hid V4_b
      have q4_h_0 : w4.cell? ⟨w.heap.size + 1 + 1, 0, none⟩ = some (.int .i64 h.nx) := V4_h.c 0 _ rfl
      have q4_h_1 : w4.cell? ⟨w.heap.size + 1 + 1, 1, none⟩ = some (.int .i64 h.ny) := V4_h.c 1 _ rfl
      have q4_h_2 : w4.cell? ⟨w.heap.size + 1 + 1, 2, none⟩ = some (.int .i64 h.d) := V4_h.c 2 _ rfl
      have f4_h := V4_h.2.2; have L4_h := V4_h.lt; have N4_h := Nat.ne_of_gt L4_h; have M4_h := Nat.ne_of_lt L4_h
      have HV4_h := Lib.hid V4_h
      have q4_l_0 : w4.cell? ⟨w.heap.size + 1 + 1 + 1, 0, none⟩ = some (.int .i64 l) := V4_l.c 0 _ rfl
      have f4_l := V4_l.2.2; have L4_l := V4_l.lt; have N4_l := Nat.ne_of_gt L4_l; have M4_l := Nat.ne_of_lt L4_l
      have HV4_l := Lib.hid V4_l
      have q4_x_0 : w4.cell? ⟨w3.heap.size, 0, none⟩ = some (.int .i64 a.shape) := V4_x.c 0 _ rfl
      have q4_x_1 : w4.cell? ⟨w3.heap.size, 1, none⟩ = some (.int .i64 a.sx) := V4_x.c 1 _ rfl
      have q4_x_2 : w4.cell? ⟨w3.heap.size, 2, none⟩ = some (.int .i64 a.sy) := V4_x.c 2 _ rfl
      have q4_x_3 : w4.cell? ⟨w3.heap.size, 3, none⟩ = some (.int .i64 a.mass) := V4_x.c 3 _ rfl
      have q4_x_4 : w4.cell? ⟨w3.heap.size, 4, none⟩ = some (.int .i64 a.px) := V4_x.c 4 _ rfl
      have q4_x_5 : w4.cell? ⟨w3.heap.size, 5, none⟩ = some (.int .i64 a.py) := V4_x.c 5 _ rfl
      have q4_x_6 : w4.cell? ⟨w3.heap.size, 6, none⟩ = some (.int .i64 a.mx) := V4_x.c 6 _ rfl
      have q4_x_7 : w4.cell? ⟨w3.heap.size, 7, none⟩ = some (.int .i64 a.my) := V4_x.c 7 _ rfl
      have f4_x := V4_x.2.2; have L4_x := V4_x.lt; have N4_x := Nat.ne_of_gt L4_x; have M4_x := Nat.ne_of_lt L4_x
      have HV4_x := Lib.hid V4_x
      have q4_y_0 : w4.cell? ⟨w3.heap.size + 1, 0, none⟩ = some (.int .i64 b.shape) := V4_y.c 0 _ rfl
      have q4_y_1 : w4.cell? ⟨w3.heap.size + 1, 1, none⟩ = some (.int .i64 b.sx) := V4_y.c 1 _ rfl
      have q4_y_2 : w4.cell? ⟨w3.heap.size + 1, 2, none⟩ = some (.int .i64 b.sy) := V4_y.c 2 _ rfl
      have q4_y_3 : w4.cell? ⟨w3.heap.size + 1, 3, none⟩ = some (.int .i64 b.mass) := V4_y.c 3 _ rfl
      have q4_y_4 : w4.cell? ⟨w3.heap.size + 1, 4, none⟩ = some (.int .i64 b.px) := V4_y.c 4 _ rfl
      have q4_y_5 : w4.cell? ⟨w3.heap.size + 1, 5, none⟩ = some (.int .i64 b.py) := V4_y.c 5 _ rfl
      have q4_y_6 : w4.cell? ⟨w3.heap.size + 1, 6, none⟩ = some (.int .i64 b.mx) := V4_y.c 6 _ rfl
      have q4_y_7 : w4.cell? ⟨w3.heap.size + 1, 7, none⟩ = some (.int .i64 b.my) := V4_y.c 7 _ rfl
      have f4_y := V4_y.2.2; have L4_y := V4_y.lt; have N4_y := Nat.ne_of_gt L4_y; have M4_y := Nat.ne_of_lt L4_y
      have HV4_y := Lib.hid V4_y
      have q4_u_0 : w4.cell? ⟨w3.heap.size + 1 + 1, 0, none⟩ = some (.int .i64 0) := V4_u.c 0 _ rfl
      have q4_u_1 : w4.cell? ⟨w3.heap.size + 1 + 1, 1, none⟩ = some (.int .i64 0) := V4_u.c 1 _ rfl
      have q4_u_2 : w4.cell? ⟨w3.heap.size + 1 + 1, 2, none⟩ = some (.int .i64 0) := V4_u.c 2 _ rfl
      have q4_u_3 : w4.cell? ⟨w3.heap.size + 1 + 1, 3, none⟩ = some (.int .i64 0) := V4_u.c 3 _ rfl
      have q4_u_4 : w4.cell? ⟨w3.heap.size + 1 + 1, 4, none⟩ = some (.int .i64 0) := V4_u.c 4 _ rfl
      have q4_u_5 : w4.cell? ⟨w3.heap.size + 1 + 1, 5, none⟩ = some (.int .i64 0) := V4_u.c 5 _ rfl
      have q4_u_6 : w4.cell? ⟨w3.heap.size + 1 + 1, 6, none⟩ = some (.int .i64 0) := V4_u.c 6 _ rfl
      have q4_u_7 : w4.cell? ⟨w3.heap.size + 1 + 1, 7, none⟩ = some (.int .i64 0) := V4_u.c 7 _ rfl
      have f4_u := V4_u.2.2; have L4_u := V4_u.lt; have N4_u := Nat.ne_of_gt L4_u; have M4_u := Nat.ne_of_lt L4_u
      have HV4_u := Lib.hid V4_u
      have q4_v_0 : w4.cell? ⟨w3.heap.size + 1 + 1 + 1, 0, none⟩ = some (.int .i64 0) := V4_v.c 0 _ rfl
      have q4_v_1 : w4.cell? ⟨w3.heap.size + 1 + 1 + 1, 1, none⟩ = some (.int .i64 0) := V4_v.c 1 _ rfl
      have q4_v_2 : w4.cell? ⟨w3.heap.size + 1 + 1 + 1, 2, none⟩ = some (.int .i64 0) := V4_v.c 2 _ rfl
      have q4_v_3 : w4.cell? ⟨w3.heap.size + 1 + 1 + 1, 3, none⟩ = some (.int .i64 0) := V4_v.c 3 _ rfl
      have q4_v_4 : w4.cell? ⟨w3.heap.size + 1 + 1 + 1, 4, none⟩ = some (.int .i64 0) := V4_v.c 4 _ rfl
      have q4_v_5 : w4.cell? ⟨w3.heap.size + 1 + 1 + 1, 5, none⟩ = some (.int .i64 0) := V4_v.c 5 _ rfl
      have q4_v_6 : w4.cell? ⟨w3.heap.size + 1 + 1 + 1, 6, none⟩ = some (.int .i64 0) := V4_v.c 6 _ rfl
      have q4_v_7 : w4.cell? ⟨w3.heap.size + 1 + 1 + 1, 7, none⟩ = some (.int .i64 0) := V4_v.c 7 _ rfl
      have f4_v := V4_v.2.2; have L4_v := V4_v.lt; have N4_v := Nat.ne_of_gt L4_v; have M4_v := Nat.ne_of_lt L4_v
      have HV4_v := Lib.hid V4_v
      have S4 := G4.size; clear hb
      go_wp2_with fail
      refine (try_c 38 #[.pointer (some ⟨w.heap.size, 0, none⟩), .pointer (some ⟨w.heap.size + 1, 0, none⟩), .pointer (some ⟨w.heap.size + 1 + 1 + 1, 0, none⟩), .pointer (some ⟨w3.heap.size + 1 + 1, 0, none⟩), .pointer (some ⟨w3.heap.size + 1 + 1 + 1, 0, none⟩)] _ (j) ([]) (fun _ => rfl) ?_ ?_).mono ?_
      · intro u hu; (try simp only [List.mem_append] at hu); (repeat' (obtain hu | hu := (hu : _ ∨ _))); all_goals (first | rw [M.usBx_block hu] | rw [M.usV_block hu] | rw [M.usI_block hu] | rw [M.usHt_block hu] | rw [M.usBd_block hu] | rw [M.usB_block hu] | rw [M.cell_block1 hu] | (exfalso; simp at hu; done)); all_goals ((try simp [go_sem]) <;> omega)
      · intro w1' hb; exact (cloJoF _ _ _ _ _ a ha b hB l hl _ _ _ _ _ _ _ _ _ _ _ _ _ _ _ _ (.error j) hQ.out w1' (M.Var.mono (b := w.heap.size) (cs := #[.int .i64 a.shape, .int .i64 a.sx, .int .i64 a.sy, .int .i64 a.mass, .int .i64 a.px, .int .i64 a.py, .int .i64 a.mx, .int .i64 a.my]) (by (repeat (first | (with_reducible assumption) | (with_reducible apply M.var_set45) | (with_reducible refine M.var_alloc' _ _ _ ?_; first | rfl | (simp [go_sem]; done)) | (with_reducible refine M.Var.alloc ?_ _) | (with_reducible refine M.Var.drewN ?_ _) | (with_reducible refine M.Var.drew ?_) | (with_reducible refine M.Var.far ?_ _ _ ?hFar; case hFar => (first | omega | ((try simp [go_sem]) <;> omega))) | fail))) hb) (M.Var.mono (b := w.heap.size + 1) (cs := #[.int .i64 b.shape, .int .i64 b.sx, .int .i64 b.sy, .int .i64 b.mass, .int .i64 b.px, .int .i64 b.py, .int .i64 b.mx, .int .i64 b.my]) (by (repeat (first | (with_reducible assumption) | (with_reducible apply M.var_set45) | (with_reducible refine M.var_alloc' _ _ _ ?_; first | rfl | (simp [go_sem]; done)) | (with_reducible refine M.Var.alloc ?_ _) | (with_reducible refine M.Var.drewN ?_ _) | (with_reducible refine M.Var.drew ?_) | (with_reducible refine M.Var.far ?_ _ _ ?hFar; case hFar => (first | omega | ((try simp [go_sem]) <;> omega))) | fail))) hb) (M.Var.mono (b := w.heap.size + 1 + 1 + 1) (cs := #[.int .i64 l]) (by (repeat (first | (with_reducible assumption) | (with_reducible apply M.var_set45) | (with_reducible refine M.var_alloc' _ _ _ ?_; first | rfl | (simp [go_sem]; done)) | (with_reducible refine M.Var.alloc ?_ _) | (with_reducible refine M.Var.drewN ?_ _) | (with_reducible refine M.Var.drew ?_) | (with_reducible refine M.Var.far ?_ _ _ ?hFar; case hFar => (first | omega | ((try simp [go_sem]) <;> omega))) | fail))) hb) (M.Var.mono (b := w3.heap.size + 1 + 1) (cs := #[.int .i64 0, .int .i64 0, .int .i64 0, .int .i64 0, .int .i64 0, .int .i64 0, .int .i64 0, .int .i64 0]) (by (repeat (first | (with_reducible assumption) | (with_reducible apply M.var_set45) | (with_reducible refine M.var_alloc' _ _ _ ?_; first | rfl | (simp [go_sem]; done)) | (with_reducible refine M.Var.alloc ?_ _) | (with_reducible refine M.Var.drewN ?_ _) | (with_reducible refine M.Var.drew ?_) | (with_reducible refine M.Var.far ?_ _ _ ?hFar; case hFar => (first | omega | ((try simp [go_sem]) <;> omega))) | fail))) hb) (M.Var.mono (b := w3.heap.size + 1 + 1 + 1) (cs := #[.int .i64 0, .int .i64 0, .int .i64 0, .int .i64 0, .int .i64 0, .int .i64 0, .int .i64 0, .int .i64 0]) (by (repeat (first | (with_reducible assumption) | (with_reducible apply M.var_set45) | (with_reducible refine M.var_alloc' _ _ _ ?_; first | rfl | (simp [go_sem]; done)) | (with_reducible refine M.Var.alloc ?_ _) | (with_reducible refine M.Var.drewN ?_ _) | (with_reducible refine M.Var.drew ?_) | (with_reducible refine M.Var.far ?_ _ _ ?hFar; case hFar => (first | omega | ((try simp [go_sem]) <;> omega))) | fail))) hb) (by omega)).mono fun e w' h => h
      rintro en w5 ⟨rfl, hb⟩
      have G5 : Below w.heap.size w w5 := Below.trans (M.below_sets_own ([]) (by (repeat (with_reducible refine M.Below.drewN ?_ _)); go_grown) (by intro u hu; (try simp only [List.mem_append] at hu); (repeat' (obtain hu | hu := (hu : _ ∨ _))); all_goals (first | rw [M.usBx_block hu] | rw [M.usV_block hu] | rw [M.usI_block hu] | rw [M.usHt_block hu] | rw [M.usBd_block hu] | rw [M.usB_block hu] | rw [M.cell_block1 hu] | (exfalso; simp at hu; done)); all_goals ((try simp [go_sem]) <;> omega))) (hb.mono (by go_size))
      have VV5 : M.Var w5 (w.heap.size) #[.int .i64 a.shape, .int .i64 a.sx, .int .i64 a.sy, .int .i64 a.mass, .int .i64 a.px, .int .i64 a.py, .int .i64 a.mx, .int .i64 a.my] ∧ M.Var w5 (w.heap.size + 1) #[.int .i64 b.shape, .int .i64 b.sx, .int .i64 b.sy, .int .i64 b.mass, .int .i64 b.px, .int .i64 b.py, .int .i64 b.mx, .int .i64 b.my] ∧ M.Var w5 (w.heap.size + 1 + 1) #[.int .i64 h.nx, .int .i64 h.ny, .int .i64 h.d] ∧ M.Var w5 (w.heap.size + 1 + 1 + 1) #[.int .i64 l] ∧ M.Var w5 (w3.heap.size) #[.int .i64 a.shape, .int .i64 a.sx, .int .i64 a.sy, .int .i64 a.mass, .int .i64 a.px, .int .i64 a.py, .int .i64 a.mx, .int .i64 a.my] ∧ M.Var w5 (w3.heap.size + 1) #[.int .i64 b.shape, .int .i64 b.sx, .int .i64 b.sy, .int .i64 b.mass, .int .i64 b.px, .int .i64 b.py, .int .i64 b.mx, .int .i64 b.my] ∧ M.Var w5 (w3.heap.size + 1 + 1) #[.int .i64 0, .int .i64 0, .int .i64 0, .int .i64 0, .int .i64 0, .int .i64 0, .int .i64 0, .int .i64 0] ∧ M.Var w5 (w3.heap.size + 1 + 1 + 1) #[.int .i64 0, .int .i64 0, .int .i64 0, .int .i64 0, .int .i64 0, .int .i64 0, .int .i64 0, .int .i64 0] := by refine ⟨?_, ?_, ?_, ?_, ?_, ?_, ?_, ?_⟩ <;> exact M.Var.mono' (u := M.sets _ ([])) (by (try simp only [M.sets_append]); exact (M.var_sets_far ([]) (by (repeat (first | (with_reducible assumption) | (with_reducible apply M.var_set45) | (with_reducible refine M.var_alloc' _ _ _ ?_; first | rfl | (simp [go_sem]; done)) | (with_reducible refine M.Var.alloc ?_ _) | (with_reducible refine M.Var.drewN ?_ _) | (with_reducible refine M.Var.drew ?_) | (with_reducible refine M.Var.far ?_ _ _ ?hFar; case hFar => (first | omega | ((try simp [go_sem]) <;> omega))) | fail))) (by intro u hu; all_goals (first | rw [M.usBx_block hu] | rw [M.usV_block hu] | rw [M.usI_block hu] | rw [M.usHt_block hu] | rw [M.usBd_block hu] | rw [M.usB_block hu] | rw [M.cell_block1 hu] | (exfalso; simp at hu; done)); all_goals ((try simp [go_sem]) <;> omega)))) (M.sets_size _ _) hb
      obtain ⟨V5_a, V5_b, V5_h, V5_l, V5_x, V5_y, V5_u, V5_v⟩ := VV5
      have q5_a_0 : w5.cell? ⟨w.heap.size, 0, none⟩ = some (.int .i64 a.shape) := V5_a.c 0 _ rfl
      have q5_a_1 : w5.cell? ⟨w.heap.size, 1, none⟩ = some (.int .i64 a.sx) := V5_a.c 1 _ rfl
      have q5_a_2 : w5.cell? ⟨w.heap.size, 2, none⟩ = some (.int .i64 a.sy) := V5_a.c 2 _ rfl
      have q5_a_3 : w5.cell? ⟨w.heap.size, 3, none⟩ = some (.int .i64 a.mass) := V5_a.c 3 _ rfl
      have q5_a_4 : w5.cell? ⟨w.heap.size, 4, none⟩ = some (.int .i64 a.px) := V5_a.c 4 _ rfl
      have q5_a_5 : w5.cell? ⟨w.heap.size, 5, none⟩ = some (.int .i64 a.py) := V5_a.c 5 _ rfl
      have q5_a_6 : w5.cell? ⟨w.heap.size, 6, none⟩ = some (.int .i64 a.mx) := V5_a.c 6 _ rfl
      have q5_a_7 : w5.cell? ⟨w.heap.size, 7, none⟩ = some (.int .i64 a.my) := V5_a.c 7 _ rfl
      have f5_a := V5_a.2.2; have L5_a := V5_a.lt; have N5_a := Nat.ne_of_gt L5_a; have M5_a := Nat.ne_of_lt L5_a
      have HV5_a := Lib.hid V5_a
      have q5_b_0 : w5.cell? ⟨w.heap.size + 1, 0, none⟩ = some (.int .i64 b.shape) := V5_b.c 0 _ rfl
      have q5_b_1 : w5.cell? ⟨w.heap.size + 1, 1, none⟩ = some (.int .i64 b.sx) := V5_b.c 1 _ rfl
      have q5_b_2 : w5.cell? ⟨w.heap.size + 1, 2, none⟩ = some (.int .i64 b.sy) := V5_b.c 2 _ rfl
      have q5_b_3 : w5.cell? ⟨w.heap.size + 1, 3, none⟩ = some (.int .i64 b.mass) := V5_b.c 3 _ rfl
      have q5_b_4 : w5.cell? ⟨w.heap.size + 1, 4, none⟩ = some (.int .i64 b.px) := V5_b.c 4 _ rfl
      have q5_b_5 : w5.cell? ⟨w.heap.size + 1, 5, none⟩ = some (.int .i64 b.py) := V5_b.c 5 _ rfl
      have q5_b_6 : w5.cell? ⟨w.heap.size + 1, 6, none⟩ = some (.int .i64 b.mx) := V5_b.c 6 _ rfl
      have q5_b_7 : w5.cell? ⟨w.heap.size + 1, 7, none⟩ = some (.int .i64 b.my) := V5_b.c 7 _ rfl
      have f5_b := V5_b.2.2; have L5_b := V5_b.lt; have N5_b := Nat.ne_of_gt L5_b; have M5_b := Nat.ne_of_lt L5_b
      have HV5_b := Lib.hid V5_b
      have q5_h_0 : w5.cell? ⟨w.heap.size + 1 + 1, 0, none⟩ = some (.int .i64 h.nx) := V5_h.c 0 _ rfl
      have q5_h_1 : w5.cell? ⟨w.heap.size + 1 + 1, 1, none⟩ = some (.int .i64 h.ny) := V5_h.c 1 _ rfl
      have q5_h_2 : w5.cell? ⟨w.heap.size + 1 + 1, 2, none⟩ = some (.int .i64 h.d) := V5_h.c 2 _ rfl
      have f5_h := V5_h.2.2; have L5_h := V5_h.lt; have N5_h := Nat.ne_of_gt L5_h; have M5_h := Nat.ne_of_lt L5_h
      have HV5_h := Lib.hid V5_h
      have q5_l_0 : w5.cell? ⟨w.heap.size + 1 + 1 + 1, 0, none⟩ = some (.int .i64 l) := V5_l.c 0 _ rfl
      have f5_l := V5_l.2.2; have L5_l := V5_l.lt; have N5_l := Nat.ne_of_gt L5_l; have M5_l := Nat.ne_of_lt L5_l
      have HV5_l := Lib.hid V5_l
      have q5_x_0 : w5.cell? ⟨w3.heap.size, 0, none⟩ = some (.int .i64 a.shape) := V5_x.c 0 _ rfl
      have q5_x_1 : w5.cell? ⟨w3.heap.size, 1, none⟩ = some (.int .i64 a.sx) := V5_x.c 1 _ rfl
      have q5_x_2 : w5.cell? ⟨w3.heap.size, 2, none⟩ = some (.int .i64 a.sy) := V5_x.c 2 _ rfl
      have q5_x_3 : w5.cell? ⟨w3.heap.size, 3, none⟩ = some (.int .i64 a.mass) := V5_x.c 3 _ rfl
      have q5_x_4 : w5.cell? ⟨w3.heap.size, 4, none⟩ = some (.int .i64 a.px) := V5_x.c 4 _ rfl
      have q5_x_5 : w5.cell? ⟨w3.heap.size, 5, none⟩ = some (.int .i64 a.py) := V5_x.c 5 _ rfl
      have q5_x_6 : w5.cell? ⟨w3.heap.size, 6, none⟩ = some (.int .i64 a.mx) := V5_x.c 6 _ rfl
      have q5_x_7 : w5.cell? ⟨w3.heap.size, 7, none⟩ = some (.int .i64 a.my) := V5_x.c 7 _ rfl
      have f5_x := V5_x.2.2; have L5_x := V5_x.lt; have N5_x := Nat.ne_of_gt L5_x; have M5_x := Nat.ne_of_lt L5_x
      have HV5_x := Lib.hid V5_x
      have q5_y_0 : w5.cell? ⟨w3.heap.size + 1, 0, none⟩ = some (.int .i64 b.shape) := V5_y.c 0 _ rfl
      have q5_y_1 : w5.cell? ⟨w3.heap.size + 1, 1, none⟩ = some (.int .i64 b.sx) := V5_y.c 1 _ rfl
      have q5_y_2 : w5.cell? ⟨w3.heap.size + 1, 2, none⟩ = some (.int .i64 b.sy) := V5_y.c 2 _ rfl
      have q5_y_3 : w5.cell? ⟨w3.heap.size + 1, 3, none⟩ = some (.int .i64 b.mass) := V5_y.c 3 _ rfl
      have q5_y_4 : w5.cell? ⟨w3.heap.size + 1, 4, none⟩ = some (.int .i64 b.px) := V5_y.c 4 _ rfl
      have q5_y_5 : w5.cell? ⟨w3.heap.size + 1, 5, none⟩ = some (.int .i64 b.py) := V5_y.c 5 _ rfl
      have q5_y_6 : w5.cell? ⟨w3.heap.size + 1, 6, none⟩ = some (.int .i64 b.mx) := V5_y.c 6 _ rfl
      have q5_y_7 : w5.cell? ⟨w3.heap.size + 1, 7, none⟩ = some (.int .i64 b.my) := V5_y.c 7 _ rfl
      have f5_y := V5_y.2.2; have L5_y := V5_y.lt; have N5_y := Nat.ne_of_gt L5_y; have M5_y := Nat.ne_of_lt L5_y
      have HV5_y := Lib.hid V5_y
      have q5_u_0 : w5.cell? ⟨w3.heap.size + 1 + 1, 0, none⟩ = some (.int .i64 0) := V5_u.c 0 _ rfl
      have q5_u_1 : w5.cell? ⟨w3.heap.size + 1 + 1, 1, none⟩ = some (.int .i64 0) := V5_u.c 1 _ rfl
      have q5_u_2 : w5.cell? ⟨w3.heap.size + 1 + 1, 2, none⟩ = some (.int .i64 0) := V5_u.c 2 _ rfl
      have q5_u_3 : w5.cell? ⟨w3.heap.size + 1 + 1, 3, none⟩ = some (.int .i64 0) := V5_u.c 3 _ rfl
      have q5_u_4 : w5.cell? ⟨w3.heap.size + 1 + 1, 4, none⟩ = some (.int .i64 0) := V5_u.c 4 _ rfl
      have q5_u_5 : w5.cell? ⟨w3.heap.size + 1 + 1, 5, none⟩ = some (.int .i64 0) := V5_u.c 5 _ rfl
      have q5_u_6 : w5.cell? ⟨w3.heap.size + 1 + 1, 6, none⟩ = some (.int .i64 0) := V5_u.c 6 _ rfl
      have q5_u_7 : w5.cell? ⟨w3.heap.size + 1 + 1, 7, none⟩ = some (.int .i64 0) := V5_u.c 7 _ rfl
      have f5_u := V5_u.2.2; have L5_u := V5_u.lt; have N5_u := Nat.ne_of_gt L5_u; have M5_u := Nat.ne_of_lt L5_u
      have HV5_u := Lib.hid V5_u
      have q5_v_0 : w5.cell? ⟨w3.heap.size + 1 + 1 + 1, 0, none⟩ = some (.int .i64 0) := V5_v.c 0 _ rfl
      have q5_v_1 : w5.cell? ⟨w3.heap.size + 1 + 1 + 1, 1, none⟩ = some (.int .i64 0) := V5_v.c 1 _ rfl
      have q5_v_2 : w5.cell? ⟨w3.heap.size + 1 + 1 + 1, 2, none⟩ = some (.int .i64 0) := V5_v.c 2 _ rfl
      have q5_v_3 : w5.cell? ⟨w3.heap.size + 1 + 1 + 1, 3, none⟩ = some (.int .i64 0) := V5_v.c 3 _ rfl
      have q5_v_4 : w5.cell? ⟨w3.heap.size + 1 + 1 + 1, 4, none⟩ = some (.int .i64 0) := V5_v.c 4 _ rfl
      have q5_v_5 : w5.cell? ⟨w3.heap.size + 1 + 1 + 1, 5, none⟩ = some (.int .i64 0) := V5_v.c 5 _ rfl
      have q5_v_6 : w5.cell? ⟨w3.heap.size + 1 + 1 + 1, 6, none⟩ = some (.int .i64 0) := V5_v.c 6 _ rfl
      have q5_v_7 : w5.cell? ⟨w3.heap.size + 1 + 1 + 1, 7, none⟩ = some (.int .i64 0) := V5_v.c 7 _ rfl
      have f5_v := V5_v.2.2; have L5_v := V5_v.lt; have N5_v := Nat.ne_of_gt L5_v; have M5_v := Nat.ne_of_lt L5_v
      have HV5_v := Lib.hid V5_v
      have S5 := G5.size; clear hb
      go_wp2_with fail
      go_ret
      exact ⟨rfl, by (repeat (with_reducible refine M.Below.drewN ?_ _)); go_grown⟩
    · skip
      have kb := bne_eq_false_iff_eq.2 h2
      obtain ⟨f1, f2⟩ := contact_fixed hP h1.out
      dsimp only at f1 f2
      rw [f1, f2 h2] at hP
      clear f1 f2
      obtain ⟨f1, f2⟩ := joint_fixed hQ h1.out
      dsimp only at f1 f2
      rw [f1, f2 h2] at hQ
      clear f1 f2
      replace hP := Lib.hid hP; replace hQ := Lib.hid hQ; clear h2
      go_enter Try.func10, Try.ntmps10
      go_wp2_with fail
      (with_reducible refine (C1.out _).mono ?_); rintro en w1 ⟨rfl, hb⟩
      have G1 : Below w.heap.size w w1 := Below.trans (by (repeat (with_reducible refine M.Below.drewN ?_ _)); go_grown) (hb.mono (by go_size))
      have V1_a : M.Var w1 (w.heap.size) #[.int .i64 a.shape, .int .i64 a.sx, .int .i64 a.sy, .int .i64 a.mass, .int .i64 a.px, .int .i64 a.py, .int .i64 a.mx, .int .i64 a.my] := M.Var.mono (by (repeat (first | (with_reducible assumption) | (with_reducible apply M.var_set45) | (with_reducible refine M.var_alloc' _ _ _ ?_; first | rfl | (simp [go_sem]; done)) | (with_reducible refine M.Var.alloc ?_ _) | (with_reducible refine M.Var.drewN ?_ _) | (with_reducible refine M.Var.drew ?_) | (with_reducible refine M.Var.far ?_ _ _ ?hFar; case hFar => (first | omega | ((try simp [go_sem]) <;> omega))) | fail))) hb
      have V1_b : M.Var w1 (w.heap.size + 1) #[.int .i64 b.shape, .int .i64 b.sx, .int .i64 b.sy, .int .i64 b.mass, .int .i64 b.px, .int .i64 b.py, .int .i64 b.mx, .int .i64 b.my] := M.Var.mono (by (repeat (first | (with_reducible assumption) | (with_reducible apply M.var_set45) | (with_reducible refine M.var_alloc' _ _ _ ?_; first | rfl | (simp [go_sem]; done)) | (with_reducible refine M.Var.alloc ?_ _) | (with_reducible refine M.Var.drewN ?_ _) | (with_reducible refine M.Var.drew ?_) | (with_reducible refine M.Var.far ?_ _ _ ?hFar; case hFar => (first | omega | ((try simp [go_sem]) <;> omega))) | fail))) hb
      have V1_h : M.Var w1 (w.heap.size + 1 + 1) #[.int .i64 h.nx, .int .i64 h.ny, .int .i64 h.d] := M.Var.mono (by (repeat (first | (with_reducible assumption) | (with_reducible apply M.var_set45) | (with_reducible refine M.var_alloc' _ _ _ ?_; first | rfl | (simp [go_sem]; done)) | (with_reducible refine M.Var.alloc ?_ _) | (with_reducible refine M.Var.drewN ?_ _) | (with_reducible refine M.Var.drew ?_) | (with_reducible refine M.Var.far ?_ _ _ ?hFar; case hFar => (first | omega | ((try simp [go_sem]) <;> omega))) | fail))) hb
      have V1_l : M.Var w1 (w.heap.size + 1 + 1 + 1) #[.int .i64 l] := M.Var.mono (by (repeat (first | (with_reducible assumption) | (with_reducible apply M.var_set45) | (with_reducible refine M.var_alloc' _ _ _ ?_; first | rfl | (simp [go_sem]; done)) | (with_reducible refine M.Var.alloc ?_ _) | (with_reducible refine M.Var.drewN ?_ _) | (with_reducible refine M.Var.drew ?_) | (with_reducible refine M.Var.far ?_ _ _ ?hFar; case hFar => (first | omega | ((try simp [go_sem]) <;> omega))) | fail))) hb
      have q1_a_0 : w1.cell? ⟨w.heap.size, 0, none⟩ = some (.int .i64 a.shape) := V1_a.c 0 _ rfl
      have q1_a_1 : w1.cell? ⟨w.heap.size, 1, none⟩ = some (.int .i64 a.sx) := V1_a.c 1 _ rfl
      have q1_a_2 : w1.cell? ⟨w.heap.size, 2, none⟩ = some (.int .i64 a.sy) := V1_a.c 2 _ rfl
      have q1_a_3 : w1.cell? ⟨w.heap.size, 3, none⟩ = some (.int .i64 a.mass) := V1_a.c 3 _ rfl
      have q1_a_4 : w1.cell? ⟨w.heap.size, 4, none⟩ = some (.int .i64 a.px) := V1_a.c 4 _ rfl
      have q1_a_5 : w1.cell? ⟨w.heap.size, 5, none⟩ = some (.int .i64 a.py) := V1_a.c 5 _ rfl
      have q1_a_6 : w1.cell? ⟨w.heap.size, 6, none⟩ = some (.int .i64 a.mx) := V1_a.c 6 _ rfl
      have q1_a_7 : w1.cell? ⟨w.heap.size, 7, none⟩ = some (.int .i64 a.my) := V1_a.c 7 _ rfl
      have f1_a := V1_a.2.2; have L1_a := V1_a.lt; have N1_a := Nat.ne_of_gt L1_a; have M1_a := Nat.ne_of_lt L1_a
      have HV1_a := Lib.hid V1_a
      have q1_b_0 : w1.cell? ⟨w.heap.size + 1, 0, none⟩ = some (.int .i64 b.shape) := V1_b.c 0 _ rfl
      have q1_b_1 : w1.cell? ⟨w.heap.size + 1, 1, none⟩ = some (.int .i64 b.sx) := V1_b.c 1 _ rfl
      have q1_b_2 : w1.cell? ⟨w.heap.size + 1, 2, none⟩ = some (.int .i64 b.sy) := V1_b.c 2 _ rfl
      have q1_b_3 : w1.cell? ⟨w.heap.size + 1, 3, none⟩ = some (.int .i64 b.mass) := V1_b.c 3 _ rfl
      have q1_b_4 : w1.cell? ⟨w.heap.size + 1, 4, none⟩ = some (.int .i64 b.px) := V1_b.c 4 _ rfl
      have q1_b_5 : w1.cell? ⟨w.heap.size + 1, 5, none⟩ = some (.int .i64 b.py) := V1_b.c 5 _ rfl
      have q1_b_6 : w1.cell? ⟨w.heap.size + 1, 6, none⟩ = some (.int .i64 b.mx) := V1_b.c 6 _ rfl
      have q1_b_7 : w1.cell? ⟨w.heap.size + 1, 7, none⟩ = some (.int .i64 b.my) := V1_b.c 7 _ rfl
      have f1_b := V1_b.2.2; have L1_b := V1_b.lt; have N1_b := Nat.ne_of_gt L1_b; have M1_b := Nat.ne_of_lt L1_b
      have HV1_b := Lib.hid V1_b
      have q1_h_0 : w1.cell? ⟨w.heap.size + 1 + 1, 0, none⟩ = some (.int .i64 h.nx) := V1_h.c 0 _ rfl
      have q1_h_1 : w1.cell? ⟨w.heap.size + 1 + 1, 1, none⟩ = some (.int .i64 h.ny) := V1_h.c 1 _ rfl
      have q1_h_2 : w1.cell? ⟨w.heap.size + 1 + 1, 2, none⟩ = some (.int .i64 h.d) := V1_h.c 2 _ rfl
      have f1_h := V1_h.2.2; have L1_h := V1_h.lt; have N1_h := Nat.ne_of_gt L1_h; have M1_h := Nat.ne_of_lt L1_h
      have HV1_h := Lib.hid V1_h
      have q1_l_0 : w1.cell? ⟨w.heap.size + 1 + 1 + 1, 0, none⟩ = some (.int .i64 l) := V1_l.c 0 _ rfl
      have f1_l := V1_l.2.2; have L1_l := V1_l.lt; have N1_l := Nat.ne_of_gt L1_l; have M1_l := Nat.ne_of_lt L1_l
      have HV1_l := Lib.hid V1_l
      have S1 := G1.size; clear hb
      go_wp2_with fail
      (with_reducible refine (C2.out _).mono ?_); rintro en w2 ⟨rfl, hb⟩
      have G2 : Below w.heap.size w w2 := Below.trans (by (repeat (with_reducible refine M.Below.drewN ?_ _)); go_grown) (hb.mono (by go_size))
      have V2_a : M.Var w2 (w.heap.size) #[.int .i64 a.shape, .int .i64 a.sx, .int .i64 a.sy, .int .i64 a.mass, .int .i64 a.px, .int .i64 a.py, .int .i64 a.mx, .int .i64 a.my] := M.Var.mono (by (repeat (first | (with_reducible assumption) | (with_reducible apply M.var_set45) | (with_reducible refine M.var_alloc' _ _ _ ?_; first | rfl | (simp [go_sem]; done)) | (with_reducible refine M.Var.alloc ?_ _) | (with_reducible refine M.Var.drewN ?_ _) | (with_reducible refine M.Var.drew ?_) | (with_reducible refine M.Var.far ?_ _ _ ?hFar; case hFar => (first | omega | ((try simp [go_sem]) <;> omega))) | fail))) hb
      have V2_b : M.Var w2 (w.heap.size + 1) #[.int .i64 b.shape, .int .i64 b.sx, .int .i64 b.sy, .int .i64 b.mass, .int .i64 b.px, .int .i64 b.py, .int .i64 b.mx, .int .i64 b.my] := M.Var.mono (by (repeat (first | (with_reducible assumption) | (with_reducible apply M.var_set45) | (with_reducible refine M.var_alloc' _ _ _ ?_; first | rfl | (simp [go_sem]; done)) | (with_reducible refine M.Var.alloc ?_ _) | (with_reducible refine M.Var.drewN ?_ _) | (with_reducible refine M.Var.drew ?_) | (with_reducible refine M.Var.far ?_ _ _ ?hFar; case hFar => (first | omega | ((try simp [go_sem]) <;> omega))) | fail))) hb
      have V2_h : M.Var w2 (w.heap.size + 1 + 1) #[.int .i64 h.nx, .int .i64 h.ny, .int .i64 h.d] := M.Var.mono (by (repeat (first | (with_reducible assumption) | (with_reducible apply M.var_set45) | (with_reducible refine M.var_alloc' _ _ _ ?_; first | rfl | (simp [go_sem]; done)) | (with_reducible refine M.Var.alloc ?_ _) | (with_reducible refine M.Var.drewN ?_ _) | (with_reducible refine M.Var.drew ?_) | (with_reducible refine M.Var.far ?_ _ _ ?hFar; case hFar => (first | omega | ((try simp [go_sem]) <;> omega))) | fail))) hb
      have V2_l : M.Var w2 (w.heap.size + 1 + 1 + 1) #[.int .i64 l] := M.Var.mono (by (repeat (first | (with_reducible assumption) | (with_reducible apply M.var_set45) | (with_reducible refine M.var_alloc' _ _ _ ?_; first | rfl | (simp [go_sem]; done)) | (with_reducible refine M.Var.alloc ?_ _) | (with_reducible refine M.Var.drewN ?_ _) | (with_reducible refine M.Var.drew ?_) | (with_reducible refine M.Var.far ?_ _ _ ?hFar; case hFar => (first | omega | ((try simp [go_sem]) <;> omega))) | fail))) hb
      have q2_a_0 : w2.cell? ⟨w.heap.size, 0, none⟩ = some (.int .i64 a.shape) := V2_a.c 0 _ rfl
      have q2_a_1 : w2.cell? ⟨w.heap.size, 1, none⟩ = some (.int .i64 a.sx) := V2_a.c 1 _ rfl
      have q2_a_2 : w2.cell? ⟨w.heap.size, 2, none⟩ = some (.int .i64 a.sy) := V2_a.c 2 _ rfl
      have q2_a_3 : w2.cell? ⟨w.heap.size, 3, none⟩ = some (.int .i64 a.mass) := V2_a.c 3 _ rfl
      have q2_a_4 : w2.cell? ⟨w.heap.size, 4, none⟩ = some (.int .i64 a.px) := V2_a.c 4 _ rfl
      have q2_a_5 : w2.cell? ⟨w.heap.size, 5, none⟩ = some (.int .i64 a.py) := V2_a.c 5 _ rfl
      have q2_a_6 : w2.cell? ⟨w.heap.size, 6, none⟩ = some (.int .i64 a.mx) := V2_a.c 6 _ rfl
      have q2_a_7 : w2.cell? ⟨w.heap.size, 7, none⟩ = some (.int .i64 a.my) := V2_a.c 7 _ rfl
      have f2_a := V2_a.2.2; have L2_a := V2_a.lt; have N2_a := Nat.ne_of_gt L2_a; have M2_a := Nat.ne_of_lt L2_a
      have HV2_a := Lib.hid V2_a
      have q2_b_0 : w2.cell? ⟨w.heap.size + 1, 0, none⟩ = some (.int .i64 b.shape) := V2_b.c 0 _ rfl
      have q2_b_1 : w2.cell? ⟨w.heap.size + 1, 1, none⟩ = some (.int .i64 b.sx) := V2_b.c 1 _ rfl
      have q2_b_2 : w2.cell? ⟨w.heap.size + 1, 2, none⟩ = some (.int .i64 b.sy) := V2_b.c 2 _ rfl
      have q2_b_3 : w2.cell? ⟨w.heap.size + 1, 3, none⟩ = some (.int .i64 b.mass) := V2_b.c 3 _ rfl
      have q2_b_4 : w2.cell? ⟨w.heap.size + 1, 4, none⟩ = some (.int .i64 b.px) := V2_b.c 4 _ rfl
      have q2_b_5 : w2.cell? ⟨w.heap.size + 1, 5, none⟩ = some (.int .i64 b.py) := V2_b.c 5 _ rfl
      have q2_b_6 : w2.cell? ⟨w.heap.size + 1, 6, none⟩ = some (.int .i64 b.mx) := V2_b.c 6 _ rfl
      have q2_b_7 : w2.cell? ⟨w.heap.size + 1, 7, none⟩ = some (.int .i64 b.my) := V2_b.c 7 _ rfl
      have f2_b := V2_b.2.2; have L2_b := V2_b.lt; have N2_b := Nat.ne_of_gt L2_b; have M2_b := Nat.ne_of_lt L2_b
      have HV2_b := Lib.hid V2_b
      have q2_h_0 : w2.cell? ⟨w.heap.size + 1 + 1, 0, none⟩ = some (.int .i64 h.nx) := V2_h.c 0 _ rfl
      have q2_h_1 : w2.cell? ⟨w.heap.size + 1 + 1, 1, none⟩ = some (.int .i64 h.ny) := V2_h.c 1 _ rfl
      have q2_h_2 : w2.cell? ⟨w.heap.size + 1 + 1, 2, none⟩ = some (.int .i64 h.d) := V2_h.c 2 _ rfl
      have f2_h := V2_h.2.2; have L2_h := V2_h.lt; have N2_h := Nat.ne_of_gt L2_h; have M2_h := Nat.ne_of_lt L2_h
      have HV2_h := Lib.hid V2_h
      have q2_l_0 : w2.cell? ⟨w.heap.size + 1 + 1 + 1, 0, none⟩ = some (.int .i64 l) := V2_l.c 0 _ rfl
      have f2_l := V2_l.2.2; have L2_l := V2_l.lt; have N2_l := Nat.ne_of_gt L2_l; have M2_l := Nat.ne_of_lt L2_l
      have HV2_l := Lib.hid V2_l
      have S2 := G2.size; clear hb
      go_wp2_with fail
      (with_reducible refine (c0.out _).mono ?_); rintro en w3 ⟨rfl, hb⟩
      have G3 : Below w.heap.size w w3 := Below.trans (by (repeat (with_reducible refine M.Below.drewN ?_ _)); go_grown) (hb.mono (by go_size))
      have V3_a : M.Var w3 (w.heap.size) #[.int .i64 a.shape, .int .i64 a.sx, .int .i64 a.sy, .int .i64 a.mass, .int .i64 a.px, .int .i64 a.py, .int .i64 a.mx, .int .i64 a.my] := M.Var.mono (by (repeat (first | (with_reducible assumption) | (with_reducible apply M.var_set45) | (with_reducible refine M.var_alloc' _ _ _ ?_; first | rfl | (simp [go_sem]; done)) | (with_reducible refine M.Var.alloc ?_ _) | (with_reducible refine M.Var.drewN ?_ _) | (with_reducible refine M.Var.drew ?_) | (with_reducible refine M.Var.far ?_ _ _ ?hFar; case hFar => (first | omega | ((try simp [go_sem]) <;> omega))) | fail))) hb
      have V3_b : M.Var w3 (w.heap.size + 1) #[.int .i64 b.shape, .int .i64 b.sx, .int .i64 b.sy, .int .i64 b.mass, .int .i64 b.px, .int .i64 b.py, .int .i64 b.mx, .int .i64 b.my] := M.Var.mono (by (repeat (first | (with_reducible assumption) | (with_reducible apply M.var_set45) | (with_reducible refine M.var_alloc' _ _ _ ?_; first | rfl | (simp [go_sem]; done)) | (with_reducible refine M.Var.alloc ?_ _) | (with_reducible refine M.Var.drewN ?_ _) | (with_reducible refine M.Var.drew ?_) | (with_reducible refine M.Var.far ?_ _ _ ?hFar; case hFar => (first | omega | ((try simp [go_sem]) <;> omega))) | fail))) hb
      have V3_h : M.Var w3 (w.heap.size + 1 + 1) #[.int .i64 h.nx, .int .i64 h.ny, .int .i64 h.d] := M.Var.mono (by (repeat (first | (with_reducible assumption) | (with_reducible apply M.var_set45) | (with_reducible refine M.var_alloc' _ _ _ ?_; first | rfl | (simp [go_sem]; done)) | (with_reducible refine M.Var.alloc ?_ _) | (with_reducible refine M.Var.drewN ?_ _) | (with_reducible refine M.Var.drew ?_) | (with_reducible refine M.Var.far ?_ _ _ ?hFar; case hFar => (first | omega | ((try simp [go_sem]) <;> omega))) | fail))) hb
      have V3_l : M.Var w3 (w.heap.size + 1 + 1 + 1) #[.int .i64 l] := M.Var.mono (by (repeat (first | (with_reducible assumption) | (with_reducible apply M.var_set45) | (with_reducible refine M.var_alloc' _ _ _ ?_; first | rfl | (simp [go_sem]; done)) | (with_reducible refine M.Var.alloc ?_ _) | (with_reducible refine M.Var.drewN ?_ _) | (with_reducible refine M.Var.drew ?_) | (with_reducible refine M.Var.far ?_ _ _ ?hFar; case hFar => (first | omega | ((try simp [go_sem]) <;> omega))) | fail))) hb
      have q3_a_0 : w3.cell? ⟨w.heap.size, 0, none⟩ = some (.int .i64 a.shape) := V3_a.c 0 _ rfl
      have q3_a_1 : w3.cell? ⟨w.heap.size, 1, none⟩ = some (.int .i64 a.sx) := V3_a.c 1 _ rfl
      have q3_a_2 : w3.cell? ⟨w.heap.size, 2, none⟩ = some (.int .i64 a.sy) := V3_a.c 2 _ rfl
      have q3_a_3 : w3.cell? ⟨w.heap.size, 3, none⟩ = some (.int .i64 a.mass) := V3_a.c 3 _ rfl
      have q3_a_4 : w3.cell? ⟨w.heap.size, 4, none⟩ = some (.int .i64 a.px) := V3_a.c 4 _ rfl
      have q3_a_5 : w3.cell? ⟨w.heap.size, 5, none⟩ = some (.int .i64 a.py) := V3_a.c 5 _ rfl
      have q3_a_6 : w3.cell? ⟨w.heap.size, 6, none⟩ = some (.int .i64 a.mx) := V3_a.c 6 _ rfl
      have q3_a_7 : w3.cell? ⟨w.heap.size, 7, none⟩ = some (.int .i64 a.my) := V3_a.c 7 _ rfl
      have f3_a := V3_a.2.2; have L3_a := V3_a.lt; have N3_a := Nat.ne_of_gt L3_a; have M3_a := Nat.ne_of_lt L3_a
      have HV3_a := Lib.hid V3_a
      have q3_b_0 : w3.cell? ⟨w.heap.size + 1, 0, none⟩ = some (.int .i64 b.shape) := V3_b.c 0 _ rfl
      have q3_b_1 : w3.cell? ⟨w.heap.size + 1, 1, none⟩ = some (.int .i64 b.sx) := V3_b.c 1 _ rfl
      have q3_b_2 : w3.cell? ⟨w.heap.size + 1, 2, none⟩ = some (.int .i64 b.sy) := V3_b.c 2 _ rfl
      have q3_b_3 : w3.cell? ⟨w.heap.size + 1, 3, none⟩ = some (.int .i64 b.mass) := V3_b.c 3 _ rfl
      have q3_b_4 : w3.cell? ⟨w.heap.size + 1, 4, none⟩ = some (.int .i64 b.px) := V3_b.c 4 _ rfl
      have q3_b_5 : w3.cell? ⟨w.heap.size + 1, 5, none⟩ = some (.int .i64 b.py) := V3_b.c 5 _ rfl
      have q3_b_6 : w3.cell? ⟨w.heap.size + 1, 6, none⟩ = some (.int .i64 b.mx) := V3_b.c 6 _ rfl
      have q3_b_7 : w3.cell? ⟨w.heap.size + 1, 7, none⟩ = some (.int .i64 b.my) := V3_b.c 7 _ rfl
      have f3_b := V3_b.2.2; have L3_b := V3_b.lt; have N3_b := Nat.ne_of_gt L3_b; have M3_b := Nat.ne_of_lt L3_b
      have HV3_b := Lib.hid V3_b
      have q3_h_0 : w3.cell? ⟨w.heap.size + 1 + 1, 0, none⟩ = some (.int .i64 h.nx) := V3_h.c 0 _ rfl
      have q3_h_1 : w3.cell? ⟨w.heap.size + 1 + 1, 1, none⟩ = some (.int .i64 h.ny) := V3_h.c 1 _ rfl
      have q3_h_2 : w3.cell? ⟨w.heap.size + 1 + 1, 2, none⟩ = some (.int .i64 h.d) := V3_h.c 2 _ rfl
      have f3_h := V3_h.2.2; have L3_h := V3_h.lt; have N3_h := Nat.ne_of_gt L3_h; have M3_h := Nat.ne_of_lt L3_h
      have HV3_h := Lib.hid V3_h
      have q3_l_0 : w3.cell? ⟨w.heap.size + 1 + 1 + 1, 0, none⟩ = some (.int .i64 l) := V3_l.c 0 _ rfl
      have f3_l := V3_l.2.2; have L3_l := V3_l.lt; have N3_l := Nat.ne_of_gt L3_l; have M3_l := Nat.ne_of_lt L3_l
      have HV3_l := Lib.hid V3_l
      have S3 := G3.size; clear hb
      go_wp2_with fail
      refine (try_c 37 #[.pointer (some ⟨w.heap.size, 0, none⟩), .pointer (some ⟨w.heap.size + 1, 0, none⟩), .pointer (some ⟨w.heap.size + 1 + 1, 0, none⟩), .pointer (some ⟨w3.heap.size, 0, none⟩), .pointer (some ⟨w3.heap.size + 1, 0, none⟩)] _ (0) (usBd (w3.heap.size) (.ok a) ++ usBd (w3.heap.size + 1) (.ok b)) (fun _ => rfl) ?_ ?_).mono ?_
      · intro u hu; (try simp only [List.mem_append] at hu); (repeat' (obtain hu | hu := (hu : _ ∨ _))); all_goals (first | rw [M.usBx_block hu] | rw [M.usV_block hu] | rw [M.usI_block hu] | rw [M.usHt_block hu] | rw [M.usBd_block hu] | rw [M.usB_block hu] | rw [M.cell_block1 hu] | (exfalso; simp at hu; done)); all_goals ((try simp [go_sem]) <;> omega)
      · intro w1' hb; exact (cloCoF _ _ _ _ _ a ha b hB h hh _ _ _ _ _ _ _ _ _ _ _ _ _ _ _ _ (.ok (a, b)) hP.out w1' (M.Var.mono (b := w.heap.size) (cs := #[.int .i64 a.shape, .int .i64 a.sx, .int .i64 a.sy, .int .i64 a.mass, .int .i64 a.px, .int .i64 a.py, .int .i64 a.mx, .int .i64 a.my]) (by (repeat (first | (with_reducible assumption) | (with_reducible apply M.var_set45) | (with_reducible refine M.var_alloc' _ _ _ ?_; first | rfl | (simp [go_sem]; done)) | (with_reducible refine M.Var.alloc ?_ _) | (with_reducible refine M.Var.drewN ?_ _) | (with_reducible refine M.Var.drew ?_) | (with_reducible refine M.Var.far ?_ _ _ ?hFar; case hFar => (first | omega | ((try simp [go_sem]) <;> omega))) | fail))) hb) (M.Var.mono (b := w.heap.size + 1) (cs := #[.int .i64 b.shape, .int .i64 b.sx, .int .i64 b.sy, .int .i64 b.mass, .int .i64 b.px, .int .i64 b.py, .int .i64 b.mx, .int .i64 b.my]) (by (repeat (first | (with_reducible assumption) | (with_reducible apply M.var_set45) | (with_reducible refine M.var_alloc' _ _ _ ?_; first | rfl | (simp [go_sem]; done)) | (with_reducible refine M.Var.alloc ?_ _) | (with_reducible refine M.Var.drewN ?_ _) | (with_reducible refine M.Var.drew ?_) | (with_reducible refine M.Var.far ?_ _ _ ?hFar; case hFar => (first | omega | ((try simp [go_sem]) <;> omega))) | fail))) hb) (M.Var.mono (b := w.heap.size + 1 + 1) (cs := #[.int .i64 h.nx, .int .i64 h.ny, .int .i64 h.d]) (by (repeat (first | (with_reducible assumption) | (with_reducible apply M.var_set45) | (with_reducible refine M.var_alloc' _ _ _ ?_; first | rfl | (simp [go_sem]; done)) | (with_reducible refine M.Var.alloc ?_ _) | (with_reducible refine M.Var.drewN ?_ _) | (with_reducible refine M.Var.drew ?_) | (with_reducible refine M.Var.far ?_ _ _ ?hFar; case hFar => (first | omega | ((try simp [go_sem]) <;> omega))) | fail))) hb) (M.Var.mono (b := w3.heap.size) (cs := #[.int .i64 0, .int .i64 0, .int .i64 0, .int .i64 0, .int .i64 0, .int .i64 0, .int .i64 0, .int .i64 0]) (by (repeat (first | (with_reducible assumption) | (with_reducible apply M.var_set45) | (with_reducible refine M.var_alloc' _ _ _ ?_; first | rfl | (simp [go_sem]; done)) | (with_reducible refine M.Var.alloc ?_ _) | (with_reducible refine M.Var.drewN ?_ _) | (with_reducible refine M.Var.drew ?_) | (with_reducible refine M.Var.far ?_ _ _ ?hFar; case hFar => (first | omega | ((try simp [go_sem]) <;> omega))) | fail))) hb) (M.Var.mono (b := w3.heap.size + 1) (cs := #[.int .i64 0, .int .i64 0, .int .i64 0, .int .i64 0, .int .i64 0, .int .i64 0, .int .i64 0, .int .i64 0]) (by (repeat (first | (with_reducible assumption) | (with_reducible apply M.var_set45) | (with_reducible refine M.var_alloc' _ _ _ ?_; first | rfl | (simp [go_sem]; done)) | (with_reducible refine M.Var.alloc ?_ _) | (with_reducible refine M.Var.drewN ?_ _) | (with_reducible refine M.Var.drew ?_) | (with_reducible refine M.Var.far ?_ _ _ ?hFar; case hFar => (first | omega | ((try simp [go_sem]) <;> omega))) | fail))) hb) (by omega)).mono fun e w' h => h
      rintro en w4 ⟨rfl, hb⟩
      have G4 : Below w.heap.size w w4 := Below.trans (M.below_sets_own (usBd (w3.heap.size) (.ok a) ++ usBd (w3.heap.size + 1) (.ok b)) (by (repeat (with_reducible refine M.Below.drewN ?_ _)); go_grown) (by intro u hu; (try simp only [List.mem_append] at hu); (repeat' (obtain hu | hu := (hu : _ ∨ _))); all_goals (first | rw [M.usBx_block hu] | rw [M.usV_block hu] | rw [M.usI_block hu] | rw [M.usHt_block hu] | rw [M.usBd_block hu] | rw [M.usB_block hu] | rw [M.cell_block1 hu] | (exfalso; simp at hu; done)); all_goals ((try simp [go_sem]) <;> omega))) (hb.mono (by go_size))
      have VV4 : M.Var w4 (w.heap.size) #[.int .i64 a.shape, .int .i64 a.sx, .int .i64 a.sy, .int .i64 a.mass, .int .i64 a.px, .int .i64 a.py, .int .i64 a.mx, .int .i64 a.my] ∧ M.Var w4 (w.heap.size + 1) #[.int .i64 b.shape, .int .i64 b.sx, .int .i64 b.sy, .int .i64 b.mass, .int .i64 b.px, .int .i64 b.py, .int .i64 b.mx, .int .i64 b.my] ∧ M.Var w4 (w.heap.size + 1 + 1) #[.int .i64 h.nx, .int .i64 h.ny, .int .i64 h.d] ∧ M.Var w4 (w.heap.size + 1 + 1 + 1) #[.int .i64 l] ∧ M.Var w4 (w3.heap.size + 1 + 1) #[.int .i64 0, .int .i64 0, .int .i64 0, .int .i64 0, .int .i64 0, .int .i64 0, .int .i64 0, .int .i64 0] ∧ M.Var w4 (w3.heap.size + 1 + 1 + 1) #[.int .i64 0, .int .i64 0, .int .i64 0, .int .i64 0, .int .i64 0, .int .i64 0, .int .i64 0, .int .i64 0] := by refine ⟨?_, ?_, ?_, ?_, ?_, ?_⟩ <;> exact M.Var.mono' (u := M.sets _ (usBd (w3.heap.size) (.ok a) ++ usBd (w3.heap.size + 1) (.ok b))) (by (try simp only [M.sets_append]); exact (M.var_sets_far (usBd (w3.heap.size + 1) (.ok b)) (M.var_sets_far (usBd (w3.heap.size) (.ok a)) (by (repeat (first | (with_reducible assumption) | (with_reducible apply M.var_set45) | (with_reducible refine M.var_alloc' _ _ _ ?_; first | rfl | (simp [go_sem]; done)) | (with_reducible refine M.Var.alloc ?_ _) | (with_reducible refine M.Var.drewN ?_ _) | (with_reducible refine M.Var.drew ?_) | (with_reducible refine M.Var.far ?_ _ _ ?hFar; case hFar => (first | omega | ((try simp [go_sem]) <;> omega))) | fail))) (by intro u hu; all_goals (first | rw [M.usBx_block hu] | rw [M.usV_block hu] | rw [M.usI_block hu] | rw [M.usHt_block hu] | rw [M.usBd_block hu] | rw [M.usB_block hu] | rw [M.cell_block1 hu] | (exfalso; simp at hu; done)); all_goals ((try simp [go_sem]) <;> omega))) (by intro u hu; all_goals (first | rw [M.usBx_block hu] | rw [M.usV_block hu] | rw [M.usI_block hu] | rw [M.usHt_block hu] | rw [M.usBd_block hu] | rw [M.usB_block hu] | rw [M.cell_block1 hu] | (exfalso; simp at hu; done)); all_goals ((try simp [go_sem]) <;> omega)))) (M.sets_size _ _) hb
      obtain ⟨V4_a, V4_b, V4_h, V4_l, V4_u, V4_v⟩ := VV4
      have V4_x : M.Var w4 (w3.heap.size) #[.int .i64 a.shape, .int .i64 a.sx, .int .i64 a.sy, .int .i64 a.mass, .int .i64 a.px, .int .i64 a.py, .int .i64 a.mx, .int .i64 a.my] := M.Var.mono' (u := M.sets _ (usBd (w3.heap.size) (.ok a) ++ usBd (w3.heap.size + 1) (.ok b))) (by (try simp only [M.sets_append]); exact (M.var_sets_far (usBd (w3.heap.size + 1) (.ok b)) (M.var_setBd (by (repeat (first | (with_reducible assumption) | (with_reducible apply M.var_set45) | (with_reducible refine M.var_alloc' _ _ _ ?_; first | rfl | (simp [go_sem]; done)) | (with_reducible refine M.Var.alloc ?_ _) | (with_reducible refine M.Var.drewN ?_ _) | (with_reducible refine M.Var.drew ?_) | (with_reducible refine M.Var.far ?_ _ _ ?hFar; case hFar => (first | omega | ((try simp [go_sem]) <;> omega))) | fail)) : M.Var _ (w3.heap.size) #[.int .i64 0, .int .i64 0, .int .i64 0, .int .i64 0, .int .i64 0, .int .i64 0, .int .i64 0, .int .i64 0]) _ _ _ _ _ _ _ _) (by intro u hu; all_goals (first | rw [M.usBx_block hu] | rw [M.usV_block hu] | rw [M.usI_block hu] | rw [M.usHt_block hu] | rw [M.usBd_block hu] | rw [M.usB_block hu] | rw [M.cell_block1 hu] | (exfalso; simp at hu; done)); all_goals ((try simp [go_sem]) <;> omega)))) (M.sets_size _ _) hb
      have V4_y : M.Var w4 (w3.heap.size + 1) #[.int .i64 b.shape, .int .i64 b.sx, .int .i64 b.sy, .int .i64 b.mass, .int .i64 b.px, .int .i64 b.py, .int .i64 b.mx, .int .i64 b.my] := M.Var.mono' (u := M.sets _ (usBd (w3.heap.size) (.ok a) ++ usBd (w3.heap.size + 1) (.ok b))) (by (try simp only [M.sets_append]); exact (M.var_setBd (M.var_sets_far (usBd (w3.heap.size) (.ok a)) (by (repeat (first | (with_reducible assumption) | (with_reducible apply M.var_set45) | (with_reducible refine M.var_alloc' _ _ _ ?_; first | rfl | (simp [go_sem]; done)) | (with_reducible refine M.Var.alloc ?_ _) | (with_reducible refine M.Var.drewN ?_ _) | (with_reducible refine M.Var.drew ?_) | (with_reducible refine M.Var.far ?_ _ _ ?hFar; case hFar => (first | omega | ((try simp [go_sem]) <;> omega))) | fail)) : M.Var _ (w3.heap.size + 1) #[.int .i64 0, .int .i64 0, .int .i64 0, .int .i64 0, .int .i64 0, .int .i64 0, .int .i64 0, .int .i64 0]) (by intro u hu; all_goals (first | rw [M.usBx_block hu] | rw [M.usV_block hu] | rw [M.usI_block hu] | rw [M.usHt_block hu] | rw [M.usBd_block hu] | rw [M.usB_block hu] | rw [M.cell_block1 hu] | (exfalso; simp at hu; done)); all_goals ((try simp [go_sem]) <;> omega))) _ _ _ _ _ _ _ _)) (M.sets_size _ _) hb
      have q4_a_0 : w4.cell? ⟨w.heap.size, 0, none⟩ = some (.int .i64 a.shape) := V4_a.c 0 _ rfl
      have q4_a_1 : w4.cell? ⟨w.heap.size, 1, none⟩ = some (.int .i64 a.sx) := V4_a.c 1 _ rfl
      have q4_a_2 : w4.cell? ⟨w.heap.size, 2, none⟩ = some (.int .i64 a.sy) := V4_a.c 2 _ rfl
      have q4_a_3 : w4.cell? ⟨w.heap.size, 3, none⟩ = some (.int .i64 a.mass) := V4_a.c 3 _ rfl
      have q4_a_4 : w4.cell? ⟨w.heap.size, 4, none⟩ = some (.int .i64 a.px) := V4_a.c 4 _ rfl
      have q4_a_5 : w4.cell? ⟨w.heap.size, 5, none⟩ = some (.int .i64 a.py) := V4_a.c 5 _ rfl
      have q4_a_6 : w4.cell? ⟨w.heap.size, 6, none⟩ = some (.int .i64 a.mx) := V4_a.c 6 _ rfl
      have q4_a_7 : w4.cell? ⟨w.heap.size, 7, none⟩ = some (.int .i64 a.my) := V4_a.c 7 _ rfl
      have f4_a := V4_a.2.2; have L4_a := V4_a.lt; have N4_a := Nat.ne_of_gt L4_a; have M4_a := Nat.ne_of_lt L4_a
      have HV4_a := Lib.hid V4_a
      have q4_b_0 : w4.cell? ⟨w.heap.size + 1, 0, none⟩ = some (.int .i64 b.shape) := V4_b.c 0 _ rfl
      have q4_b_1 : w4.cell? ⟨w.heap.size + 1, 1, none⟩ = some (.int .i64 b.sx) := V4_b.c 1 _ rfl
      have q4_b_2 : w4.cell? ⟨w.heap.size + 1, 2, none⟩ = some (.int .i64 b.sy) := V4_b.c 2 _ rfl
      have q4_b_3 : w4.cell? ⟨w.heap.size + 1, 3, none⟩ = some (.int .i64 b.mass) := V4_b.c 3 _ rfl
      have q4_b_4 : w4.cell? ⟨w.heap.size + 1, 4, none⟩ = some (.int .i64 b.px) := V4_b.c 4 _ rfl
      have q4_b_5 : w4.cell? ⟨w.heap.size + 1, 5, none⟩ = some (.int .i64 b.py) := V4_b.c 5 _ rfl
      have q4_b_6 : w4.cell? ⟨w.heap.size + 1, 6, none⟩ = some (.int .i64 b.mx) := V4_b.c 6 _ rfl
      have q4_b_7 : w4.cell? ⟨w.heap.size + 1, 7, none⟩ = some (.int .i64 b.my) := V4_b.c 7 _ rfl
      have f4_b := V4_b.2.2; have L4_b := V4_b.lt; have N4_b := Nat.ne_of_gt L4_b; have M4_b := Nat.ne_of_lt L4_b
      have HV4_b := Lib.hid V4_b
      have q4_h_0 : w4.cell? ⟨w.heap.size + 1 + 1, 0, none⟩ = some (.int .i64 h.nx) := V4_h.c 0 _ rfl
      have q4_h_1 : w4.cell? ⟨w.heap.size + 1 + 1, 1, none⟩ = some (.int .i64 h.ny) := V4_h.c 1 _ rfl
      have q4_h_2 : w4.cell? ⟨w.heap.size + 1 + 1, 2, none⟩ = some (.int .i64 h.d) := V4_h.c 2 _ rfl
      have f4_h := V4_h.2.2; have L4_h := V4_h.lt; have N4_h := Nat.ne_of_gt L4_h; have M4_h := Nat.ne_of_lt L4_h
      have HV4_h := Lib.hid V4_h
      have q4_l_0 : w4.cell? ⟨w.heap.size + 1 + 1 + 1, 0, none⟩ = some (.int .i64 l) := V4_l.c 0 _ rfl
      have f4_l := V4_l.2.2; have L4_l := V4_l.lt; have N4_l := Nat.ne_of_gt L4_l; have M4_l := Nat.ne_of_lt L4_l
      have HV4_l := Lib.hid V4_l
      have q4_x_0 : w4.cell? ⟨w3.heap.size, 0, none⟩ = some (.int .i64 a.shape) := V4_x.c 0 _ rfl
      have q4_x_1 : w4.cell? ⟨w3.heap.size, 1, none⟩ = some (.int .i64 a.sx) := V4_x.c 1 _ rfl
      have q4_x_2 : w4.cell? ⟨w3.heap.size, 2, none⟩ = some (.int .i64 a.sy) := V4_x.c 2 _ rfl
      have q4_x_3 : w4.cell? ⟨w3.heap.size, 3, none⟩ = some (.int .i64 a.mass) := V4_x.c 3 _ rfl
      have q4_x_4 : w4.cell? ⟨w3.heap.size, 4, none⟩ = some (.int .i64 a.px) := V4_x.c 4 _ rfl
      have q4_x_5 : w4.cell? ⟨w3.heap.size, 5, none⟩ = some (.int .i64 a.py) := V4_x.c 5 _ rfl
      have q4_x_6 : w4.cell? ⟨w3.heap.size, 6, none⟩ = some (.int .i64 a.mx) := V4_x.c 6 _ rfl
      have q4_x_7 : w4.cell? ⟨w3.heap.size, 7, none⟩ = some (.int .i64 a.my) := V4_x.c 7 _ rfl
      have f4_x := V4_x.2.2; have L4_x := V4_x.lt; have N4_x := Nat.ne_of_gt L4_x; have M4_x := Nat.ne_of_lt L4_x
      have HV4_x := Lib.hid V4_x
      have q4_y_0 : w4.cell? ⟨w3.heap.size + 1, 0, none⟩ = some (.int .i64 b.shape) := V4_y.c 0 _ rfl
      have q4_y_1 : w4.cell? ⟨w3.heap.size + 1, 1, none⟩ = some (.int .i64 b.sx) := V4_y.c 1 _ rfl
      have q4_y_2 : w4.cell? ⟨w3.heap.size + 1, 2, none⟩ = some (.int .i64 b.sy) := V4_y.c 2 _ rfl
      have q4_y_3 : w4.cell? ⟨w3.heap.size + 1, 3, none⟩ = some (.int .i64 b.mass) := V4_y.c 3 _ rfl
      have q4_y_4 : w4.cell? ⟨w3.heap.size + 1, 4, none⟩ = some (.int .i64 b.px) := V4_y.c 4 _ rfl
      have q4_y_5 : w4.cell? ⟨w3.heap.size + 1, 5, none⟩ = some (.int .i64 b.py) := V4_y.c 5 _ rfl
      have q4_y_6 : w4.cell? ⟨w3.heap.size + 1, 6, none⟩ = some (.int .i64 b.mx) := V4_y.c 6 _ rfl
      have q4_y_7 : w4.cell? ⟨w3.heap.size + 1, 7, none⟩ = some (.int .i64 b.my) := V4_y.c 7 _ rfl
      have f4_y := V4_y.2.2; have L4_y := V4_y.lt; have N4_y := Nat.ne_of_gt L4_y; have M4_y := Nat.ne_of_lt L4_y
      have HV4_y := Lib.hid V4_y
      have q4_u_0 : w4.cell? ⟨w3.heap.size + 1 + 1, 0, none⟩ = some (.int .i64 0) := V4_u.c 0 _ rfl
      have q4_u_1 : w4.cell? ⟨w3.heap.size + 1 + 1, 1, none⟩ = some (.int .i64 0) := V4_u.c 1 _ rfl
      have q4_u_2 : w4.cell? ⟨w3.heap.size + 1 + 1, 2, none⟩ = some (.int .i64 0) := V4_u.c 2 _ rfl
      have q4_u_3 : w4.cell? ⟨w3.heap.size + 1 + 1, 3, none⟩ = some (.int .i64 0) := V4_u.c 3 _ rfl
      have q4_u_4 : w4.cell? ⟨w3.heap.size + 1 + 1, 4, none⟩ = some (.int .i64 0) := V4_u.c 4 _ rfl
      have q4_u_5 : w4.cell? ⟨w3.heap.size + 1 + 1, 5, none⟩ = some (.int .i64 0) := V4_u.c 5 _ rfl
      have q4_u_6 : w4.cell? ⟨w3.heap.size + 1 + 1, 6, none⟩ = some (.int .i64 0) := V4_u.c 6 _ rfl
      have q4_u_7 : w4.cell? ⟨w3.heap.size + 1 + 1, 7, none⟩ = some (.int .i64 0) := V4_u.c 7 _ rfl
      have f4_u := V4_u.2.2; have L4_u := V4_u.lt; have N4_u := Nat.ne_of_gt L4_u; have M4_u := Nat.ne_of_lt L4_u
      have HV4_u := Lib.hid V4_u
      have q4_v_0 : w4.cell? ⟨w3.heap.size + 1 + 1 + 1, 0, none⟩ = some (.int .i64 0) := V4_v.c 0 _ rfl
      have q4_v_1 : w4.cell? ⟨w3.heap.size + 1 + 1 + 1, 1, none⟩ = some (.int .i64 0) := V4_v.c 1 _ rfl
      have q4_v_2 : w4.cell? ⟨w3.heap.size + 1 + 1 + 1, 2, none⟩ = some (.int .i64 0) := V4_v.c 2 _ rfl
      have q4_v_3 : w4.cell? ⟨w3.heap.size + 1 + 1 + 1, 3, none⟩ = some (.int .i64 0) := V4_v.c 3 _ rfl
      have q4_v_4 : w4.cell? ⟨w3.heap.size + 1 + 1 + 1, 4, none⟩ = some (.int .i64 0) := V4_v.c 4 _ rfl
      have q4_v_5 : w4.cell? ⟨w3.heap.size + 1 + 1 + 1, 5, none⟩ = some (.int .i64 0) := V4_v.c 5 _ rfl
      have q4_v_6 : w4.cell? ⟨w3.heap.size + 1 + 1 + 1, 6, none⟩ = some (.int .i64 0) := V4_v.c 6 _ rfl
      have q4_v_7 : w4.cell? ⟨w3.heap.size + 1 + 1 + 1, 7, none⟩ = some (.int .i64 0) := V4_v.c 7 _ rfl
      have f4_v := V4_v.2.2; have L4_v := V4_v.lt; have N4_v := Nat.ne_of_gt L4_v; have M4_v := Nat.ne_of_lt L4_v
      have HV4_v := Lib.hid V4_v
      have S4 := G4.size; clear hb
      go_wp2_with fail
      refine (try_c 38 #[.pointer (some ⟨w.heap.size, 0, none⟩), .pointer (some ⟨w.heap.size + 1, 0, none⟩), .pointer (some ⟨w.heap.size + 1 + 1 + 1, 0, none⟩), .pointer (some ⟨w3.heap.size + 1 + 1, 0, none⟩), .pointer (some ⟨w3.heap.size + 1 + 1 + 1, 0, none⟩)] _ (0) (usBd (w3.heap.size + 1 + 1) (.ok a) ++ usBd (w3.heap.size + 1 + 1 + 1) (.ok b)) (fun _ => rfl) ?_ ?_).mono ?_
      · intro u hu; (try simp only [List.mem_append] at hu); (repeat' (obtain hu | hu := (hu : _ ∨ _))); all_goals (first | rw [M.usBx_block hu] | rw [M.usV_block hu] | rw [M.usI_block hu] | rw [M.usHt_block hu] | rw [M.usBd_block hu] | rw [M.usB_block hu] | rw [M.cell_block1 hu] | (exfalso; simp at hu; done)); all_goals ((try simp [go_sem]) <;> omega)
      · intro w1' hb; exact (cloJoF _ _ _ _ _ a ha b hB l hl _ _ _ _ _ _ _ _ _ _ _ _ _ _ _ _ (.ok (a, b)) hQ.out w1' (M.Var.mono (b := w.heap.size) (cs := #[.int .i64 a.shape, .int .i64 a.sx, .int .i64 a.sy, .int .i64 a.mass, .int .i64 a.px, .int .i64 a.py, .int .i64 a.mx, .int .i64 a.my]) (by (repeat (first | (with_reducible assumption) | (with_reducible apply M.var_set45) | (with_reducible refine M.var_alloc' _ _ _ ?_; first | rfl | (simp [go_sem]; done)) | (with_reducible refine M.Var.alloc ?_ _) | (with_reducible refine M.Var.drewN ?_ _) | (with_reducible refine M.Var.drew ?_) | (with_reducible refine M.Var.far ?_ _ _ ?hFar; case hFar => (first | omega | ((try simp [go_sem]) <;> omega))) | fail))) hb) (M.Var.mono (b := w.heap.size + 1) (cs := #[.int .i64 b.shape, .int .i64 b.sx, .int .i64 b.sy, .int .i64 b.mass, .int .i64 b.px, .int .i64 b.py, .int .i64 b.mx, .int .i64 b.my]) (by (repeat (first | (with_reducible assumption) | (with_reducible apply M.var_set45) | (with_reducible refine M.var_alloc' _ _ _ ?_; first | rfl | (simp [go_sem]; done)) | (with_reducible refine M.Var.alloc ?_ _) | (with_reducible refine M.Var.drewN ?_ _) | (with_reducible refine M.Var.drew ?_) | (with_reducible refine M.Var.far ?_ _ _ ?hFar; case hFar => (first | omega | ((try simp [go_sem]) <;> omega))) | fail))) hb) (M.Var.mono (b := w.heap.size + 1 + 1 + 1) (cs := #[.int .i64 l]) (by (repeat (first | (with_reducible assumption) | (with_reducible apply M.var_set45) | (with_reducible refine M.var_alloc' _ _ _ ?_; first | rfl | (simp [go_sem]; done)) | (with_reducible refine M.Var.alloc ?_ _) | (with_reducible refine M.Var.drewN ?_ _) | (with_reducible refine M.Var.drew ?_) | (with_reducible refine M.Var.far ?_ _ _ ?hFar; case hFar => (first | omega | ((try simp [go_sem]) <;> omega))) | fail))) hb) (M.Var.mono (b := w3.heap.size + 1 + 1) (cs := #[.int .i64 0, .int .i64 0, .int .i64 0, .int .i64 0, .int .i64 0, .int .i64 0, .int .i64 0, .int .i64 0]) (by (repeat (first | (with_reducible assumption) | (with_reducible apply M.var_set45) | (with_reducible refine M.var_alloc' _ _ _ ?_; first | rfl | (simp [go_sem]; done)) | (with_reducible refine M.Var.alloc ?_ _) | (with_reducible refine M.Var.drewN ?_ _) | (with_reducible refine M.Var.drew ?_) | (with_reducible refine M.Var.far ?_ _ _ ?hFar; case hFar => (first | omega | ((try simp [go_sem]) <;> omega))) | fail))) hb) (M.Var.mono (b := w3.heap.size + 1 + 1 + 1) (cs := #[.int .i64 0, .int .i64 0, .int .i64 0, .int .i64 0, .int .i64 0, .int .i64 0, .int .i64 0, .int .i64 0]) (by (repeat (first | (with_reducible assumption) | (with_reducible apply M.var_set45) | (with_reducible refine M.var_alloc' _ _ _ ?_; first | rfl | (simp [go_sem]; done)) | (with_reducible refine M.Var.alloc ?_ _) | (with_reducible refine M.Var.drewN ?_ _) | (with_reducible refine M.Var.drew ?_) | (with_reducible refine M.Var.far ?_ _ _ ?hFar; case hFar => (first | omega | ((try simp [go_sem]) <;> omega))) | fail))) hb) (by omega)).mono fun e w' h => h
      rintro en w5 ⟨rfl, hb⟩
      have G5 : Below w.heap.size w w5 := Below.trans (M.below_sets_own (usBd (w3.heap.size + 1 + 1) (.ok a) ++ usBd (w3.heap.size + 1 + 1 + 1) (.ok b)) (by (repeat (with_reducible refine M.Below.drewN ?_ _)); go_grown) (by intro u hu; (try simp only [List.mem_append] at hu); (repeat' (obtain hu | hu := (hu : _ ∨ _))); all_goals (first | rw [M.usBx_block hu] | rw [M.usV_block hu] | rw [M.usI_block hu] | rw [M.usHt_block hu] | rw [M.usBd_block hu] | rw [M.usB_block hu] | rw [M.cell_block1 hu] | (exfalso; simp at hu; done)); all_goals ((try simp [go_sem]) <;> omega))) (hb.mono (by go_size))
      have VV5 : M.Var w5 (w.heap.size) #[.int .i64 a.shape, .int .i64 a.sx, .int .i64 a.sy, .int .i64 a.mass, .int .i64 a.px, .int .i64 a.py, .int .i64 a.mx, .int .i64 a.my] ∧ M.Var w5 (w.heap.size + 1) #[.int .i64 b.shape, .int .i64 b.sx, .int .i64 b.sy, .int .i64 b.mass, .int .i64 b.px, .int .i64 b.py, .int .i64 b.mx, .int .i64 b.my] ∧ M.Var w5 (w.heap.size + 1 + 1) #[.int .i64 h.nx, .int .i64 h.ny, .int .i64 h.d] ∧ M.Var w5 (w.heap.size + 1 + 1 + 1) #[.int .i64 l] ∧ M.Var w5 (w3.heap.size) #[.int .i64 a.shape, .int .i64 a.sx, .int .i64 a.sy, .int .i64 a.mass, .int .i64 a.px, .int .i64 a.py, .int .i64 a.mx, .int .i64 a.my] ∧ M.Var w5 (w3.heap.size + 1) #[.int .i64 b.shape, .int .i64 b.sx, .int .i64 b.sy, .int .i64 b.mass, .int .i64 b.px, .int .i64 b.py, .int .i64 b.mx, .int .i64 b.my] := by refine ⟨?_, ?_, ?_, ?_, ?_, ?_⟩ <;> exact M.Var.mono' (u := M.sets _ (usBd (w3.heap.size + 1 + 1) (.ok a) ++ usBd (w3.heap.size + 1 + 1 + 1) (.ok b))) (by (try simp only [M.sets_append]); exact (M.var_sets_far (usBd (w3.heap.size + 1 + 1 + 1) (.ok b)) (M.var_sets_far (usBd (w3.heap.size + 1 + 1) (.ok a)) (by (repeat (first | (with_reducible assumption) | (with_reducible apply M.var_set45) | (with_reducible refine M.var_alloc' _ _ _ ?_; first | rfl | (simp [go_sem]; done)) | (with_reducible refine M.Var.alloc ?_ _) | (with_reducible refine M.Var.drewN ?_ _) | (with_reducible refine M.Var.drew ?_) | (with_reducible refine M.Var.far ?_ _ _ ?hFar; case hFar => (first | omega | ((try simp [go_sem]) <;> omega))) | fail))) (by intro u hu; all_goals (first | rw [M.usBx_block hu] | rw [M.usV_block hu] | rw [M.usI_block hu] | rw [M.usHt_block hu] | rw [M.usBd_block hu] | rw [M.usB_block hu] | rw [M.cell_block1 hu] | (exfalso; simp at hu; done)); all_goals ((try simp [go_sem]) <;> omega))) (by intro u hu; all_goals (first | rw [M.usBx_block hu] | rw [M.usV_block hu] | rw [M.usI_block hu] | rw [M.usHt_block hu] | rw [M.usBd_block hu] | rw [M.usB_block hu] | rw [M.cell_block1 hu] | (exfalso; simp at hu; done)); all_goals ((try simp [go_sem]) <;> omega)))) (M.sets_size _ _) hb
      obtain ⟨V5_a, V5_b, V5_h, V5_l, V5_x, V5_y⟩ := VV5
      have V5_u : M.Var w5 (w3.heap.size + 1 + 1) #[.int .i64 a.shape, .int .i64 a.sx, .int .i64 a.sy, .int .i64 a.mass, .int .i64 a.px, .int .i64 a.py, .int .i64 a.mx, .int .i64 a.my] := M.Var.mono' (u := M.sets _ (usBd (w3.heap.size + 1 + 1) (.ok a) ++ usBd (w3.heap.size + 1 + 1 + 1) (.ok b))) (by (try simp only [M.sets_append]); exact (M.var_sets_far (usBd (w3.heap.size + 1 + 1 + 1) (.ok b)) (M.var_setBd (by (repeat (first | (with_reducible assumption) | (with_reducible apply M.var_set45) | (with_reducible refine M.var_alloc' _ _ _ ?_; first | rfl | (simp [go_sem]; done)) | (with_reducible refine M.Var.alloc ?_ _) | (with_reducible refine M.Var.drewN ?_ _) | (with_reducible refine M.Var.drew ?_) | (with_reducible refine M.Var.far ?_ _ _ ?hFar; case hFar => (first | omega | ((try simp [go_sem]) <;> omega))) | fail)) : M.Var _ (w3.heap.size + 1 + 1) #[.int .i64 0, .int .i64 0, .int .i64 0, .int .i64 0, .int .i64 0, .int .i64 0, .int .i64 0, .int .i64 0]) _ _ _ _ _ _ _ _) (by intro u hu; all_goals (first | rw [M.usBx_block hu] | rw [M.usV_block hu] | rw [M.usI_block hu] | rw [M.usHt_block hu] | rw [M.usBd_block hu] | rw [M.usB_block hu] | rw [M.cell_block1 hu] | (exfalso; simp at hu; done)); all_goals ((try simp [go_sem]) <;> omega)))) (M.sets_size _ _) hb
      have V5_v : M.Var w5 (w3.heap.size + 1 + 1 + 1) #[.int .i64 b.shape, .int .i64 b.sx, .int .i64 b.sy, .int .i64 b.mass, .int .i64 b.px, .int .i64 b.py, .int .i64 b.mx, .int .i64 b.my] := M.Var.mono' (u := M.sets _ (usBd (w3.heap.size + 1 + 1) (.ok a) ++ usBd (w3.heap.size + 1 + 1 + 1) (.ok b))) (by (try simp only [M.sets_append]); exact (M.var_setBd (M.var_sets_far (usBd (w3.heap.size + 1 + 1) (.ok a)) (by (repeat (first | (with_reducible assumption) | (with_reducible apply M.var_set45) | (with_reducible refine M.var_alloc' _ _ _ ?_; first | rfl | (simp [go_sem]; done)) | (with_reducible refine M.Var.alloc ?_ _) | (with_reducible refine M.Var.drewN ?_ _) | (with_reducible refine M.Var.drew ?_) | (with_reducible refine M.Var.far ?_ _ _ ?hFar; case hFar => (first | omega | ((try simp [go_sem]) <;> omega))) | fail)) : M.Var _ (w3.heap.size + 1 + 1 + 1) #[.int .i64 0, .int .i64 0, .int .i64 0, .int .i64 0, .int .i64 0, .int .i64 0, .int .i64 0, .int .i64 0]) (by intro u hu; all_goals (first | rw [M.usBx_block hu] | rw [M.usV_block hu] | rw [M.usI_block hu] | rw [M.usHt_block hu] | rw [M.usBd_block hu] | rw [M.usB_block hu] | rw [M.cell_block1 hu] | (exfalso; simp at hu; done)); all_goals ((try simp [go_sem]) <;> omega))) _ _ _ _ _ _ _ _)) (M.sets_size _ _) hb
      have q5_a_0 : w5.cell? ⟨w.heap.size, 0, none⟩ = some (.int .i64 a.shape) := V5_a.c 0 _ rfl
      have q5_a_1 : w5.cell? ⟨w.heap.size, 1, none⟩ = some (.int .i64 a.sx) := V5_a.c 1 _ rfl
      have q5_a_2 : w5.cell? ⟨w.heap.size, 2, none⟩ = some (.int .i64 a.sy) := V5_a.c 2 _ rfl
      have q5_a_3 : w5.cell? ⟨w.heap.size, 3, none⟩ = some (.int .i64 a.mass) := V5_a.c 3 _ rfl
      have q5_a_4 : w5.cell? ⟨w.heap.size, 4, none⟩ = some (.int .i64 a.px) := V5_a.c 4 _ rfl
      have q5_a_5 : w5.cell? ⟨w.heap.size, 5, none⟩ = some (.int .i64 a.py) := V5_a.c 5 _ rfl
      have q5_a_6 : w5.cell? ⟨w.heap.size, 6, none⟩ = some (.int .i64 a.mx) := V5_a.c 6 _ rfl
      have q5_a_7 : w5.cell? ⟨w.heap.size, 7, none⟩ = some (.int .i64 a.my) := V5_a.c 7 _ rfl
      have f5_a := V5_a.2.2; have L5_a := V5_a.lt; have N5_a := Nat.ne_of_gt L5_a; have M5_a := Nat.ne_of_lt L5_a
      have HV5_a := Lib.hid V5_a
      have q5_b_0 : w5.cell? ⟨w.heap.size + 1, 0, none⟩ = some (.int .i64 b.shape) := V5_b.c 0 _ rfl
      have q5_b_1 : w5.cell? ⟨w.heap.size + 1, 1, none⟩ = some (.int .i64 b.sx) := V5_b.c 1 _ rfl
      have q5_b_2 : w5.cell? ⟨w.heap.size + 1, 2, none⟩ = some (.int .i64 b.sy) := V5_b.c 2 _ rfl
      have q5_b_3 : w5.cell? ⟨w.heap.size + 1, 3, none⟩ = some (.int .i64 b.mass) := V5_b.c 3 _ rfl
      have q5_b_4 : w5.cell? ⟨w.heap.size + 1, 4, none⟩ = some (.int .i64 b.px) := V5_b.c 4 _ rfl
      have q5_b_5 : w5.cell? ⟨w.heap.size + 1, 5, none⟩ = some (.int .i64 b.py) := V5_b.c 5 _ rfl
      have q5_b_6 : w5.cell? ⟨w.heap.size + 1, 6, none⟩ = some (.int .i64 b.mx) := V5_b.c 6 _ rfl
      have q5_b_7 : w5.cell? ⟨w.heap.size + 1, 7, none⟩ = some (.int .i64 b.my) := V5_b.c 7 _ rfl
      have f5_b := V5_b.2.2; have L5_b := V5_b.lt; have N5_b := Nat.ne_of_gt L5_b; have M5_b := Nat.ne_of_lt L5_b
      have HV5_b := Lib.hid V5_b
      have q5_h_0 : w5.cell? ⟨w.heap.size + 1 + 1, 0, none⟩ = some (.int .i64 h.nx) := V5_h.c 0 _ rfl
      have q5_h_1 : w5.cell? ⟨w.heap.size + 1 + 1, 1, none⟩ = some (.int .i64 h.ny) := V5_h.c 1 _ rfl
      have q5_h_2 : w5.cell? ⟨w.heap.size + 1 + 1, 2, none⟩ = some (.int .i64 h.d) := V5_h.c 2 _ rfl
      have f5_h := V5_h.2.2; have L5_h := V5_h.lt; have N5_h := Nat.ne_of_gt L5_h; have M5_h := Nat.ne_of_lt L5_h
      have HV5_h := Lib.hid V5_h
      have q5_l_0 : w5.cell? ⟨w.heap.size + 1 + 1 + 1, 0, none⟩ = some (.int .i64 l) := V5_l.c 0 _ rfl
      have f5_l := V5_l.2.2; have L5_l := V5_l.lt; have N5_l := Nat.ne_of_gt L5_l; have M5_l := Nat.ne_of_lt L5_l
      have HV5_l := Lib.hid V5_l
      have q5_x_0 : w5.cell? ⟨w3.heap.size, 0, none⟩ = some (.int .i64 a.shape) := V5_x.c 0 _ rfl
      have q5_x_1 : w5.cell? ⟨w3.heap.size, 1, none⟩ = some (.int .i64 a.sx) := V5_x.c 1 _ rfl
      have q5_x_2 : w5.cell? ⟨w3.heap.size, 2, none⟩ = some (.int .i64 a.sy) := V5_x.c 2 _ rfl
      have q5_x_3 : w5.cell? ⟨w3.heap.size, 3, none⟩ = some (.int .i64 a.mass) := V5_x.c 3 _ rfl
      have q5_x_4 : w5.cell? ⟨w3.heap.size, 4, none⟩ = some (.int .i64 a.px) := V5_x.c 4 _ rfl
      have q5_x_5 : w5.cell? ⟨w3.heap.size, 5, none⟩ = some (.int .i64 a.py) := V5_x.c 5 _ rfl
      have q5_x_6 : w5.cell? ⟨w3.heap.size, 6, none⟩ = some (.int .i64 a.mx) := V5_x.c 6 _ rfl
      have q5_x_7 : w5.cell? ⟨w3.heap.size, 7, none⟩ = some (.int .i64 a.my) := V5_x.c 7 _ rfl
      have f5_x := V5_x.2.2; have L5_x := V5_x.lt; have N5_x := Nat.ne_of_gt L5_x; have M5_x := Nat.ne_of_lt L5_x
      have HV5_x := Lib.hid V5_x
      have q5_y_0 : w5.cell? ⟨w3.heap.size + 1, 0, none⟩ = some (.int .i64 b.shape) := V5_y.c 0 _ rfl
      have q5_y_1 : w5.cell? ⟨w3.heap.size + 1, 1, none⟩ = some (.int .i64 b.sx) := V5_y.c 1 _ rfl
      have q5_y_2 : w5.cell? ⟨w3.heap.size + 1, 2, none⟩ = some (.int .i64 b.sy) := V5_y.c 2 _ rfl
      have q5_y_3 : w5.cell? ⟨w3.heap.size + 1, 3, none⟩ = some (.int .i64 b.mass) := V5_y.c 3 _ rfl
      have q5_y_4 : w5.cell? ⟨w3.heap.size + 1, 4, none⟩ = some (.int .i64 b.px) := V5_y.c 4 _ rfl
      have q5_y_5 : w5.cell? ⟨w3.heap.size + 1, 5, none⟩ = some (.int .i64 b.py) := V5_y.c 5 _ rfl
      have q5_y_6 : w5.cell? ⟨w3.heap.size + 1, 6, none⟩ = some (.int .i64 b.mx) := V5_y.c 6 _ rfl
      have q5_y_7 : w5.cell? ⟨w3.heap.size + 1, 7, none⟩ = some (.int .i64 b.my) := V5_y.c 7 _ rfl
      have f5_y := V5_y.2.2; have L5_y := V5_y.lt; have N5_y := Nat.ne_of_gt L5_y; have M5_y := Nat.ne_of_lt L5_y
      have HV5_y := Lib.hid V5_y
      have q5_u_0 : w5.cell? ⟨w3.heap.size + 1 + 1, 0, none⟩ = some (.int .i64 a.shape) := V5_u.c 0 _ rfl
      have q5_u_1 : w5.cell? ⟨w3.heap.size + 1 + 1, 1, none⟩ = some (.int .i64 a.sx) := V5_u.c 1 _ rfl
      have q5_u_2 : w5.cell? ⟨w3.heap.size + 1 + 1, 2, none⟩ = some (.int .i64 a.sy) := V5_u.c 2 _ rfl
      have q5_u_3 : w5.cell? ⟨w3.heap.size + 1 + 1, 3, none⟩ = some (.int .i64 a.mass) := V5_u.c 3 _ rfl
      have q5_u_4 : w5.cell? ⟨w3.heap.size + 1 + 1, 4, none⟩ = some (.int .i64 a.px) := V5_u.c 4 _ rfl
      have q5_u_5 : w5.cell? ⟨w3.heap.size + 1 + 1, 5, none⟩ = some (.int .i64 a.py) := V5_u.c 5 _ rfl
      have q5_u_6 : w5.cell? ⟨w3.heap.size + 1 + 1, 6, none⟩ = some (.int .i64 a.mx) := V5_u.c 6 _ rfl
      have q5_u_7 : w5.cell? ⟨w3.heap.size + 1 + 1, 7, none⟩ = some (.int .i64 a.my) := V5_u.c 7 _ rfl
      have f5_u := V5_u.2.2; have L5_u := V5_u.lt; have N5_u := Nat.ne_of_gt L5_u; have M5_u := Nat.ne_of_lt L5_u
      have HV5_u := Lib.hid V5_u
      have q5_v_0 : w5.cell? ⟨w3.heap.size + 1 + 1 + 1, 0, none⟩ = some (.int .i64 b.shape) := V5_v.c 0 _ rfl
      have q5_v_1 : w5.cell? ⟨w3.heap.size + 1 + 1 + 1, 1, none⟩ = some (.int .i64 b.sx) := V5_v.c 1 _ rfl
      have q5_v_2 : w5.cell? ⟨w3.heap.size + 1 + 1 + 1, 2, none⟩ = some (.int .i64 b.sy) := V5_v.c 2 _ rfl
      have q5_v_3 : w5.cell? ⟨w3.heap.size + 1 + 1 + 1, 3, none⟩ = some (.int .i64 b.mass) := V5_v.c 3 _ rfl
      have q5_v_4 : w5.cell? ⟨w3.heap.size + 1 + 1 + 1, 4, none⟩ = some (.int .i64 b.px) := V5_v.c 4 _ rfl
      have q5_v_5 : w5.cell? ⟨w3.heap.size + 1 + 1 + 1, 5, none⟩ = some (.int .i64 b.py) := V5_v.c 5 _ rfl
      have q5_v_6 : w5.cell? ⟨w3.heap.size + 1 + 1 + 1, 6, none⟩ = some (.int .i64 b.mx) := V5_v.c 6 _ rfl
      have q5_v_7 : w5.cell? ⟨w3.heap.size + 1 + 1 + 1, 7, none⟩ = some (.int .i64 b.my) := V5_v.c 7 _ rfl
      have f5_v := V5_v.2.2; have L5_v := V5_v.lt; have N5_v := Nat.ne_of_gt L5_v; have M5_v := Nat.ne_of_lt L5_v
      have HV5_v := Lib.hid V5_v
      have S5 := G5.size; clear hb
      go_wp2_with fail
      go_ret
      exact ⟨rfl, by (repeat (with_reducible refine M.Below.drewN ?_ _)); go_grown⟩
end Go.Proofs.Ytcaibieaobhheaa.pushFixed
